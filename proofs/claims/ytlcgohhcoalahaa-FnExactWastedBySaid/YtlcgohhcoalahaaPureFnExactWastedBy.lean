/- The law FnExactWastedBy: for every input the function answers true. No condition. -/
import Derived.Test.YtlcgohhcoalahaaGx53
namespace Go.Proofs.Ytlcgohhcoalahaa.Pure
open Go.RowKit Go.Proofs.Ytlcgohhcoalahaa.G Go.Proofs.YtlcgohhcoalahaaW.PrintWords Go.Proofs.YtlcgohhcoalahaaW.PrintLast

theorem w64 {x : Int} (h : -9223372036854775808 ≤ x) (h2 : x ≤ 9223372036854775807) : wrap64 x = x := by
  unfold wrap64
  omega
theorem wf_i64 {x : Int} (h : (Lit.int .i64 x).wf = true) : -9223372036854775808 ≤ x ∧ x ≤ 9223372036854775807 := by
  simp only [Lit.wf, IntKind.min, IntKind.max, IntKind.signed, IntKind.bits, Bool.and_eq_true, decide_eq_true_eq, if_true] at h
  omega
theorem succ_of {k d : Nat} (h : d < k) : ∃ m, k = m + 1 := ⟨k - 1, by omega⟩
theorem rd_eq {l : List Int} {i : Int} (h0 : 0 ≤ i) (h : i < (l.length : Int)) : l[i.toNat]? = some (rd l i) := by
  unfold rd
  rw [List.getD_eq_getElem?_getD, List.getElem?_eq_getElem (by omega)]
  rfl
theorem drop_rd {l : List Int} {i : Int} (h0 : 0 ≤ i) (h : i < (l.length : Int)) : l.drop i.toNat = rd l i :: l.drop (i + 1).toNat := by
  have h1 : i.toNat < l.length := by omega
  have h2 : (i + 1).toNat = i.toNat + 1 := by omega
  have h3 := rd_eq h0 h
  rw [h2, List.drop_eq_getElem_cons h1]
  rw [List.getElem?_eq_getElem h1] at h3
  rw [Option.some.inj h3]
/-- The numbers a, a + 1, .. : n of them. -/
def marks (a : Int) (n : Nat) : List Int := (List.range n).map fun j : Nat => a + (j : Int)
theorem marks_len (a : Int) (n : Nat) : (marks a n).length = n := by simp [marks]
theorem marks_get (a : Int) (n i : Nat) (h : i < n) : (marks a n)[i]? = some (a + (i : Int)) := by simp [marks, h]
theorem rd_all {P : Int → Prop} {l : List Int} (h : ∀ x ∈ l, P x) {i : Int} (h0 : 0 ≤ i) (h1 : i < (l.length : Int)) : P (rd l i) := h _ (List.mem_of_getElem? (rd_eq h0 h1))
theorem toIntS_l (l : List Int) (hl : l.length ≤ 35184372088832) (d : Nat) : ∀ (k : Nat) (x : List Int) (i : Int), 0 ≤ i → x.length = l.length → i + (d : Int) = (l.length : Int) → (∀ j : Nat, (j : Int) < i → x[j]? = l[j]?) → d < k →
    laws_toIntS.l0 k l x i = some l := by
  induction d with
  | zero =>
    intro k x i h0 hx hi hj hk
    obtain ⟨k, rfl⟩ := succ_of hk
    simp only [laws_toIntS.l0]
    rw [if_neg (by omega)]
    congr 1
    apply List.ext_getElem?
    intro j
    by_cases h : (j : Int) < i
    · exact hj j h
    · rw [List.getElem?_eq_none (by omega), List.getElem?_eq_none (by omega)]
  | succ d ih =>
    intro k x i h0 hx hi hj hk
    obtain ⟨k, rfl⟩ := succ_of hk
    simp only [laws_toIntS.l0]
    rw [if_pos (by omega), if_pos h0, if_pos (by omega), w64 (by omega) (by omega)]
    refine ih k _ (i + 1) (by omega) (by simpa using hx) (by omega) (fun j h => ?_) (by omega)
    rw [List.getElem?_set]
    by_cases e : i.toNat = j
    · subst e
      rw [if_pos rfl, if_pos (by omega), rd_eq h0 (by omega)]
    · rw [if_neg e]
      exact hj j (by omega)
theorem toIntS_at (l : List Int) (hl : l.length ≤ 35184372088832) (k : Nat) (hk : l.length < k) : laws_toIntS.f k l = some l := by
  unfold laws_toIntS.f
  rw [if_pos (by omega), if_pos (by omega)]
  exact toIntS_l l hl l.length k _ 0 (by omega) (by simp) (by omega) (fun j h => by omega) hk
theorem eqIntS_l (a b : List Int) (hl : a.length = b.length) (hb : a.length ≤ 35184372088832) (d : Nat) : ∀ (k : Nat) (i : Int), 0 ≤ i → i + (d : Int) = (a.length : Int) → d < k →
    laws_eqIntS.l0 k a b i = some (decide (a.drop i.toNat = b.drop i.toNat)) := by
  induction d with
  | zero =>
    intro k i h0 hi hk
    obtain ⟨k, rfl⟩ := succ_of hk
    simp only [laws_eqIntS.l0]
    rw [if_neg (by omega), List.drop_eq_nil_of_le (by omega), List.drop_eq_nil_of_le (by omega)]
    simp
  | succ d ih =>
    intro k i h0 hi hk
    obtain ⟨k, rfl⟩ := succ_of hk
    simp only [laws_eqIntS.l0]
    rw [if_pos (by omega), if_pos h0, if_pos (by omega), w64 (by omega) (by omega), drop_rd h0 (by omega), drop_rd h0 (by omega), ih k (i + 1) (by omega) (by omega) (by omega)]
    by_cases e : rd a i = rd b i
    · rw [if_pos e]
      simp [e]
    · rw [if_neg e]
      simp [e]
theorem eqIntS_at (a b : List Int) (hb : a.length ≤ 35184372088832) (k : Nat) (hk : a.length < k) : laws_eqIntS.f k a b = some (decide (a = b)) := by
  unfold laws_eqIntS.f
  by_cases hl : a.length = b.length
  · rw [if_pos (by omega), eqIntS_l a b hl hb a.length k 0 (by omega) (by omega) hk]
    simp
  · rw [if_neg (by omega)]
    have : a ≠ b := fun e => hl (by rw [e])
    simp [this]
theorem eqIntS_same (a : List Int) (hb : a.length ≤ 35184372088832) (k : Nat) (hk : a.length < k) : laws_eqIntS.f k a a = some true := by
  rw [eqIntS_at a a hb k hk]
  simp
theorem l01In_eq (a b c : Int) : spec_l01In.f a b c = some (decide (b ≤ a ∧ a ≤ c)) := by
  unfold spec_l01In.f
  by_cases h : b ≤ a <;> simp [h]
theorem within_eq (a b c : Int) : impl_within.f a b c = some (decide (b ≤ a ∧ a ≤ c)) := by
  unfold impl_within.f
  by_cases h : b ≤ a <;> simp [h]
/-- A store is valid. -/
def sOk (a b c d : Int) : Bool := decide (1 ≤ b ∧ b ≤ 5000) && (decide (0 ≤ a ∧ a ≤ b) && (decide (1 ≤ c ∧ c ≤ b) && decide (0 ≤ d ∧ d ≤ 100)))
theorem sOk_iff {a b c d : Int} : sOk a b c d = true ↔ (1 ≤ b ∧ b ≤ 5000) ∧ (0 ≤ a ∧ a ≤ b) ∧ (1 ≤ c ∧ c ≤ b) ∧ (0 ≤ d ∧ d ≤ 100) := by
  simp only [sOk, Bool.and_eq_true, decide_eq_true_eq]
theorem storeOkI_eq (a b c d : Int) : impl_StoreOk.f a b c d = some (sOk a b c d) := by
  unfold impl_StoreOk.f sOk
  simp only [within_eq, Option.bind_some]
  by_cases h1 : 1 ≤ b ∧ b ≤ 5000
  · by_cases h2 : 0 ≤ a ∧ a ≤ b
    · by_cases h3 : 1 ≤ c ∧ c ≤ b
      · simp [h1, h2, h3]
      · simp [h1, h2, h3]
    · simp [h1, h2]
  · simp [h1]
theorem storeOkS_eq (a b c d : Int) : spec_StoreOk.f a b c d = some (sOk a b c d) := by
  unfold spec_StoreOk.f sOk
  simp only [l01In_eq, Option.bind_some]
  by_cases h1 : 1 ≤ b ∧ b ≤ 5000
  · by_cases h2 : 0 ≤ a ∧ a ≤ b
    · by_cases h3 : 1 ≤ c ∧ c ≤ b
      · simp [h1, h2, h3]
      · simp [h1, h2, h3]
    · simp [h1, h2]
  · simp [h1]
/-- The charge behind a tick. -/
def tickC (a b d h : Int) : Int := if a + h - d < 0 then 0 else if a + h - d > b then b else a + h - d
theorem tickI_eq {a b c d h : Int} (ok : sOk a b c d = true) (h0 : 0 ≤ h) (h1 : h ≤ 1000) : impl_Store_tick.f a b c d h = some (tickC a b d h, b, c, d) := by
  obtain ⟨hb, ha, hc, hd⟩ := sOk_iff.1 ok
  unfold impl_Store_tick.f impl_Clamp.f tickC mn mx
  rw [w64 (x := a + h) (by omega) (by omega), w64 (by omega) (by omega), if_neg (by omega)]
  simp only [Option.bind_some, Option.some.injEq, Prod.mk.injEq, and_true]
  by_cases e : a + h - d < 0
  · rw [if_pos e, if_pos e, if_neg (by omega)]
  · rw [if_neg e, if_neg e]
theorem isHarvest_eq (h : Int) : impl_isHarvest.f h = some (decide (0 ≤ h ∧ h ≤ 1000)) := by
  unfold impl_isHarvest.f
  rw [within_eq]
  rfl
theorem tickS_eq {a b c d h : Int} (ok : sOk a b c d = true) (h0 : 0 ≤ h) (h1 : h ≤ 1000) (k : Nat) (hk : 0 < k) : spec_l19Tick.f k a b c d h = some (tickC a b d h, b, c, d) := by
  obtain ⟨hb, ha, hc, hd⟩ := sOk_iff.1 ok
  obtain ⟨k, rfl⟩ := succ_of hk
  unfold spec_l19Tick.f spec_Clamp.f tickC
  rw [w64 (x := a + h) (by omega) (by omega), w64 (by omega) (by omega), if_neg (by omega)]
  simp only [spec_Clamp.j0, decide_eq_true_eq]
  by_cases e : a + h - d < 0
  · rw [if_pos e, if_pos e]
    rfl
  · rw [if_neg e, if_neg e]
    by_cases e2 : a + h - d > b
    · rw [if_pos e2, if_pos e2]
      rfl
    · rw [if_neg e2, if_neg e2]
      rfl
/-- All are energies that a tick may bring. -/
def hOk (l : List Int) : Bool := l.all fun x => harvP x
theorem hOk_iff {l : List Int} : hOk l = true ↔ ∀ x ∈ l, 0 ≤ x ∧ x ≤ 1000 := by
  simp only [hOk, List.all_eq_true, harvP, decide_eq_true_eq]
theorem areHarvests_eq (l : List Int) : impl_areHarvests.f l = some (hOk l) := by
  unfold impl_areHarvests.f hOk
  rw [List.all_eq_not_any_not]
theorem harvestsS_l (l : List Int) (hl : l.length ≤ 1048576) (d : Nat) : ∀ (k : Nat) (i : Int), 0 ≤ i → i + (d : Int) = (l.length : Int) → d < k → spec_l19Harvests.l0 k l i = some (hOk (l.drop i.toNat)) := by
  induction d with
  | zero =>
    intro k i h0 hi hk
    obtain ⟨k, rfl⟩ := succ_of hk
    simp only [spec_l19Harvests.l0]
    rw [if_neg (by omega), List.drop_eq_nil_of_le (by omega)]
    rfl
  | succ d ih =>
    intro k i h0 hi hk
    obtain ⟨k, rfl⟩ := succ_of hk
    simp only [spec_l19Harvests.l0]
    rw [if_pos (by omega), if_pos h0, l01In_eq, drop_rd h0 (by omega)]
    simp only [Option.bind_some, decide_eq_true_eq]
    by_cases e : 0 ≤ rd l i ∧ rd l i ≤ 1000
    · rw [if_pos e, w64 (by omega) (by omega), ih k (i + 1) (by omega) (by omega) (by omega)]
      simp [hOk, harvP, e]
    · rw [if_neg e]
      simp [hOk, harvP, e]
theorem harvestsS_at (l : List Int) (hl : l.length ≤ 1048576) (k : Nat) (hk : l.length < k) : spec_l19Harvests.f k l = some (hOk l) := by
  unfold spec_l19Harvests.f
  rw [harvestsS_l l hl l.length k 0 (by omega) (by omega) hk]
  simp
/-- A run of ticks: the energies with which the computer is switched on, and what is lost. -/
def hv (b c d : Int) : List Int → Int → List Int → Int → List Int × Int
  | [], _, es, w => (es, w)
  | h :: t, a, es, w => if tickC a b d h ≥ c then hv b c d t 0 (es ++ [tickC a b d h]) (w + mx 0 (a + h - d - b)) else hv b c d t (tickC a b d h) es (w + mx 0 (a + h - d - b))
theorem tickC_ok' {a b c d h : Int} (ok : sOk a b c d = true) (_h0 : 0 ≤ h) (_h1 : h ≤ 1000) : sOk (tickC a b d h) b c d = true := by
  obtain ⟨hb, ha, hc, hd⟩ := sOk_iff.1 ok
  refine sOk_iff.2 ⟨hb, ?_, hc, hd⟩
  unfold tickC
  split
  · omega
  · split <;> omega
theorem sOk_zero {a b c d : Int} (ok : sOk a b c d = true) : sOk 0 b c d = true := by
  obtain ⟨hb, ha, hc, hd⟩ := sOk_iff.1 ok
  exact sOk_iff.2 ⟨hb, by omega, hc, hd⟩
theorem mx_waste {a b c d h : Int} (ok : sOk a b c d = true) (h0 : 0 ≤ h) (h1 : h ≤ 1000) : 0 ≤ mx 0 (a + h - d - b) ∧ mx 0 (a + h - d - b) ≤ 6000 := by
  obtain ⟨hb, ha, hc, hd⟩ := sOk_iff.1 ok
  unfold mx
  split <;> omega
/-- The store is valid, there are not too many ticks, and each brings a valid energy. -/
def runOk (a b c d : Int) (l : List Int) : Bool := sOk a b c d && (decide ((l.length : Int) ≤ 500) && hOk l)
theorem runOk_iff {a b c d : Int} {l : List Int} : runOk a b c d l = true ↔ sOk a b c d = true ∧ (l.length : Int) ≤ 500 ∧ hOk l = true := by
  simp only [runOk, Bool.and_eq_true, decide_eq_true_eq]
theorem hv_len (b c d : Int) : ∀ (l : List Int) (a : Int) (es : List Int) (w : Int), (hv b c d l a es w).1.length ≤ es.length + l.length
  | [], a, es, w => by simp [hv]
  | h :: t, a, es, w => by
    rw [hv.eq_2]
    split
    · have := hv_len b c d t 0 (es ++ [tickC a b d h]) (w + mx 0 (a + h - d - b))
      simp only [List.length_append, List.length_cons, List.length_nil] at *
      omega
    · have := hv_len b c d t (tickC a b d h) es (w + mx 0 (a + h - d - b))
      simp only [List.length_cons] at *
      omega
theorem harvI_l (b c d : Int) (l : List Int) (hl : l.length ≤ 500) (hh : hOk l = true) (n : Nat) : ∀ (k : Nat) (a w i : Int) (es : List Int), sOk a b c d = true → 0 ≤ w → w + 6000 * (n : Int) ≤ 3000000 → es.length + n ≤ 500 → 0 ≤ i → i + (n : Int) = (l.length : Int) → n < k →
    impl_harvested.l0 k es w l (l.length : Int) i a b c d = some ((hv b c d (l.drop i.toNat) a es w).1, (hv b c d (l.drop i.toNat) a es w).2, true) := by
  induction n with
  | zero =>
    intro k a w i es ok hw0 hw1 he h0 hi hk
    obtain ⟨k, rfl⟩ := succ_of hk
    simp only [impl_harvested.l0]
    rw [if_neg (by omega), List.drop_eq_nil_of_le (by omega)]
    rfl
  | succ n ih =>
    intro k a w i es ok hw0 hw1 he h0 hi hk
    obtain ⟨k, rfl⟩ := succ_of hk
    have hx := rd_all (hOk_iff.1 hh) h0 (by omega)
    have hm := mx_waste ok hx.1 hx.2
    obtain ⟨hb, ha, hc, hd⟩ := sOk_iff.1 ok
    simp only [impl_harvested.l0]
    rw [if_pos (by omega), if_pos h0, if_pos (by omega), drop_rd h0 (by omega), tickI_eq ok hx.1 hx.2, hv.eq_2]
    simp only [Option.bind_some]
    rw [w64 (x := a + rd l i) (by omega) (by omega), w64 (x := a + rd l i - d) (by omega) (by omega), w64 (x := a + rd l i - d - b) (by omega) (by omega), w64 (x := w + mx 0 (a + rd l i - d - b)) (by omega) (by omega), w64 (x := i + 1) (by omega) (by omega)]
    by_cases e : tickC a b d (rd l i) ≥ c
    · rw [if_pos e, if_pos e, if_pos (by omega)]
      exact ih k 0 _ (i + 1) _ (sOk_zero ok) (by omega) (by omega) (by simp only [List.length_append, List.length_cons, List.length_nil]; omega) (by omega) (by omega) (by omega)
    · rw [if_neg e, if_neg e]
      exact ih k _ _ (i + 1) _ (tickC_ok' ok hx.1 hx.2) (by omega) (by omega) (by omega) (by omega) (by omega) (by omega)
theorem harvI_at (a b c d : Int) (l : List Int) (hl : l.length ≤ 1048576) (k : Nat) (hk : 510 < k) : impl_harvested.f k a b c d l = some (if runOk a b c d l = true then ((hv b c d l a [] 0).1, (hv b c d l a [] 0).2, true) else ([], 0, false)) := by
  obtain ⟨k, rfl⟩ := succ_of hk
  unfold impl_harvested.f
  rw [storeOkI_eq, areHarvests_eq]
  simp only [Option.bind_some, impl_harvested.j0]
  by_cases ok : sOk a b c d = true
  · by_cases hlen : (l.length : Int) > 500
    · have n : runOk a b c d l = false := by
        cases e : runOk a b c d l
        · rfl
        · have := (runOk_iff.1 e).2.1
          omega
      simp only [ok, hlen, if_true, n, Bool.false_eq_true, if_false]
    · by_cases hh : hOk l = true
      · have n : runOk a b c d l = true := runOk_iff.2 ⟨ok, by omega, hh⟩
        simp only [ok, hlen, hh, n, if_true, Bool.not_true, Bool.false_eq_true, if_false]
        rw [harvI_l b c d l (by omega) hh l.length k a 0 0 [] ok (by omega) (by omega) (by simp only [List.length_nil]; omega) (by omega) (by omega) (by omega)]
        simp
      · have n : runOk a b c d l = false := by simp [runOk, hh]
        simp [ok, hlen, hh, n]
  · have n : runOk a b c d l = false := by simp [runOk, ok]
    simp [ok, n]
theorem l20Ok_at (a b c d : Int) (l : List Int) (hl : l.length ≤ 1048576) (k : Nat) (hk : 510 < k) : spec_l20Ok.f k a b c d l = some (runOk a b c d l) := by
  unfold spec_l20Ok.f runOk
  rw [storeOkS_eq]
  simp only [Option.bind_some]
  by_cases ok : sOk a b c d = true
  · by_cases hlen : (l.length : Int) ≤ 500
    · rw [if_pos ok, if_pos hlen, harvestsS_at l (by omega) k (by omega)]
      simp [ok, hlen]
    · rw [if_pos ok, if_neg hlen]
      simp [hlen]
  · rw [if_neg ok]
    simp [ok]
theorem wasteS_l (b c d : Int) (l : List Int) (hl : l.length ≤ 500) (hh : hOk l = true) (n : Nat) : ∀ (k : Nat) (a w i : Int) (es : List Int), sOk a b c d = true → 0 ≤ w → w + 6000 * (n : Int) ≤ 3000000 → 0 ≤ i → i + (n : Int) = (l.length : Int) → n + 1 < k →
    spec_WastedBy.l0 k l w i a b c d = some (hv b c d (l.drop i.toNat) a es w).2 := by
  induction n with
  | zero =>
    intro k a w i es ok hw0 hw1 h0 hi hk
    obtain ⟨k, rfl⟩ := succ_of hk
    simp only [spec_WastedBy.l0]
    rw [if_neg (by omega), List.drop_eq_nil_of_le (by omega)]
    rfl
  | succ n ih =>
    intro k a w i es ok hw0 hw1 h0 hi hk
    obtain ⟨k, rfl⟩ := succ_of hk
    have hx := rd_all (hOk_iff.1 hh) h0 (by omega)
    have hm := mx_waste ok hx.1 hx.2
    obtain ⟨hb, ha, hc, hd⟩ := sOk_iff.1 ok
    simp only [spec_WastedBy.l0]
    rw [if_pos (by omega), if_pos h0, drop_rd h0 (by omega), tickS_eq ok hx.1 hx.2 k (by omega), hv.eq_2]
    simp only [Option.bind_some]
    rw [w64 (x := a + rd l i) (by omega) (by omega), w64 (x := a + rd l i - d) (by omega) (by omega), w64 (x := a + rd l i - d - b) (by omega) (by omega), w64 (x := w + mx 0 (a + rd l i - d - b)) (by omega) (by omega), w64 (x := i + 1) (by omega) (by omega)]
    by_cases e : tickC a b d (rd l i) ≥ c
    · rw [if_pos e, if_pos e]
      exact ih k 0 _ (i + 1) _ (sOk_zero ok) (by omega) (by omega) (by omega) (by omega) (by omega)
    · rw [if_neg e, if_neg e]
      exact ih k _ _ (i + 1) _ (tickC_ok' ok hx.1 hx.2) (by omega) (by omega) (by omega) (by omega) (by omega)
theorem wasteS_at (a b c d : Int) (l : List Int) (hl : l.length ≤ 1048576) (k : Nat) (hk : 510 < k) : spec_WastedBy.f k a b c d l = some (if runOk a b c d l = true then (hv b c d l a [] 0).2 else -1) := by
  unfold spec_WastedBy.f
  rw [l20Ok_at a b c d l hl k hk]
  simp only [Option.bind_some]
  by_cases n : runOk a b c d l = true
  · obtain ⟨ok, hlen, hh⟩ := runOk_iff.1 n
    rw [if_pos n, if_pos n, wasteS_l b c d l (by omega) hh l.length k a 0 0 [] ok (by omega) (by omega) (by omega) (by omega) (by omega)]
    simp
  · rw [if_neg n, if_neg n]
theorem wasteI_at (a b c d : Int) (l : List Int) (hl : l.length ≤ 1048576) (k : Nat) (hk : 510 < k) : impl_WastedBy.f k a b c d l = some (if runOk a b c d l = true then (hv b c d l a [] 0).2 else -1) := by
  unfold impl_WastedBy.f
  rw [harvI_at a b c d l hl k hk]
  simp only [Option.bind_some]
  by_cases n : runOk a b c d l = true
  · simp [n]
  · simp [n]
theorem FnExactWastedBy : laws_FnExactWastedBy.Pure := by
  intro x l g1 g2
  have hL : l.length ≤ 9223372036854775807 := g2.1
  refine ⟨1048580, ?_⟩
  unfold laws_FnExactWastedBy.f laws_toStore.f
  by_cases hl : (l.length : Int) > 1048576
  · rw [if_pos hl]
  rw [if_neg hl]
  simp only [Option.bind_some, toIntS_at l (by omega) 1048580 (by omega), wasteI_at _ _ _ _ l (by omega) 1048580 (by omega), wasteS_at _ _ _ _ l (by omega) 1048580 (by omega), eqIntS_same l (by omega) 1048580 (by omega), if_true]

end Go.Proofs.Ytlcgohhcoalahaa.Pure
