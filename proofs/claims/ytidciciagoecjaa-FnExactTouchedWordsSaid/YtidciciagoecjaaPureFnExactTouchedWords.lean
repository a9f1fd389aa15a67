/- The law FnExactTouchedWords: for every input the function answers true. No condition. -/
import Derived.Test.YtidciciagoecjaaGx8
namespace Go.Proofs.Ytidciciagoecjaa.Pure
open Go.RowKit Go.Proofs.Ytidciciagoecjaa.G Go.Proofs.YtidciciagoecjaaW.PrintWords Go.Proofs.YtidciciagoecjaaW.PrintLast
set_option linter.unusedVariables false
set_option linter.unusedSimpArgs false

theorem w64 {x : Int} (h : -9223372036854775808 ≤ x) (h2 : x ≤ 9223372036854775807) : wrap64 x = x := by
  unfold wrap64
  omega
theorem wf_i64 {x : Int} (h : (Lit.int .i64 x).wf = true) : -9223372036854775808 ≤ x ∧ x ≤ 9223372036854775807 := by
  simp only [Lit.wf, IntKind.min, IntKind.max, IntKind.signed, IntKind.bits, Bool.and_eq_true, decide_eq_true_eq, if_true] at h
  omega
theorem succ_of {k d : Nat} (h : d < k) : ∃ m, k = m + 1 := ⟨k - 1, by omega⟩
theorem rd_eq {l : List Int} {i : Int} (h0 : 0 ≤ i) (h : i < (l.length : Int)) : l[i.toNat]? = some (rd l i) := by
  unfold rd
  rw [List.getD_eq_getElem?_getD, List.getElem?_eq_getElem (by omega)]
  rfl
theorem drop_rd {l : List Int} {i : Int} (h0 : 0 ≤ i) (h : i < (l.length : Int)) : l.drop i.toNat = rd l i :: l.drop (i + 1).toNat := by
  have h1 : i.toNat < l.length := by omega
  have h2 : (i + 1).toNat = i.toNat + 1 := by omega
  have h3 := rd_eq h0 h
  rw [h2, List.drop_eq_getElem_cons h1]
  rw [List.getElem?_eq_getElem h1] at h3
  rw [Option.some.inj h3]
/-- The numbers a, a + 1, .. : n of them. -/
def marks (a : Int) (n : Nat) : List Int := (List.range n).map fun j : Nat => a + (j : Int)
theorem marks_len (a : Int) (n : Nat) : (marks a n).length = n := by simp [marks]
theorem marks_get (a : Int) (n i : Nat) (h : i < n) : (marks a n)[i]? = some (a + (i : Int)) := by simp [marks, h]
theorem rd_all {P : Int → Prop} {l : List Int} (h : ∀ x ∈ l, P x) {i : Int} (h0 : 0 ≤ i) (h1 : i < (l.length : Int)) : P (rd l i) := h _ (List.mem_of_getElem? (rd_eq h0 h1))
theorem getD_rd {α : Type} (z : α) {l : List α} {i : Int} (h0 : 0 ≤ i) (h : i < (l.length : Int)) : l[i.toNat]? = some (l.getD i.toNat z) := by
  rw [List.getD_eq_getElem?_getD, List.getElem?_eq_getElem (by omega)]
  rfl
theorem drop_getD {α : Type} (z : α) {l : List α} {i : Int} (h0 : 0 ≤ i) (h : i < (l.length : Int)) : l.drop i.toNat = l.getD i.toNat z :: l.drop (i + 1).toNat := by
  have h1 : i.toNat < l.length := by omega
  have h2 : (i + 1).toNat = i.toNat + 1 := by omega
  have h3 := getD_rd z h0 h
  rw [h2, List.drop_eq_getElem_cons h1]
  rw [List.getElem?_eq_getElem h1] at h3
  rw [Option.some.inj h3]
theorem getD_mem {α : Type} (z : α) {l : List α} {i : Int} (h0 : 0 ≤ i) (h : i < (l.length : Int)) : l.getD i.toNat z ∈ l := List.mem_of_getElem? (getD_rd z h0 h)
theorem marks_succ (a : Int) (n : Nat) : marks a (n + 1) = a :: marks (a + 1) n := by
  simp only [marks, List.range_succ_eq_map, List.map_cons, List.map_map]
  congr 1
  · simp
  · apply List.map_congr_left
    intro j _
    simp only [Function.comp]
    omega
theorem take_set_next (x : List Int) (n : Nat) (a : Int) (h : n < x.length) : (x.set n a).take (n + 1) = x.take n ++ [a] := by
  have e : (x.set n a).take n = x.take n := by
    apply List.ext_getElem?
    intro j
    simp only [List.getElem?_take]
    split
    · rw [List.getElem?_set_ne (by omega)]
    · rfl
  rw [List.take_succ_eq_append_getElem (by simpa using h), e]
  simp
theorem eqIntS_l (a b : List Int) (hl : a.length = b.length) (hb : a.length ≤ 35184372088832) (d : Nat) : ∀ (k : Nat) (i : Int), 0 ≤ i → i + (d : Int) = (a.length : Int) → d < k →
    laws_eqIntS.l0 k a b i = some (decide (a.drop i.toNat = b.drop i.toNat)) := by
  induction d with
  | zero =>
    intro k i h0 hi hk
    obtain ⟨k, rfl⟩ := succ_of hk
    simp only [laws_eqIntS.l0]
    rw [if_neg (by omega), List.drop_eq_nil_of_le (by omega), List.drop_eq_nil_of_le (by omega)]
    simp
  | succ d ih =>
    intro k i h0 hi hk
    obtain ⟨k, rfl⟩ := succ_of hk
    simp only [laws_eqIntS.l0]
    rw [if_pos (by omega), if_pos h0, if_pos (by omega), w64 (by omega) (by omega), drop_rd h0 (by omega), drop_rd h0 (by omega), ih k (i + 1) (by omega) (by omega) (by omega)]
    by_cases e : rd a i = rd b i
    · rw [if_pos e]
      simp [e]
    · rw [if_neg e]
      simp [e]
theorem eqIntS_at (a b : List Int) (hb : a.length ≤ 35184372088832) (k : Nat) (hk : a.length < k) : laws_eqIntS.f k a b = some (decide (a = b)) := by
  unfold laws_eqIntS.f
  by_cases hl : a.length = b.length
  · rw [if_pos (by omega), eqIntS_l a b hl hb a.length k 0 (by omega) (by omega) hk]
    simp
  · rw [if_neg (by omega)]
    have : a ≠ b := fun e => hl (by rw [e])
    simp [this]
theorem eqIntS_same (a : List Int) (hb : a.length ≤ 35184372088832) (k : Nat) (hk : a.length < k) : laws_eqIntS.f k a a = some true := by
  rw [eqIntS_at a a hb k hk]
  simp
theorem markIntS_l (d : Nat) : ∀ (k : Nat) (x : List Int) (a i : Int), x.length ≤ 35184372088832 → 0 ≤ i → i + (d : Int) = (x.length : Int) → 0 ≤ a → a + (d : Int) ≤ 4611686018427387904 → d < k →
    laws_markIntS.l0 k x a i = some (a + (d : Int), x.take i.toNat ++ marks a d) := by
  induction d with
  | zero =>
    intro k x a i hx h0 hi ha hb hk
    obtain ⟨k, rfl⟩ := succ_of hk
    simp only [laws_markIntS.l0]
    rw [if_neg (by omega), List.take_of_length_le (by omega)]
    simp [marks]
  | succ d ih =>
    intro k x a i hx h0 hi ha hb hk
    obtain ⟨k, rfl⟩ := succ_of hk
    simp only [laws_markIntS.l0]
    rw [if_pos (by omega), if_pos h0, w64 (by omega) (by omega), w64 (by omega) (by omega)]
    rw [ih k _ (a + 1) (i + 1) (by simpa using hx) (by omega) (by rw [List.length_set]; omega) (by omega) (by omega) (by omega)]
    have h2 : (i + 1).toNat = i.toNat + 1 := by omega
    rw [h2, take_set_next x i.toNat a (by omega), marks_succ]
    simp
    omega
theorem markIntS_at (x : List Int) (a : Int) (k : Nat) (hx : x.length ≤ 35184372088832) (ha : 0 ≤ a) (hb : a + (x.length : Int) ≤ 4611686018427387904) (hk : x.length < k) :
    laws_markIntS.f k x a = some (a + (x.length : Int), marks a x.length) := by
  unfold laws_markIntS.f
  rw [markIntS_l x.length k x a 0 hx (by omega) (by omega) ha hb hk]
  simp
theorem heldIntS_l (d : Nat) : ∀ (k : Nat) (x : List Int) (a i : Int), x.length ≤ 35184372088832 → 0 ≤ i → i + (d : Int) = (x.length : Int) → 0 ≤ a → a + (d : Int) ≤ 4611686018427387904 → x.drop i.toNat = marks a d → d < k →
    laws_heldIntS.l0 k x a i = some (a + (d : Int)) := by
  induction d with
  | zero =>
    intro k x a i hx h0 hi ha hb hm hk
    obtain ⟨k, rfl⟩ := succ_of hk
    simp only [laws_heldIntS.l0]
    rw [if_neg (by omega)]
    simp
  | succ d ih =>
    intro k x a i hx h0 hi ha hb hm hk
    obtain ⟨k, rfl⟩ := succ_of hk
    simp only [laws_heldIntS.l0]
    rw [drop_rd h0 (by omega), marks_succ] at hm
    injection hm with h1 h2
    rw [if_pos (by omega), if_pos h0, if_pos h1, w64 (by omega) (by omega), w64 (by omega) (by omega)]
    rw [ih k x (a + 1) (i + 1) hx (by omega) (by omega) (by omega) (by omega) h2 (by omega)]
    congr 1
    omega
theorem heldIntS_at (a : Int) (n k : Nat) (hn : n ≤ 35184372088832) (ha : 0 ≤ a) (hb : a + (n : Int) ≤ 4611686018427387904) (hk : n < k) :
    laws_heldIntS.f k (marks a n) a = some (a + (n : Int)) := by
  unfold laws_heldIntS.f
  exact heldIntS_l n k (marks a n) a 0 (by rw [marks_len]; exact hn) (by omega) (by rw [marks_len]; omega) ha hb (by simp) hk
theorem szWriteS_eq (l : List S51) (a : Int) (hl : l.length ≤ 9223372036854775807) (h0 : 0 ≤ a) (h1 : a ≤ 1048576) : laws_szWriteS.f l a = some (if a < (l.length : Int) then -1 else a - (l.length : Int)) := by
  unfold laws_szWriteS.f
  rw [w64 (by omega) (by omega)]
  by_cases h : a < (l.length : Int)
  · rw [if_pos (by omega), if_pos h]
  · rw [if_neg (by omega), if_neg h]
def wri (x : S51) : S31 := ⟨x.f0, x.f1⟩
theorem toWriteS_l (l : List S51) (hl : l.length ≤ 1048576) (d : Nat) : ∀ (k : Nat) (x : List S31) (i : Int), 0 ≤ i → x.length = l.length → i + (d : Int) = (l.length : Int) → (∀ j : Nat, (j : Int) < i → x[j]? = (l.map wri)[j]?) → d < k →
    laws_toWriteS.l0 k l x i = some (l.map wri) := by
  induction d with
  | zero =>
    intro k x i h0 hx hi hj hk
    obtain ⟨k, rfl⟩ := succ_of hk
    simp only [laws_toWriteS.l0]
    rw [if_neg (by omega)]
    congr 1
    apply List.ext_getElem?
    intro j
    by_cases h : (j : Int) < i
    · exact hj j h
    · rw [List.getElem?_eq_none (by omega), List.getElem?_eq_none (by rw [List.length_map]; omega)]
  | succ d ih =>
    intro k x i h0 hx hi hj hk
    obtain ⟨k, rfl⟩ := succ_of hk
    simp only [laws_toWriteS.l0, laws_toWrite.f]
    rw [if_pos (by omega), if_pos h0]
    simp only [Option.bind_some]
    rw [if_pos (by omega), w64 (by omega) (by omega)]
    refine ih k _ (i + 1) (by omega) (by simpa using hx) (by omega) (fun j h => ?_) (by omega)
    rw [List.getElem?_set]
    by_cases e : i.toNat = j
    · subst e
      rw [if_pos rfl, if_pos (by omega), List.getElem?_map, getD_rd z51 h0 (by omega)]
      rfl
    · rw [if_neg e]
      exact hj j (by omega)
theorem toWriteS_at (l : List S51) (hl : l.length ≤ 1048576) (k : Nat) (hk : l.length < k) : laws_toWriteS.f k l = some (l.map wri) := by
  unfold laws_toWriteS.f
  rw [if_pos (by omega), if_pos (by omega)]
  exact toWriteS_l l hl l.length k _ 0 (by omega) (by simp) (by omega) (fun j h => by omega) (by omega)
theorem eqWriteS_l (l : List S31) (hl : l.length ≤ 1048576) (d : Nat) : ∀ (k : Nat) (i : Int), 0 ≤ i → i + (d : Int) = (l.length : Int) → d < k →
    laws_eqWriteS.l0 k l l i = some true := by
  induction d with
  | zero =>
    intro k i h0 hi hk
    obtain ⟨k, rfl⟩ := succ_of hk
    simp only [laws_eqWriteS.l0]
    rw [if_neg (by omega)]
  | succ d ih =>
    intro k i h0 hi hk
    obtain ⟨k, rfl⟩ := succ_of hk
    simp only [laws_eqWriteS.l0, laws_eqWrite.f]
    rw [if_pos (by omega), if_pos h0, if_pos (by omega), w64 (by omega) (by omega)]
    simp only [if_true, Option.bind_some]
    exact ih k (i + 1) (by omega) (by omega) (by omega)
theorem eqWriteS_same (l : List S31) (hl : l.length ≤ 1048576) (k : Nat) (hk : l.length < k) : laws_eqWriteS.f k l l = some true := by
  unfold laws_eqWriteS.f
  rw [if_pos rfl]
  exact eqWriteS_l l hl l.length k 0 (by omega) (by omega) (by omega)
def mkWrite (a : Int) : S31 := ⟨a, a + 1⟩
theorem markWriteS_l (a0 : Int) (h0a : 0 ≤ a0) (n : Nat) (hn : a0 + 2 * (n : Int) ≤ 4611686018427387904) (d : Nat) : ∀ (k : Nat) (x : List S31) (a i : Int), x.length = n → 0 ≤ i → i + (d : Int) = (n : Int) → a = a0 + 2 * i → (∀ j : Nat, (j : Int) < i → x[j]? = some (mkWrite (a0 + 2 * (j : Int)))) → d < k →
    ∃ M, laws_markWriteS.l0 k x a i = some (a0 + 2 * (n : Int), M) ∧ M.length = n ∧ ∀ j : Nat, j < n → M[j]? = some (mkWrite (a0 + 2 * (j : Int))) := by
  induction d with
  | zero =>
    intro k x a i hx h0 hi ha hj hk
    obtain ⟨k, rfl⟩ := succ_of hk
    simp only [laws_markWriteS.l0]
    rw [if_neg (by omega)]
    refine ⟨x, by rw [ha, show i = (n : Int) by omega], hx, fun j h => hj j (by omega)⟩
  | succ d ih =>
    intro k x a i hx h0 hi ha hj hk
    obtain ⟨k, rfl⟩ := succ_of hk
    have hxi : i.toNat < x.length := by omega
    simp only [laws_markWriteS.l0, Option.bind_some, rd_T31]
    rw [if_pos (by omega), if_pos h0]
    rw [w64 (x := a + 1) (by omega) (by omega), w64 (x := a + 1 + 1) (by omega) (by omega), w64 (x := i + 1) (by omega) (by omega)]
    refine ih k _ _ (i + 1) (by simpa using hx) (by omega) (by omega) (by omega) (fun j h => ?_) (by omega)
    by_cases e : i.toNat = j
    · subst e
      rw [List.getElem?_set_self (by simpa using hxi)]
      have e1 : a0 + 2 * ((i.toNat : Nat) : Int) = a := by rw [ha]; omega
      rw [e1]
      simp [mkWrite, List.getD_eq_getElem?_getD, hxi]
    · simp only [List.getElem?_set_ne e]
      exact hj j (by omega)
theorem markWriteS_some (x : List S31) (a : Int) (h0 : 0 ≤ a) (hn : a + 2 * (x.length : Int) ≤ 4611686018427387904) (k : Nat) (hk : x.length < k) :
    ∃ M, laws_markWriteS.f k x a = some (a + 2 * (x.length : Int), M) := by
  obtain ⟨M, e, hM, hj⟩ := markWriteS_l a h0 x.length hn x.length k x a 0 rfl (by omega) (by omega) (by omega) (fun j h => by omega) hk
  exact ⟨M, e⟩
section
open Go.Lib
/-- Strictly ascending. -/
abbrev Asc (l : List Int) : Prop := l.Pairwise (· < ·)
theorem asc_ext : ∀ {a b : List Int}, Asc a → Asc b → (∀ x, x ∈ a ↔ x ∈ b) → a = b
  | [], [], _, _, _ => rfl
  | [], y :: ys, _, _, h => absurd ((h y).2 List.mem_cons_self) (by simp)
  | x :: xs, [], _, _, h => absurd ((h x).1 List.mem_cons_self) (by simp)
  | x :: xs, y :: ys, ha, hb, h => by
    rw [Asc, List.pairwise_cons] at ha hb
    have e : x = y := by
      have h1 := (h x).1 List.mem_cons_self
      have h2 := (h y).2 List.mem_cons_self
      rcases List.mem_cons.1 h1 with e | h1
      · exact e
      · rcases List.mem_cons.1 h2 with e | h2
        · exact e.symm
        · have := hb.1 x h1
          have := ha.1 y h2
          omega
    subst e
    rw [asc_ext ha.2 hb.2 (fun z => ?_)]
    have := h z
    simp only [List.mem_cons] at this
    constructor
    · intro hz
      rcases this.1 (.inr hz) with e | h
      · subst e
        have := ha.1 z hz
        omega
      · exact h
    · intro hz
      rcases this.2 (.inr hz) with e | h
      · subst e
        have := hb.1 z hz
        omega
      · exact h
theorem compactUpTo_sorted (d : Array Int) (hs : ∀ i j, i ≤ j → j < d.size → d[i]! ≤ d[j]!) : ∀ m, m ≤ d.size → Asc (compactUpTo d m) ∧ (∀ x ∈ compactUpTo d m, ∃ j, j < m ∧ d[j]! = x) ∧ ∀ j, j < m → d[j]! ∈ compactUpTo d m
  | 0, _ => by
    have e : compactUpTo d 0 = [] := by simp [compactUpTo]
    rw [e]
    exact ⟨List.Pairwise.nil, fun x hx => by simp at hx, fun j hj => by omega⟩
  | m + 1, hm => by
    obtain ⟨h1, h2, h3⟩ := compactUpTo_sorted d hs m (by omega)
    rw [compactUpTo_succ]
    by_cases hk : keeps d m = true
    · rw [if_pos hk]
      refine ⟨List.pairwise_append.2 ⟨h1, List.pairwise_singleton _ _, ?_⟩, ?_, ?_⟩
      · intro x hx y hy
        rw [List.mem_singleton] at hy
        subst hy
        obtain ⟨j, hj, rfl⟩ := h2 x hx
        have q := of_decide_eq_true hk
        have a1 := hs j (m - 1) (by omega) (by omega)
        have a2 := hs (m - 1) m (by omega) (by omega)
        have a3 : d[m]! ≠ d[m - 1]! := by
          rcases q with q | q
          · omega
          · exact q
        omega
      · intro x hx
        rcases List.mem_append.1 hx with hx | hx
        · obtain ⟨j, hj, e⟩ := h2 x hx
          exact ⟨j, by omega, e⟩
        · rw [List.mem_singleton] at hx
          exact ⟨m, by omega, hx.symm⟩
      · intro j hj
        by_cases e : j = m
        · subst e
          exact List.mem_append.2 (.inr (List.mem_singleton.2 rfl))
        · exact List.mem_append.2 (.inl (h3 j (by omega)))
    · rw [if_neg hk, List.append_nil]
      have q : ¬ (m = 0 ∨ d[m]! ≠ d[m - 1]!) := fun h => hk (decide_eq_true h)
      refine ⟨h1, fun x hx => ?_, fun j hj => ?_⟩
      · obtain ⟨j, hj, e⟩ := h2 x hx
        exact ⟨j, by omega, e⟩
      · by_cases e : j = m
        · subst e
          have e2 : d[j]! = d[j - 1]! := Classical.byContradiction fun h => q (.inr h)
          rw [e2]
          exact h3 (j - 1) (by omega)
        · exact h3 j (by omega)
/-- What slices.Sort and slices.Compact make of a list: its members, strictly ascending. -/
def touch (l : List Int) : List Int := compact (l.mergeSort fun x y => decide (x ≤ y))
theorem touch_at (l : List Int) : Asc (touch l) ∧ (∀ x, x ∈ touch l ↔ x ∈ l) ∧ (touch l).length ≤ l.length := by
  have hp : (l.mergeSort fun x y => decide (x ≤ y)).Pairwise (fun x y => decide (x ≤ y) = true) := List.pairwise_mergeSort (fun a b c h1 h2 => by simp only [decide_eq_true_eq] at *; omega) (fun a b => by simp only [Bool.or_eq_true, decide_eq_true_eq]; omega) l
  have hm : ∀ x, x ∈ (l.mergeSort fun x y => decide (x ≤ y)) ↔ x ∈ l := fun x => List.mem_mergeSort
  have hl : (l.mergeSort fun x y => decide (x ≤ y)).length = l.length := List.length_mergeSort l
  unfold touch
  generalize (l.mergeSort fun x y => decide (x ≤ y)) = z at hp hm hl
  have hs : ∀ i j, i ≤ j → j < z.toArray.size → z.toArray[i]! ≤ z.toArray[j]! := by
    intro i j hij hj
    have hj' : j < z.length := by simpa using hj
    by_cases e : i = j
    · subst e
      exact Int.le_refl _
    · have := List.pairwise_iff_getElem.1 hp i j (by omega) hj' (by omega)
      simpa [List.getElem!_toArray, hj', show i < z.length by omega] using this
  obtain ⟨h1, h2, h3⟩ := compactUpTo_sorted z.toArray hs z.length (by simp)
  refine ⟨h1, fun x => ?_, ?_⟩
  · rw [← hm]
    constructor
    · intro hx
      obtain ⟨j, hj, e⟩ := h2 x hx
      rw [← e]
      simp [hj]
    · intro hx
      obtain ⟨j, hj, e⟩ := List.mem_iff_getElem.1 hx
      have := h3 j hj
      simp [hj] at this
      rw [e] at this
      exact this
  · have : (compact z).length ≤ z.length := by
      unfold compact compactUpTo
      rw [List.length_map]
      have := List.length_filter_le (keeps z.toArray) (List.range z.length)
      rw [List.length_range] at this
      exact this
    omega
end
theorem spec_TouchedWords_le {k k' : Nat} {l : List S31} {r : List Int} (h : spec_TouchedWords.f k l = some r) : k ≤ k' → spec_TouchedWords.f k' l = some r := by
  intro hk
  obtain ⟨d, rfl⟩ := Nat.exists_eq_add_of_le hk
  induction d with
  | zero => exact h
  | succ d ih => exact spec_TouchedWords.mono _ _ _ (ih (by omega))
theorem take_asc {o : List Int} (ho : Asc o) {m : Nat} (hm : m < o.length) {v : Int} (hv : rd o m < v) : ∀ x ∈ o.take (m + 1), x < v := by
  intro x hx
  obtain ⟨j, hj, e⟩ := List.mem_iff_getElem.1 hx
  rw [List.length_take] at hj
  rw [List.getElem_take] at e
  have em : rd o m = o[m] := by
    unfold rd
    rw [Int.toNat_natCast, List.getD_eq_getElem?_getD, List.getElem?_eq_getElem hm]
    rfl
  by_cases q : j = m
  · subst q
    omega
  · have := List.pairwise_iff_getElem.1 ho j m (by omega) hm (by omega)
    omega
theorem asc_ins {o : List Int} (ho : Asc o) (m : Nat) {v : Int} (h1 : ∀ x ∈ o.take m, x < v) (h2 : ∀ x ∈ o.drop m, v < x) : Asc (o.take m ++ [v] ++ o.drop m) := by
  have ho' := ho
  rw [← List.take_append_drop m o] at ho'
  obtain ⟨a1, a2, a3⟩ := List.pairwise_append.1 ho'
  refine List.pairwise_append.2 ⟨List.pairwise_append.2 ⟨a1, List.pairwise_singleton _ _, ?_⟩, a2, ?_⟩
  · intro x hx y hy
    rw [List.mem_singleton.1 hy]
    exact h1 x hx
  · intro x hx y hy
    rcases List.mem_append.1 hx with hx | hx
    · exact a3 x hx y hy
    · rw [List.mem_singleton.1 hx]
      exact h2 y hy
theorem mem_ins {o : List Int} (m : Nat) {v : Int} (x : Int) : x ∈ o.take m ++ [v] ++ o.drop m ↔ x ∈ o ∨ x = v := by
  have e : x ∈ o ↔ x ∈ o.take m ∨ x ∈ o.drop m := by
    rw [← List.mem_append, List.take_append_drop]
  rw [e]
  simp only [List.mem_append, List.mem_singleton]
  constructor
  · rintro ((h | h) | h)
    · exact .inl (.inl h)
    · exact .inr h
    · exact .inl (.inr h)
  · rintro ((h | h) | h)
    · exact .inl (.inl h)
    · exact .inr h
    · exact .inl (.inr h)
theorem len_ins {o : List Int} (m : Nat) (v : Int) : (o.take m ++ [v] ++ o.drop m).length = o.length + 1 := by
  simp only [List.length_append, List.length_take, List.length_drop, List.length_singleton]
  omega
/-- The inner loop: from place m on all are greater than the word that comes in. -/
theorem touchS_in {l : List S31} {i : Int} (i0 : 0 ≤ i) (i1 : i < (l.length : Int)) (hl : l.length ≤ 1048576) {o : List Int} (ho : Asc o) (hlen : (o.length : Int) ≤ i) (Q : List Int → Prop)
    (next : ∀ o' : List Int, Asc o' → (o'.length : Int) ≤ i + 1 → (∀ x, x ∈ o' ↔ x ∈ o ∨ x = (rd_T31 l i).f0) → ∃ k r, spec_TouchedWords.l0 k l o' (i + 1) = some r ∧ Q r) :
    ∀ m : Nat, m ≤ o.length → (∀ x ∈ o.drop m, (rd_T31 l i).f0 < x) → ∃ k r, spec_TouchedWords.l1 k l o i (m : Int) = some r ∧ Q r
  | 0, _, hd => by
    obtain ⟨k, r, e, hQ⟩ := next (o.take 0 ++ [(rd_T31 l i).f0] ++ o.drop 0) (asc_ins ho 0 (fun x hx => by simp at hx) hd) (by rw [len_ins]; omega) (fun x => mem_ins 0 x)
    refine ⟨k + 1, r, ?_, hQ⟩
    rw [spec_TouchedWords.l1]
    simp only [Option.bind_some, List.nil_append]
    rw [if_neg (by omega), if_pos (by omega), if_pos (by omega), if_pos (by simp), if_pos i0, if_pos i1, if_pos (by simp), if_pos (by simp; omega), w64 (x := i + 1) (by omega) (by omega)]
    exact e
  | m + 1, hm, hd => by
    have hw : wrap64 (((m + 1 : Nat) : Int) - 1) = (m : Int) := by rw [w64 (by omega) (by omega)]; omega
    have hg : o[m]? = some (rd o m) := by
      have := rd_eq (l := o) (i := (m : Int)) (by omega) (by omega)
      rwa [Int.toNat_natCast] at this
    by_cases c : rd o m > (rd_T31 l i).f0
    · obtain ⟨k, r, e, hQ⟩ := touchS_in i0 i1 hl ho hlen Q next m (by omega) (fun x hx => by
        have hml : m < o.length := by omega
        rw [List.drop_eq_getElem_cons hml] at hx
        rcases List.mem_cons.1 hx with e | hx
        · rw [List.getElem?_eq_getElem hml] at hg
          rw [e, Option.some.inj hg]
          omega
        · exact hd x hx)
      refine ⟨k + 1, r, ?_, hQ⟩
      rw [spec_TouchedWords.l1, if_pos (by omega), hw, if_pos (by omega), if_pos (by omega), if_pos i0, if_pos i1, if_pos c]
      exact e
    · by_cases c2 : rd o m = (rd_T31 l i).f0
      · obtain ⟨k, r, e, hQ⟩ := next o ho (by omega) (fun x => ⟨.inl, fun h => h.elim id (fun h => by rw [h, ← c2]; exact List.mem_of_getElem? hg)⟩)
        refine ⟨k + 1, r, ?_, hQ⟩
        rw [spec_TouchedWords.l1, if_pos (by omega), hw, if_pos (by omega), if_pos (by omega), if_pos i0, if_pos i1, if_neg c, if_pos c2, w64 (x := i + 1) (by omega) (by omega)]
        exact e
      · obtain ⟨k, r, e, hQ⟩ := next (o.take (m + 1) ++ [(rd_T31 l i).f0] ++ o.drop (m + 1)) (asc_ins ho (m + 1) (take_asc ho (by omega) (by omega)) hd) (by rw [len_ins]; omega) (fun x => mem_ins (m + 1) x)
        refine ⟨k + 1, r, ?_, hQ⟩
        rw [spec_TouchedWords.l1, if_pos (by omega), hw, if_pos (by omega), if_pos (by omega), if_pos i0, if_pos i1, if_neg c, if_neg c2]
        simp only [Option.bind_some, List.nil_append, Int.toNat_natCast]
        rw [if_pos (by omega), if_pos (by omega), if_pos (by rw [List.length_take]; simp; omega), if_pos (by rw [List.length_take]; omega), if_pos (by simp only [List.length_append, List.length_take, List.length_drop, List.length_singleton]; omega), w64 (x := i + 1) (by omega) (by omega)]
        exact e
theorem take_f0 (l : List S31) {i : Int} (i0 : 0 ≤ i) (i1 : i < (l.length : Int)) (x : Int) : x ∈ (l.take (i + 1).toNat).map (·.f0) ↔ x ∈ (l.take i.toNat).map (·.f0) ∨ x = (rd_T31 l i).f0 := by
  have h1 : i.toNat < l.length := by omega
  have h2 : (i + 1).toNat = i.toNat + 1 := by omega
  unfold rd_T31
  rw [h2, List.take_add_one, List.map_append, List.mem_append, List.getD_eq_getElem?_getD, List.getElem?_eq_getElem h1]
  simp
theorem touchS_l (l : List S31) (hl : l.length ≤ 1048576) (d : Nat) : ∀ (o : List Int) (i : Int), 0 ≤ i → i + (d : Int) = (l.length : Int) → Asc o → (o.length : Int) ≤ i → (∀ x, x ∈ o ↔ x ∈ (l.take i.toNat).map (·.f0)) →
    ∃ k r, spec_TouchedWords.l0 k l o i = some r ∧ (Asc r ∧ ∀ x, x ∈ r ↔ x ∈ l.map (·.f0)) := by
  induction d with
  | zero =>
    intro o i h0 hi ho hlen hm
    refine ⟨1, o, ?_, ho, ?_⟩
    · rw [spec_TouchedWords.l0, if_neg (by omega)]
    · rw [show i.toNat = l.length by omega, List.take_length] at hm
      exact hm
  | succ d ih =>
    intro o i h0 hi ho hlen hm
    obtain ⟨k, r, e, hQ⟩ := touchS_in h0 (by omega) hl ho hlen (fun r => Asc r ∧ ∀ x, x ∈ r ↔ x ∈ l.map (·.f0)) (fun o' h1 h2 h3 => ih o' (i + 1) (by omega) (by omega) h1 h2 (fun x => by rw [h3 x, hm x, take_f0 l h0 (by omega) x])) o.length (Nat.le_refl _) (fun x hx => by simp at hx)
    refine ⟨k + 1, r, ?_, hQ⟩
    rw [spec_TouchedWords.l0, if_pos (by omega)]
    exact e
theorem touchS_at (l : List S31) (hl : l.length ≤ 1048576) : ∃ k0, ∀ k, k0 ≤ k → spec_TouchedWords.f k l = some (touch (l.map (·.f0))) := by
  obtain ⟨k, r, e, h1, h2⟩ := touchS_l l hl l.length [] 0 (by omega) (by omega) List.Pairwise.nil (by simp) (by simp)
  obtain ⟨t1, t2, _⟩ := touch_at (l.map (·.f0))
  have er : r = touch (l.map (·.f0)) := asc_ext h1 t1 (fun x => by rw [h2 x, t2 x])
  subst er
  exact ⟨k, fun k' hk => spec_TouchedWords_le (k := k) e hk⟩
theorem touchI_at (l : List S31) (hl : l.length ≤ 1048576) : impl_TouchedWords.f l = some (touch (l.map (·.f0))) := by
  unfold impl_TouchedWords.f
  rw [if_pos (by omega)]
  rfl
theorem FnExactTouchedWords : laws_FnExactTouchedWords.Pure := by
  intro x g
  have hx : x.length ≤ 9223372036854775807 := by
    have := g.1
    simpa only [maxLen] using this
  by_cases hbig : (1048576 : Int) < (x.length : Int)
  · refine ⟨1, ?_⟩
    unfold laws_FnExactTouchedWords.f
    rw [szWriteS_eq _ _ hx (by omega) (by omega), if_pos hbig]
    simp
  obtain ⟨L, hL⟩ : ∃ L, x.map wri = L := ⟨_, rfl⟩
  have lL : L.length = x.length := by rw [← hL, List.length_map]
  obtain ⟨k0, hS⟩ := touchS_at L (by omega)
  obtain ⟨t1, t2, t3⟩ := touch_at (L.map (·.f0))
  rw [List.length_map] at t3
  have hI := touchI_at L (by omega)
  generalize touch (L.map (·.f0)) = T at hS hI t3
  clear t1 t2
  obtain ⟨K, hK⟩ : ∃ K, k0 + 2097199 ≤ K := ⟨_, Nat.le_refl _⟩
  refine ⟨K + 1, ?_⟩
  have hto : ∀ k, 1048576 < k → laws_toWriteS.f k x = some L := fun k hk => by rw [toWriteS_at x (by omega) k (by omega), hL]
  unfold laws_FnExactTouchedWords.f
  rw [szWriteS_eq _ _ hx (by omega) (by omega), if_neg hbig]
  simp only [Option.bind_some]
  rw [if_neg (by omega)]
  obtain ⟨M, em⟩ := markWriteS_some L 1 (by omega) (by omega) (K + 1) (by omega)
  have n1 : ¬ (1 + 2 * (L.length : Int) < 0) := by omega
  have n2 : ¬ (1 + (T.length : Int) < 0) := by omega
  simp only [hto (K + 1) (by omega), hto K (by omega), hS (K + 1) (by omega), hI, eqIntS_same T (by omega) (K + 1) (by omega), eqIntS_same T (by omega) K (by omega), eqWriteS_same L (by omega) (K + 1) (by omega), em, n1, Option.bind_some, if_true, if_false, Bool.not_true, Bool.false_eq_true, laws_FnExactTouchedWords.j0, markIntS_at T 1 K (by omega) (by omega) (by omega) (by omega), heldIntS_at 1 T.length K (by omega) (by omega) (by omega) (by omega), n2]

end Go.Proofs.Ytidciciagoecjaa.Pure
