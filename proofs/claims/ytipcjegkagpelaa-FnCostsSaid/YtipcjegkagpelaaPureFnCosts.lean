/- The law FnCosts: for every input the function answers true. No condition. -/
import Derived.Test.YtipcjegkagpelaaGx11
namespace Go.Proofs.Ytipcjegkagpelaa.Pure
open Go.RowKit Go.Proofs.Ytipcjegkagpelaa.G Go.Proofs.YtipcjegkagpelaaW.PrintWords Go.Proofs.YtipcjegkagpelaaW.PrintLast
set_option linter.unusedVariables false
set_option linter.unusedSimpArgs false

theorem w64 {x : Int} (h : -9223372036854775808 ≤ x) (h2 : x ≤ 9223372036854775807) : wrap64 x = x := by
  unfold wrap64
  omega
theorem wf_i64 {x : Int} (h : (Lit.int .i64 x).wf = true) : -9223372036854775808 ≤ x ∧ x ≤ 9223372036854775807 := by
  simp only [Lit.wf, IntKind.min, IntKind.max, IntKind.signed, IntKind.bits, Bool.and_eq_true, decide_eq_true_eq, if_true] at h
  omega
theorem succ_of {k d : Nat} (h : d < k) : ∃ m, k = m + 1 := ⟨k - 1, by omega⟩
theorem rd_eq {l : List Int} {i : Int} (h0 : 0 ≤ i) (h : i < (l.length : Int)) : l[i.toNat]? = some (rd l i) := by
  unfold rd
  rw [List.getD_eq_getElem?_getD, List.getElem?_eq_getElem (by omega)]
  rfl
theorem drop_rd {l : List Int} {i : Int} (h0 : 0 ≤ i) (h : i < (l.length : Int)) : l.drop i.toNat = rd l i :: l.drop (i + 1).toNat := by
  have h1 : i.toNat < l.length := by omega
  have h2 : (i + 1).toNat = i.toNat + 1 := by omega
  have h3 := rd_eq h0 h
  rw [h2, List.drop_eq_getElem_cons h1]
  rw [List.getElem?_eq_getElem h1] at h3
  rw [Option.some.inj h3]
/-- The numbers a, a + 1, .. : n of them. -/
def marks (a : Int) (n : Nat) : List Int := (List.range n).map fun j : Nat => a + (j : Int)
theorem marks_len (a : Int) (n : Nat) : (marks a n).length = n := by simp [marks]
theorem marks_get (a : Int) (n i : Nat) (h : i < n) : (marks a n)[i]? = some (a + (i : Int)) := by simp [marks, h]
theorem rd_all {P : Int → Prop} {l : List Int} (h : ∀ x ∈ l, P x) {i : Int} (h0 : 0 ≤ i) (h1 : i < (l.length : Int)) : P (rd l i) := h _ (List.mem_of_getElem? (rd_eq h0 h1))
theorem getD_rd {α : Type} (z : α) {l : List α} {i : Int} (h0 : 0 ≤ i) (h : i < (l.length : Int)) : l[i.toNat]? = some (l.getD i.toNat z) := by
  rw [List.getD_eq_getElem?_getD, List.getElem?_eq_getElem (by omega)]
  rfl
theorem drop_getD {α : Type} (z : α) {l : List α} {i : Int} (h0 : 0 ≤ i) (h : i < (l.length : Int)) : l.drop i.toNat = l.getD i.toNat z :: l.drop (i + 1).toNat := by
  have h1 : i.toNat < l.length := by omega
  have h2 : (i + 1).toNat = i.toNat + 1 := by omega
  have h3 := getD_rd z h0 h
  rw [h2, List.drop_eq_getElem_cons h1]
  rw [List.getElem?_eq_getElem h1] at h3
  rw [Option.some.inj h3]
theorem getD_mem {α : Type} (z : α) {l : List α} {i : Int} (h0 : 0 ≤ i) (h : i < (l.length : Int)) : l.getD i.toNat z ∈ l := List.mem_of_getElem? (getD_rd z h0 h)
theorem tmod_in {a n : Int} (ha : 0 ≤ a) (hn : 0 < n) : 0 ≤ Int.tmod a n ∧ Int.tmod a n < n := by
  rw [Int.tmod_eq_emod_of_nonneg ha]
  exact ⟨Int.emod_nonneg _ (by omega), Int.emod_lt_of_pos _ hn⟩
theorem within_eq (a b c : Int) : impl_within.f a b c = some (decide (b ≤ a ∧ a ≤ c)) := by
  unfold impl_within.f
  by_cases h : b ≤ a <;> simp [h]
/-- An expression of the language. -/
def exprOk (a b c : Int) : Bool := decide ((1 ≤ a ∧ a ≤ 7) ∧ (-8 ≤ b ∧ b ≤ 999) ∧ -8 ≤ c ∧ c ≤ 999)
/-- A statement of the language: its kind, its variable, its number, its expression. -/
def stmtOk (a b c d e f : Int) : Bool :=
  if a = 1 then decide ((0 ≤ b ∧ b ≤ 7) ∧ c = 0) && exprOk d e f
  else if a = 2 then decide ((0 ≤ b ∧ b ≤ 7) ∧ (0 ≤ c ∧ c ≤ 3) ∧ d = 0 ∧ e = 0 ∧ f = 0)
  else if a = 3 ∨ a = 4 then decide (b = 0 ∧ c = 0) && exprOk d e f
  else if a = 5 then decide (b = 0 ∧ (1 ≤ c ∧ c ≤ 5) ∧ d = 0 ∧ e = 0 ∧ f = 0)
  else if a = 6 then decide (b = 0 ∧ c = 0 ∧ d = 0 ∧ e = 0 ∧ f = 0) else false
theorem operandI_eq (x : Int) : impl_OperandOk.f x = some (decide (-8 ≤ x ∧ x ≤ 999)) := by unfold impl_OperandOk.f; rw [within_eq]; rfl
theorem exprI_eq (a b c : Int) : impl_ExprOk.f a b c = some (exprOk a b c) := by
  unfold impl_ExprOk.f exprOk
  rw [within_eq, operandI_eq, operandI_eq]
  by_cases h1 : 1 ≤ a ∧ a ≤ 7 <;> by_cases h2 : -8 ≤ b ∧ b ≤ 999 <;> simp [h1, h2]
theorem stmtI_eq (a b c d e f : Int) (k : Nat) (hk : 3 < k) : impl_StmtOk.f k a b c d e f = some (stmtOk a b c d e f) := by
  obtain ⟨k, rfl⟩ : ∃ m, k = m + 4 := ⟨k - 4, by omega⟩
  unfold impl_StmtOk.f impl_hasVar.f impl_isVar.f stmtOk
  simp only [impl_StmtOk.j0, impl_StmtOk.j1, impl_hasExpr.f, impl_isSensor.f, within_eq, exprI_eq, Option.bind_some]
  by_cases h1 : a = 1
  · subst h1
    by_cases h : c = 0 <;> by_cases g : 0 ≤ b ∧ b ≤ 7 <;> cases exprOk d e f <;> simp [h, g]
  by_cases h2 : a = 2
  · subst h2
    by_cases h : d = 0 <;> by_cases h' : e = 0 <;> by_cases h'' : f = 0 <;> by_cases g : 0 ≤ b ∧ b ≤ 7 <;> simp [h, h', h'', g]
  by_cases h3 : a = 3
  · subst h3
    by_cases h : b = 0 <;> by_cases h' : c = 0 <;> cases exprOk d e f <;> simp [h, h']
  by_cases h4 : a = 4
  · subst h4
    by_cases h : b = 0 <;> by_cases h' : c = 0 <;> cases exprOk d e f <;> simp [h, h']
  by_cases h5 : a = 5
  · subst h5
    by_cases h : b = 0 <;> by_cases h' : d = 0 <;> by_cases h'' : e = 0 <;> by_cases g : f = 0 <;> simp [h, h', h'', g]
  by_cases h6 : a = 6
  · subst h6
    by_cases h : b = 0 <;> by_cases h' : d = 0 <;> by_cases h'' : e = 0 <;> by_cases g : f = 0 <;> by_cases g' : c = 0 <;> simp [h, h', h'', g, g']
  · have n : ¬ (1 ≤ a ∧ a ≤ 6) := by omega
    simp [h1, h2, h3, h4, h5, h6, n]
/-- A statement of the language. -/
def stOk (s : S56) : Bool := stmtOk s.f0 s.f1 s.f2 s.f3.f0 s.f3.f1 s.f3.f2
/-- A block as a tree: its statements in order, an opening one with what it holds and its closing one. -/
inductive Bk where
  | nil : Bk
  | leaf (s : S56) (t : Bk) : Bk
  | node (s : S56) (b : Bk) (e : S56) (t : Bk) : Bk
def Bk.flat : Bk → List S56
  | .nil => []
  | .leaf s t => s :: t.flat
  | .node s b e t => s :: (b.flat ++ e :: t.flat)
def Bk.ok : Bk → Prop
  | .nil => True
  | .leaf s t => s.f0 ≠ 4 ∧ s.f0 ≠ 5 ∧ s.f0 ≠ 6 ∧ t.ok
  | .node s b e t => (s.f0 = 4 ∨ s.f0 = 5) ∧ b.ok ∧ e.f0 = 6 ∧ t.ok
/-- How many are open, behind a statement. -/
def dNext (s : S56) (d : Int) : Int := if s.f0 = 4 ∨ s.f0 = 5 then d + 1 else if s.f0 = 6 then d - 1 else d
/-- The statements are valid, and there are never too many or too few open ones. -/
def blkOk : List S56 → Int → Bool
  | [], d => decide (d = 0)
  | s :: t, d => stOk s && (decide (0 ≤ dNext s d ∧ dNext s d ≤ 3) && blkOk t (dNext s d))
def blockOk (l : List S56) : Bool := blkOk l 0 && decide ((l.length : Int) ≤ 24)
theorem blkOk_cons {s : S56} {t : List S56} {d : Int} : blkOk (s :: t) d = true ↔ stOk s = true ∧ (0 ≤ dNext s d ∧ dNext s d ≤ 3) ∧ blkOk t (dNext s d) = true := by
  rw [blkOk, Bool.and_eq_true, Bool.and_eq_true, decide_eq_true_eq]
theorem blkOk_all : ∀ (l : List S56) (d : Int), blkOk l d = true → ∀ s ∈ l, stOk s = true
  | [], d, h, s, hs => by simp at hs
  | x :: t, d, h, s, hs => by
    obtain ⟨h1, h2, h3⟩ := blkOk_cons.1 h
    rcases List.mem_cons.1 hs with rfl | hs
    · exact h1
    · exact blkOk_all t _ h3 s hs
theorem parse (n : Nat) : ∀ (l : List S56) (d : Int), l.length ≤ n → 0 ≤ d → blkOk l d = true →
    (d = 0 → ∃ T : Bk, T.ok ∧ T.flat = l) ∧ (0 < d → ∃ (T : Bk) (e : S56) (r : List S56), T.ok ∧ e.f0 = 6 ∧ l = T.flat ++ e :: r ∧ blkOk r (d - 1) = true) := by
  induction n with
  | zero =>
    intro l d hl hd h
    have : l = [] := List.eq_nil_of_length_eq_zero (by omega)
    subst this
    simp only [blkOk, decide_eq_true_eq] at h
    exact ⟨fun _ => ⟨.nil, trivial, rfl⟩, fun h2 => absurd h (by omega)⟩
  | succ n ih =>
    intro l d hl hd h
    cases l with
    | nil =>
      simp only [blkOk, decide_eq_true_eq] at h
      exact ⟨fun _ => ⟨.nil, trivial, rfl⟩, fun h2 => absurd h (by omega)⟩
    | cons s t =>
      obtain ⟨h1, h2, h3⟩ := blkOk_cons.1 h
      simp only [List.length_cons] at hl
      by_cases o : s.f0 = 4 ∨ s.f0 = 5
      · have e : dNext s d = d + 1 := by rw [dNext, if_pos o]
        rw [e] at h2 h3
        obtain ⟨T1, c, r, k1, k2, k3, k4⟩ := (ih t (d + 1) (by omega) (by omega) h3).2 (by omega)
        rw [Int.add_sub_cancel] at k4
        have hr : r.length ≤ n := by
          have := congrArg List.length k3
          simp only [List.length_append, List.length_cons] at this
          omega
        obtain ⟨q1, q2⟩ := ih r d hr hd k4
        constructor
        · intro d0
          obtain ⟨T2, m1, m2⟩ := q1 d0
          exact ⟨.node s T1 c T2, ⟨o, k1, k2, m1⟩, by rw [Bk.flat, m2, k3]⟩
        · intro d0
          obtain ⟨T2, c2, r2, m1, m2, m3, m4⟩ := q2 d0
          exact ⟨.node s T1 c T2, c2, r2, ⟨o, k1, k2, m1⟩, m2, by rw [Bk.flat, k3, m3]; simp, m4⟩
      · by_cases c : s.f0 = 6
        · have e : dNext s d = d - 1 := by rw [dNext, if_neg o, if_pos c]
          rw [e] at h2 h3
          exact ⟨fun d0 => absurd h2 (by omega), fun _ => ⟨.nil, s, t, trivial, c, rfl, h3⟩⟩
        · have e : dNext s d = d := by rw [dNext, if_neg o, if_neg c]
          rw [e] at h2 h3
          obtain ⟨q1, q2⟩ := ih t d (by omega) hd h3
          constructor
          · intro d0
            obtain ⟨T2, m1, m2⟩ := q1 d0
            exact ⟨.leaf s T2, ⟨fun h => o (.inl h), fun h => o (.inr h), c, m1⟩, by rw [Bk.flat, m2]⟩
          · intro d0
            obtain ⟨T2, c2, r2, m1, m2, m3, m4⟩ := q2 d0
            exact ⟨.leaf s T2, c2, r2, ⟨fun h => o (.inl h), fun h => o (.inr h), c, m1⟩, m2, by rw [Bk.flat, m3]; rfl, m4⟩
/-- A valid block is a tree. -/
theorem blockOk_tree {l : List S56} (h : blockOk l = true) : ∃ T : Bk, T.ok ∧ T.flat = l ∧ l.length ≤ 24 ∧ ∀ s ∈ l, stOk s = true := by
  rw [blockOk, Bool.and_eq_true, decide_eq_true_eq] at h
  obtain ⟨T, h1, h2⟩ := (parse l.length l 0 (by omega) (by omega) h.1).1 rfl
  exact ⟨T, h1, h2, by omega, blkOk_all l 0 h.1⟩
/-- What stands at a place of a list. -/
theorem at_mid (pre post : List S56) (s : S56) {i : Int} (hi : i = (pre.length : Int)) : rd_T56 (pre ++ s :: post) i = s := by
  unfold rd_T56
  rw [hi, Int.toNat_natCast, List.getD_eq_getElem?_getD, List.getElem?_append_right (by omega), Nat.sub_self]
  rfl
theorem opening_eq (x : Int) : impl_isOpening.f x = some (decide (x = 4 ∨ x = 5)) := by
  unfold impl_isOpening.f
  by_cases h : x = 4
  · simp [h]
  · by_cases h2 : x = 5 <;> simp [h, h2]
theorem blockI_l (l : List S56) (hl : l.length ≤ 1048576) (n : Nat) : ∀ (k : Nat) (d i : Int), 0 ≤ d → d ≤ 3 → 0 ≤ i → i + (n : Int) = (l.length : Int) → 2 * n + 5 < k →
    impl_BlockOk.l0 k l d l (l.length : Int) i = some (blkOk (l.drop i.toNat) d && decide ((l.length : Int) ≤ 24)) := by
  induction n with
  | zero =>
    intro k d i hd hd3 h0 hi hk
    obtain ⟨k, rfl⟩ := succ_of hk
    simp only [impl_BlockOk.l0]
    rw [if_neg (by omega), List.drop_eq_nil_of_le (by omega), blkOk]
    by_cases h : d = 0 <;> simp [h]
  | succ n ih =>
    intro k d i hd hd3 h0 hi hk
    obtain ⟨k, rfl⟩ := succ_of hk
    obtain ⟨k, rfl⟩ := succ_of (d := 4) (by omega : 4 < k)
    rw [impl_BlockOk.l0, if_pos (by omega), if_pos h0, if_pos (by omega), stmtI_eq _ _ _ _ _ _ _ (by omega), opening_eq, drop_getD z56 h0 (by omega)]
    change (Option.bind (some (stOk (rd_T56 l i))) _) = some (blkOk (rd_T56 l i :: _) d && _)
    generalize rd_T56 l i = s
    rw [blkOk]
    by_cases h1 : stOk s = true
    · simp only [h1, Option.bind_some, if_true, Bool.true_and, impl_BlockOk.j1, w64 (x := i + 1) (by omega) (by omega), w64 (x := d + 1) (by omega) (by omega), w64 (x := d + 1 - 1) (by omega) (by omega), w64 (x := d - 1) (by omega) (by omega), decide_eq_true_eq]
      have go := fun (x : Int) (a : 0 ≤ x) (b : x ≤ 3) => ih k x (i + 1) a b (by omega) (by omega) (by omega)
      unfold dNext
      by_cases o : s.f0 = 4 ∨ s.f0 = 5
      · have n6 : ¬ s.f0 = 6 := by omega
        rw [if_pos o, if_neg n6, if_pos o, if_neg (by omega)]
        by_cases g : d + 1 > 3
        · rw [if_pos g]
          simp
          omega
        · rw [if_neg g, go _ (by omega) (by omega)]
          have : 0 ≤ d + 1 ∧ d + 1 ≤ 3 := by omega
          simp [this]
      · rw [if_neg o, if_neg o]
        by_cases n6 : s.f0 = 6
        · rw [if_pos n6, if_pos n6]
          by_cases g : d - 1 < 0
          · rw [if_pos g]
            simp
            omega
          · rw [if_neg g, if_neg (by omega), go _ (by omega) (by omega)]
            have : 0 ≤ d - 1 ∧ d - 1 ≤ 3 := by omega
            have g1 : 1 ≤ d := by omega
            simp [this, g1]
        · rw [if_neg n6, if_neg n6, if_neg (by omega), if_neg (by omega), go _ hd hd3]
          simp [hd, hd3]
    · simp [h1]
theorem blockI_at (l : List S56) (hl : l.length ≤ 1048576) (k : Nat) (hk : 2 * l.length + 5 < k) : impl_BlockOk.f k l = some (blockOk l) := by
  unfold impl_BlockOk.f blockOk
  rw [blockI_l l hl l.length k 0 0 (by omega) (by omega) (by omega) (by omega) hk]
  simp
theorem and_mask (x : Int) (m : Nat) (hm : m < 9223372036854775808) : 0 ≤ Go.bits .and .i64 x (m : Int) ∧ Go.bits .and .i64 x (m : Int) ≤ (m : Int) := by
  have hb : (BitVec.ofInt 64 (m : Int)).toNat = m := by
    rw [BitVec.ofInt_natCast, BitVec.toNat_ofNat]
    omega
  have h : ((BitVec.ofInt 64 x) &&& (BitVec.ofInt 64 (m : Int))).toNat ≤ m := by
    rw [BitVec.toNat_and, hb]
    exact Nat.and_le_right
  have e : Go.bits .and .i64 x (m : Int) = IntKind.i64.wrap (((BitVec.ofInt 64 x) &&& (BitVec.ofInt 64 (m : Int))).toNat : Int) := rfl
  rw [e, IntKind.wrap_i64]
  omega
theorem and255 (x : Int) : 0 ≤ Go.bits .and .i64 x 255 ∧ Go.bits .and .i64 x 255 ≤ 255 := and_mask x 255 (by omega)
theorem l01Byte_ok (b : List Int) (i h : Int) (h0 : 0 ≤ i) (hb : b.length ≤ 140737488351232) :
    ∃ r i' h', spec_l01Byte.f b i h = some (r, i', h') ∧ 0 ≤ r ∧ r ≤ 255 ∧ 0 ≤ i' := by
  unfold spec_l01Byte.f
  by_cases h1 : i < (b.length : Int)
  · rw [if_pos h1, if_pos h0, w64 (x := i + 1) (by omega) (by omega)]
    exact ⟨_, _, _, rfl, (and255 _).1, (and255 _).2, by omega⟩
  · rw [if_neg h1]
    exact ⟨_, _, _, rfl, (and255 _).1, (and255 _).2, h0⟩
theorem l01Below_ok (b : List Int) (i h n : Int) (h0 : 0 ≤ i) (hb : b.length ≤ 140737488351232) :
    ∃ r i' h', spec_l01Below.f b i h n = some (r, i', h') ∧ 0 ≤ r ∧ (0 < n → r < n) ∧ (n ≤ 0 → r = 0) ∧ 0 ≤ i' := by
  unfold spec_l01Below.f
  by_cases h1 : n ≤ 0
  · rw [if_pos h1]
    exact ⟨_, _, _, rfl, by omega, by omega, by omega, h0⟩
  rw [if_neg h1]
  by_cases h2 : n ≤ 256
  · obtain ⟨r, i', h', e, hr0, hr1, hi'⟩ := l01Byte_ok b i h h0 hb
    rw [if_pos h2, e]
    simp only [Option.bind_some]
    rw [if_neg (by omega)]
    have := tmod_in (a := r) (n := n) hr0 (by omega)
    exact ⟨_, _, _, rfl, this.1, fun _ => this.2, by omega, hi'⟩
  · rw [if_neg h2]
    obtain ⟨x, i1, g1, e1, hx0, hx1, hi1⟩ := l01Byte_ok b i h h0 hb
    obtain ⟨y, i2, g2, e2, hy0, hy1, hi2⟩ := l01Byte_ok b i1 g1 hi1 hb
    obtain ⟨z, i3, g3, e3, hz0, hz1, hi3⟩ := l01Byte_ok b i2 g2 hi2 hb
    obtain ⟨u, i4, g4, e4, hu0, hu1, hi4⟩ := l01Byte_ok b i3 g3 hi3 hb
    simp only [e1, e2, e3, e4, Option.bind_some]
    rw [if_neg (by omega)]
    rw [w64 (x := x * 16777216) (by omega) (by omega), w64 (x := y * 65536) (by omega) (by omega), w64 (x := z * 256) (by omega) (by omega), w64 (x := x * 16777216 + y * 65536) (by omega) (by omega), w64 (x := x * 16777216 + y * 65536 + z * 256) (by omega) (by omega), w64 (x := x * 16777216 + y * 65536 + z * 256 + u) (by omega) (by omega)]
    have := tmod_in (a := x * 16777216 + y * 65536 + z * 256 + u) (n := n) (by omega) (by omega)
    exact ⟨_, _, _, rfl, this.1, fun _ => this.2, by omega, hi4⟩
theorem l01New_l (b : List Int) (_hb : b.length ≤ 140737488351232) (d : Nat) : ∀ (k : Nat) (x i : Int), 0 ≤ i → i ≤ (b.length : Int) → i + (d : Int) = (b.length : Int) → d < k →
    ∃ h, spec_l01New.l0 k b x i = some (b, 0, h) := by
  induction d with
  | zero =>
    intro k x i h0 h1 hi hk
    obtain ⟨k, rfl⟩ := succ_of hk
    simp only [spec_l01New.l0]
    rw [if_neg (by omega)]
    exact ⟨_, rfl⟩
  | succ d ih =>
    intro k x i h0 h1 hi hk
    obtain ⟨k, rfl⟩ := succ_of hk
    simp only [spec_l01New.l0]
    rw [if_pos (by omega)]
    by_cases h2 : i < 4000
    · rw [if_pos h2, if_pos h0, w64 (x := i + 1) (by omega) (by omega)]
      exact ih k _ (i + 1) (by omega) (by omega) (by omega) (by omega)
    · rw [if_neg h2]
      exact ⟨_, rfl⟩
theorem l01New_at (b : List Int) (hb : b.length ≤ 140737488351232) (k : Nat) (hk : b.length < k) : ∃ h, spec_l01New.f k b = some (b, 0, h) := by
  unfold spec_l01New.f
  exact l01New_l b hb b.length k _ 0 (by omega) (by omega) (by omega) hk
theorem l01PickInt_ok (b : List Int) (i h : Int) (l : List Int) (h0 : 0 ≤ i) (hb : b.length ≤ 140737488351232) (hl : 0 < l.length) :
    ∃ r i' h', spec_l01PickInt.f b i h l = some (r, i', h') ∧ r ∈ l ∧ 0 ≤ i' := by
  unfold spec_l01PickInt.f
  obtain ⟨r, i', h', e, hr0, hr1, _, hi'⟩ := l01Below_ok b i h (l.length : Int) h0 hb
  have hr := hr1 (by omega)
  simp only [e, Option.bind_some]
  rw [if_pos hr0, if_pos hr]
  exact ⟨_, _, _, rfl, List.mem_of_getElem? (rd_eq hr0 hr), hi'⟩
theorem l01Once_ok (b : List Int) (i h n : Int) (h0 : 0 ≤ i) (hb : b.length ≤ 140737488351232) : ∃ r i' h', spec_l01Once.f b i h n = some (r, i', h') ∧ 0 ≤ i' := by
  unfold spec_l01Once.f
  obtain ⟨r, i', h', e, _, _, _, hi'⟩ := l01Below_ok b i h n h0 hb
  rw [e]
  exact ⟨_, _, _, rfl, hi'⟩
theorem l03Operand_ok (b : List Int) (i h : Int) (h0 : 0 ≤ i) (hb : b.length ≤ 140737488351232) : ∃ r i' h', spec_l03Operand.f b i h = some (r, i', h') ∧ (-8 ≤ r ∧ r ≤ 999) ∧ 0 ≤ i' := by
  unfold spec_l03Operand.f
  obtain ⟨o, i1, h1, e1, hi1⟩ := l01Once_ok b i h 2 h0 hb
  simp only [e1, Option.bind_some]
  cases o with
  | true =>
    obtain ⟨r, i2, h2, e2, q1, q2, _, hi2⟩ := l01Below_ok b i1 h1 5 hi1 hb
    have := q2 (by omega)
    simp only [if_true, e2, Option.bind_some]
    rw [w64 (by omega) (by omega)]
    exact ⟨_, _, _, rfl, by omega, hi2⟩
  | false =>
    obtain ⟨r, i2, h2, e2, q, hi2⟩ := l01PickInt_ok b i1 h1 [0, 1, 2, 3, 10, 999] hi1 hb (by simp)
    simp only [Bool.false_eq_true, if_false, e2, Option.bind_some]
    simp only [List.mem_cons, List.not_mem_nil, or_false] at q
    exact ⟨_, _, _, rfl, by omega, hi2⟩
theorem l03Expr_ok (b : List Int) (i h : Int) (h0 : 0 ≤ i) (hb : b.length ≤ 140737488351232) : ∃ x y z i' h', spec_l03Expr.f b i h = some (x, y, z, i', h') ∧ exprOk x y z = true ∧ 0 ≤ i' := by
  unfold spec_l03Expr.f
  obtain ⟨r, i1, h1, e1, q1, q2, _, hi1⟩ := l01Below_ok b i h 7 h0 hb
  have := q2 (by omega)
  obtain ⟨s, i2, h2, e2, p2, hi2⟩ := l03Operand_ok b i1 h1 hi1 hb
  obtain ⟨t, i3, h3, e3, p3, hi3⟩ := l03Operand_ok b i2 h2 hi2 hb
  simp only [e1, e2, e3, Option.bind_some]
  rw [w64 (by omega) (by omega)]
  refine ⟨_, _, _, _, _, rfl, ?_, hi3⟩
  unfold exprOk
  exact decide_eq_true ⟨by omega, p2, p3⟩
/-- A drawn statement: valid, and neither an opening nor a closing one. -/
theorem l04Stmt_ok (b : List Int) (i h : Int) (h0 : 0 ≤ i) (hb : b.length ≤ 140737488351232) (k : Nat) (hk : 2 < k) : ∃ x0 x1 x2 x3 x4 x5 i' h', spec_l04Stmt.f k b i h = some (x0, x1, x2, x3, x4, x5, i', h') ∧ (x0 = 1 ∨ x0 = 2 ∨ x0 = 3) ∧ stOk ⟨x0, x1, x2, ⟨x3, x4, x5⟩⟩ = true ∧ 0 ≤ i' := by
  unfold spec_l04Stmt.f
  obtain ⟨k, rfl⟩ := succ_of hk
  obtain ⟨r, i1, h1, e1, q1, q2, _, hi1⟩ := l01Below_ok b i h 7 h0 hb
  have := q2 (by omega)
  simp only [e1, Option.bind_some, spec_l04Stmt.j0]
  have sense : ∃ x0 x1 x2 x3 x4 x5 i' h', ((spec_l01Below.f b i1 h1 5).bind fun bt366 => ((spec_l01Below.f b bt366.2.1 bt366.2.2 4).bind fun bt369 => (some ((2 : Int), bt366.1, bt369.1, (0 : Int), (0 : Int), (0 : Int), bt369.2.1, bt369.2.2)))) = some (x0, x1, x2, x3, x4, x5, i', h') ∧ (x0 = 1 ∨ x0 = 2 ∨ x0 = 3) ∧ stOk ⟨x0, x1, x2, ⟨x3, x4, x5⟩⟩ = true ∧ 0 ≤ i' := by
    obtain ⟨v, i2, h2, e2, a1, a2, _, hi2⟩ := l01Below_ok b i1 h1 5 hi1 hb
    obtain ⟨u, i3, h3, e3, c1, c2, _, hi3⟩ := l01Below_ok b i2 h2 4 hi2 hb
    have := a2 (by omega)
    have := c2 (by omega)
    simp only [e2, e3, Option.bind_some]
    refine ⟨_, _, _, _, _, _, _, _, rfl, .inr (.inl rfl), ?_, hi3⟩
    unfold stOk stmtOk
    simp
    omega
  by_cases c0 : r = 0
  · simp only [c0, if_true, beq_self_eq_true]
    exact sense
  rw [if_neg c0]
  by_cases c1 : r = 1
  · simp only [c1, if_true, beq_self_eq_true]
    exact sense
  have c1' : (r == 1) = false := by simpa using c1
  simp only [c1', Bool.false_eq_true, if_false]
  by_cases c2 : r = 2
  · obtain ⟨x, y, z, i2, h2, e2, p, hi2⟩ := l03Expr_ok b i1 h1 hi1 hb
    simp only [c2, if_true, e2, Option.bind_some]
    refine ⟨_, _, _, _, _, _, _, _, rfl, .inr (.inr rfl), ?_, hi2⟩
    unfold stOk stmtOk
    simp [p]
  · rw [if_neg c2]
    obtain ⟨v, i2, h2, e2, a1, a2, _, hi2⟩ := l01Below_ok b i1 h1 5 hi1 hb
    have := a2 (by omega)
    obtain ⟨x, y, z, i3, h3, e3, p, hi3⟩ := l03Expr_ok b i2 h2 hi2 hb
    simp only [e2, e3, Option.bind_some]
    refine ⟨_, _, _, _, _, _, _, _, rfl, .inl rfl, ?_, hi3⟩
    unfold stOk stmtOk
    simp [p]
    omega
/-- A piece of a block: it may stand where no more than d0 are open. -/
def piece (x : List S56) (d0 : Int) : Prop := ∀ (d : Int) (r : List S56), 0 ≤ d → d ≤ d0 → blkOk (x ++ r) d = blkOk r d
theorem piece_nil (d0 : Int) : piece [] d0 := fun d r h0 h1 => rfl
theorem piece_app {x y : List S56} {d0 : Int} (h1 : piece x d0) (h2 : piece y d0) : piece (x ++ y) d0 := by
  intro d r h0 h
  rw [List.append_assoc, h1 d _ h0 h, h2 d r h0 h]
theorem piece_one {s : S56} {d0 : Int} (hs : stOk s = true) (hk : s.f0 = 1 ∨ s.f0 = 2 ∨ s.f0 = 3) (hd : d0 ≤ 3) : piece [s] d0 := by
  intro d r h0 h
  have e : dNext s d = d := by rw [dNext, if_neg (by omega), if_neg (by omega)]
  rw [List.singleton_append, blkOk, e, hs, decide_eq_true (by omega : 0 ≤ d ∧ d ≤ 3)]
  simp
theorem piece_node {s c : S56} {x : List S56} {d0 : Int} (hs : stOk s = true) (hk : s.f0 = 4 ∨ s.f0 = 5) (hc : stOk c = true) (hc6 : c.f0 = 6) (hx : piece x (d0 + 1)) (hd : d0 ≤ 2) : piece (s :: (x ++ [c])) d0 := by
  intro d r h0 h
  have e : dNext s d = d + 1 := by rw [dNext, if_pos hk]
  have e2 : dNext c (d + 1) = d := by
    rw [dNext, if_neg (by omega), if_pos hc6]
    omega
  rw [List.cons_append, List.append_assoc, blkOk, e, hx (d + 1) _ (by omega) (by omega), List.singleton_append, blkOk, e2, hs, hc, decide_eq_true (by omega : 0 ≤ d + 1 ∧ d + 1 ≤ 3), decide_eq_true (by omega : 0 ≤ d ∧ d ≤ 3)]
  simp
theorem endStmt_ok : stOk ⟨6, 0, 0, ⟨0, 0, 0⟩⟩ = true := by
  unfold stOk stmtOk
  simp
theorem leafStep (b : List Int) (hb : b.length ≤ 140737488351232) (p h : Int) (hp : 0 ≤ p) (k : Nat) (hk : 2 < k) :
    ∃ s p' h', stOk s = true ∧ (s.f0 = 1 ∨ s.f0 = 2 ∨ s.f0 = 3) ∧ 0 ≤ p' ∧ ∀ (cnt dep i : Int) (x : List S56), x.length ≤ 1000 → spec_l05Block.j1 (k + 1) cnt dep x i false b p h = spec_l05Block.l0 k cnt dep (x ++ [s]) (wrap64 (i + 1)) b p' h' := by
  obtain ⟨x0, x1, x2, x3, x4, x5, p', h', e, hk3, hok, hp'⟩ := l04Stmt_ok b p h hp hb k hk
  refine ⟨⟨x0, x1, x2, ⟨x3, x4, x5⟩⟩, p', h', hok, hk3, hp', fun cnt dep i x hx => ?_⟩
  rw [spec_l05Block.j1, if_neg (by simp), e]
  simp only [Option.bind_some]
  rw [if_pos (by omega)]
theorem nodeStep (b : List Int) (hb : b.length ≤ 140737488351232) (dep : Int) (hd : 0 ≤ dep) (hd2 : dep ≤ 1) (L k : Nat) (hL : L ≤ 1000) (hn : ∀ c p h : Int, 0 ≤ p → 1 ≤ c → c ≤ 2 → ∃ r p' h', spec_l05Block.f k b p h c (dep + 1) = some (r, p', h') ∧ piece r (dep + 1) ∧ r.length ≤ L ∧ 0 ≤ p') (p h : Int) (hp : 0 ≤ p) :
    ∃ s r p' h', stOk s = true ∧ (s.f0 = 4 ∨ s.f0 = 5) ∧ piece r (dep + 1) ∧ r.length ≤ L ∧ 0 ≤ p' ∧ ∀ (cnt i : Int) (x : List S56), x.length ≤ 1000 → spec_l05Block.j1 (k + 1) cnt dep x i true b p h = spec_l05Block.l0 k cnt dep (x ++ s :: (r ++ [⟨6, 0, 0, ⟨0, 0, 0⟩⟩])) (wrap64 (i + 1)) b p' h' := by
  obtain ⟨n, p1, h1, e1, a1, a2, _, hp1⟩ := l01Below_ok b p h 3 hp hb
  have := a2 (by omega)
  obtain ⟨o, p2, h2, e2, hp2⟩ := l01Once_ok b p1 h1 2 hp1 hb
  have wd : wrap64 (dep + 1) = dep + 1 := w64 (by omega) (by omega)
  cases o with
  | true =>
    obtain ⟨x, y, z, p3, h3, e3, ok3, hp3⟩ := l03Expr_ok b p2 h2 hp2 hb
    obtain ⟨m, p4, h4, e4, c1, c2, _, hp4⟩ := l01Below_ok b p3 h3 2 hp3 hb
    have := c2 (by omega)
    obtain ⟨r, p5, h5, e5, pr, lr, hp5⟩ := hn (1 + m) p4 h4 hp4 (by omega) (by omega)
    refine ⟨⟨4, 0, 0, ⟨x, y, z⟩⟩, r, p5, h5, by unfold stOk stmtOk; simp [ok3], .inl rfl, pr, lr, hp5, fun cnt i q hq => ?_⟩
    rw [spec_l05Block.j1, if_pos rfl, e1]
    simp only [Option.bind_some]
    rw [e2]
    simp only [Option.bind_some, if_true]
    rw [e3]
    simp only [Option.bind_some]
    rw [if_pos (by omega), e4]
    simp only [Option.bind_some]
    rw [wd, w64 (x := 1 + m) (by omega) (by omega), e5]
    simp only [Option.bind_some]
    rw [if_pos (by simp only [List.length_append, List.length_cons, List.length_nil]; omega), if_pos (by simp only [List.length_append, List.length_cons, List.length_nil]; omega)]
    simp only [List.append_assoc, List.singleton_append]
    rfl
  | false =>
    obtain ⟨m, p4, h4, e4, c1, c2, _, hp4⟩ := l01Below_ok b p2 h2 2 hp2 hb
    have := c2 (by omega)
    obtain ⟨r, p5, h5, e5, pr, lr, hp5⟩ := hn (1 + m) p4 h4 hp4 (by omega) (by omega)
    refine ⟨⟨5, 0, 1 + n, ⟨0, 0, 0⟩⟩, r, p5, h5, by unfold stOk stmtOk; simp; omega, .inr rfl, pr, lr, hp5, fun cnt i q hq => ?_⟩
    rw [spec_l05Block.j1, if_pos rfl, e1]
    simp only [Option.bind_some]
    rw [e2]
    simp only [Option.bind_some, Bool.false_eq_true, if_false]
    rw [if_pos (by omega), e4]
    simp only [Option.bind_some]
    rw [wd, w64 (x := 1 + m) (by omega) (by omega), w64 (x := 1 + n) (by omega) (by omega), e5]
    simp only [Option.bind_some]
    rw [if_pos (by simp only [List.length_append, List.length_cons, List.length_nil]; omega), if_pos (by simp only [List.length_append, List.length_cons, List.length_nil]; omega)]
    simp only [List.append_assoc, List.singleton_append]
    rfl
theorem block2_l (b : List Int) (hb : b.length ≤ 140737488351232) (cnt : Int) (hc : cnt ≤ 2) (n : Nat) : ∀ (k : Nat) (x : List S56) (i p h : Int), 0 ≤ p → 0 ≤ i → i + (n : Int) = cnt → piece x 2 → (x.length : Int) ≤ i → 2 * n + 4 < k →
    ∃ r p' h', spec_l05Block.l0 k cnt 2 x i b p h = some (r, p', h') ∧ piece r 2 ∧ r.length ≤ 2 ∧ 0 ≤ p' := by
  induction n with
  | zero =>
    intro k x i p h hp h0 hi hx hl hk
    obtain ⟨k, rfl⟩ := succ_of hk
    rw [spec_l05Block.l0, if_neg (by omega)]
    exact ⟨_, _, _, rfl, hx, by omega, hp⟩
  | succ n ih =>
    intro k x i p h hp h0 hi hx hl hk
    obtain ⟨k, rfl⟩ := succ_of hk
    obtain ⟨k, rfl⟩ := succ_of (d := 3) (by omega : 3 < k)
    obtain ⟨s, p', h', a1, a2, a3, a4⟩ := leafStep b hb p h hp k (by omega)
    rw [spec_l05Block.l0, if_pos (by omega), if_neg (by omega), a4 _ _ _ _ (by omega), w64 (by omega) (by omega)]
    exact ih k _ (i + 1) p' h' a3 (by omega) (by omega) (piece_app hx (piece_one a1 a2 (by omega))) (by simp only [List.length_append, List.length_cons, List.length_nil]; omega) (by omega)
theorem block1_l (b : List Int) (hb : b.length ≤ 140737488351232) (cnt : Int) (hc : cnt ≤ 2) (n : Nat) : ∀ (k : Nat) (x : List S56) (i p h : Int), 0 ≤ p → 0 ≤ i → i + (n : Int) = cnt → piece x 1 → (x.length : Int) ≤ 4 * i → 2 * n + 20 < k →
    ∃ r p' h', spec_l05Block.l0 k cnt 1 x i b p h = some (r, p', h') ∧ piece r 1 ∧ r.length ≤ 8 ∧ 0 ≤ p' := by
  induction n with
  | zero =>
    intro k x i p h hp h0 hi hx hl hk
    obtain ⟨k, rfl⟩ := succ_of hk
    rw [spec_l05Block.l0, if_neg (by omega)]
    exact ⟨_, _, _, rfl, hx, by omega, hp⟩
  | succ n ih =>
    intro k x i p h hp h0 hi hx hl hk
    obtain ⟨k, rfl⟩ := succ_of hk
    obtain ⟨k, rfl⟩ := succ_of (d := 18) (by omega : 18 < k)
    have leaf : ∀ p h : Int, 0 ≤ p → ∃ r p' h', spec_l05Block.j1 (k + 1) cnt 1 x i false b p h = some (r, p', h') ∧ piece r 1 ∧ r.length ≤ 8 ∧ 0 ≤ p' := by
      intro p h hp
      obtain ⟨s, p', h', a1, a2, a3, a4⟩ := leafStep b hb p h hp k (by omega)
      rw [a4 _ _ _ _ (by omega), w64 (by omega) (by omega)]
      exact ih k _ (i + 1) p' h' a3 (by omega) (by omega) (piece_app hx (piece_one a1 a2 (by omega))) (by simp only [List.length_append, List.length_cons, List.length_nil]; omega) (by omega)
    rw [spec_l05Block.l0, if_pos (by omega), if_pos (by omega)]
    by_cases h6 : (x.length : Int) < 6
    · rw [if_pos h6]
      obtain ⟨o, p1, h1, e1, hp1⟩ := l01Once_ok b p h 5 hp hb
      rw [e1]
      simp only [Option.bind_some]
      cases o with
      | false => exact leaf p1 h1 hp1
      | true =>
        have nest : ∀ c p h : Int, 0 ≤ p → 1 ≤ c → c ≤ 2 → ∃ r p' h', spec_l05Block.f k b p h c (1 + 1) = some (r, p', h') ∧ piece r (1 + 1) ∧ r.length ≤ 2 ∧ 0 ≤ p' := by
          intro c p h hp c1 c2
          obtain ⟨m, rfl⟩ := succ_of (d := 17) (by omega : 17 < k)
          rw [spec_l05Block.f]
          exact block2_l b hb c c2 c.toNat m [] 0 p h hp (by omega) (by omega) (piece_nil 2) (by simp) (by omega)
        obtain ⟨s, r, p', h', a1, a2, a3, a4, a5, a6⟩ := nodeStep b hb 1 (by omega) (by omega) 2 k (by omega) nest p1 h1 hp1
        rw [a6 _ _ _ (by omega), w64 (by omega) (by omega)]
        exact ih k _ (i + 1) p' h' a5 (by omega) (by omega) (piece_app hx (piece_node a1 a2 endStmt_ok rfl a3 (by omega))) (by simp only [List.length_append, List.length_cons, List.length_nil]; omega) (by omega)
    · rw [if_neg h6]
      exact leaf p h hp
theorem block0_l (b : List Int) (hb : b.length ≤ 140737488351232) (cnt : Int) (hc : cnt ≤ 5) (n : Nat) : ∀ (k : Nat) (x : List S56) (i p h : Int), 0 ≤ p → 0 ≤ i → i + (n : Int) = cnt → piece x 0 → (x.length : Int) ≤ 15 + i → 2 * n + 40 < k →
    ∃ r p' h', spec_l05Block.l0 k cnt 0 x i b p h = some (r, p', h') ∧ piece r 0 ∧ r.length ≤ 20 ∧ 0 ≤ p' := by
  induction n with
  | zero =>
    intro k x i p h hp h0 hi hx hl hk
    obtain ⟨k, rfl⟩ := succ_of hk
    rw [spec_l05Block.l0, if_neg (by omega)]
    exact ⟨_, _, _, rfl, hx, by omega, hp⟩
  | succ n ih =>
    intro k x i p h hp h0 hi hx hl hk
    obtain ⟨k, rfl⟩ := succ_of hk
    obtain ⟨k, rfl⟩ := succ_of (d := 38) (by omega : 38 < k)
    have leaf : ∀ p h : Int, 0 ≤ p → ∃ r p' h', spec_l05Block.j1 (k + 1) cnt 0 x i false b p h = some (r, p', h') ∧ piece r 0 ∧ r.length ≤ 20 ∧ 0 ≤ p' := by
      intro p h hp
      obtain ⟨s, p', h', a1, a2, a3, a4⟩ := leafStep b hb p h hp k (by omega)
      rw [a4 _ _ _ _ (by omega), w64 (by omega) (by omega)]
      exact ih k _ (i + 1) p' h' a3 (by omega) (by omega) (piece_app hx (piece_one a1 a2 (by omega))) (by simp only [List.length_append, List.length_cons, List.length_nil]; omega) (by omega)
    rw [spec_l05Block.l0, if_pos (by omega), if_pos (by omega)]
    by_cases h6 : (x.length : Int) < 6
    · rw [if_pos h6]
      obtain ⟨o, p1, h1, e1, hp1⟩ := l01Once_ok b p h 5 hp hb
      rw [e1]
      simp only [Option.bind_some]
      cases o with
      | false => exact leaf p1 h1 hp1
      | true =>
        have nest : ∀ c p h : Int, 0 ≤ p → 1 ≤ c → c ≤ 2 → ∃ r p' h', spec_l05Block.f k b p h c (0 + 1) = some (r, p', h') ∧ piece r (0 + 1) ∧ r.length ≤ 8 ∧ 0 ≤ p' := by
          intro c p h hp c1 c2
          obtain ⟨m, rfl⟩ := succ_of (d := 37) (by omega : 37 < k)
          rw [spec_l05Block.f]
          exact block1_l b hb c c2 c.toNat m [] 0 p h hp (by omega) (by omega) (piece_nil 1) (by simp) (by omega)
        obtain ⟨s, r, p', h', a1, a2, a3, a4, a5, a6⟩ := nodeStep b hb 0 (by omega) (by omega) 8 k (by omega) nest p1 h1 hp1
        rw [a6 _ _ _ (by omega), w64 (by omega) (by omega)]
        exact ih k _ (i + 1) p' h' a5 (by omega) (by omega) (piece_app hx (piece_node a1 a2 endStmt_ok rfl a3 (by omega))) (by simp only [List.length_append, List.length_cons, List.length_nil]; omega) (by omega)
    · rw [if_neg h6]
      exact leaf p h hp
theorem l05Case_ok (b : List Int) (hb : b.length ≤ 140737488351232) (p h : Int) (hp : 0 ≤ p) (k : Nat) (hk : 60 < k) : ∃ r p' h', spec_l05Case.f k b p h = some (r, p', h') ∧ blockOk r = true ∧ 0 ≤ p' := by
  unfold spec_l05Case.f
  obtain ⟨n, p1, h1, e1, a1, a2, _, hp1⟩ := l01Below_ok b p h 6 hp hb
  have := a2 (by omega)
  obtain ⟨m, rfl⟩ := succ_of (d := 59) (by omega : 59 < k)
  obtain ⟨r, p2, h2, e2, q1, q2, hp2⟩ := block0_l b hb n (by omega) n.toNat m [] 0 p1 h1 hp1 (by omega) (by omega) (piece_nil 0) (by simp) (by omega)
  rw [e1]
  simp only [Option.bind_some]
  rw [spec_l05Block.f, e2]
  refine ⟨_, _, _, rfl, ?_, hp2⟩
  have := q1 0 [] (by omega) (by omega)
  rw [List.append_nil] at this
  rw [blockOk, this, decide_eq_true (by omega : (r.length : Int) ≤ 24)]
  rfl
theorem places_l (b : List Int) (hb : b.length ≤ 140737488351232) (d : Nat) : ∀ (k : Nat) (acc : List Int) (j i h : Int), 0 ≤ j → 0 ≤ i → j + (d : Int) = 12 → acc.length + d = 12 → (∀ x ∈ acc, 0 ≤ x ∧ x < 10000) → d < k →
    ∃ r, spec_DrawPlaces.l0 k acc j b i h = some r ∧ r.length = 12 ∧ ∀ x ∈ r, 0 ≤ x ∧ x < 10000 := by
  induction d with
  | zero =>
    intro k acc j i h h0 hi0 hj hl ha hk
    obtain ⟨k, rfl⟩ := succ_of hk
    simp only [spec_DrawPlaces.l0]
    rw [if_neg (by omega)]
    exact ⟨_, rfl, by omega, ha⟩
  | succ d ih =>
    intro k acc j i h h0 hi0 hj hl ha hk
    obtain ⟨k, rfl⟩ := succ_of hk
    simp only [spec_DrawPlaces.l0]
    obtain ⟨r, i', h', e, hr0, hr1, _, hi'⟩ := l01Below_ok b i h 10000 hi0 hb
    rw [if_pos (by omega)]
    simp only [e, Option.bind_some]
    rw [if_pos (by omega), w64 (x := j + 1) (by omega) (by omega)]
    refine ih k _ (j + 1) i' h' (by omega) hi' (by omega) (by simp; omega) ?_ (by omega)
    intro x hx
    rcases List.mem_append.1 hx with hx | hx
    · exact ha x hx
    · rw [List.mem_singleton.1 hx]
      exact ⟨hr0, hr1 (by omega)⟩
theorem places_at (b : List Int) (hb : b.length ≤ 140737488351232) (k : Nat) (hk : b.length < k) (hk2 : 12 < k) :
    ∃ r, spec_DrawPlaces.f k b = some r ∧ r.length = 12 ∧ ∀ x ∈ r, 0 ≤ x ∧ x < 10000 := by
  unfold spec_DrawPlaces.f
  obtain ⟨h, e⟩ := l01New_at b hb k hk
  simp only [e, Option.bind_some]
  exact places_l b hb 12 k [] 0 0 h (by omega) (by omega) (by omega) (by simp) (by simp) hk2
theorem stOk_loop {s : S56} (h : stOk s = true) (o : s.f0 = 5) : 1 ≤ s.f2 ∧ s.f2 ≤ 5 := by
  unfold stOk stmtOk at h
  simp [o] at h
  omega
theorem stOk_if {s : S56} (h : stOk s = true) (o : s.f0 = 4) : s.f2 = 0 := by
  unfold stOk stmtOk at h
  simp [o] at h
  omega
theorem stOk_set {s : S56} (h : stOk s = true) (o : s.f0 = 1) : (0 ≤ s.f1 ∧ s.f1 ≤ 7) ∧ exprOk s.f3.f0 s.f3.f1 s.f3.f2 = true := by
  unfold stOk stmtOk at h
  simp only [o, if_true, Bool.and_eq_true, decide_eq_true_eq] at h
  exact ⟨h.1.1, h.2⟩
theorem stOk_sense {s : S56} (h : stOk s = true) (o : s.f0 = 2) : (0 ≤ s.f1 ∧ s.f1 ≤ 7) ∧ 0 ≤ s.f2 ∧ s.f2 ≤ 3 := by
  unfold stOk stmtOk at h
  simp [o] at h
  omega
theorem stOk_expr {s : S56} (h : stOk s = true) (o : s.f0 = 3 ∨ s.f0 = 4) : exprOk s.f3.f0 s.f3.f1 s.f3.f2 = true := by
  unfold stOk stmtOk at h
  have h1 : ¬ s.f0 = 1 := by omega
  have h2 : ¬ s.f0 = 2 := by omega
  simp only [h1, h2, o, if_true, if_false, Bool.and_eq_true] at h
  exact h.2
theorem take_drop_mid {α : Type} (pre m post : List α) {i j : Int} (hi : i = (pre.length : Int)) (hj : j = i + (m.length : Int)) : ((pre ++ (m ++ post)).take j.toNat).drop i.toNat = m := by
  have h1 : j.toNat = pre.length + m.length := by omega
  have h2 : i.toNat = pre.length := by omega
  rw [h1, h2, ← List.append_assoc, List.take_append_of_le_length (by simp), List.take_of_length_le (by simp), List.drop_left]
theorem endI_l : ∀ (T : Bk), T.ok → ∀ (k : Nat) (pre post : List S56) (x i : Int), i = (pre.length : Int) → (pre ++ (T.flat ++ post)).length ≤ 1048576 → 1 ≤ x → x + (T.flat.length : Int) ≤ 4000000 → 2 * T.flat.length < k →
    impl_endOf.l0 k (pre ++ (T.flat ++ post)) x i = impl_endOf.l0 (k - 2 * T.flat.length) (pre ++ (T.flat ++ post)) x (i + (T.flat.length : Int))
  | .nil, _, k, pre, post, x, i, hi, hl, hx, hx2, hk => by
    simp [Bk.flat]
  | .leaf s t, ok, k, pre, post, x, i, hi, hl, hx, hx2, hk => by
    simp only [Bk.flat, List.length_cons, List.length_append, List.cons_append] at hk hl hx2 ⊢
    obtain ⟨k, rfl⟩ := succ_of (d := 1) (by omega : 1 < k)
    obtain ⟨k, rfl⟩ := succ_of (d := 0) (by omega : 0 < k)
    have e := at_mid pre (t.flat ++ post) s hi
    rw [impl_endOf.l0, if_pos (by simp only [List.length_append, List.length_cons]; omega), if_pos (by omega), e, opening_eq]
    have n4 : ¬ (s.f0 = 4 ∨ s.f0 = 5) := fun h => h.elim ok.1 ok.2.1
    simp only [Option.bind_some, decide_eq_true_eq]
    rw [if_neg n4, impl_endOf.j1, if_pos (by omega), if_pos (by simp only [List.length_append, List.length_cons]; omega), e, if_neg ok.2.2.1, if_neg (by omega), w64 (by omega) (by omega)]
    have r := endI_l t ok.2.2.2 k (pre ++ [s]) post x (i + 1) (by simp only [List.length_append, List.length_cons, List.length_nil]; omega) (by simp only [List.length_append, List.length_cons, List.length_nil]; omega) hx (by omega) (by omega)
    simp only [List.append_assoc, List.singleton_append] at r
    rw [r]
    congr 1
    · omega
    · omega
  | .node s b c t, ok, k, pre, post, x, i, hi, hl, hx, hx2, hk => by
    obtain ⟨o, ob, oc, ot⟩ := ok
    simp only [Bk.flat, List.length_cons, List.length_append, List.cons_append, List.append_assoc] at hk hl hx2 ⊢
    obtain ⟨k, rfl⟩ := succ_of (d := 1) (by omega : 1 < k)
    obtain ⟨k, rfl⟩ := succ_of (d := 0) (by omega : 0 < k)
    have e := at_mid pre (b.flat ++ c :: (t.flat ++ post)) s hi
    rw [impl_endOf.l0, if_pos (by simp only [List.length_append, List.length_cons]; omega), if_pos (by omega), e, opening_eq]
    simp only [Option.bind_some, decide_eq_true_eq]
    rw [if_pos o, impl_endOf.j1, if_pos (by omega), if_pos (by simp only [List.length_append, List.length_cons]; omega), e, if_neg (by omega), w64 (x := i + 1) (by omega) (by omega), w64 (x := x + 1) (by omega) (by omega), if_neg (by omega)]
    have r := endI_l b ob k (pre ++ [s]) (c :: (t.flat ++ post)) (x + 1) (i + 1) (by simp only [List.length_append, List.length_cons, List.length_nil]; omega) (by simp only [List.length_append, List.length_cons, List.length_nil]; omega) (by omega) (by omega) (by omega)
    simp only [List.append_assoc, List.singleton_append] at r
    rw [r]
    obtain ⟨m, em⟩ := succ_of (d := 1) (by omega : 1 < k - 2 * b.flat.length)
    rw [em]
    obtain ⟨m, rfl⟩ := succ_of (d := 0) (by omega : 0 < m)
    have e2 : rd_T56 (pre ++ s :: (b.flat ++ c :: (t.flat ++ post))) (i + 1 + (b.flat.length : Int)) = c := by
      have := at_mid (pre ++ s :: b.flat) (t.flat ++ post) c (i := i + 1 + (b.flat.length : Int)) (by simp only [List.length_append, List.length_cons]; omega)
      simpa only [List.append_assoc, List.cons_append] using this
    rw [impl_endOf.l0, if_pos (by simp only [List.length_append, List.length_cons]; omega), if_pos (by omega), e2, opening_eq]
    simp only [Option.bind_some, decide_eq_true_eq]
    rw [if_neg (by omega), impl_endOf.j1, if_pos (by omega), if_pos (by simp only [List.length_append, List.length_cons]; omega), e2, if_pos oc, w64 (x := x + 1 - 1) (by omega) (by omega), if_neg (by omega), w64 (by omega) (by omega), Int.add_sub_cancel]
    have r2 := endI_l t ot m (pre ++ s :: (b.flat ++ [c])) post x (i + 1 + (b.flat.length : Int) + 1) (by simp only [List.length_append, List.length_cons, List.length_nil]; omega) (by simp only [List.length_append, List.length_cons, List.length_nil]; omega) hx (by omega) (by omega)
    simp only [List.append_assoc, List.nil_append, List.cons_append] at r2
    rw [r2]
    congr 1
    · omega
    · omega
/-- Where the statement that closes an opening one stands. -/
theorem endI_at (pre post : List S56) (s c : S56) (b : Bk) (ok : b.ok) (o : s.f0 = 4 ∨ s.f0 = 5) (oc : c.f0 = 6) (i : Int) (hi : i = (pre.length : Int)) (hl : (pre ++ s :: (b.flat ++ c :: post)).length ≤ 1048576) (k : Nat) (hk : 2 * b.flat.length + 4 < k) :
    impl_endOf.f k (pre ++ s :: (b.flat ++ c :: post)) i = some (i + 1 + (b.flat.length : Int)) := by
  unfold impl_endOf.f
  have hl' := hl
  simp only [List.length_append, List.length_cons] at hl'
  obtain ⟨k, rfl⟩ := succ_of (d := 1) (by omega : 1 < k)
  obtain ⟨k, rfl⟩ := succ_of (d := 0) (by omega : 0 < k)
  have e := at_mid pre (b.flat ++ c :: post) s hi
  rw [impl_endOf.l0, if_pos (by simp only [List.length_append, List.length_cons]; omega), if_pos (by omega), e, opening_eq]
  simp only [Option.bind_some, decide_eq_true_eq]
  rw [if_pos o, impl_endOf.j1, if_pos (by omega), if_pos (by simp only [List.length_append, List.length_cons]; omega), e, if_neg (by omega), w64 (x := i + 1) (by omega) (by omega), w64 (x := 0 + 1) (by omega) (by omega), if_neg (by omega)]
  have r := endI_l b ok k (pre ++ [s]) (c :: post) (0 + 1) (i + 1) (by simp only [List.length_append, List.length_cons, List.length_nil]; omega) (by simp only [List.length_append, List.length_cons, List.length_nil]; omega) (by omega) (by omega) (by omega)
  simp only [List.append_assoc, List.singleton_append] at r
  rw [r]
  obtain ⟨m, em⟩ := succ_of (d := 1) (by omega : 1 < k - 2 * b.flat.length)
  rw [em]
  obtain ⟨m, rfl⟩ := succ_of (d := 0) (by omega : 0 < m)
  have e2 : rd_T56 (pre ++ s :: (b.flat ++ c :: post)) (i + 1 + (b.flat.length : Int)) = c := by
    have := at_mid (pre ++ s :: b.flat) post c (i := i + 1 + (b.flat.length : Int)) (by simp only [List.length_append, List.length_cons]; omega)
    simpa only [List.append_assoc, List.cons_append] using this
  rw [impl_endOf.l0, if_pos (by simp only [List.length_append, List.length_cons]; omega), if_pos (by omega), e2, opening_eq]
  simp only [Option.bind_some, decide_eq_true_eq]
  rw [if_neg (by omega), impl_endOf.j1, if_pos (by omega), if_pos (by simp only [List.length_append, List.length_cons]; omega), e2, if_pos oc, w64 (x := 0 + 1 - 1) (by omega) (by omega), if_pos (by omega)]
section
open Go.Lib
/-- Strictly ascending. -/
abbrev Asc (l : List Int) : Prop := l.Pairwise (· < ·)
theorem asc_ext : ∀ {a b : List Int}, Asc a → Asc b → (∀ x, x ∈ a ↔ x ∈ b) → a = b
  | [], [], _, _, _ => rfl
  | [], y :: ys, _, _, h => absurd ((h y).2 List.mem_cons_self) (by simp)
  | x :: xs, [], _, _, h => absurd ((h x).1 List.mem_cons_self) (by simp)
  | x :: xs, y :: ys, ha, hb, h => by
    rw [Asc, List.pairwise_cons] at ha hb
    have e : x = y := by
      have h1 := (h x).1 List.mem_cons_self
      have h2 := (h y).2 List.mem_cons_self
      rcases List.mem_cons.1 h1 with e | h1
      · exact e
      · rcases List.mem_cons.1 h2 with e | h2
        · exact e.symm
        · have := hb.1 x h1
          have := ha.1 y h2
          omega
    subst e
    rw [asc_ext ha.2 hb.2 (fun z => ?_)]
    have := h z
    simp only [List.mem_cons] at this
    constructor
    · intro hz
      rcases this.1 (.inr hz) with e | h
      · subst e
        have := ha.1 z hz
        omega
      · exact h
    · intro hz
      rcases this.2 (.inr hz) with e | h
      · subst e
        have := hb.1 z hz
        omega
      · exact h
theorem compactUpTo_sorted (d : Array Int) (hs : ∀ i j, i ≤ j → j < d.size → d[i]! ≤ d[j]!) : ∀ m, m ≤ d.size → Asc (compactUpTo d m) ∧ (∀ x ∈ compactUpTo d m, ∃ j, j < m ∧ d[j]! = x) ∧ ∀ j, j < m → d[j]! ∈ compactUpTo d m
  | 0, _ => by
    have e : compactUpTo d 0 = [] := by simp [compactUpTo]
    rw [e]
    exact ⟨List.Pairwise.nil, fun x hx => by simp at hx, fun j hj => by omega⟩
  | m + 1, hm => by
    obtain ⟨h1, h2, h3⟩ := compactUpTo_sorted d hs m (by omega)
    rw [compactUpTo_succ]
    by_cases hk : keeps d m = true
    · rw [if_pos hk]
      refine ⟨List.pairwise_append.2 ⟨h1, List.pairwise_singleton _ _, ?_⟩, ?_, ?_⟩
      · intro x hx y hy
        rw [List.mem_singleton] at hy
        subst hy
        obtain ⟨j, hj, rfl⟩ := h2 x hx
        have q := of_decide_eq_true hk
        have a1 := hs j (m - 1) (by omega) (by omega)
        have a2 := hs (m - 1) m (by omega) (by omega)
        have a3 : d[m]! ≠ d[m - 1]! := by
          rcases q with q | q
          · omega
          · exact q
        omega
      · intro x hx
        rcases List.mem_append.1 hx with hx | hx
        · obtain ⟨j, hj, e⟩ := h2 x hx
          exact ⟨j, by omega, e⟩
        · rw [List.mem_singleton] at hx
          exact ⟨m, by omega, hx.symm⟩
      · intro j hj
        by_cases e : j = m
        · subst e
          exact List.mem_append.2 (.inr (List.mem_singleton.2 rfl))
        · exact List.mem_append.2 (.inl (h3 j (by omega)))
    · rw [if_neg hk, List.append_nil]
      have q : ¬ (m = 0 ∨ d[m]! ≠ d[m - 1]!) := fun h => hk (decide_eq_true h)
      refine ⟨h1, fun x hx => ?_, fun j hj => ?_⟩
      · obtain ⟨j, hj, e⟩ := h2 x hx
        exact ⟨j, by omega, e⟩
      · by_cases e : j = m
        · subst e
          have e2 : d[j]! = d[j - 1]! := Classical.byContradiction fun h => q (.inr h)
          rw [e2]
          exact h3 (j - 1) (by omega)
        · exact h3 j (by omega)
/-- What slices.Sort and slices.Compact make of a list: its members, strictly ascending. -/
def touch (l : List Int) : List Int := compact (l.mergeSort fun x y => decide (x ≤ y))
theorem touch_at (l : List Int) : Asc (touch l) ∧ (∀ x, x ∈ touch l ↔ x ∈ l) ∧ (touch l).length ≤ l.length := by
  have hp : (l.mergeSort fun x y => decide (x ≤ y)).Pairwise (fun x y => decide (x ≤ y) = true) := List.pairwise_mergeSort (fun a b c h1 h2 => by simp only [decide_eq_true_eq] at *; omega) (fun a b => by simp only [Bool.or_eq_true, decide_eq_true_eq]; omega) l
  have hm : ∀ x, x ∈ (l.mergeSort fun x y => decide (x ≤ y)) ↔ x ∈ l := fun x => List.mem_mergeSort
  have hl : (l.mergeSort fun x y => decide (x ≤ y)).length = l.length := List.length_mergeSort l
  unfold touch
  generalize (l.mergeSort fun x y => decide (x ≤ y)) = z at hp hm hl
  have hs : ∀ i j, i ≤ j → j < z.toArray.size → z.toArray[i]! ≤ z.toArray[j]! := by
    intro i j hij hj
    have hj' : j < z.length := by simpa using hj
    by_cases e : i = j
    · subst e
      exact Int.le_refl _
    · have := List.pairwise_iff_getElem.1 hp i j (by omega) hj' (by omega)
      simpa [List.getElem!_toArray, hj', show i < z.length by omega] using this
  obtain ⟨h1, h2, h3⟩ := compactUpTo_sorted z.toArray hs z.length (by simp)
  refine ⟨h1, fun x => ?_, ?_⟩
  · rw [← hm]
    constructor
    · intro hx
      obtain ⟨j, hj, e⟩ := h2 x hx
      rw [← e]
      simp [hj]
    · intro hx
      obtain ⟨j, hj, e⟩ := List.mem_iff_getElem.1 hx
      have := h3 j hj
      simp [hj] at this
      rw [e] at this
      exact this
  · have : (compact z).length ≤ z.length := by
      unfold compact compactUpTo
      rw [List.length_map]
      have := List.length_filter_le (keeps z.toArray) (List.range z.length)
      rw [List.length_range] at this
      exact this
    omega
end
/-- Where an opening statement stands: what it holds. -/
theorem flat_node : ∀ (T : Bk), T.ok → ∀ (j : Nat) (x : S56), T.flat[j]? = some x → x.f0 = 4 ∨ x.f0 = 5 → ∃ (pre post : List S56) (b : Bk) (c : S56), T.flat = pre ++ x :: (b.flat ++ c :: post) ∧ pre.length = j ∧ b.ok ∧ c.f0 = 6
  | .nil, _, j, x, h, _ => by simp [Bk.flat] at h
  | .leaf s t, ok, j, x, h, o => by
    cases j with
    | zero =>
      simp only [Bk.flat, List.getElem?_cons_zero, Option.some.injEq] at h
      subst h
      exact absurd o (by have := ok.1; have := ok.2.1; omega)
    | succ j =>
      simp only [Bk.flat, List.getElem?_cons_succ] at h
      obtain ⟨pre, post, b, c, e, hl, hb, hc⟩ := flat_node t ok.2.2.2 j x h o
      exact ⟨s :: pre, post, b, c, by rw [Bk.flat, e]; rfl, by simp [hl], hb, hc⟩
  | .node s b0 e0 t, ok, j, x, h, o => by
    obtain ⟨os, ob, oc, ot⟩ := ok
    cases j with
    | zero =>
      simp only [Bk.flat, List.getElem?_cons_zero, Option.some.injEq] at h
      subst h
      exact ⟨[], t.flat, b0, e0, rfl, rfl, ob, oc⟩
    | succ j =>
      simp only [Bk.flat, List.getElem?_cons_succ] at h
      by_cases q : j < b0.flat.length
      · rw [List.getElem?_append_left q] at h
        obtain ⟨pre, post, b, c, e, hl, hb, hc⟩ := flat_node b0 ob j x h o
        exact ⟨s :: pre, post ++ e0 :: t.flat, b, c, by rw [Bk.flat, e]; simp, by simp [hl], hb, hc⟩
      · rw [List.getElem?_append_right (by omega)] at h
        obtain ⟨i, hi⟩ : ∃ i, j - b0.flat.length = i := ⟨_, rfl⟩
        rw [hi] at h
        cases i with
        | zero =>
          simp only [List.getElem?_cons_zero, Option.some.injEq] at h
          subst h
          omega
        | succ i =>
          simp only [List.getElem?_cons_succ] at h
          obtain ⟨pre, post, b, c, e, hl, hb, hc⟩ := flat_node t ot i x h o
          exact ⟨s :: (b0.flat ++ e0 :: pre), post, b, c, by rw [Bk.flat, e]; simp, by simp [hl]; omega, hb, hc⟩
theorem guardL_ok (T : Bk) (ok : T.ok) (hl : T.flat.length ≤ 1048576) (k : Nat) (hk : 2 * T.flat.length + 4 < k) : ∀ (d : Nat) (i : Int) (g : List Bool), 0 ≤ i → i + (d : Int) = (T.flat.length : Int) → ∃ G, guardL k T.flat d i g = some G
  | 0, i, g, _, _ => ⟨g, rfl⟩
  | d + 1, i, g, h0, hi => by
    rw [guardL]
    by_cases c : (rd_T56 T.flat i).f0 = 4
    · rw [if_pos c]
      obtain ⟨pre, post, b, e, he, hp, hb, hc⟩ := flat_node T ok i.toNat (rd_T56 T.flat i) (getD_rd z56 h0 (by omega)) (.inl c)
      have hlen : T.flat.length = pre.length + (b.flat.length + post.length + 2) := by
        rw [he]
        simp only [List.length_append, List.length_cons]
        omega
      have hend := endI_at pre post (rd_T56 T.flat i) e b hb (.inl c) hc i (by omega) (by rw [← he]; exact hl) k (by omega)
      rw [← he] at hend
      rw [hend]
      simp only [Option.bind_some]
      rw [if_pos (by omega)]
      exact guardL_ok T ok hl k hk d (i + 1) _ (by omega) (by omega)
    · rw [if_neg c]
      exact guardL_ok T ok hl k hk d (i + 1) _ (by omega) (by omega)
theorem writtenL_mem (q : Int → Bool) : ∀ (l : List S56) (i : Int) (y : Int), y ∈ writtenL q l i → y ∈ writtenL (fun _ => true) l 0
  | [], i, y, h => by simp [writtenL] at h
  | x :: r, i, y, h => by
    have all : ∀ (l : List S56) (i j : Int), writtenL (fun _ => true) l i = writtenL (fun _ => true) l j := by
      intro l
      induction l with
      | nil => intro i j; rfl
      | cons x r ih =>
        intro i j
        rw [writtenL, writtenL, ih (i + 1) (j + 1)]
    rw [writtenL] at h ⊢
    rw [all r (0 + 1) 0]
    by_cases w : writes x = true
    · rw [if_pos ⟨w, rfl⟩]
      by_cases c : q i = true
      · rw [if_pos ⟨w, c⟩] at h
        rcases List.mem_cons.1 h with e | h
        · rw [e]
          exact List.mem_cons_self
        · exact List.mem_cons_of_mem _ (writtenL_mem q r (i + 1) y h)
      · rw [if_neg (fun h => c h.2)] at h
        exact List.mem_cons_of_mem _ (writtenL_mem q r (i + 1) y h)
    · rw [if_neg (fun h => w h.1)] at h
      rw [if_neg (fun h => w h.1)]
      exact writtenL_mem q r (i + 1) y h
theorem writtenL_in : ∀ (l : List S56) (i : Int) (x : S56), x ∈ l → writes x = true → x.f1 ∈ writtenL (fun _ => true) l i
  | [], _, _, h, _ => by simp at h
  | y :: r, i, x, h, w => by
    rw [writtenL]
    rcases List.mem_cons.1 h with e | h
    · subst e
      rw [if_pos ⟨w, rfl⟩]
      exact List.mem_cons_self
    · split
      · exact List.mem_cons_of_mem _ (writtenL_in r (i + 1) x h w)
      · exact writtenL_in r (i + 1) x h w
theorem writtenL_len (q : Int → Bool) : ∀ (l : List S56) (i : Int), (writtenL q l i).length ≤ l.length
  | [], _ => Nat.le_refl _
  | x :: r, i => by
    rw [writtenL]
    have := writtenL_len q r (i + 1)
    split
    · simp only [List.length_cons]
      omega
    · simp only [List.length_cons]
      omega
theorem mayW_at {l : List S56} (hb : blockOk l = true) (k : Nat) (hk : 100 < k) : impl_MayWrite.f k l = some (touch (writtenL (fun _ => true) l 0)) := by
  obtain ⟨T, ok, hT, h24, hs⟩ := blockOk_tree hb
  unfold impl_MayWrite.f
  rw [blockI_at l (by omega) k (by omega), hb]
  simp only [Option.bind_some, if_true]
  rw [if_pos (by omega)]
  rfl
theorem mustW_at {l : List S56} (hb : blockOk l = true) (k : Nat) (hk : 100 < k) : ∃ G, guardL k l l.length 0 (List.replicate l.length false) = some G ∧ impl_MustWrite.f k l = some (touch (writtenL (fun i => !rdB G i) l 0)) := by
  obtain ⟨T, ok, hT, h24, hs⟩ := blockOk_tree hb
  obtain ⟨G, hG⟩ := guardL_ok T ok (by rw [hT]; omega) k (by rw [hT]; omega) T.flat.length 0 (List.replicate l.length false) (by omega) (by omega)
  rw [hT] at hG
  refine ⟨G, hG, ?_⟩
  unfold impl_MustWrite.f
  rw [blockI_at l (by omega) k (by omega), hb]
  simp only [Option.bind_some, if_true]
  rw [if_pos (by omega), hG]
  rfl
theorem slIndex_l (l : List Int) (hl : l.length ≤ 1048576) (x : Int) (d : Nat) : ∀ (k : Nat) (i : Int), 0 ≤ i → i + (d : Int) = (l.length : Int) → d < k →
    ∃ r, slices_Index_int_int.l0 k l x (l.length : Int) i = some r ∧ decide (r ≥ 0) = decide (x ∈ l.drop i.toNat) := by
  induction d with
  | zero =>
    intro k i h0 hi hk
    obtain ⟨k, rfl⟩ := succ_of hk
    rw [slices_Index_int_int.l0, if_neg (by omega), List.drop_eq_nil_of_le (by omega)]
    exact ⟨_, rfl, by simp⟩
  | succ d ih =>
    intro k i h0 hi hk
    obtain ⟨k, rfl⟩ := succ_of hk
    rw [slices_Index_int_int.l0, if_pos (by omega), if_pos h0, if_pos (by omega), drop_rd h0 (by omega)]
    by_cases e : x = rd l i
    · rw [if_pos e]
      exact ⟨_, rfl, by simp [e, h0]⟩
    · rw [if_neg e, w64 (by omega) (by omega)]
      obtain ⟨r, h1, h2⟩ := ih k (i + 1) (by omega) (by omega) (by omega)
      exact ⟨r, h1, by rw [h2]; simp [e]⟩
theorem hasVarI_at (l : List Int) (hl : l.length ≤ 1048576) (x : Int) (k : Nat) (hk : l.length < k) : impl_HasVar.f k l x = some (decide (x ∈ l)) := by
  unfold impl_HasVar.f slices_Contains_int_int.f slices_Index_int_int.f
  obtain ⟨r, h1, h2⟩ := slIndex_l l hl x l.length k 0 (by omega) (by omega) hk
  rw [h1]
  simp only [Option.bind_some, h2]
  simp
theorem le_of_mono {α : Type} {f : Nat → Option α} (hm : ∀ k, LeO (f k) (f (k + 1))) {k k' : Nat} {r : α} (h : f k = some r) (hk : k ≤ k') : f k' = some r := by
  obtain ⟨d, rfl⟩ := Nat.exists_eq_add_of_le hk
  induction d with
  | zero => exact h
  | succ d ih => exact hm _ _ (ih (by omega))
theorem hasExprI_eq (a : Int) : impl_hasExpr.f a = some (decide (a = 1 ∨ a = 3 ∨ a = 4)) := by
  unfold impl_hasExpr.f
  by_cases h1 : a = 1
  · simp [h1]
  by_cases h2 : a = 3
  · simp [h2]
  rw [if_neg h1, if_neg h2]
  by_cases h3 : a = 4
  · simp [h3]
  · simp [h1, h2, h3]
theorem hasVarK_eq (a : Int) : impl_hasVar.f a = some (decide (a = 1 ∨ a = 2)) := by
  unfold impl_hasVar.f
  by_cases h1 : a = 1
  · simp [h1]
  rw [if_neg h1]
  by_cases h3 : a = 2
  · simp [h3]
  · simp [h1, h3]
theorem readsL_in : ∀ (l : List Int), (∀ n ∈ l, -8 ≤ n) → ∀ y ∈ readsL l, 0 ≤ y ∧ y < 8
  | [], _, y, h => by simp [readsL] at h
  | n :: r, hn, y, h => by
    have h8 := hn n (by simp)
    rw [readsL] at h
    by_cases c : n < 0
    · rw [if_pos c, w64 (by omega) (by omega)] at h
      rcases List.mem_cons.1 h with e | h
      · omega
      · exact readsL_in r (fun m hm => hn m (by simp [hm])) y h
    · rw [if_neg c] at h
      exact readsL_in r (fun m hm => hn m (by simp [hm])) y h
theorem readF_ok (st : List Bool) : ∀ (ys : List Int), (∀ y ∈ ys, 0 ≤ y ∧ y < 8) → ∀ fi : List Bool, fi.length = 8 → ∃ fi', readF st ys fi = some fi' ∧ fi'.length = 8
  | [], _, fi, hf => ⟨fi, rfl, hf⟩
  | y :: r, hy, fi, hf => by
    rw [readF, if_pos (hy y (by simp))]
    exact readF_ok st r (fun z hz => hy z (by simp [hz])) _ (by split <;> simp [hf])
theorem readI_ok {a b c : Int} (h : exprOk a b c = true) (st fi : List Bool) (hf : fi.length = 8) : ∃ fi', reader_read.f a b c st fi = some fi' ∧ fi'.length = 8 := by
  have h2 := of_decide_eq_true h
  unfold reader_read.f impl_ReadsOf.f
  rw [exprI_eq, h]
  simp only [Option.bind_some, if_true]
  refine readF_ok st _ (fun y hy => ?_) fi hf
  have : y ∈ touch (readsL [b, c]) := hy
  rw [(touch_at (readsL [b, c])).2.1] at this
  exact readsL_in [b, c] (fun n hn => by
    simp only [List.mem_cons, List.not_mem_nil, or_false] at hn
    omega) y this
abbrev passOk (k : Nat) (l : List S56) (i : Int) (st fi : List Bool) : Prop := ∃ r, rpass.l0 k l i st fi = some r ∧ r.1.length = 8 ∧ r.2.length = 8
theorem passI_step (pre rest : List S56) (x : S56) (i : Int) (hi : i = (pre.length : Int)) (hl : (pre ++ x :: rest).length ≤ 1048576) (hx : stOk x = true) (h4 : x.f0 ≠ 4) (st fi : List Bool) (hs : st.length = 8) (hf : fi.length = 8)
    (next : ∀ st' fi' : List Bool, st'.length = 8 → fi'.length = 8 → ∃ k, passOk k (pre ++ x :: rest) (i + 1) st' fi') : ∃ k, passOk k (pre ++ x :: rest) i st fi := by
  have e := at_mid pre rest x hi
  simp only [List.length_append, List.length_cons] at hl
  have hread : ∃ fi1, (if decide (x.f0 = 1 ∨ x.f0 = 3 ∨ x.f0 = 4) = true then reader_read.f x.f3.f0 x.f3.f1 x.f3.f2 st fi else some fi) = some fi1 ∧ fi1.length = 8 := by
    by_cases c : x.f0 = 1 ∨ x.f0 = 3 ∨ x.f0 = 4
    · rw [if_pos (by simpa using c)]
      refine readI_ok ?_ st fi hf
      by_cases c1 : x.f0 = 1
      · exact (stOk_set hx c1).2
      · exact stOk_expr hx (by omega)
    · rw [if_neg (by simpa using c)]
      exact ⟨fi, rfl, hf⟩
  obtain ⟨fi1, h1, hf1⟩ := hread
  by_cases cv : x.f0 = 1 ∨ x.f0 = 2
  · have hr : 0 ≤ x.f1 ∧ x.f1 < 8 := by
      rcases cv with c | c
      · have := (stOk_set hx c).1
        omega
      · have := (stOk_sense hx c).1
        omega
    obtain ⟨k, r, e2, hr2⟩ := next (st.set x.f1.toNat true) fi1 (by simp [hs]) hf1
    refine ⟨k + 1, r, ?_, hr2⟩
    rw [rpass.l0, if_pos (by simp only [List.length_append, List.length_cons]; omega), if_pos (by omega), e, hasExprI_eq, hasVarK_eq]
    simp only [Option.bind_some, h1]
    rw [if_pos (by simpa using cv), if_pos hr]
    simp only [Option.bind_some]
    rw [if_neg h4, w64 (by omega) (by omega)]
    exact e2
  · obtain ⟨k, r, e2, hr2⟩ := next st fi1 hs hf1
    refine ⟨k + 1, r, ?_, hr2⟩
    rw [rpass.l0, if_pos (by simp only [List.length_append, List.length_cons]; omega), if_pos (by omega), e, hasExprI_eq, hasVarK_eq]
    simp only [Option.bind_some, h1]
    rw [if_neg (by simpa using cv), if_neg h4, w64 (by omega) (by omega)]
    exact e2
theorem passI_l : ∀ (T : Bk), T.ok → (∀ s ∈ T.flat, stOk s = true) → ∀ (pre post : List S56) (i : Int) (st fi : List Bool), i = (pre.length : Int) → (pre ++ (T.flat ++ post)).length ≤ 1048576 → st.length = 8 → fi.length = 8 →
    (∀ st' fi' : List Bool, st'.length = 8 → fi'.length = 8 → ∃ k, passOk k (pre ++ (T.flat ++ post)) (i + (T.flat.length : Int)) st' fi') → ∃ k, passOk k (pre ++ (T.flat ++ post)) i st fi
  | .nil, _, _, pre, post, i, st, fi, _, _, hs, hf, next => by
    have := next st fi hs hf
    simpa [Bk.flat] using this
  | .leaf x t, ok, hst, pre, post, i, st, fi, hi, hl, hs, hf, next => by
    simp only [Bk.flat, List.length_cons, List.length_append, List.cons_append] at hl next ⊢
    refine passI_step pre (t.flat ++ post) x i hi (by simp only [List.length_append, List.length_cons]; omega) (hst x (by simp [Bk.flat])) ok.1 st fi hs hf (fun st' fi' hs' hf' => ?_)
    have := passI_l t ok.2.2.2 (fun y hy => hst y (by simp [Bk.flat, hy])) (pre ++ [x]) post (i + 1) st' fi' (by simp only [List.length_append, List.length_cons, List.length_nil]; omega) (by simp only [List.length_append, List.length_cons, List.length_nil]; omega) hs' hf' (fun s2 f2 q1 q2 => by
      have := next s2 f2 q1 q2
      simp only [List.append_assoc, List.singleton_append]
      rw [show i + 1 + (t.flat.length : Int) = i + ((t.flat.length + 1 : Nat) : Int) by omega]
      exact this)
    simpa only [List.append_assoc, List.singleton_append] using this
  | .node x b c t, ok, hst, pre, post, i, st, fi, hi, hl, hs, hf, next => by
    obtain ⟨o, ob, oc, ot⟩ := ok
    simp only [Bk.flat, List.length_cons, List.length_append, List.cons_append, List.append_assoc] at hl next ⊢
    have hx := hst x (by simp [Bk.flat])
    have hc := hst c (by simp [Bk.flat])
    have tl : ∀ st' fi' : List Bool, st'.length = 8 → fi'.length = 8 → ∃ k, passOk k (pre ++ x :: (b.flat ++ c :: (t.flat ++ post))) (i + 1 + (b.flat.length : Int) + 1) st' fi' := fun st' fi' hs' hf' => by
      have := passI_l t ot (fun y hy => hst y (by simp [Bk.flat, hy])) (pre ++ x :: (b.flat ++ [c])) post (i + 1 + (b.flat.length : Int) + 1) st' fi' (by simp only [List.length_append, List.length_cons, List.length_nil]; omega) (by simp only [List.length_append, List.length_cons, List.length_nil]; omega) hs' hf' (fun s2 f2 q1 q2 => by
        have := next s2 f2 q1 q2
        simp only [List.append_assoc, List.cons_append, List.nil_append]
        rw [show i + 1 + (b.flat.length : Int) + 1 + (t.flat.length : Int) = i + ((b.flat.length + (t.flat.length + 1) + 1 : Nat) : Int) by omega]
        exact this)
      simpa only [List.append_assoc, List.cons_append, List.nil_append] using this
    by_cases h4 : x.f0 = 4
    · have e := at_mid pre (b.flat ++ c :: (t.flat ++ post)) x hi
      obtain ⟨fi1, h1, hf1⟩ := readI_ok (stOk_expr hx (.inr h4)) st fi hf
      have hend : ∀ k, 2 * b.flat.length + 4 < k → impl_endOf.f k (pre ++ x :: (b.flat ++ c :: (t.flat ++ post))) i = some (i + 1 + (b.flat.length : Int)) := fun k hk => endI_at pre (t.flat ++ post) x c b ob o oc i hi (by simp only [List.length_append, List.length_cons]; omega) k hk
      obtain ⟨kb, rb, eb, lb1, lb2⟩ := passI_l b ob (fun y hy => hst y (by simp [Bk.flat, hy])) [] [] 0 st fi1 rfl (by simp only [List.nil_append, List.append_nil]; omega) hs hf1 (fun s2 f2 q1 q2 => ⟨1, (s2, f2), by rw [rpass.l0, if_neg (by simp)], q1, q2⟩)
      simp only [List.nil_append, List.append_nil] at eb
      obtain ⟨kt, r, et, hr⟩ := tl st rb.2 hs lb2
      refine ⟨(kb + kt + 2 * b.flat.length + 6) + 1, r, ?_, hr⟩
      rw [rpass.l0, if_pos (by simp only [List.length_append, List.length_cons]; omega), if_pos (by omega), e, hasExprI_eq, hasVarK_eq]
      simp only [Option.bind_some]
      rw [if_pos (by simp [h4]), h1]
      simp only [Option.bind_some]
      rw [if_neg (by simp [h4]), if_pos h4, hend _ (by omega)]
      simp only [Option.bind_some]
      rw [w64 (x := i + 1) (by omega) (by omega), w64 (x := i + 1 + (b.flat.length : Int) + 1) (by omega) (by omega), if_pos ⟨by omega, by omega, by simp only [List.length_append, List.length_cons]; omega⟩]
      have q := take_drop_mid (pre ++ [x]) b.flat (c :: (t.flat ++ post)) (i := i + 1) (j := i + 1 + (b.flat.length : Int)) (by simp only [List.length_append, List.length_cons, List.length_nil]; omega) rfl
      simp only [List.append_assoc, List.singleton_append] at q
      rw [q]
      have eb2 : rpass.f (kb + 1) b.flat st fi1 = some rb := by rw [rpass.f]; exact eb
      rw [le_of_mono (fun k => (rpass.mono_l k).1 b.flat st fi1) eb2 (k' := kb + kt + 2 * b.flat.length + 6) (by omega)]
      simp only [Option.bind_some]
      exact le_of_mono (fun k => (rpass.mono_l k).2 _ _ _ _) et (by omega)
    · refine passI_step pre (b.flat ++ c :: (t.flat ++ post)) x i hi (by simp only [List.length_append, List.length_cons]; omega) hx h4 st fi hs hf (fun st' fi' hs' hf' => ?_)
      have := passI_l b ob (fun y hy => hst y (by simp [Bk.flat, hy])) (pre ++ [x]) (c :: (t.flat ++ post)) (i + 1) st' fi' (by simp only [List.length_append, List.length_cons, List.length_nil]; omega) (by simp only [List.length_append, List.length_cons, List.length_nil]; omega) hs' hf' (fun s2 f2 q1 q2 => by
        have := passI_step (pre ++ x :: b.flat) (t.flat ++ post) c (i + 1 + (b.flat.length : Int)) (by simp only [List.length_append, List.length_cons]; omega) (by simp only [List.length_append, List.length_cons]; omega) hc (by omega) s2 f2 q1 q2 (fun s3 f3 u1 u2 => by
          have := tl s3 f3 u1 u2
          simpa only [List.append_assoc, List.cons_append] using this)
        simpa only [List.append_assoc, List.cons_append, List.singleton_append, List.nil_append] using this)
      simpa only [List.append_assoc, List.singleton_append] using this
theorem firstL_len (fi : List Bool) : ∀ (n : Nat) (i : Int), (firstL fi n i).length ≤ n
  | 0, _ => Nat.le_refl _
  | n + 1, i => by
    rw [firstL]
    have := firstL_len fi n (i + 1)
    split
    · simp only [List.length_cons]
      omega
    · omega
theorem taskI_at {l : List S56} (hb : blockOk l = true) {a b c : Int} (he : exprOk a b c = true) (k : Nat) (hk : 100 < k) : impl_taskOk.f k l a b c = some true := by
  obtain ⟨_, _, _, h24, _⟩ := blockOk_tree hb
  unfold impl_taskOk.f
  rw [blockI_at l (by omega) k (by omega), hb, exprI_eq, he]
  rfl
theorem mrf_ok {l : List S56} (hb : blockOk l = true) {a b c : Int} (he : exprOk a b c = true) : ∃ k fs, impl_MayReadFirst.f k l a b c = some fs ∧ fs.length ≤ 8 := by
  obtain ⟨T, ok, hT, h24, hst⟩ := blockOk_tree hb
  obtain ⟨k, s, es, ls1, ls2⟩ := passI_l T ok (by rw [hT]; exact hst) [] [] 0 z8 z8 rfl (by simp only [List.nil_append, List.append_nil, hT]; omega) rfl rfl (fun s2 f2 q1 q2 => ⟨1, (s2, f2), by rw [rpass.l0, if_neg (by simp)], q1, q2⟩)
  simp only [List.nil_append, List.append_nil, hT] at es
  obtain ⟨fi, ef, _⟩ := readI_ok he s.1 s.2 ls2
  refine ⟨k + 102, firstL fi 8 0, ?_, firstL_len fi 8 0⟩
  unfold impl_MayReadFirst.f
  have es2 : rpass.f (k + 1) l z8 z8 = some s := by rw [rpass.f]; exact es
  rw [taskI_at hb he _ (by omega)]
  simp only [Option.bind_some, if_true]
  rw [le_of_mono (fun k => (rpass.mono_l k).1 l z8 z8) es2 (k' := k + 102) (by omega)]
  simp only [Option.bind_some, ef]
theorem mustLog_ok {l : List S56} (hb : blockOk l = true) {a b c : Int} (he : exprOk a b c = true) : ∃ k0 ws, ws.length ≤ 24 ∧ ∀ k, k0 ≤ k → impl_MustLog.f k l a b c = some ws := by
  obtain ⟨T, ok, hT, h24, hst⟩ := blockOk_tree hb
  obtain ⟨k, fs, ef, lf⟩ := mrf_ok hb he
  obtain ⟨G, _, em⟩ := mustW_at hb (k + 101) (by omega)
  obtain ⟨_, _, la⟩ := touch_at (writtenL (fun _ => true) l 0)
  obtain ⟨_, _, lb⟩ := touch_at (writtenL (fun i => !rdB G i) l 0)
  have ha := writtenL_len (fun _ => true) l 0
  have hbl := writtenL_len (fun i => !rdB G i) l 0
  refine ⟨k + 101, _, ?_, fun k' hk => le_of_mono (fun k => impl_MustLog.mono l a b c k) (k := k + 101) (r := (touch (writtenL (fun _ => true) l 0)).filter fun x => !(!decide (x ∈ fs) && decide (x ∈ touch (writtenL (fun i => !rdB G i) l 0)))) ?_ hk⟩
  · have := List.length_filter_le (fun x => !(!decide (x ∈ fs) && decide (x ∈ touch (writtenL (fun i => !rdB G i) l 0)))) (touch (writtenL (fun _ => true) l 0))
    omega
  · unfold impl_MustLog.f
    rw [taskI_at hb he _ (by omega)]
    simp only [Option.bind_some, if_true]
    rw [le_of_mono (fun k => impl_MayReadFirst.mono l a b c k) ef (k' := k + 101) (by omega), em, mayW_at hb (k + 101) (by omega)]
    simp only [Option.bind_some]
    rw [if_pos ⟨by omega, by omega⟩]
theorem big_eq (l : List Int) : laws_big.f l = some (decide ((l.length : Int) > 1048576)) := rfl
theorem fnCosts_1 (b : List Int) (hb : b.length ≤ 1048576) (d : Nat) : ∀ (k : Nat) (i : Int), 1 ≤ i → i + (d : Int) = 8 → b.length + 100 + d < k → laws_FnCosts.l1 k b i = some true := by
  induction d with
  | zero =>
    intro k i h1 hi hk
    obtain ⟨k, rfl⟩ := succ_of (show 0 < k by omega)
    obtain ⟨x, ex, x12, xb⟩ := places_at b (by omega) k (by omega) (by omega)
    have a0 := rd_all xb (i := 0) (by omega) (by omega)
    have a1 := rd_all xb (i := 1) (by omega) (by omega)
    rw [laws_FnCosts.l1, if_neg (by omega), ex]
    unfold impl_RecoveryCost.f impl_EnergyFor.f
    simp only [Option.bind_some, within_eq, decide_eq_true_eq]
    rw [if_pos (by omega)]
    simp only [Option.bind_some, if_true]
    rw [if_pos (by omega), if_pos (by omega), if_pos (by omega), if_pos (by omega), if_pos (by omega)]
    simp only [Option.bind_some]
    rw [if_pos (by omega), w64 (x := rd x 0 * 2) (by omega) (by omega), w64 (x := rd x 1 * 3) (by omega) (by omega)]
    simp only [Option.bind_some]
    have w0 : wrap64 0 = 0 := w64 (by omega) (by omega)
    have u1 : wrap64 (rd x 0 * 2) = rd x 0 * 2 := w64 (by omega) (by omega)
    have u2 : wrap64 (rd x 1 * 3) = rd x 1 * 3 := w64 (by omega) (by omega)
    have u3 : wrap64 (rd x 0 * 2 + rd x 1 * 3) = rd x 0 * 2 + rd x 1 * 3 := w64 (by omega) (by omega)
    have c1 : 0 ≤ rd x 1 ∧ rd x 1 ≤ 1000000 := by omega
    simp [c1.1, c1.2, u1, u2, u3, w0]
  | succ d ih =>
    intro k i h1 hi hk
    obtain ⟨k, rfl⟩ := succ_of (show 0 < k by omega)
    rw [laws_FnCosts.l1, if_pos (by omega), w64 (x := i + 1) (by omega) (by omega)]
    unfold impl_RecoveryCost.f
    simp only [Option.bind_some, within_eq, decide_eq_true_eq]
    rw [if_pos (by omega), if_neg (by omega)]
    simp only [Option.bind_some]
    rw [if_pos (by omega), if_neg (by omega)]
    simp only [Option.bind_some]
    rw [w64 (x := i + 1 + 1) (by omega) (by omega), w64 (x := i + 1) (by omega) (by omega), w64 (x := 3 * (i + 1 + 1)) (by omega) (by omega), w64 (x := 3 * (i + 1)) (by omega) (by omega), w64 (x := 3 * (i + 1 + 1) - 3 * (i + 1)) (by omega) (by omega), if_pos (by omega)]
    exact ih k (i + 1) (by omega) (by omega) (by omega)
theorem fnCosts_0 (b : List Int) (hb : b.length ≤ 1048576) {l : List S56} (ho : blockOk l = true) {x y z : Int} (he : exprOk x y z = true) (k0 : Nat) (ws : List Int) (hw : ws.length ≤ 24) (hm : ∀ k, k0 ≤ k → impl_MustLog.f k l x y z = some ws) (d : Nat) :
    ∀ (k : Nat) (i : Int), 0 ≤ i → i + (d : Int) = 8 → k0 + b.length + 1000 + d < k → laws_FnCosts.l0 k b i l x y z = some true := by
  have need : ∀ k i, k0 + 100 < k → impl_NeedsLog.f k l x y z i = some (decide (i ∈ ws)) := fun k i hk => by
    unfold impl_NeedsLog.f
    rw [hm k (by omega)]
    simp only [Option.bind_some]
    rw [hasVarI_at ws (by omega) i k (by omega)]
    rfl
  induction d with
  | zero =>
    intro k i h0 hi hk
    obtain ⟨k, rfl⟩ := succ_of (show 0 < k by omega)
    rw [laws_FnCosts.l0, if_neg (by omega)]
    exact fnCosts_1 b hb 7 k 1 (by omega) (by omega) (by omega)
  | succ d ih =>
    intro k i h0 hi hk
    obtain ⟨k, rfl⟩ := succ_of (show 0 < k by omega)
    have hwc : impl_WriteCount.f k l x y z i = some (if i ∈ ws then 4 else 1) := by
      unfold impl_WriteCount.f
      rw [taskI_at ho he k (by omega)]
      unfold impl_isVar.f
      simp only [Option.bind_some, if_true, within_eq]
      obtain ⟨k, rfl⟩ := succ_of (show 0 < k by omega)
      rw [impl_WriteCount.j0, if_neg (by simp; omega), need k i (by omega)]
      simp only [Option.bind_some, decide_eq_true_eq]
      split <;> rfl
    rw [laws_FnCosts.l0, if_pos (by omega), hwc, need k i (by omega), w64 (by omega) (by omega)]
    simp only [Option.bind_some]
    have e := ih k (i + 1) (by omega) (by omega) (by omega)
    by_cases c : i ∈ ws
    · simp [c, e]
    · simp [c, e]
theorem FnCosts : laws_FnCosts.Pure := by
  intro b _ _ _
  by_cases hl : (b.length : Int) > 1048576
  · refine ⟨1, ?_⟩
    unfold laws_FnCosts.f
    rw [big_eq]
    simp only [Option.bind_some, decide_eq_true_eq]
    rw [if_pos hl]
  obtain ⟨h, e0⟩ : ∃ h, ∀ k, b.length < k → spec_l01New.f k b = some (b, 0, h) := by
    obtain ⟨h, e⟩ := l01New_at b (by omega) (b.length + 1) (by omega)
    exact ⟨h, fun k hk => le_of_mono (fun k => spec_l01New.mono b k) e (by omega)⟩
  obtain ⟨l, p1, h1, e1, ok, hp1⟩ := l05Case_ok b (by omega) 0 h (by omega) 61 (by omega)
  obtain ⟨x, y, z, p2, h2, e2, he, hp2⟩ := l03Expr_ok b p1 h1 hp1 (by omega)
  obtain ⟨k0, ws, hw, hm⟩ := mustLog_ok ok he
  obtain ⟨K, hK⟩ : ∃ K, k0 + b.length + 2000 ≤ K := ⟨_, Nat.le_refl _⟩
  refine ⟨K, ?_⟩
  unfold laws_FnCosts.f spec_DrawTask.f
  rw [big_eq]
  simp only [Option.bind_some, decide_eq_true_eq]
  rw [if_neg hl, e0 _ (by omega)]
  simp only [Option.bind_some]
  rw [le_of_mono (fun k => spec_l05Case.mono b 0 h k) e1 (by omega)]
  simp only [Option.bind_some, e2]
  exact fnCosts_0 b (by omega) ok he k0 ws hw hm 8 K 0 (by omega) (by omega) (by omega)

end Go.Proofs.Ytipcjegkagpelaa.Pure
