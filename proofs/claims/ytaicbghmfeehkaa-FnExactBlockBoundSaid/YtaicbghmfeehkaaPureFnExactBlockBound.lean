/- The law FnExactBlockBound: for every input the function answers true. No condition. -/
import Derived.Test.YtaicbghmfeehkaaGx58
namespace Go.Proofs.Ytaicbghmfeehkaa.Pure
open Go.RowKit Go.Proofs.Ytaicbghmfeehkaa.G Go.Proofs.YtaicbghmfeehkaaW.PrintWords Go.Proofs.YtaicbghmfeehkaaW.PrintLast

theorem w64 {x : Int} (h : -9223372036854775808 ≤ x) (h2 : x ≤ 9223372036854775807) : wrap64 x = x := by
  unfold wrap64
  omega
theorem wf_i64 {x : Int} (h : (Lit.int .i64 x).wf = true) : -9223372036854775808 ≤ x ∧ x ≤ 9223372036854775807 := by
  simp only [Lit.wf, IntKind.min, IntKind.max, IntKind.signed, IntKind.bits, Bool.and_eq_true, decide_eq_true_eq, if_true] at h
  omega
theorem succ_of {k d : Nat} (h : d < k) : ∃ m, k = m + 1 := ⟨k - 1, by omega⟩
theorem rd_eq {l : List Int} {i : Int} (h0 : 0 ≤ i) (h : i < (l.length : Int)) : l[i.toNat]? = some (rd l i) := by
  unfold rd
  rw [List.getD_eq_getElem?_getD, List.getElem?_eq_getElem (by omega)]
  rfl
theorem drop_rd {l : List Int} {i : Int} (h0 : 0 ≤ i) (h : i < (l.length : Int)) : l.drop i.toNat = rd l i :: l.drop (i + 1).toNat := by
  have h1 : i.toNat < l.length := by omega
  have h2 : (i + 1).toNat = i.toNat + 1 := by omega
  have h3 := rd_eq h0 h
  rw [h2, List.drop_eq_getElem_cons h1]
  rw [List.getElem?_eq_getElem h1] at h3
  rw [Option.some.inj h3]
/-- The numbers a, a + 1, .. : n of them. -/
def marks (a : Int) (n : Nat) : List Int := (List.range n).map fun j : Nat => a + (j : Int)
theorem marks_len (a : Int) (n : Nat) : (marks a n).length = n := by simp [marks]
theorem marks_get (a : Int) (n i : Nat) (h : i < n) : (marks a n)[i]? = some (a + (i : Int)) := by simp [marks, h]
theorem rd_all {P : Int → Prop} {l : List Int} (h : ∀ x ∈ l, P x) {i : Int} (h0 : 0 ≤ i) (h1 : i < (l.length : Int)) : P (rd l i) := h _ (List.mem_of_getElem? (rd_eq h0 h1))
theorem getD_rd {α : Type} (z : α) {l : List α} {i : Int} (h0 : 0 ≤ i) (h : i < (l.length : Int)) : l[i.toNat]? = some (l.getD i.toNat z) := by
  rw [List.getD_eq_getElem?_getD, List.getElem?_eq_getElem (by omega)]
  rfl
theorem drop_getD {α : Type} (z : α) {l : List α} {i : Int} (h0 : 0 ≤ i) (h : i < (l.length : Int)) : l.drop i.toNat = l.getD i.toNat z :: l.drop (i + 1).toNat := by
  have h1 : i.toNat < l.length := by omega
  have h2 : (i + 1).toNat = i.toNat + 1 := by omega
  have h3 := getD_rd z h0 h
  rw [h2, List.drop_eq_getElem_cons h1]
  rw [List.getElem?_eq_getElem h1] at h3
  rw [Option.some.inj h3]
theorem getD_mem {α : Type} (z : α) {l : List α} {i : Int} (h0 : 0 ≤ i) (h : i < (l.length : Int)) : l.getD i.toNat z ∈ l := List.mem_of_getElem? (getD_rd z h0 h)
theorem l01In_eq (a b c : Int) : spec_l01In.f a b c = some (decide (b ≤ a ∧ a ≤ c)) := by
  unfold spec_l01In.f
  by_cases h : b ≤ a <;> simp [h]
theorem within_eq (a b c : Int) : impl_within.f a b c = some (decide (b ≤ a ∧ a ≤ c)) := by
  unfold impl_within.f
  by_cases h : b ≤ a <;> simp [h]
theorem operandS_eq (x : Int) : spec_OperandOk.f x = some (decide (-8 ≤ x ∧ x ≤ 999)) := by unfold spec_OperandOk.f; rw [l01In_eq]; rfl
theorem operandI_eq (x : Int) : impl_OperandOk.f x = some (decide (-8 ≤ x ∧ x ≤ 999)) := by unfold impl_OperandOk.f; rw [within_eq]; rfl
/-- An expression of the language. -/
def exprOk (a b c : Int) : Bool := decide ((1 ≤ a ∧ a ≤ 7) ∧ (-8 ≤ b ∧ b ≤ 999) ∧ -8 ≤ c ∧ c ≤ 999)
theorem exprS_eq (a b c : Int) : spec_ExprOk.f a b c = some (exprOk a b c) := by
  unfold spec_ExprOk.f exprOk
  rw [l01In_eq, operandS_eq, operandS_eq]
  by_cases h1 : 1 ≤ a ∧ a ≤ 7 <;> by_cases h2 : -8 ≤ b ∧ b ≤ 999 <;> simp [h1, h2]
theorem exprI_eq (a b c : Int) : impl_ExprOk.f a b c = some (exprOk a b c) := by
  unfold impl_ExprOk.f exprOk
  rw [within_eq, operandI_eq, operandI_eq]
  by_cases h1 : 1 ≤ a ∧ a ≤ 7 <;> by_cases h2 : -8 ≤ b ∧ b ≤ 999 <;> simp [h1, h2]
/-- A statement of the language: its kind, its variable, its number, its expression. -/
def stmtOk (a b c d e f : Int) : Bool :=
  if a = 1 then decide ((0 ≤ b ∧ b ≤ 7) ∧ c = 0) && exprOk d e f
  else if a = 2 then decide ((0 ≤ b ∧ b ≤ 7) ∧ (0 ≤ c ∧ c ≤ 3) ∧ d = 0 ∧ e = 0 ∧ f = 0)
  else if a = 3 ∨ a = 4 then decide (b = 0 ∧ c = 0) && exprOk d e f
  else if a = 5 then decide (b = 0 ∧ (1 ≤ c ∧ c ≤ 5) ∧ d = 0 ∧ e = 0 ∧ f = 0)
  else if a = 6 then decide (b = 0 ∧ c = 0 ∧ d = 0 ∧ e = 0 ∧ f = 0) else false
theorem stmtS_eq (a b c d e f : Int) (k : Nat) (hk : 3 < k) : spec_StmtOk.f k a b c d e f = some (stmtOk a b c d e f) := by
  obtain ⟨k, rfl⟩ : ∃ m, k = m + 4 := ⟨k - 4, by omega⟩
  unfold spec_StmtOk.f spec_l04Plain.f stmtOk
  simp only [spec_l04Plain.j0, spec_StmtOk.j0, l01In_eq, exprS_eq, Option.bind_some]
  by_cases h1 : a = 1
  · subst h1
    by_cases h : c = 0 <;> by_cases g : 0 ≤ b ∧ b ≤ 7 <;> simp [h, g]
  by_cases h2 : a = 2
  · subst h2
    by_cases h : d = 0 <;> by_cases h' : e = 0 <;> by_cases h'' : f = 0 <;> by_cases g : 0 ≤ b ∧ b ≤ 7 <;> simp [h, h', h'', g]
  by_cases h3 : a = 3
  · subst h3
    by_cases h : b = 0 <;> by_cases h' : c = 0 <;> simp [h, h']
  by_cases h4 : a = 4
  · subst h4
    by_cases h : b = 0 <;> by_cases h' : c = 0 <;> simp [h, h']
  by_cases h5 : a = 5
  · subst h5
    by_cases h : b = 0 <;> by_cases h' : d = 0 <;> by_cases h'' : e = 0 <;> by_cases g : f = 0 <;> simp [h, h', h'', g]
  by_cases h6 : a = 6
  · subst h6
    by_cases h : b = 0 <;> by_cases h' : d = 0 <;> by_cases h'' : e = 0 <;> by_cases g : f = 0 <;> by_cases g' : c = 0 <;> simp [h, h', h'', g, g']
  · simp [h1, h2, h3, h4, h5, h6]
theorem stmtI_eq (a b c d e f : Int) (k : Nat) (hk : 3 < k) : impl_StmtOk.f k a b c d e f = some (stmtOk a b c d e f) := by
  obtain ⟨k, rfl⟩ : ∃ m, k = m + 4 := ⟨k - 4, by omega⟩
  unfold impl_StmtOk.f impl_hasVar.f impl_isVar.f stmtOk
  simp only [impl_StmtOk.j0, impl_StmtOk.j1, impl_hasExpr.f, impl_isSensor.f, within_eq, exprI_eq, Option.bind_some]
  by_cases h1 : a = 1
  · subst h1
    by_cases h : c = 0 <;> by_cases g : 0 ≤ b ∧ b ≤ 7 <;> cases exprOk d e f <;> simp [h, g]
  by_cases h2 : a = 2
  · subst h2
    by_cases h : d = 0 <;> by_cases h' : e = 0 <;> by_cases h'' : f = 0 <;> by_cases g : 0 ≤ b ∧ b ≤ 7 <;> simp [h, h', h'', g]
  by_cases h3 : a = 3
  · subst h3
    by_cases h : b = 0 <;> by_cases h' : c = 0 <;> cases exprOk d e f <;> simp [h, h']
  by_cases h4 : a = 4
  · subst h4
    by_cases h : b = 0 <;> by_cases h' : c = 0 <;> cases exprOk d e f <;> simp [h, h']
  by_cases h5 : a = 5
  · subst h5
    by_cases h : b = 0 <;> by_cases h' : d = 0 <;> by_cases h'' : e = 0 <;> by_cases g : f = 0 <;> simp [h, h', h'', g]
  by_cases h6 : a = 6
  · subst h6
    by_cases h : b = 0 <;> by_cases h' : d = 0 <;> by_cases h'' : e = 0 <;> by_cases g : f = 0 <;> by_cases g' : c = 0 <;> simp [h, h', h'', g, g']
  · have n : ¬ (1 ≤ a ∧ a ≤ 6) := by omega
    simp [h1, h2, h3, h4, h5, h6, n]
/-- A statement of the language. -/
def stOk (s : S119) : Bool := stmtOk s.f0 s.f1 s.f2 s.f3.f0 s.f3.f1 s.f3.f2
/-- A block as a tree: its statements in order, an opening one with what it holds and its closing one. -/
inductive Bk where
  | nil : Bk
  | leaf (s : S119) (t : Bk) : Bk
  | node (s : S119) (b : Bk) (e : S119) (t : Bk) : Bk
def Bk.flat : Bk → List S119
  | .nil => []
  | .leaf s t => s :: t.flat
  | .node s b e t => s :: (b.flat ++ e :: t.flat)
def Bk.ok : Bk → Prop
  | .nil => True
  | .leaf s t => s.f0 ≠ 4 ∧ s.f0 ≠ 5 ∧ s.f0 ≠ 6 ∧ t.ok
  | .node s b e t => (s.f0 = 4 ∨ s.f0 = 5) ∧ b.ok ∧ e.f0 = 6 ∧ t.ok
/-- How many are open, behind a statement. -/
def dNext (s : S119) (d : Int) : Int := if s.f0 = 4 ∨ s.f0 = 5 then d + 1 else if s.f0 = 6 then d - 1 else d
/-- The statements are valid, and there are never too many or too few open ones. -/
def blkOk : List S119 → Int → Bool
  | [], d => decide (d = 0)
  | s :: t, d => stOk s && (decide (0 ≤ dNext s d ∧ dNext s d ≤ 3) && blkOk t (dNext s d))
def blockOk (l : List S119) : Bool := blkOk l 0 && decide ((l.length : Int) ≤ 24)
theorem blkOk_cons {s : S119} {t : List S119} {d : Int} : blkOk (s :: t) d = true ↔ stOk s = true ∧ (0 ≤ dNext s d ∧ dNext s d ≤ 3) ∧ blkOk t (dNext s d) = true := by
  rw [blkOk, Bool.and_eq_true, Bool.and_eq_true, decide_eq_true_eq]
theorem blkOk_all : ∀ (l : List S119) (d : Int), blkOk l d = true → ∀ s ∈ l, stOk s = true
  | [], d, h, s, hs => by simp at hs
  | x :: t, d, h, s, hs => by
    obtain ⟨h1, h2, h3⟩ := blkOk_cons.1 h
    rcases List.mem_cons.1 hs with rfl | hs
    · exact h1
    · exact blkOk_all t _ h3 s hs
theorem parse (n : Nat) : ∀ (l : List S119) (d : Int), l.length ≤ n → 0 ≤ d → blkOk l d = true →
    (d = 0 → ∃ T : Bk, T.ok ∧ T.flat = l) ∧ (0 < d → ∃ (T : Bk) (e : S119) (r : List S119), T.ok ∧ e.f0 = 6 ∧ l = T.flat ++ e :: r ∧ blkOk r (d - 1) = true) := by
  induction n with
  | zero =>
    intro l d hl hd h
    have : l = [] := List.eq_nil_of_length_eq_zero (by omega)
    subst this
    simp only [blkOk, decide_eq_true_eq] at h
    exact ⟨fun _ => ⟨.nil, trivial, rfl⟩, fun h2 => absurd h (by omega)⟩
  | succ n ih =>
    intro l d hl hd h
    cases l with
    | nil =>
      simp only [blkOk, decide_eq_true_eq] at h
      exact ⟨fun _ => ⟨.nil, trivial, rfl⟩, fun h2 => absurd h (by omega)⟩
    | cons s t =>
      obtain ⟨h1, h2, h3⟩ := blkOk_cons.1 h
      simp only [List.length_cons] at hl
      by_cases o : s.f0 = 4 ∨ s.f0 = 5
      · have e : dNext s d = d + 1 := by rw [dNext, if_pos o]
        rw [e] at h2 h3
        obtain ⟨T1, c, r, k1, k2, k3, k4⟩ := (ih t (d + 1) (by omega) (by omega) h3).2 (by omega)
        rw [Int.add_sub_cancel] at k4
        have hr : r.length ≤ n := by
          have := congrArg List.length k3
          simp only [List.length_append, List.length_cons] at this
          omega
        obtain ⟨q1, q2⟩ := ih r d hr hd k4
        constructor
        · intro d0
          obtain ⟨T2, m1, m2⟩ := q1 d0
          exact ⟨.node s T1 c T2, ⟨o, k1, k2, m1⟩, by rw [Bk.flat, m2, k3]⟩
        · intro d0
          obtain ⟨T2, c2, r2, m1, m2, m3, m4⟩ := q2 d0
          exact ⟨.node s T1 c T2, c2, r2, ⟨o, k1, k2, m1⟩, m2, by rw [Bk.flat, k3, m3]; simp, m4⟩
      · by_cases c : s.f0 = 6
        · have e : dNext s d = d - 1 := by rw [dNext, if_neg o, if_pos c]
          rw [e] at h2 h3
          exact ⟨fun d0 => absurd h2 (by omega), fun _ => ⟨.nil, s, t, trivial, c, rfl, h3⟩⟩
        · have e : dNext s d = d := by rw [dNext, if_neg o, if_neg c]
          rw [e] at h2 h3
          obtain ⟨q1, q2⟩ := ih t d (by omega) hd h3
          constructor
          · intro d0
            obtain ⟨T2, m1, m2⟩ := q1 d0
            exact ⟨.leaf s T2, ⟨fun h => o (.inl h), fun h => o (.inr h), c, m1⟩, by rw [Bk.flat, m2]⟩
          · intro d0
            obtain ⟨T2, c2, r2, m1, m2, m3, m4⟩ := q2 d0
            exact ⟨.leaf s T2, c2, r2, ⟨fun h => o (.inl h), fun h => o (.inr h), c, m1⟩, m2, by rw [Bk.flat, m3]; rfl, m4⟩
/-- A valid block is a tree. -/
theorem blockOk_tree {l : List S119} (h : blockOk l = true) : ∃ T : Bk, T.ok ∧ T.flat = l ∧ l.length ≤ 24 ∧ ∀ s ∈ l, stOk s = true := by
  rw [blockOk, Bool.and_eq_true, decide_eq_true_eq] at h
  obtain ⟨T, h1, h2⟩ := (parse l.length l 0 (by omega) (by omega) h.1).1 rfl
  exact ⟨T, h1, h2, by omega, blkOk_all l 0 h.1⟩
/-- What stands at a place of a list. -/
theorem at_mid (pre post : List S119) (s : S119) {i : Int} (hi : i = (pre.length : Int)) : rd_T119 (pre ++ s :: post) i = s := by
  unfold rd_T119
  rw [hi, Int.toNat_natCast, List.getD_eq_getElem?_getD, List.getElem?_append_right (by omega), Nat.sub_self]
  rfl
theorem opening_eq (x : Int) : impl_isOpening.f x = some (decide (x = 4 ∨ x = 5)) := by
  unfold impl_isOpening.f
  by_cases h : x = 4
  · simp [h]
  · by_cases h2 : x = 5 <;> simp [h, h2]
theorem blockI_l (l : List S119) (hl : l.length ≤ 1048576) (n : Nat) : ∀ (k : Nat) (d i : Int), 0 ≤ d → d ≤ 3 → 0 ≤ i → i + (n : Int) = (l.length : Int) → 2 * n + 5 < k →
    impl_BlockOk.l0 k l d l (l.length : Int) i = some (blkOk (l.drop i.toNat) d && decide ((l.length : Int) ≤ 24)) := by
  induction n with
  | zero =>
    intro k d i hd hd3 h0 hi hk
    obtain ⟨k, rfl⟩ := succ_of hk
    simp only [impl_BlockOk.l0]
    rw [if_neg (by omega), List.drop_eq_nil_of_le (by omega), blkOk]
    by_cases h : d = 0 <;> simp [h]
  | succ n ih =>
    intro k d i hd hd3 h0 hi hk
    obtain ⟨k, rfl⟩ := succ_of hk
    obtain ⟨k, rfl⟩ := succ_of (d := 4) (by omega : 4 < k)
    rw [impl_BlockOk.l0, if_pos (by omega), if_pos h0, if_pos (by omega), stmtI_eq _ _ _ _ _ _ _ (by omega), opening_eq, drop_getD z119 h0 (by omega)]
    change (Option.bind (some (stOk (rd_T119 l i))) _) = some (blkOk (rd_T119 l i :: _) d && _)
    generalize rd_T119 l i = s
    rw [blkOk]
    by_cases h1 : stOk s = true
    · simp only [h1, Option.bind_some, if_true, Bool.true_and, impl_BlockOk.j1, w64 (x := i + 1) (by omega) (by omega), w64 (x := d + 1) (by omega) (by omega), w64 (x := d + 1 - 1) (by omega) (by omega), w64 (x := d - 1) (by omega) (by omega), decide_eq_true_eq]
      have go := fun (x : Int) (a : 0 ≤ x) (b : x ≤ 3) => ih k x (i + 1) a b (by omega) (by omega) (by omega)
      unfold dNext
      by_cases o : s.f0 = 4 ∨ s.f0 = 5
      · have n6 : ¬ s.f0 = 6 := by omega
        rw [if_pos o, if_neg n6, if_pos o, if_neg (by omega)]
        by_cases g : d + 1 > 3
        · rw [if_pos g]
          simp
          omega
        · rw [if_neg g, go _ (by omega) (by omega)]
          have : 0 ≤ d + 1 ∧ d + 1 ≤ 3 := by omega
          simp [this]
      · rw [if_neg o, if_neg o]
        by_cases n6 : s.f0 = 6
        · rw [if_pos n6, if_pos n6]
          by_cases g : d - 1 < 0
          · rw [if_pos g]
            simp
            omega
          · rw [if_neg g, if_neg (by omega), go _ (by omega) (by omega)]
            have : 0 ≤ d - 1 ∧ d - 1 ≤ 3 := by omega
            have g1 : 1 ≤ d := by omega
            simp [this, g1]
        · rw [if_neg n6, if_neg n6, if_neg (by omega), if_neg (by omega), go _ hd hd3]
          simp [hd, hd3]
    · simp [h1]
theorem blockI_at (l : List S119) (hl : l.length ≤ 1048576) (k : Nat) (hk : 2 * l.length + 5 < k) : impl_BlockOk.f k l = some (blockOk l) := by
  unfold impl_BlockOk.f blockOk
  rw [blockI_l l hl l.length k 0 0 (by omega) (by omega) (by omega) (by omega) hk]
  simp
theorem blockS_l (l : List S119) (hl : l.length ≤ 1048576) (n : Nat) : ∀ (k : Nat) (d i : Int), 0 ≤ d → d ≤ 3 → 0 ≤ i → i + (n : Int) = (l.length : Int) → 2 * n + 5 < k →
    spec_BlockOk.l0 k l d i = some (blkOk (l.drop i.toNat) d && decide ((l.length : Int) ≤ 24)) := by
  induction n with
  | zero =>
    intro k d i hd hd3 h0 hi hk
    obtain ⟨k, rfl⟩ := succ_of hk
    simp only [spec_BlockOk.l0]
    rw [if_neg (by omega), List.drop_eq_nil_of_le (by omega), blkOk]
    by_cases h : d = 0 <;> simp [h]
  | succ n ih =>
    intro k d i hd hd3 h0 hi hk
    obtain ⟨k, rfl⟩ := succ_of hk
    obtain ⟨k, rfl⟩ := succ_of (d := 4) (by omega : 4 < k)
    rw [spec_BlockOk.l0, if_pos (by omega), if_pos h0, stmtS_eq _ _ _ _ _ _ _ (by omega), drop_getD z119 h0 (by omega)]
    change (Option.bind (some (stOk (rd_T119 l i))) _) = some (blkOk (rd_T119 l i :: _) d && _)
    generalize rd_T119 l i = s
    rw [blkOk]
    by_cases h1 : stOk s = true
    · simp only [h1, Option.bind_some, if_true, Bool.true_and, spec_BlockOk.j1, l01In_eq, w64 (x := i + 1) (by omega) (by omega), w64 (x := d + 1) (by omega) (by omega), w64 (x := d - 1) (by omega) (by omega), decide_eq_true_eq]
      have go := fun (x : Int) (a : 0 ≤ x) (b : x ≤ 3) => ih k x (i + 1) a b (by omega) (by omega) (by omega)
      unfold dNext
      by_cases o : s.f0 = 4 ∨ s.f0 = 5
      · rw [if_pos o]
        by_cases g : 0 ≤ d + 1 ∧ d + 1 ≤ 3
        · rw [go _ g.1 g.2]
          rcases o with o | o <;> simp [o, g]
        · rcases o with o | o <;> simp [o, g]
      · rw [if_neg o]
        have n4 : ¬ s.f0 = 4 := fun h => o (.inl h)
        have n5 : ¬ s.f0 = 5 := fun h => o (.inr h)
        by_cases n6 : s.f0 = 6
        · by_cases g : 0 ≤ d - 1 ∧ d - 1 ≤ 3
          · rw [go _ g.1 g.2]
            have g1 : 1 ≤ d := by omega
            simp [n6, g, g1]
          · obtain rfl : d = 0 := by omega
            simp [n6]
        · rw [go _ hd hd3]
          simp [n4, n5, n6, hd, hd3]
    · simp [h1]
theorem blockS_at (l : List S119) (hl : l.length ≤ 1048576) (k : Nat) (hk : 2 * l.length + 5 < k) : spec_BlockOk.f k l = some (blockOk l) := by
  unfold spec_BlockOk.f blockOk
  rw [blockS_l l hl l.length k 0 0 (by omega) (by omega) (by omega) (by omega) hk]
  simp
theorem l05Opens_eq (a b c d e f : Int) : spec_l05Opens.f a b c d e f = some (decide (a = 4 ∨ a = 5)) := by
  unfold spec_l05Opens.f
  by_cases h : a = 4
  · simp [h]
  · by_cases h2 : a = 5 <;> simp [h, h2]
theorem endS_l : ∀ (T : Bk), T.ok → ∀ (k : Nat) (pre post : List S119) (x i : Int), i = (pre.length : Int) → (pre ++ (T.flat ++ post)).length ≤ 1048576 → 1 ≤ x → x + (T.flat.length : Int) ≤ 4000000 → 2 * T.flat.length < k →
    spec_l05End.l0 k (pre ++ (T.flat ++ post)) x i = spec_l05End.l0 (k - 2 * T.flat.length) (pre ++ (T.flat ++ post)) x (i + (T.flat.length : Int))
  | .nil, _, k, pre, post, x, i, hi, hl, hx, hx2, hk => by
    simp [Bk.flat]
  | .leaf s t, ok, k, pre, post, x, i, hi, hl, hx, hx2, hk => by
    simp only [Bk.flat, List.length_cons, List.length_append, List.cons_append] at hk hl hx2 ⊢
    obtain ⟨k, rfl⟩ := succ_of (d := 1) (by omega : 1 < k)
    obtain ⟨k, rfl⟩ := succ_of (d := 0) (by omega : 0 < k)
    have e := at_mid pre (t.flat ++ post) s hi
    rw [spec_l05End.l0, if_pos (by simp only [List.length_append, List.length_cons]; omega), if_pos (by omega), e, l05Opens_eq]
    have n4 : ¬ (s.f0 = 4 ∨ s.f0 = 5) := fun h => h.elim ok.1 ok.2.1
    simp only [Option.bind_some, decide_eq_true_eq]
    rw [if_neg n4, spec_l05End.j1, if_pos (by omega), if_pos (by simp only [List.length_append, List.length_cons]; omega), e, if_neg ok.2.2.1, w64 (by omega) (by omega)]
    have r := endS_l t ok.2.2.2 k (pre ++ [s]) post x (i + 1) (by simp only [List.length_append, List.length_cons, List.length_nil]; omega) (by simp only [List.length_append, List.length_cons, List.length_nil]; omega) hx (by omega) (by omega)
    simp only [List.append_assoc, List.singleton_append] at r
    rw [r]
    congr 1
    · omega
    · omega
  | .node s b c t, ok, k, pre, post, x, i, hi, hl, hx, hx2, hk => by
    obtain ⟨o, ob, oc, ot⟩ := ok
    simp only [Bk.flat, List.length_cons, List.length_append, List.cons_append, List.append_assoc] at hk hl hx2 ⊢
    obtain ⟨k, rfl⟩ := succ_of (d := 1) (by omega : 1 < k)
    obtain ⟨k, rfl⟩ := succ_of (d := 0) (by omega : 0 < k)
    have e := at_mid pre (b.flat ++ c :: (t.flat ++ post)) s hi
    rw [spec_l05End.l0, if_pos (by simp only [List.length_append, List.length_cons]; omega), if_pos (by omega), e, l05Opens_eq]
    simp only [Option.bind_some, decide_eq_true_eq]
    rw [if_pos o, spec_l05End.j1, if_pos (by omega), if_pos (by simp only [List.length_append, List.length_cons]; omega), e, if_neg (by omega), w64 (x := i + 1) (by omega) (by omega), w64 (x := x + 1) (by omega) (by omega)]
    have r := endS_l b ob k (pre ++ [s]) (c :: (t.flat ++ post)) (x + 1) (i + 1) (by simp only [List.length_append, List.length_cons, List.length_nil]; omega) (by simp only [List.length_append, List.length_cons, List.length_nil]; omega) (by omega) (by omega) (by omega)
    simp only [List.append_assoc, List.singleton_append] at r
    rw [r]
    obtain ⟨m, em⟩ := succ_of (d := 1) (by omega : 1 < k - 2 * b.flat.length)
    rw [em]
    obtain ⟨m, rfl⟩ := succ_of (d := 0) (by omega : 0 < m)
    have e2 : rd_T119 (pre ++ s :: (b.flat ++ c :: (t.flat ++ post))) (i + 1 + (b.flat.length : Int)) = c := by
      have := at_mid (pre ++ s :: b.flat) (t.flat ++ post) c (i := i + 1 + (b.flat.length : Int)) (by simp only [List.length_append, List.length_cons]; omega)
      simpa only [List.append_assoc, List.cons_append] using this
    rw [spec_l05End.l0, if_pos (by simp only [List.length_append, List.length_cons]; omega), if_pos (by omega), e2, l05Opens_eq]
    simp only [Option.bind_some, decide_eq_true_eq]
    rw [if_neg (by omega), spec_l05End.j1, if_pos (by omega), if_pos (by simp only [List.length_append, List.length_cons]; omega), e2, if_pos oc, w64 (x := x + 1 - 1) (by omega) (by omega), if_neg (by omega), w64 (by omega) (by omega), Int.add_sub_cancel]
    have r2 := endS_l t ot m (pre ++ s :: (b.flat ++ [c])) post x (i + 1 + (b.flat.length : Int) + 1) (by simp only [List.length_append, List.length_cons, List.length_nil]; omega) (by simp only [List.length_append, List.length_cons, List.length_nil]; omega) hx (by omega) (by omega)
    simp only [List.append_assoc, List.nil_append, List.cons_append] at r2
    rw [r2]
    congr 1
    · omega
    · omega
/-- Where the statement that closes an opening one stands. -/
theorem endS_at (pre post : List S119) (s c : S119) (b : Bk) (ok : b.ok) (o : s.f0 = 4 ∨ s.f0 = 5) (oc : c.f0 = 6) (i : Int) (hi : i = (pre.length : Int)) (hl : (pre ++ s :: (b.flat ++ c :: post)).length ≤ 1048576) (k : Nat) (hk : 2 * b.flat.length + 4 < k) :
    spec_l05End.f k (pre ++ s :: (b.flat ++ c :: post)) i = some (i + 1 + (b.flat.length : Int)) := by
  unfold spec_l05End.f
  have hl' := hl
  simp only [List.length_append, List.length_cons] at hl'
  obtain ⟨k, rfl⟩ := succ_of (d := 1) (by omega : 1 < k)
  obtain ⟨k, rfl⟩ := succ_of (d := 0) (by omega : 0 < k)
  have e := at_mid pre (b.flat ++ c :: post) s hi
  rw [spec_l05End.l0, if_pos (by simp only [List.length_append, List.length_cons]; omega), if_pos (by omega), e, l05Opens_eq]
  simp only [Option.bind_some, decide_eq_true_eq]
  rw [if_pos o, spec_l05End.j1, if_pos (by omega), if_pos (by simp only [List.length_append, List.length_cons]; omega), e, if_neg (by omega), w64 (x := i + 1) (by omega) (by omega), w64 (x := 0 + 1) (by omega) (by omega)]
  have r := endS_l b ok k (pre ++ [s]) (c :: post) (0 + 1) (i + 1) (by simp only [List.length_append, List.length_cons, List.length_nil]; omega) (by simp only [List.length_append, List.length_cons, List.length_nil]; omega) (by omega) (by omega) (by omega)
  simp only [List.append_assoc, List.singleton_append] at r
  rw [r]
  obtain ⟨m, em⟩ := succ_of (d := 1) (by omega : 1 < k - 2 * b.flat.length)
  rw [em]
  obtain ⟨m, rfl⟩ := succ_of (d := 0) (by omega : 0 < m)
  have e2 : rd_T119 (pre ++ s :: (b.flat ++ c :: post)) (i + 1 + (b.flat.length : Int)) = c := by
    have := at_mid (pre ++ s :: b.flat) post c (i := i + 1 + (b.flat.length : Int)) (by simp only [List.length_append, List.length_cons]; omega)
    simpa only [List.append_assoc, List.cons_append] using this
  rw [spec_l05End.l0, if_pos (by simp only [List.length_append, List.length_cons]; omega), if_pos (by omega), e2, l05Opens_eq]
  simp only [Option.bind_some, decide_eq_true_eq]
  rw [if_neg (by omega), spec_l05End.j1, if_pos (by omega), if_pos (by simp only [List.length_append, List.length_cons]; omega), e2, if_pos oc, w64 (x := 0 + 1 - 1) (by omega) (by omega), if_pos (by omega)]
theorem endI_l : ∀ (T : Bk), T.ok → ∀ (k : Nat) (pre post : List S119) (x i : Int), i = (pre.length : Int) → (pre ++ (T.flat ++ post)).length ≤ 1048576 → 1 ≤ x → x + (T.flat.length : Int) ≤ 4000000 → 2 * T.flat.length < k →
    impl_endOf.l0 k (pre ++ (T.flat ++ post)) x i = impl_endOf.l0 (k - 2 * T.flat.length) (pre ++ (T.flat ++ post)) x (i + (T.flat.length : Int))
  | .nil, _, k, pre, post, x, i, hi, hl, hx, hx2, hk => by
    simp [Bk.flat]
  | .leaf s t, ok, k, pre, post, x, i, hi, hl, hx, hx2, hk => by
    simp only [Bk.flat, List.length_cons, List.length_append, List.cons_append] at hk hl hx2 ⊢
    obtain ⟨k, rfl⟩ := succ_of (d := 1) (by omega : 1 < k)
    obtain ⟨k, rfl⟩ := succ_of (d := 0) (by omega : 0 < k)
    have e := at_mid pre (t.flat ++ post) s hi
    rw [impl_endOf.l0, if_pos (by simp only [List.length_append, List.length_cons]; omega), if_pos (by omega), e, opening_eq]
    have n4 : ¬ (s.f0 = 4 ∨ s.f0 = 5) := fun h => h.elim ok.1 ok.2.1
    simp only [Option.bind_some, decide_eq_true_eq]
    rw [if_neg n4, impl_endOf.j1, if_pos (by omega), if_pos (by simp only [List.length_append, List.length_cons]; omega), e, if_neg ok.2.2.1, if_neg (by omega), w64 (by omega) (by omega)]
    have r := endI_l t ok.2.2.2 k (pre ++ [s]) post x (i + 1) (by simp only [List.length_append, List.length_cons, List.length_nil]; omega) (by simp only [List.length_append, List.length_cons, List.length_nil]; omega) hx (by omega) (by omega)
    simp only [List.append_assoc, List.singleton_append] at r
    rw [r]
    congr 1
    · omega
    · omega
  | .node s b c t, ok, k, pre, post, x, i, hi, hl, hx, hx2, hk => by
    obtain ⟨o, ob, oc, ot⟩ := ok
    simp only [Bk.flat, List.length_cons, List.length_append, List.cons_append, List.append_assoc] at hk hl hx2 ⊢
    obtain ⟨k, rfl⟩ := succ_of (d := 1) (by omega : 1 < k)
    obtain ⟨k, rfl⟩ := succ_of (d := 0) (by omega : 0 < k)
    have e := at_mid pre (b.flat ++ c :: (t.flat ++ post)) s hi
    rw [impl_endOf.l0, if_pos (by simp only [List.length_append, List.length_cons]; omega), if_pos (by omega), e, opening_eq]
    simp only [Option.bind_some, decide_eq_true_eq]
    rw [if_pos o, impl_endOf.j1, if_pos (by omega), if_pos (by simp only [List.length_append, List.length_cons]; omega), e, if_neg (by omega), w64 (x := i + 1) (by omega) (by omega), w64 (x := x + 1) (by omega) (by omega), if_neg (by omega)]
    have r := endI_l b ob k (pre ++ [s]) (c :: (t.flat ++ post)) (x + 1) (i + 1) (by simp only [List.length_append, List.length_cons, List.length_nil]; omega) (by simp only [List.length_append, List.length_cons, List.length_nil]; omega) (by omega) (by omega) (by omega)
    simp only [List.append_assoc, List.singleton_append] at r
    rw [r]
    obtain ⟨m, em⟩ := succ_of (d := 1) (by omega : 1 < k - 2 * b.flat.length)
    rw [em]
    obtain ⟨m, rfl⟩ := succ_of (d := 0) (by omega : 0 < m)
    have e2 : rd_T119 (pre ++ s :: (b.flat ++ c :: (t.flat ++ post))) (i + 1 + (b.flat.length : Int)) = c := by
      have := at_mid (pre ++ s :: b.flat) (t.flat ++ post) c (i := i + 1 + (b.flat.length : Int)) (by simp only [List.length_append, List.length_cons]; omega)
      simpa only [List.append_assoc, List.cons_append] using this
    rw [impl_endOf.l0, if_pos (by simp only [List.length_append, List.length_cons]; omega), if_pos (by omega), e2, opening_eq]
    simp only [Option.bind_some, decide_eq_true_eq]
    rw [if_neg (by omega), impl_endOf.j1, if_pos (by omega), if_pos (by simp only [List.length_append, List.length_cons]; omega), e2, if_pos oc, w64 (x := x + 1 - 1) (by omega) (by omega), if_neg (by omega), w64 (by omega) (by omega), Int.add_sub_cancel]
    have r2 := endI_l t ot m (pre ++ s :: (b.flat ++ [c])) post x (i + 1 + (b.flat.length : Int) + 1) (by simp only [List.length_append, List.length_cons, List.length_nil]; omega) (by simp only [List.length_append, List.length_cons, List.length_nil]; omega) hx (by omega) (by omega)
    simp only [List.append_assoc, List.nil_append, List.cons_append] at r2
    rw [r2]
    congr 1
    · omega
    · omega
/-- Where the statement that closes an opening one stands. -/
theorem endI_at (pre post : List S119) (s c : S119) (b : Bk) (ok : b.ok) (o : s.f0 = 4 ∨ s.f0 = 5) (oc : c.f0 = 6) (i : Int) (hi : i = (pre.length : Int)) (hl : (pre ++ s :: (b.flat ++ c :: post)).length ≤ 1048576) (k : Nat) (hk : 2 * b.flat.length + 4 < k) :
    impl_endOf.f k (pre ++ s :: (b.flat ++ c :: post)) i = some (i + 1 + (b.flat.length : Int)) := by
  unfold impl_endOf.f
  have hl' := hl
  simp only [List.length_append, List.length_cons] at hl'
  obtain ⟨k, rfl⟩ := succ_of (d := 1) (by omega : 1 < k)
  obtain ⟨k, rfl⟩ := succ_of (d := 0) (by omega : 0 < k)
  have e := at_mid pre (b.flat ++ c :: post) s hi
  rw [impl_endOf.l0, if_pos (by simp only [List.length_append, List.length_cons]; omega), if_pos (by omega), e, opening_eq]
  simp only [Option.bind_some, decide_eq_true_eq]
  rw [if_pos o, impl_endOf.j1, if_pos (by omega), if_pos (by simp only [List.length_append, List.length_cons]; omega), e, if_neg (by omega), w64 (x := i + 1) (by omega) (by omega), w64 (x := 0 + 1) (by omega) (by omega), if_neg (by omega)]
  have r := endI_l b ok k (pre ++ [s]) (c :: post) (0 + 1) (i + 1) (by simp only [List.length_append, List.length_cons, List.length_nil]; omega) (by simp only [List.length_append, List.length_cons, List.length_nil]; omega) (by omega) (by omega) (by omega)
  simp only [List.append_assoc, List.singleton_append] at r
  rw [r]
  obtain ⟨m, em⟩ := succ_of (d := 1) (by omega : 1 < k - 2 * b.flat.length)
  rw [em]
  obtain ⟨m, rfl⟩ := succ_of (d := 0) (by omega : 0 < m)
  have e2 : rd_T119 (pre ++ s :: (b.flat ++ c :: post)) (i + 1 + (b.flat.length : Int)) = c := by
    have := at_mid (pre ++ s :: b.flat) post c (i := i + 1 + (b.flat.length : Int)) (by simp only [List.length_append, List.length_cons]; omega)
    simpa only [List.append_assoc, List.cons_append] using this
  rw [impl_endOf.l0, if_pos (by simp only [List.length_append, List.length_cons]; omega), if_pos (by omega), e2, opening_eq]
  simp only [Option.bind_some, decide_eq_true_eq]
  rw [if_neg (by omega), impl_endOf.j1, if_pos (by omega), if_pos (by simp only [List.length_append, List.length_cons]; omega), e2, if_pos oc, w64 (x := 0 + 1 - 1) (by omega) (by omega), if_pos (by omega)]
/-- What a statement costs. -/
def costC (s : S119) : Int := if s.f0 = 1 then 2 else if s.f0 = 2 then 5 else if s.f0 = 3 then 4 else if s.f0 = 4 then 1 else if s.f0 = 5 then 1 else 0
theorem stOk_kind {s : S119} (h : stOk s = true) : s.f0 = 1 ∨ s.f0 = 2 ∨ s.f0 = 3 ∨ s.f0 = 4 ∨ s.f0 = 5 ∨ s.f0 = 6 := by
  unfold stOk stmtOk at h
  by_cases h1 : s.f0 = 1
  · exact .inl h1
  by_cases h2 : s.f0 = 2
  · exact .inr (.inl h2)
  by_cases h3 : s.f0 = 3
  · exact .inr (.inr (.inl h3))
  by_cases h4 : s.f0 = 4
  · exact .inr (.inr (.inr (.inl h4)))
  by_cases h5 : s.f0 = 5
  · exact .inr (.inr (.inr (.inr (.inl h5))))
  by_cases h6 : s.f0 = 6
  · exact .inr (.inr (.inr (.inr (.inr h6))))
  · simp [h1, h2, h3, h4, h5, h6] at h
theorem stOk_loop {s : S119} (h : stOk s = true) (o : s.f0 = 5) : 1 ≤ s.f2 ∧ s.f2 ≤ 5 := by
  unfold stOk stmtOk at h
  simp [o] at h
  omega
theorem stOk_if {s : S119} (h : stOk s = true) (o : s.f0 = 4) : s.f2 = 0 := by
  unfold stOk stmtOk at h
  simp [o] at h
  omega
theorem l11Cost_eq (s : S119) : spec_l11Cost.f s.f0 s.f1 s.f2 s.f3.f0 s.f3.f1 s.f3.f2 = some (costC s) := by
  unfold spec_l11Cost.f costC
  by_cases h1 : s.f0 = 1
  · simp [h1]
  by_cases h2 : s.f0 = 2
  · simp [h2]
  by_cases h3 : s.f0 = 3
  · simp [h3]
  by_cases h4 : s.f0 = 4
  · simp [h4]
  by_cases h5 : s.f0 = 5
  · simp [h5]
  · simp [h1, h2, h3, h4, h5]
theorem stmtCostI_eq {s : S119} (h : stOk s = true) (k : Nat) (hk : 3 < k) : impl_StmtCost.f k s.f0 s.f1 s.f2 s.f3.f0 s.f3.f1 s.f3.f2 = some (costC s) := by
  have h' := h
  unfold stOk at h'
  unfold impl_StmtCost.f
  rw [stmtI_eq _ _ _ _ _ _ _ hk, h']
  simp only [Option.bind_some, if_true]
  unfold costC
  rcases stOk_kind h with o | o | o | o | o | o <;> simp [o, rd]
/-- The bound of a block, added to what there is. -/
def bndA : Bk → Int → Int
  | .nil, a => a
  | .leaf s t, a => bndA t (wrap64 (wrap64 (a + costC s) + 3))
  | .node s b _ t, a => bndA t (wrap64 (wrap64 (a + costC s) + wrap64 (mx 1 s.f2 * bndA b 0)))
theorem bndS_l : ∀ (T : Bk), T.ok → ∀ (k : Nat) (pre post : List S119) (a i j : Int), i = (pre.length : Int) → j = i + (T.flat.length : Int) → (pre ++ (T.flat ++ post)).length ≤ 1048576 → 3 * T.flat.length + 8 < k →
    spec_l21Bound.l0 k (pre ++ (T.flat ++ post)) j a i = some (bndA T a)
  | .nil, _, k, pre, post, a, i, j, hi, hj, hl, hk => by
    obtain ⟨k, rfl⟩ := succ_of hk
    simp only [Bk.flat, List.length_nil] at hj
    rw [spec_l21Bound.l0, if_neg (by omega)]
    rfl
  | .leaf s t, ok, k, pre, post, a, i, j, hi, hj, hl, hk => by
    simp only [Bk.flat, List.length_cons, List.length_append, List.cons_append] at hk hl hj ⊢
    obtain ⟨k, rfl⟩ := succ_of (d := 1) (by omega : 1 < k)
    obtain ⟨k, rfl⟩ := succ_of (d := 0) (by omega : 0 < k)
    have e := at_mid pre (t.flat ++ post) s hi
    have n4 : ¬ (s.f0 = 4) := ok.1
    have n5 : (s.f0 == 5) = false := by simpa using ok.2.1
    have w1 : wrap64 (i + 1) = i + 1 := w64 (by omega) (by omega)
    rw [spec_l21Bound.l0, if_pos (by omega), if_pos (by omega), if_pos (by simp only [List.length_append, List.length_cons]; omega), e, if_neg n4, n5, spec_l21Bound.j1, if_neg (by simp), if_pos (by omega), if_pos (by simp only [List.length_append, List.length_cons]; omega), e, l11Cost_eq, w1]
    simp only [Option.bind_some]
    have r := bndS_l t ok.2.2.2 k (pre ++ [s]) post (wrap64 (wrap64 (a + costC s) + 3)) (i + 1) j (by simp only [List.length_append, List.length_cons, List.length_nil]; omega) (by omega) (by simp only [List.length_append, List.length_cons, List.length_nil]; omega) (by omega)
    simp only [List.append_assoc, List.singleton_append] at r
    rw [r]
    rfl
  | .node s b c t, ok, k, pre, post, a, i, j, hi, hj, hl, hk => by
    obtain ⟨o, ob, oc, ot⟩ := ok
    simp only [Bk.flat, List.length_cons, List.length_append, List.cons_append, List.append_assoc] at hk hl hj ⊢
    obtain ⟨k, rfl⟩ := succ_of (d := 1) (by omega : 1 < k)
    obtain ⟨k, rfl⟩ := succ_of (d := 0) (by omega : 0 < k)
    have e := at_mid pre (b.flat ++ c :: (t.flat ++ post)) s hi
    have w1 : wrap64 (i + 1) = i + 1 := w64 (by omega) (by omega)
    have w2 : wrap64 (i + 1 + (b.flat.length : Int) + 1) = i + 1 + (b.flat.length : Int) + 1 := w64 (by omega) (by omega)
    have hend := endS_at pre (t.flat ++ post) s c b ob o oc i hi (by simp only [List.length_append, List.length_cons]; omega) k (by omega)
    have hj1 : ∀ q : Bool, q = true → spec_l21Bound.j1 (k + 1) (pre ++ s :: (b.flat ++ c :: (t.flat ++ post))) j a i q = some (bndA (.node s b c t) a) := by
      intro q hq
      subst hq
      rw [spec_l21Bound.j1, if_pos rfl, hend]
      simp only [Option.bind_some]
      rw [if_pos (by omega), if_pos (by simp only [List.length_append, List.length_cons]; omega), e, l11Cost_eq, w1, w2]
      simp only [Option.bind_some]
      obtain ⟨m, rfl⟩ := succ_of (d := 0) (by omega : 0 < k)
      have r1 := bndS_l b ob m (pre ++ [s]) (c :: (t.flat ++ post)) 0 (i + 1) (i + 1 + (b.flat.length : Int)) (by simp only [List.length_append, List.length_cons, List.length_nil]; omega) rfl (by simp only [List.length_append, List.length_cons, List.length_nil]; omega) (by omega)
      simp only [List.append_assoc, List.singleton_append] at r1
      rw [spec_l21Bound.f, r1]
      simp only [Option.bind_some]
      have r2 := bndS_l t ot (m + 1) (pre ++ s :: (b.flat ++ [c])) post (wrap64 (wrap64 (a + costC s) + wrap64 (mx 1 s.f2 * bndA b 0))) (i + 1 + (b.flat.length : Int) + 1) j (by simp only [List.length_append, List.length_cons, List.length_nil]; omega) (by omega) (by simp only [List.length_append, List.length_cons, List.length_nil]; omega) (by omega)
      simp only [List.append_assoc, List.nil_append, List.cons_append] at r2
      rw [r2]
      rfl
    rw [spec_l21Bound.l0, if_pos (by omega), if_pos (by omega), if_pos (by simp only [List.length_append, List.length_cons]; omega), e]
    by_cases h4 : s.f0 = 4
    · rw [if_pos h4]
      exact hj1 _ (by simp [h4])
    · rw [if_neg h4]
      exact hj1 _ (by simp; omega)
theorem take_drop_mid {α : Type} (pre m post : List α) {i j : Int} (hi : i = (pre.length : Int)) (hj : j = i + (m.length : Int)) : ((pre ++ (m ++ post)).take j.toNat).drop i.toNat = m := by
  have h1 : j.toNat = pre.length + m.length := by omega
  have h2 : i.toNat = pre.length := by omega
  rw [h1, h2, ← List.append_assoc, List.take_append_of_le_length (by simp), List.take_of_length_le (by simp), List.drop_left]
theorem bndI_l : ∀ (T : Bk), T.ok → (∀ s ∈ T.flat, stOk s = true) → ∀ (k : Nat) (pre : List S119) (a i : Int), i = (pre.length : Int) → (pre ++ T.flat).length ≤ 1048576 → 3 * T.flat.length + 8 < k →
    impl_bound.l0 k (pre ++ T.flat) a i = some (bndA T a)
  | .nil, _, _, k, pre, a, i, hi, hl, hk => by
    obtain ⟨k, rfl⟩ := succ_of hk
    rw [impl_bound.l0, if_neg (by simp only [Bk.flat, List.append_nil]; omega)]
    rfl
  | .leaf s t, ok, hs, k, pre, a, i, hi, hl, hk => by
    simp only [Bk.flat, List.length_cons, List.length_append] at hk hl ⊢
    obtain ⟨k, rfl⟩ := succ_of (d := 4) (by omega : 4 < k)
    have e := at_mid pre t.flat s hi
    have n4 : ¬ (s.f0 = 4 ∨ s.f0 = 5) := fun h => h.elim ok.1 ok.2.1
    have w1 : wrap64 (i + 1) = i + 1 := w64 (by omega) (by omega)
    rw [impl_bound.l0, if_pos (by simp only [List.length_append, List.length_cons]; omega), if_pos (by omega), e, stmtCostI_eq (hs s (by simp [Bk.flat])) k (by omega), opening_eq, w1]
    simp only [Option.bind_some, decide_eq_true_eq]
    rw [if_neg n4]
    have r := bndI_l t ok.2.2.2 (fun x hx => hs x (by simp [Bk.flat, hx])) k (pre ++ [s]) (wrap64 (wrap64 (a + costC s) + 3)) (i + 1) (by simp only [List.length_append, List.length_cons, List.length_nil]; omega) (by simp only [List.length_append, List.length_cons, List.length_nil]; omega) (by omega)
    simp only [List.append_assoc, List.singleton_append] at r
    rw [r]
    rfl
  | .node s b c t, ok, hs, k, pre, a, i, hi, hl, hk => by
    obtain ⟨o, ob, oc, ot⟩ := ok
    simp only [Bk.flat, List.length_cons, List.length_append] at hk hl ⊢
    obtain ⟨k, rfl⟩ := succ_of (d := 4) (by omega : 4 < k)
    have hss := hs s (by simp [Bk.flat])
    have e := at_mid pre (b.flat ++ c :: t.flat) s hi
    have w1 : wrap64 (i + 1) = i + 1 := w64 (by omega) (by omega)
    have w2 : wrap64 (i + 1 + (b.flat.length : Int) + 1) = i + 1 + (b.flat.length : Int) + 1 := w64 (by omega) (by omega)
    have hend := endI_at pre t.flat s c b ob o oc i hi (by simp only [List.length_append, List.length_cons]; omega) k (by omega)
    rw [impl_bound.l0, if_pos (by simp only [List.length_append, List.length_cons]; omega), if_pos (by omega), e, stmtCostI_eq hss k (by omega), opening_eq, w1]
    simp only [Option.bind_some, decide_eq_true_eq]
    rw [if_pos o, hend]
    simp only [Option.bind_some]
    rw [w2]
    obtain ⟨m, rfl⟩ := succ_of (d := 0) (by omega : 0 < k)
    have r1 : impl_bound.f (m + 1) (((pre ++ s :: (b.flat ++ c :: t.flat)).take (i + 1 + (b.flat.length : Int)).toNat).drop (i + 1).toNat) = some (bndA b 0) := by
      have q := take_drop_mid (pre ++ [s]) b.flat (c :: t.flat) (i := i + 1) (j := i + 1 + (b.flat.length : Int)) (by simp only [List.length_append, List.length_cons, List.length_nil]; omega) rfl
      simp only [List.append_assoc, List.singleton_append] at q
      rw [q, impl_bound.f]
      have := bndI_l b ob (fun x hx => hs x (by simp [Bk.flat, hx])) m [] 0 0 rfl (by simp only [List.nil_append]; omega) (by omega)
      simpa using this
    rw [r1]
    simp only [Option.bind_some]
    have r2 := bndI_l t ot (fun x hx => hs x (by simp [Bk.flat, hx])) (m + 1) (pre ++ s :: (b.flat ++ [c])) (wrap64 (wrap64 (a + costC s) + wrap64 (mx 1 s.f2 * bndA b 0))) (i + 1 + (b.flat.length : Int) + 1) (by simp only [List.length_append, List.length_cons, List.length_nil]; omega) (by simp only [List.length_append, List.length_cons, List.length_nil]; omega) (by omega)
    simp only [List.append_assoc, List.nil_append, List.cons_append] at r2
    have hm : (if s.f0 = 5 then s.f2 else 1) = mx 1 s.f2 := by
      unfold mx
      by_cases h5 : s.f0 = 5
      · have := stOk_loop hss h5
        rw [if_pos h5]
        split <;> omega
      · have := stOk_if hss (by omega)
        rw [if_neg h5, if_neg (by omega)]
    by_cases h5 : s.f0 = 5
    · rw [if_pos h5] at hm
      rw [if_pos h5, if_pos (by omega), if_pos (by omega), if_pos (by simp only [List.length_append, List.length_cons]; omega), hm, r2]
      rfl
    · rw [if_neg h5] at hm
      rw [← hm] at r2
      rw [if_neg h5, if_pos (by omega), if_pos (by omega), if_pos (by simp only [List.length_append, List.length_cons]; omega), r2, bndA, ← hm]
def stm (x : S122) : S119 := ⟨x.f0, x.f1, x.f2, ⟨x.f3.f0, x.f3.f1, x.f3.f2⟩⟩
theorem szStmtS_eq (l : List S122) (a : Int) (hl : l.length ≤ 9223372036854775807) (h0 : 0 ≤ a) (h1 : a ≤ 1048576) : laws_szStmtS.f l a = some (if a < (l.length : Int) then -1 else a - (l.length : Int)) := by
  unfold laws_szStmtS.f
  rw [w64 (by omega) (by omega)]
  by_cases h : a < (l.length : Int)
  · rw [if_pos (by omega), if_pos h]
  · rw [if_neg (by omega), if_neg h]
theorem toStmtS_l (l : List S122) (hl : l.length ≤ 1048576) (d : Nat) : ∀ (k : Nat) (x : List S119) (i : Int), 0 ≤ i → x.length = l.length → i + (d : Int) = (l.length : Int) → (∀ j : Nat, (j : Int) < i → x[j]? = (l.map stm)[j]?) → d < k →
    laws_toStmtS.l0 k l x i = some (l.map stm) := by
  induction d with
  | zero =>
    intro k x i h0 hx hi hj hk
    obtain ⟨k, rfl⟩ := succ_of hk
    simp only [laws_toStmtS.l0]
    rw [if_neg (by omega)]
    congr 1
    apply List.ext_getElem?
    intro j
    by_cases h : (j : Int) < i
    · exact hj j h
    · rw [List.getElem?_eq_none (by omega), List.getElem?_eq_none (by rw [List.length_map]; omega)]
  | succ d ih =>
    intro k x i h0 hx hi hj hk
    obtain ⟨k, rfl⟩ := succ_of hk
    simp only [laws_toStmtS.l0, laws_toStmt.f, laws_toExpr.f]
    rw [if_pos (by omega), if_pos h0]
    simp only [Option.bind_some]
    rw [if_pos (by omega), w64 (by omega) (by omega)]
    refine ih k _ (i + 1) (by omega) (by simpa using hx) (by omega) (fun j h => ?_) (by omega)
    rw [List.getElem?_set]
    by_cases e : i.toNat = j
    · subst e
      rw [if_pos rfl, if_pos (by omega), List.getElem?_map, getD_rd z122 h0 (by omega)]
      rfl
    · rw [if_neg e]
      exact hj j (by omega)
theorem toStmtS_at (l : List S122) (hl : l.length ≤ 1048576) (k : Nat) (hk : l.length < k) : laws_toStmtS.f k l = some (l.map stm) := by
  unfold laws_toStmtS.f
  rw [if_pos (by omega), if_pos (by omega)]
  exact toStmtS_l l hl l.length k _ 0 (by omega) (by simp) (by omega) (fun j h => by omega) (by omega)
theorem eqStmtS_l (l : List S119) (hl : l.length ≤ 1048576) (d : Nat) : ∀ (k : Nat) (i : Int), 0 ≤ i → i + (d : Int) = (l.length : Int) → d < k →
    laws_eqStmtS.l0 k l l i = some true := by
  induction d with
  | zero =>
    intro k i h0 hi hk
    obtain ⟨k, rfl⟩ := succ_of hk
    simp only [laws_eqStmtS.l0]
    rw [if_neg (by omega)]
  | succ d ih =>
    intro k i h0 hi hk
    obtain ⟨k, rfl⟩ := succ_of hk
    simp only [laws_eqStmtS.l0, laws_eqStmt.f, laws_eqExpr.f]
    rw [if_pos (by omega), if_pos h0, if_pos (by omega), w64 (by omega) (by omega)]
    simp only [if_true, Option.bind_some]
    exact ih k (i + 1) (by omega) (by omega) (by omega)
theorem eqStmtS_same (l : List S119) (hl : l.length ≤ 1048576) (k : Nat) (hk : l.length < k) : laws_eqStmtS.f k l l = some true := by
  unfold laws_eqStmtS.f
  rw [if_pos rfl]
  exact eqStmtS_l l hl l.length k 0 (by omega) (by omega) (by omega)
theorem task_or (x : S39) (g : gd39 x) : ∃ r, laws_szTask.f x.f0 x.f1.f0 x.f1.f1 x.f1.f2 1048576 = some r ∧ (r < 0 ∨ ((x.f0.map stm).length ≤ 1048576 ∧ (∀ k, 1048577 < k → laws_toTask.f k x.f0 x.f1.f0 x.f1.f1 x.f1.f2 = some (x.f0.map stm, x.f1.f0, x.f1.f1, x.f1.f2)) ∧ (∀ k, 1048577 < k → laws_eqTask.f k (x.f0.map stm) x.f1.f0 x.f1.f1 x.f1.f2 (x.f0.map stm) x.f1.f0 x.f1.f1 x.f1.f2 = some true))) := by
  obtain ⟨⟨a1, a2⟩, g2⟩ := g
  simp only [maxLen] at a1
  unfold laws_szTask.f
  rw [szStmtS_eq _ _ (by omega) (by omega) (by omega)]
  simp only [Option.bind_some]
  by_cases h : (1048576 : Int) < (x.f0.length : Int)
  · rw [if_pos (by rw [if_pos h]; omega)]
    exact ⟨_, rfl, .inl (by omega)⟩
  rw [if_neg (by rw [if_neg h]; omega), if_neg h]
  have hm : (x.f0.map stm).length ≤ 1048576 := by rw [List.length_map]; omega
  refine ⟨_, rfl, .inr ⟨hm, fun k hk => ?_, fun k hk => ?_⟩⟩
  · unfold laws_toTask.f laws_toExpr.f
    rw [toStmtS_at _ (by omega) _ (by omega)]
    rfl
  · unfold laws_eqTask.f laws_eqExpr.f
    rw [eqStmtS_same _ hm _ (by omega)]
    simp
theorem FnExactBlockBound : laws_FnExactBlockBound.Pure := by
  intro x g
  refine ⟨4000000, ?_⟩
  unfold laws_FnExactBlockBound.f
  obtain ⟨r, e, h | ⟨hl, h1, h2⟩⟩ := task_or x g
  · rw [e]
    simp only [Option.bind_some]
    rw [if_pos h]
  rw [e]
  simp only [Option.bind_some]
  by_cases hr : r < 0
  · rw [if_pos hr]
  rw [if_neg hr]
  simp only [h1 4000000 (by omega), h2 4000000 (by omega), Option.bind_some, if_true]
  generalize x.f0.map stm = l at *
  unfold spec_BlockBound.f impl_BlockBound.f spec_l08Ok.f impl_taskOk.f
  rw [blockS_at l hl 4000000 (by omega), blockI_at l hl 4000000 (by omega)]
  simp only [Option.bind_some, exprS_eq, exprI_eq]
  by_cases ok : blockOk l = true
  · obtain ⟨T, t1, t2, t3, t4⟩ := blockOk_tree ok
    simp only [ok, if_true]
    subst t2
    have rS := bndS_l T t1 3999999 [] [] 0 0 (T.flat.length : Int) rfl (by omega) (by simp only [List.nil_append, List.append_nil]; omega) (by omega)
    have rI := bndI_l T t1 t4 3999999 [] 0 0 rfl (by simp only [List.nil_append]; omega) (by omega)
    simp only [List.nil_append, List.append_nil] at rS rI
    have fS : spec_l21Bound.f 4000000 T.flat 0 (T.flat.length : Int) = some (bndA T 0) := by
      rw [spec_l21Bound.f, rS]
    have fI : impl_bound.f 4000000 T.flat = some (bndA T 0) := by
      rw [impl_bound.f, rI]
    rw [fS, fI]
    cases exprOk x.f1.f0 x.f1.f1 x.f1.f2 <;> simp
  · simp [ok]

end Go.Proofs.Ytaicbghmfeehkaa.Pure
