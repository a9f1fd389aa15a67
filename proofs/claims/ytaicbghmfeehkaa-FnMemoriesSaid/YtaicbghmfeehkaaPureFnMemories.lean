/- The law FnMemories: for every input the function answers true. No condition. -/
import Derived.Test.YtaicbghmfeehkaaGx5
namespace Go.Proofs.Ytaicbghmfeehkaa.Pure
open Go.RowKit Go.Proofs.Ytaicbghmfeehkaa.G Go.Proofs.YtaicbghmfeehkaaW.PrintWords Go.Proofs.YtaicbghmfeehkaaW.PrintLast
set_option linter.unusedVariables false
set_option linter.unusedSimpArgs false

theorem w64 {x : Int} (h : -9223372036854775808 ≤ x) (h2 : x ≤ 9223372036854775807) : wrap64 x = x := by
  unfold wrap64
  omega
theorem wf_i64 {x : Int} (h : (Lit.int .i64 x).wf = true) : -9223372036854775808 ≤ x ∧ x ≤ 9223372036854775807 := by
  simp only [Lit.wf, IntKind.min, IntKind.max, IntKind.signed, IntKind.bits, Bool.and_eq_true, decide_eq_true_eq, if_true] at h
  omega
theorem succ_of {k d : Nat} (h : d < k) : ∃ m, k = m + 1 := ⟨k - 1, by omega⟩
theorem rd_eq {l : List Int} {i : Int} (h0 : 0 ≤ i) (h : i < (l.length : Int)) : l[i.toNat]? = some (rd l i) := by
  unfold rd
  rw [List.getD_eq_getElem?_getD, List.getElem?_eq_getElem (by omega)]
  rfl
theorem drop_rd {l : List Int} {i : Int} (h0 : 0 ≤ i) (h : i < (l.length : Int)) : l.drop i.toNat = rd l i :: l.drop (i + 1).toNat := by
  have h1 : i.toNat < l.length := by omega
  have h2 : (i + 1).toNat = i.toNat + 1 := by omega
  have h3 := rd_eq h0 h
  rw [h2, List.drop_eq_getElem_cons h1]
  rw [List.getElem?_eq_getElem h1] at h3
  rw [Option.some.inj h3]
/-- The numbers a, a + 1, .. : n of them. -/
def marks (a : Int) (n : Nat) : List Int := (List.range n).map fun j : Nat => a + (j : Int)
theorem marks_len (a : Int) (n : Nat) : (marks a n).length = n := by simp [marks]
theorem marks_get (a : Int) (n i : Nat) (h : i < n) : (marks a n)[i]? = some (a + (i : Int)) := by simp [marks, h]
theorem rd_all {P : Int → Prop} {l : List Int} (h : ∀ x ∈ l, P x) {i : Int} (h0 : 0 ≤ i) (h1 : i < (l.length : Int)) : P (rd l i) := h _ (List.mem_of_getElem? (rd_eq h0 h1))
theorem getD_rd {α : Type} (z : α) {l : List α} {i : Int} (h0 : 0 ≤ i) (h : i < (l.length : Int)) : l[i.toNat]? = some (l.getD i.toNat z) := by
  rw [List.getD_eq_getElem?_getD, List.getElem?_eq_getElem (by omega)]
  rfl
theorem drop_getD {α : Type} (z : α) {l : List α} {i : Int} (h0 : 0 ≤ i) (h : i < (l.length : Int)) : l.drop i.toNat = l.getD i.toNat z :: l.drop (i + 1).toNat := by
  have h1 : i.toNat < l.length := by omega
  have h2 : (i + 1).toNat = i.toNat + 1 := by omega
  have h3 := getD_rd z h0 h
  rw [h2, List.drop_eq_getElem_cons h1]
  rw [List.getElem?_eq_getElem h1] at h3
  rw [Option.some.inj h3]
theorem getD_mem {α : Type} (z : α) {l : List α} {i : Int} (h0 : 0 ≤ i) (h : i < (l.length : Int)) : l.getD i.toNat z ∈ l := List.mem_of_getElem? (getD_rd z h0 h)
theorem tmod_in {a n : Int} (ha : 0 ≤ a) (hn : 0 < n) : 0 ≤ Int.tmod a n ∧ Int.tmod a n < n := by
  rw [Int.tmod_eq_emod_of_nonneg ha]
  exact ⟨Int.emod_nonneg _ (by omega), Int.emod_lt_of_pos _ hn⟩
theorem within_eq (a b c : Int) : impl_within.f a b c = some (decide (b ≤ a ∧ a ≤ c)) := by
  unfold impl_within.f
  by_cases h : b ≤ a <;> simp [h]
theorem packI_ok (a b c : Int) : ∃ r, impl_PackControl.f a b c = some r := by
  unfold impl_PackControl.f
  simp only [within_eq, Option.bind_some]
  split
  · split
    · split
      · exact ⟨_, rfl⟩
      · exact ⟨_, rfl⟩
    · exact ⟨_, rfl⟩
  · exact ⟨_, rfl⟩
theorem packI_le {a b c r : Int} (h : impl_PackControl.f a b c = some r) : r ≤ 100000 := by
  unfold impl_PackControl.f at h
  simp only [within_eq, Option.bind_some, decide_eq_true_eq] at h
  by_cases h1 : 0 ≤ a ∧ a ≤ 5
  · rw [if_pos h1] at h
    by_cases h2 : 0 ≤ b ∧ b ≤ 8
    · rw [if_pos h2] at h
      by_cases h3 : 0 ≤ c ∧ c ≤ 24
      · rw [if_pos h3] at h
        rw [w64 (x := 16 * c) (by omega) (by omega), w64 (x := b + 16 * c) (by omega) (by omega), w64 (x := 8 * (b + 16 * c)) (by omega) (by omega), w64 (by omega) (by omega)] at h
        have := Option.some.inj h
        omega
      · rw [if_neg h3] at h
        have := Option.some.inj h
        omega
    · rw [if_neg h2] at h
      have := Option.some.inj h
      omega
  · rw [if_neg h1] at h
    have := Option.some.inj h
    omega
theorem unpackI_ok (a : Int) : ∃ r, impl_UnpackControl.f a = some r := by
  unfold impl_UnpackControl.f
  split
  · exact ⟨_, rfl⟩
  · obtain ⟨r, h⟩ := packI_ok (Int.tmod a 8) (Int.tmod (wrap64 (Int.tdiv a 8)) 16) (wrap64 (Int.tdiv a 128))
    rw [h]
    simp only [Option.bind_some]
    split
    · exact ⟨_, rfl⟩
    · exact ⟨_, rfl⟩
/-- An expression of the language. -/
def exprOk (a b c : Int) : Bool := decide ((1 ≤ a ∧ a ≤ 7) ∧ (-8 ≤ b ∧ b ≤ 999) ∧ -8 ≤ c ∧ c ≤ 999)
/-- A statement of the language: its kind, its variable, its number, its expression. -/
def stmtOk (a b c d e f : Int) : Bool :=
  if a = 1 then decide ((0 ≤ b ∧ b ≤ 7) ∧ c = 0) && exprOk d e f
  else if a = 2 then decide ((0 ≤ b ∧ b ≤ 7) ∧ (0 ≤ c ∧ c ≤ 3) ∧ d = 0 ∧ e = 0 ∧ f = 0)
  else if a = 3 ∨ a = 4 then decide (b = 0 ∧ c = 0) && exprOk d e f
  else if a = 5 then decide (b = 0 ∧ (1 ≤ c ∧ c ≤ 5) ∧ d = 0 ∧ e = 0 ∧ f = 0)
  else if a = 6 then decide (b = 0 ∧ c = 0 ∧ d = 0 ∧ e = 0 ∧ f = 0) else false
theorem operandI_eq (x : Int) : impl_OperandOk.f x = some (decide (-8 ≤ x ∧ x ≤ 999)) := by unfold impl_OperandOk.f; rw [within_eq]; rfl
theorem exprI_eq (a b c : Int) : impl_ExprOk.f a b c = some (exprOk a b c) := by
  unfold impl_ExprOk.f exprOk
  rw [within_eq, operandI_eq, operandI_eq]
  by_cases h1 : 1 ≤ a ∧ a ≤ 7 <;> by_cases h2 : -8 ≤ b ∧ b ≤ 999 <;> simp [h1, h2]
theorem stmtI_eq (a b c d e f : Int) (k : Nat) (hk : 3 < k) : impl_StmtOk.f k a b c d e f = some (stmtOk a b c d e f) := by
  obtain ⟨k, rfl⟩ : ∃ m, k = m + 4 := ⟨k - 4, by omega⟩
  unfold impl_StmtOk.f impl_hasVar.f impl_isVar.f stmtOk
  simp only [impl_StmtOk.j0, impl_StmtOk.j1, impl_hasExpr.f, impl_isSensor.f, within_eq, exprI_eq, Option.bind_some]
  by_cases h1 : a = 1
  · subst h1
    by_cases h : c = 0 <;> by_cases g : 0 ≤ b ∧ b ≤ 7 <;> cases exprOk d e f <;> simp [h, g]
  by_cases h2 : a = 2
  · subst h2
    by_cases h : d = 0 <;> by_cases h' : e = 0 <;> by_cases h'' : f = 0 <;> by_cases g : 0 ≤ b ∧ b ≤ 7 <;> simp [h, h', h'', g]
  by_cases h3 : a = 3
  · subst h3
    by_cases h : b = 0 <;> by_cases h' : c = 0 <;> cases exprOk d e f <;> simp [h, h']
  by_cases h4 : a = 4
  · subst h4
    by_cases h : b = 0 <;> by_cases h' : c = 0 <;> cases exprOk d e f <;> simp [h, h']
  by_cases h5 : a = 5
  · subst h5
    by_cases h : b = 0 <;> by_cases h' : d = 0 <;> by_cases h'' : e = 0 <;> by_cases g : f = 0 <;> simp [h, h', h'', g]
  by_cases h6 : a = 6
  · subst h6
    by_cases h : b = 0 <;> by_cases h' : d = 0 <;> by_cases h'' : e = 0 <;> by_cases g : f = 0 <;> by_cases g' : c = 0 <;> simp [h, h', h'', g, g']
  · have n : ¬ (1 ≤ a ∧ a ≤ 6) := by omega
    simp [h1, h2, h3, h4, h5, h6, n]
/-- A statement of the language. -/
def stOk (s : S119) : Bool := stmtOk s.f0 s.f1 s.f2 s.f3.f0 s.f3.f1 s.f3.f2
/-- A block as a tree: its statements in order, an opening one with what it holds and its closing one. -/
inductive Bk where
  | nil : Bk
  | leaf (s : S119) (t : Bk) : Bk
  | node (s : S119) (b : Bk) (e : S119) (t : Bk) : Bk
def Bk.flat : Bk → List S119
  | .nil => []
  | .leaf s t => s :: t.flat
  | .node s b e t => s :: (b.flat ++ e :: t.flat)
def Bk.ok : Bk → Prop
  | .nil => True
  | .leaf s t => s.f0 ≠ 4 ∧ s.f0 ≠ 5 ∧ s.f0 ≠ 6 ∧ t.ok
  | .node s b e t => (s.f0 = 4 ∨ s.f0 = 5) ∧ b.ok ∧ e.f0 = 6 ∧ t.ok
/-- How many are open, behind a statement. -/
def dNext (s : S119) (d : Int) : Int := if s.f0 = 4 ∨ s.f0 = 5 then d + 1 else if s.f0 = 6 then d - 1 else d
/-- The statements are valid, and there are never too many or too few open ones. -/
def blkOk : List S119 → Int → Bool
  | [], d => decide (d = 0)
  | s :: t, d => stOk s && (decide (0 ≤ dNext s d ∧ dNext s d ≤ 3) && blkOk t (dNext s d))
def blockOk (l : List S119) : Bool := blkOk l 0 && decide ((l.length : Int) ≤ 24)
theorem blkOk_cons {s : S119} {t : List S119} {d : Int} : blkOk (s :: t) d = true ↔ stOk s = true ∧ (0 ≤ dNext s d ∧ dNext s d ≤ 3) ∧ blkOk t (dNext s d) = true := by
  rw [blkOk, Bool.and_eq_true, Bool.and_eq_true, decide_eq_true_eq]
theorem blkOk_all : ∀ (l : List S119) (d : Int), blkOk l d = true → ∀ s ∈ l, stOk s = true
  | [], d, h, s, hs => by simp at hs
  | x :: t, d, h, s, hs => by
    obtain ⟨h1, h2, h3⟩ := blkOk_cons.1 h
    rcases List.mem_cons.1 hs with rfl | hs
    · exact h1
    · exact blkOk_all t _ h3 s hs
theorem parse (n : Nat) : ∀ (l : List S119) (d : Int), l.length ≤ n → 0 ≤ d → blkOk l d = true →
    (d = 0 → ∃ T : Bk, T.ok ∧ T.flat = l) ∧ (0 < d → ∃ (T : Bk) (e : S119) (r : List S119), T.ok ∧ e.f0 = 6 ∧ l = T.flat ++ e :: r ∧ blkOk r (d - 1) = true) := by
  induction n with
  | zero =>
    intro l d hl hd h
    have : l = [] := List.eq_nil_of_length_eq_zero (by omega)
    subst this
    simp only [blkOk, decide_eq_true_eq] at h
    exact ⟨fun _ => ⟨.nil, trivial, rfl⟩, fun h2 => absurd h (by omega)⟩
  | succ n ih =>
    intro l d hl hd h
    cases l with
    | nil =>
      simp only [blkOk, decide_eq_true_eq] at h
      exact ⟨fun _ => ⟨.nil, trivial, rfl⟩, fun h2 => absurd h (by omega)⟩
    | cons s t =>
      obtain ⟨h1, h2, h3⟩ := blkOk_cons.1 h
      simp only [List.length_cons] at hl
      by_cases o : s.f0 = 4 ∨ s.f0 = 5
      · have e : dNext s d = d + 1 := by rw [dNext, if_pos o]
        rw [e] at h2 h3
        obtain ⟨T1, c, r, k1, k2, k3, k4⟩ := (ih t (d + 1) (by omega) (by omega) h3).2 (by omega)
        rw [Int.add_sub_cancel] at k4
        have hr : r.length ≤ n := by
          have := congrArg List.length k3
          simp only [List.length_append, List.length_cons] at this
          omega
        obtain ⟨q1, q2⟩ := ih r d hr hd k4
        constructor
        · intro d0
          obtain ⟨T2, m1, m2⟩ := q1 d0
          exact ⟨.node s T1 c T2, ⟨o, k1, k2, m1⟩, by rw [Bk.flat, m2, k3]⟩
        · intro d0
          obtain ⟨T2, c2, r2, m1, m2, m3, m4⟩ := q2 d0
          exact ⟨.node s T1 c T2, c2, r2, ⟨o, k1, k2, m1⟩, m2, by rw [Bk.flat, k3, m3]; simp, m4⟩
      · by_cases c : s.f0 = 6
        · have e : dNext s d = d - 1 := by rw [dNext, if_neg o, if_pos c]
          rw [e] at h2 h3
          exact ⟨fun d0 => absurd h2 (by omega), fun _ => ⟨.nil, s, t, trivial, c, rfl, h3⟩⟩
        · have e : dNext s d = d := by rw [dNext, if_neg o, if_neg c]
          rw [e] at h2 h3
          obtain ⟨q1, q2⟩ := ih t d (by omega) hd h3
          constructor
          · intro d0
            obtain ⟨T2, m1, m2⟩ := q1 d0
            exact ⟨.leaf s T2, ⟨fun h => o (.inl h), fun h => o (.inr h), c, m1⟩, by rw [Bk.flat, m2]⟩
          · intro d0
            obtain ⟨T2, c2, r2, m1, m2, m3, m4⟩ := q2 d0
            exact ⟨.leaf s T2, c2, r2, ⟨fun h => o (.inl h), fun h => o (.inr h), c, m1⟩, m2, by rw [Bk.flat, m3]; rfl, m4⟩
/-- A valid block is a tree. -/
theorem blockOk_tree {l : List S119} (h : blockOk l = true) : ∃ T : Bk, T.ok ∧ T.flat = l ∧ l.length ≤ 24 ∧ ∀ s ∈ l, stOk s = true := by
  rw [blockOk, Bool.and_eq_true, decide_eq_true_eq] at h
  obtain ⟨T, h1, h2⟩ := (parse l.length l 0 (by omega) (by omega) h.1).1 rfl
  exact ⟨T, h1, h2, by omega, blkOk_all l 0 h.1⟩
/-- What stands at a place of a list. -/
theorem at_mid (pre post : List S119) (s : S119) {i : Int} (hi : i = (pre.length : Int)) : rd_T119 (pre ++ s :: post) i = s := by
  unfold rd_T119
  rw [hi, Int.toNat_natCast, List.getD_eq_getElem?_getD, List.getElem?_append_right (by omega), Nat.sub_self]
  rfl
theorem opening_eq (x : Int) : impl_isOpening.f x = some (decide (x = 4 ∨ x = 5)) := by
  unfold impl_isOpening.f
  by_cases h : x = 4
  · simp [h]
  · by_cases h2 : x = 5 <;> simp [h, h2]
theorem blockI_l (l : List S119) (hl : l.length ≤ 1048576) (n : Nat) : ∀ (k : Nat) (d i : Int), 0 ≤ d → d ≤ 3 → 0 ≤ i → i + (n : Int) = (l.length : Int) → 2 * n + 5 < k →
    impl_BlockOk.l0 k l d l (l.length : Int) i = some (blkOk (l.drop i.toNat) d && decide ((l.length : Int) ≤ 24)) := by
  induction n with
  | zero =>
    intro k d i hd hd3 h0 hi hk
    obtain ⟨k, rfl⟩ := succ_of hk
    simp only [impl_BlockOk.l0]
    rw [if_neg (by omega), List.drop_eq_nil_of_le (by omega), blkOk]
    by_cases h : d = 0 <;> simp [h]
  | succ n ih =>
    intro k d i hd hd3 h0 hi hk
    obtain ⟨k, rfl⟩ := succ_of hk
    obtain ⟨k, rfl⟩ := succ_of (d := 4) (by omega : 4 < k)
    rw [impl_BlockOk.l0, if_pos (by omega), if_pos h0, if_pos (by omega), stmtI_eq _ _ _ _ _ _ _ (by omega), opening_eq, drop_getD z119 h0 (by omega)]
    change (Option.bind (some (stOk (rd_T119 l i))) _) = some (blkOk (rd_T119 l i :: _) d && _)
    generalize rd_T119 l i = s
    rw [blkOk]
    by_cases h1 : stOk s = true
    · simp only [h1, Option.bind_some, if_true, Bool.true_and, impl_BlockOk.j1, w64 (x := i + 1) (by omega) (by omega), w64 (x := d + 1) (by omega) (by omega), w64 (x := d + 1 - 1) (by omega) (by omega), w64 (x := d - 1) (by omega) (by omega), decide_eq_true_eq]
      have go := fun (x : Int) (a : 0 ≤ x) (b : x ≤ 3) => ih k x (i + 1) a b (by omega) (by omega) (by omega)
      unfold dNext
      by_cases o : s.f0 = 4 ∨ s.f0 = 5
      · have n6 : ¬ s.f0 = 6 := by omega
        rw [if_pos o, if_neg n6, if_pos o, if_neg (by omega)]
        by_cases g : d + 1 > 3
        · rw [if_pos g]
          simp
          omega
        · rw [if_neg g, go _ (by omega) (by omega)]
          have : 0 ≤ d + 1 ∧ d + 1 ≤ 3 := by omega
          simp [this]
      · rw [if_neg o, if_neg o]
        by_cases n6 : s.f0 = 6
        · rw [if_pos n6, if_pos n6]
          by_cases g : d - 1 < 0
          · rw [if_pos g]
            simp
            omega
          · rw [if_neg g, if_neg (by omega), go _ (by omega) (by omega)]
            have : 0 ≤ d - 1 ∧ d - 1 ≤ 3 := by omega
            have g1 : 1 ≤ d := by omega
            simp [this, g1]
        · rw [if_neg n6, if_neg n6, if_neg (by omega), if_neg (by omega), go _ hd hd3]
          simp [hd, hd3]
    · simp [h1]
theorem blockI_at (l : List S119) (hl : l.length ≤ 1048576) (k : Nat) (hk : 2 * l.length + 5 < k) : impl_BlockOk.f k l = some (blockOk l) := by
  unfold impl_BlockOk.f blockOk
  rw [blockI_l l hl l.length k 0 0 (by omega) (by omega) (by omega) (by omega) hk]
  simp
def taskOkB (t : S28) : Bool := blockOk t.f0 && exprOk t.f1.f0 t.f1.f1 t.f1.f2
/-- A valid program. -/
def progOk (l : List S28) : Bool := decide (1 ≤ (l.length : Int) ∧ (l.length : Int) ≤ 6) && l.all taskOkB
theorem taskOkI_at (t : S28) (h : t.f0.length ≤ 1048576) (k : Nat) (hk : 2097160 < k) : impl_taskOk.f k t.f0 t.f1.f0 t.f1.f1 t.f1.f2 = some (taskOkB t) := by
  unfold impl_taskOk.f taskOkB
  rw [blockI_at _ h k (by omega), exprI_eq]
  simp only [Option.bind_some]
  cases blockOk t.f0 <;> simp
theorem anyNot_at (k : Nat) (hk : 2097160 < k) : ∀ (l : List S28), (∀ y ∈ l, y.f0.length ≤ 1048576) → anyNot k l = some (!(l.all taskOkB))
  | [], _ => rfl
  | t :: r, h => by
    rw [anyNot, taskOkI_at t (h t (by simp)) k hk, anyNot_at k hk r (fun y hy => h y (List.mem_cons_of_mem _ hy))]
    simp only [Option.bind_some, List.all_cons]
    cases taskOkB t <;> simp
theorem progOkI_at (l : List S28) (h : ∀ y ∈ l, y.f0.length ≤ 1048576) (k : Nat) (hk : 2097160 < k) : impl_ProgramOk.f k l = some (progOk l) := by
  unfold impl_ProgramOk.f progOk
  rw [within_eq, anyNot_at k hk l h]
  simp only [Option.bind_some, decide_eq_true_eq, Bool.not_not]
  by_cases c : 1 ≤ (l.length : Int) ∧ (l.length : Int) ≤ 6
  · rw [if_pos c]
    simp [c]
  · rw [if_neg c]
    simp only [c, decide_false, Bool.false_and]
theorem and_mask (x : Int) (m : Nat) (hm : m < 9223372036854775808) : 0 ≤ Go.bits .and .i64 x (m : Int) ∧ Go.bits .and .i64 x (m : Int) ≤ (m : Int) := by
  have hb : (BitVec.ofInt 64 (m : Int)).toNat = m := by
    rw [BitVec.ofInt_natCast, BitVec.toNat_ofNat]
    omega
  have h : ((BitVec.ofInt 64 x) &&& (BitVec.ofInt 64 (m : Int))).toNat ≤ m := by
    rw [BitVec.toNat_and, hb]
    exact Nat.and_le_right
  have e : Go.bits .and .i64 x (m : Int) = IntKind.i64.wrap (((BitVec.ofInt 64 x) &&& (BitVec.ofInt 64 (m : Int))).toNat : Int) := rfl
  rw [e, IntKind.wrap_i64]
  omega
theorem and255 (x : Int) : 0 ≤ Go.bits .and .i64 x 255 ∧ Go.bits .and .i64 x 255 ≤ 255 := and_mask x 255 (by omega)
theorem l01Byte_ok (b : List Int) (i h : Int) (h0 : 0 ≤ i) (hb : b.length ≤ 140737488351232) :
    ∃ r i' h', spec_l01Byte.f b i h = some (r, i', h') ∧ 0 ≤ r ∧ r ≤ 255 ∧ 0 ≤ i' := by
  unfold spec_l01Byte.f
  by_cases h1 : i < (b.length : Int)
  · rw [if_pos h1, if_pos h0, w64 (x := i + 1) (by omega) (by omega)]
    exact ⟨_, _, _, rfl, (and255 _).1, (and255 _).2, by omega⟩
  · rw [if_neg h1]
    exact ⟨_, _, _, rfl, (and255 _).1, (and255 _).2, h0⟩
theorem l01Below_ok (b : List Int) (i h n : Int) (h0 : 0 ≤ i) (hb : b.length ≤ 140737488351232) :
    ∃ r i' h', spec_l01Below.f b i h n = some (r, i', h') ∧ 0 ≤ r ∧ (0 < n → r < n) ∧ (n ≤ 0 → r = 0) ∧ 0 ≤ i' := by
  unfold spec_l01Below.f
  by_cases h1 : n ≤ 0
  · rw [if_pos h1]
    exact ⟨_, _, _, rfl, by omega, by omega, by omega, h0⟩
  rw [if_neg h1]
  by_cases h2 : n ≤ 256
  · obtain ⟨r, i', h', e, hr0, hr1, hi'⟩ := l01Byte_ok b i h h0 hb
    rw [if_pos h2, e]
    simp only [Option.bind_some]
    rw [if_neg (by omega)]
    have := tmod_in (a := r) (n := n) hr0 (by omega)
    exact ⟨_, _, _, rfl, this.1, fun _ => this.2, by omega, hi'⟩
  · rw [if_neg h2]
    obtain ⟨x, i1, g1, e1, hx0, hx1, hi1⟩ := l01Byte_ok b i h h0 hb
    obtain ⟨y, i2, g2, e2, hy0, hy1, hi2⟩ := l01Byte_ok b i1 g1 hi1 hb
    obtain ⟨z, i3, g3, e3, hz0, hz1, hi3⟩ := l01Byte_ok b i2 g2 hi2 hb
    obtain ⟨u, i4, g4, e4, hu0, hu1, hi4⟩ := l01Byte_ok b i3 g3 hi3 hb
    simp only [e1, e2, e3, e4, Option.bind_some]
    rw [if_neg (by omega)]
    rw [w64 (x := x * 16777216) (by omega) (by omega), w64 (x := y * 65536) (by omega) (by omega), w64 (x := z * 256) (by omega) (by omega), w64 (x := x * 16777216 + y * 65536) (by omega) (by omega), w64 (x := x * 16777216 + y * 65536 + z * 256) (by omega) (by omega), w64 (x := x * 16777216 + y * 65536 + z * 256 + u) (by omega) (by omega)]
    have := tmod_in (a := x * 16777216 + y * 65536 + z * 256 + u) (n := n) (by omega) (by omega)
    exact ⟨_, _, _, rfl, this.1, fun _ => this.2, by omega, hi4⟩
theorem l01New_l (b : List Int) (_hb : b.length ≤ 140737488351232) (d : Nat) : ∀ (k : Nat) (x i : Int), 0 ≤ i → i ≤ (b.length : Int) → i + (d : Int) = (b.length : Int) → d < k →
    ∃ h, spec_l01New.l0 k b x i = some (b, 0, h) := by
  induction d with
  | zero =>
    intro k x i h0 h1 hi hk
    obtain ⟨k, rfl⟩ := succ_of hk
    simp only [spec_l01New.l0]
    rw [if_neg (by omega)]
    exact ⟨_, rfl⟩
  | succ d ih =>
    intro k x i h0 h1 hi hk
    obtain ⟨k, rfl⟩ := succ_of hk
    simp only [spec_l01New.l0]
    rw [if_pos (by omega)]
    by_cases h2 : i < 4000
    · rw [if_pos h2, if_pos h0, w64 (x := i + 1) (by omega) (by omega)]
      exact ih k _ (i + 1) (by omega) (by omega) (by omega) (by omega)
    · rw [if_neg h2]
      exact ⟨_, rfl⟩
theorem l01New_at (b : List Int) (hb : b.length ≤ 140737488351232) (k : Nat) (hk : b.length < k) : ∃ h, spec_l01New.f k b = some (b, 0, h) := by
  unfold spec_l01New.f
  exact l01New_l b hb b.length k _ 0 (by omega) (by omega) (by omega) hk
theorem l01PickInt_ok (b : List Int) (i h : Int) (l : List Int) (h0 : 0 ≤ i) (hb : b.length ≤ 140737488351232) (hl : 0 < l.length) :
    ∃ r i' h', spec_l01PickInt.f b i h l = some (r, i', h') ∧ r ∈ l ∧ 0 ≤ i' := by
  unfold spec_l01PickInt.f
  obtain ⟨r, i', h', e, hr0, hr1, _, hi'⟩ := l01Below_ok b i h (l.length : Int) h0 hb
  have hr := hr1 (by omega)
  simp only [e, Option.bind_some]
  rw [if_pos hr0, if_pos hr]
  exact ⟨_, _, _, rfl, List.mem_of_getElem? (rd_eq hr0 hr), hi'⟩
theorem l01Once_ok (b : List Int) (i h n : Int) (h0 : 0 ≤ i) (hb : b.length ≤ 140737488351232) : ∃ r i' h', spec_l01Once.f b i h n = some (r, i', h') ∧ 0 ≤ i' := by
  unfold spec_l01Once.f
  obtain ⟨r, i', h', e, _, _, _, hi'⟩ := l01Below_ok b i h n h0 hb
  rw [e]
  exact ⟨_, _, _, rfl, hi'⟩
theorem l03Operand_ok (b : List Int) (i h : Int) (h0 : 0 ≤ i) (hb : b.length ≤ 140737488351232) : ∃ r i' h', spec_l03Operand.f b i h = some (r, i', h') ∧ (-8 ≤ r ∧ r ≤ 999) ∧ 0 ≤ i' := by
  unfold spec_l03Operand.f
  obtain ⟨o, i1, h1, e1, hi1⟩ := l01Once_ok b i h 2 h0 hb
  simp only [e1, Option.bind_some]
  cases o with
  | true =>
    obtain ⟨r, i2, h2, e2, q1, q2, _, hi2⟩ := l01Below_ok b i1 h1 5 hi1 hb
    have := q2 (by omega)
    simp only [if_true, e2, Option.bind_some]
    rw [w64 (by omega) (by omega)]
    exact ⟨_, _, _, rfl, by omega, hi2⟩
  | false =>
    obtain ⟨r, i2, h2, e2, q, hi2⟩ := l01PickInt_ok b i1 h1 [0, 1, 2, 3, 10, 999] hi1 hb (by simp)
    simp only [Bool.false_eq_true, if_false, e2, Option.bind_some]
    simp only [List.mem_cons, List.not_mem_nil, or_false] at q
    exact ⟨_, _, _, rfl, by omega, hi2⟩
theorem l03Expr_ok (b : List Int) (i h : Int) (h0 : 0 ≤ i) (hb : b.length ≤ 140737488351232) : ∃ x y z i' h', spec_l03Expr.f b i h = some (x, y, z, i', h') ∧ exprOk x y z = true ∧ 0 ≤ i' := by
  unfold spec_l03Expr.f
  obtain ⟨r, i1, h1, e1, q1, q2, _, hi1⟩ := l01Below_ok b i h 7 h0 hb
  have := q2 (by omega)
  obtain ⟨s, i2, h2, e2, p2, hi2⟩ := l03Operand_ok b i1 h1 hi1 hb
  obtain ⟨t, i3, h3, e3, p3, hi3⟩ := l03Operand_ok b i2 h2 hi2 hb
  simp only [e1, e2, e3, Option.bind_some]
  rw [w64 (by omega) (by omega)]
  refine ⟨_, _, _, _, _, rfl, ?_, hi3⟩
  unfold exprOk
  exact decide_eq_true ⟨by omega, p2, p3⟩
/-- A drawn statement: valid, and neither an opening nor a closing one. -/
theorem l04Stmt_ok (b : List Int) (i h : Int) (h0 : 0 ≤ i) (hb : b.length ≤ 140737488351232) (k : Nat) (hk : 2 < k) : ∃ x0 x1 x2 x3 x4 x5 i' h', spec_l04Stmt.f k b i h = some (x0, x1, x2, x3, x4, x5, i', h') ∧ (x0 = 1 ∨ x0 = 2 ∨ x0 = 3) ∧ stOk ⟨x0, x1, x2, ⟨x3, x4, x5⟩⟩ = true ∧ 0 ≤ i' := by
  unfold spec_l04Stmt.f
  obtain ⟨k, rfl⟩ := succ_of hk
  obtain ⟨r, i1, h1, e1, q1, q2, _, hi1⟩ := l01Below_ok b i h 7 h0 hb
  have := q2 (by omega)
  simp only [e1, Option.bind_some, spec_l04Stmt.j0]
  have sense : ∃ x0 x1 x2 x3 x4 x5 i' h', ((spec_l01Below.f b i1 h1 5).bind fun bt366 => ((spec_l01Below.f b bt366.2.1 bt366.2.2 4).bind fun bt369 => (some ((2 : Int), bt366.1, bt369.1, (0 : Int), (0 : Int), (0 : Int), bt369.2.1, bt369.2.2)))) = some (x0, x1, x2, x3, x4, x5, i', h') ∧ (x0 = 1 ∨ x0 = 2 ∨ x0 = 3) ∧ stOk ⟨x0, x1, x2, ⟨x3, x4, x5⟩⟩ = true ∧ 0 ≤ i' := by
    obtain ⟨v, i2, h2, e2, a1, a2, _, hi2⟩ := l01Below_ok b i1 h1 5 hi1 hb
    obtain ⟨u, i3, h3, e3, c1, c2, _, hi3⟩ := l01Below_ok b i2 h2 4 hi2 hb
    have := a2 (by omega)
    have := c2 (by omega)
    simp only [e2, e3, Option.bind_some]
    refine ⟨_, _, _, _, _, _, _, _, rfl, .inr (.inl rfl), ?_, hi3⟩
    unfold stOk stmtOk
    simp
    omega
  by_cases c0 : r = 0
  · simp only [c0, if_true, beq_self_eq_true]
    exact sense
  rw [if_neg c0]
  by_cases c1 : r = 1
  · simp only [c1, if_true, beq_self_eq_true]
    exact sense
  have c1' : (r == 1) = false := by simpa using c1
  simp only [c1', Bool.false_eq_true, if_false]
  by_cases c2 : r = 2
  · obtain ⟨x, y, z, i2, h2, e2, p, hi2⟩ := l03Expr_ok b i1 h1 hi1 hb
    simp only [c2, if_true, e2, Option.bind_some]
    refine ⟨_, _, _, _, _, _, _, _, rfl, .inr (.inr rfl), ?_, hi2⟩
    unfold stOk stmtOk
    simp [p]
  · rw [if_neg c2]
    obtain ⟨v, i2, h2, e2, a1, a2, _, hi2⟩ := l01Below_ok b i1 h1 5 hi1 hb
    have := a2 (by omega)
    obtain ⟨x, y, z, i3, h3, e3, p, hi3⟩ := l03Expr_ok b i2 h2 hi2 hb
    simp only [e2, e3, Option.bind_some]
    refine ⟨_, _, _, _, _, _, _, _, rfl, .inl rfl, ?_, hi3⟩
    unfold stOk stmtOk
    simp [p]
    omega
/-- A piece of a block: it may stand where no more than d0 are open. -/
def piece (x : List S119) (d0 : Int) : Prop := ∀ (d : Int) (r : List S119), 0 ≤ d → d ≤ d0 → blkOk (x ++ r) d = blkOk r d
theorem piece_nil (d0 : Int) : piece [] d0 := fun d r h0 h1 => rfl
theorem piece_app {x y : List S119} {d0 : Int} (h1 : piece x d0) (h2 : piece y d0) : piece (x ++ y) d0 := by
  intro d r h0 h
  rw [List.append_assoc, h1 d _ h0 h, h2 d r h0 h]
theorem piece_one {s : S119} {d0 : Int} (hs : stOk s = true) (hk : s.f0 = 1 ∨ s.f0 = 2 ∨ s.f0 = 3) (hd : d0 ≤ 3) : piece [s] d0 := by
  intro d r h0 h
  have e : dNext s d = d := by rw [dNext, if_neg (by omega), if_neg (by omega)]
  rw [List.singleton_append, blkOk, e, hs, decide_eq_true (by omega : 0 ≤ d ∧ d ≤ 3)]
  simp
theorem piece_node {s c : S119} {x : List S119} {d0 : Int} (hs : stOk s = true) (hk : s.f0 = 4 ∨ s.f0 = 5) (hc : stOk c = true) (hc6 : c.f0 = 6) (hx : piece x (d0 + 1)) (hd : d0 ≤ 2) : piece (s :: (x ++ [c])) d0 := by
  intro d r h0 h
  have e : dNext s d = d + 1 := by rw [dNext, if_pos hk]
  have e2 : dNext c (d + 1) = d := by
    rw [dNext, if_neg (by omega), if_pos hc6]
    omega
  rw [List.cons_append, List.append_assoc, blkOk, e, hx (d + 1) _ (by omega) (by omega), List.singleton_append, blkOk, e2, hs, hc, decide_eq_true (by omega : 0 ≤ d + 1 ∧ d + 1 ≤ 3), decide_eq_true (by omega : 0 ≤ d ∧ d ≤ 3)]
  simp
theorem endStmt_ok : stOk ⟨6, 0, 0, ⟨0, 0, 0⟩⟩ = true := by
  unfold stOk stmtOk
  simp
theorem leafStep (b : List Int) (hb : b.length ≤ 140737488351232) (p h : Int) (hp : 0 ≤ p) (k : Nat) (hk : 2 < k) :
    ∃ s p' h', stOk s = true ∧ (s.f0 = 1 ∨ s.f0 = 2 ∨ s.f0 = 3) ∧ 0 ≤ p' ∧ ∀ (cnt dep i : Int) (x : List S119), x.length ≤ 1000 → spec_l05Block.j1 (k + 1) cnt dep x i false b p h = spec_l05Block.l0 k cnt dep (x ++ [s]) (wrap64 (i + 1)) b p' h' := by
  obtain ⟨x0, x1, x2, x3, x4, x5, p', h', e, hk3, hok, hp'⟩ := l04Stmt_ok b p h hp hb k hk
  refine ⟨⟨x0, x1, x2, ⟨x3, x4, x5⟩⟩, p', h', hok, hk3, hp', fun cnt dep i x hx => ?_⟩
  rw [spec_l05Block.j1, if_neg (by simp), e]
  simp only [Option.bind_some]
  rw [if_pos (by omega)]
theorem nodeStep (b : List Int) (hb : b.length ≤ 140737488351232) (dep : Int) (hd : 0 ≤ dep) (hd2 : dep ≤ 1) (L k : Nat) (hL : L ≤ 1000) (hn : ∀ c p h : Int, 0 ≤ p → 1 ≤ c → c ≤ 2 → ∃ r p' h', spec_l05Block.f k b p h c (dep + 1) = some (r, p', h') ∧ piece r (dep + 1) ∧ r.length ≤ L ∧ 0 ≤ p') (p h : Int) (hp : 0 ≤ p) :
    ∃ s r p' h', stOk s = true ∧ (s.f0 = 4 ∨ s.f0 = 5) ∧ piece r (dep + 1) ∧ r.length ≤ L ∧ 0 ≤ p' ∧ ∀ (cnt i : Int) (x : List S119), x.length ≤ 1000 → spec_l05Block.j1 (k + 1) cnt dep x i true b p h = spec_l05Block.l0 k cnt dep (x ++ s :: (r ++ [⟨6, 0, 0, ⟨0, 0, 0⟩⟩])) (wrap64 (i + 1)) b p' h' := by
  obtain ⟨n, p1, h1, e1, a1, a2, _, hp1⟩ := l01Below_ok b p h 3 hp hb
  have := a2 (by omega)
  obtain ⟨o, p2, h2, e2, hp2⟩ := l01Once_ok b p1 h1 2 hp1 hb
  have wd : wrap64 (dep + 1) = dep + 1 := w64 (by omega) (by omega)
  cases o with
  | true =>
    obtain ⟨x, y, z, p3, h3, e3, ok3, hp3⟩ := l03Expr_ok b p2 h2 hp2 hb
    obtain ⟨m, p4, h4, e4, c1, c2, _, hp4⟩ := l01Below_ok b p3 h3 2 hp3 hb
    have := c2 (by omega)
    obtain ⟨r, p5, h5, e5, pr, lr, hp5⟩ := hn (1 + m) p4 h4 hp4 (by omega) (by omega)
    refine ⟨⟨4, 0, 0, ⟨x, y, z⟩⟩, r, p5, h5, by unfold stOk stmtOk; simp [ok3], .inl rfl, pr, lr, hp5, fun cnt i q hq => ?_⟩
    rw [spec_l05Block.j1, if_pos rfl, e1]
    simp only [Option.bind_some]
    rw [e2]
    simp only [Option.bind_some, if_true]
    rw [e3]
    simp only [Option.bind_some]
    rw [if_pos (by omega), e4]
    simp only [Option.bind_some]
    rw [wd, w64 (x := 1 + m) (by omega) (by omega), e5]
    simp only [Option.bind_some]
    rw [if_pos (by simp only [List.length_append, List.length_cons, List.length_nil]; omega), if_pos (by simp only [List.length_append, List.length_cons, List.length_nil]; omega)]
    simp only [List.append_assoc, List.singleton_append]
    rfl
  | false =>
    obtain ⟨m, p4, h4, e4, c1, c2, _, hp4⟩ := l01Below_ok b p2 h2 2 hp2 hb
    have := c2 (by omega)
    obtain ⟨r, p5, h5, e5, pr, lr, hp5⟩ := hn (1 + m) p4 h4 hp4 (by omega) (by omega)
    refine ⟨⟨5, 0, 1 + n, ⟨0, 0, 0⟩⟩, r, p5, h5, by unfold stOk stmtOk; simp; omega, .inr rfl, pr, lr, hp5, fun cnt i q hq => ?_⟩
    rw [spec_l05Block.j1, if_pos rfl, e1]
    simp only [Option.bind_some]
    rw [e2]
    simp only [Option.bind_some, Bool.false_eq_true, if_false]
    rw [if_pos (by omega), e4]
    simp only [Option.bind_some]
    rw [wd, w64 (x := 1 + m) (by omega) (by omega), w64 (x := 1 + n) (by omega) (by omega), e5]
    simp only [Option.bind_some]
    rw [if_pos (by simp only [List.length_append, List.length_cons, List.length_nil]; omega), if_pos (by simp only [List.length_append, List.length_cons, List.length_nil]; omega)]
    simp only [List.append_assoc, List.singleton_append]
    rfl
theorem block2_l (b : List Int) (hb : b.length ≤ 140737488351232) (cnt : Int) (hc : cnt ≤ 2) (n : Nat) : ∀ (k : Nat) (x : List S119) (i p h : Int), 0 ≤ p → 0 ≤ i → i + (n : Int) = cnt → piece x 2 → (x.length : Int) ≤ i → 2 * n + 4 < k →
    ∃ r p' h', spec_l05Block.l0 k cnt 2 x i b p h = some (r, p', h') ∧ piece r 2 ∧ r.length ≤ 2 ∧ 0 ≤ p' := by
  induction n with
  | zero =>
    intro k x i p h hp h0 hi hx hl hk
    obtain ⟨k, rfl⟩ := succ_of hk
    rw [spec_l05Block.l0, if_neg (by omega)]
    exact ⟨_, _, _, rfl, hx, by omega, hp⟩
  | succ n ih =>
    intro k x i p h hp h0 hi hx hl hk
    obtain ⟨k, rfl⟩ := succ_of hk
    obtain ⟨k, rfl⟩ := succ_of (d := 3) (by omega : 3 < k)
    obtain ⟨s, p', h', a1, a2, a3, a4⟩ := leafStep b hb p h hp k (by omega)
    rw [spec_l05Block.l0, if_pos (by omega), if_neg (by omega), a4 _ _ _ _ (by omega), w64 (by omega) (by omega)]
    exact ih k _ (i + 1) p' h' a3 (by omega) (by omega) (piece_app hx (piece_one a1 a2 (by omega))) (by simp only [List.length_append, List.length_cons, List.length_nil]; omega) (by omega)
theorem block1_l (b : List Int) (hb : b.length ≤ 140737488351232) (cnt : Int) (hc : cnt ≤ 2) (n : Nat) : ∀ (k : Nat) (x : List S119) (i p h : Int), 0 ≤ p → 0 ≤ i → i + (n : Int) = cnt → piece x 1 → (x.length : Int) ≤ 4 * i → 2 * n + 20 < k →
    ∃ r p' h', spec_l05Block.l0 k cnt 1 x i b p h = some (r, p', h') ∧ piece r 1 ∧ r.length ≤ 8 ∧ 0 ≤ p' := by
  induction n with
  | zero =>
    intro k x i p h hp h0 hi hx hl hk
    obtain ⟨k, rfl⟩ := succ_of hk
    rw [spec_l05Block.l0, if_neg (by omega)]
    exact ⟨_, _, _, rfl, hx, by omega, hp⟩
  | succ n ih =>
    intro k x i p h hp h0 hi hx hl hk
    obtain ⟨k, rfl⟩ := succ_of hk
    obtain ⟨k, rfl⟩ := succ_of (d := 18) (by omega : 18 < k)
    have leaf : ∀ p h : Int, 0 ≤ p → ∃ r p' h', spec_l05Block.j1 (k + 1) cnt 1 x i false b p h = some (r, p', h') ∧ piece r 1 ∧ r.length ≤ 8 ∧ 0 ≤ p' := by
      intro p h hp
      obtain ⟨s, p', h', a1, a2, a3, a4⟩ := leafStep b hb p h hp k (by omega)
      rw [a4 _ _ _ _ (by omega), w64 (by omega) (by omega)]
      exact ih k _ (i + 1) p' h' a3 (by omega) (by omega) (piece_app hx (piece_one a1 a2 (by omega))) (by simp only [List.length_append, List.length_cons, List.length_nil]; omega) (by omega)
    rw [spec_l05Block.l0, if_pos (by omega), if_pos (by omega)]
    by_cases h6 : (x.length : Int) < 6
    · rw [if_pos h6]
      obtain ⟨o, p1, h1, e1, hp1⟩ := l01Once_ok b p h 5 hp hb
      rw [e1]
      simp only [Option.bind_some]
      cases o with
      | false => exact leaf p1 h1 hp1
      | true =>
        have nest : ∀ c p h : Int, 0 ≤ p → 1 ≤ c → c ≤ 2 → ∃ r p' h', spec_l05Block.f k b p h c (1 + 1) = some (r, p', h') ∧ piece r (1 + 1) ∧ r.length ≤ 2 ∧ 0 ≤ p' := by
          intro c p h hp c1 c2
          obtain ⟨m, rfl⟩ := succ_of (d := 17) (by omega : 17 < k)
          rw [spec_l05Block.f]
          exact block2_l b hb c c2 c.toNat m [] 0 p h hp (by omega) (by omega) (piece_nil 2) (by simp) (by omega)
        obtain ⟨s, r, p', h', a1, a2, a3, a4, a5, a6⟩ := nodeStep b hb 1 (by omega) (by omega) 2 k (by omega) nest p1 h1 hp1
        rw [a6 _ _ _ (by omega), w64 (by omega) (by omega)]
        exact ih k _ (i + 1) p' h' a5 (by omega) (by omega) (piece_app hx (piece_node a1 a2 endStmt_ok rfl a3 (by omega))) (by simp only [List.length_append, List.length_cons, List.length_nil]; omega) (by omega)
    · rw [if_neg h6]
      exact leaf p h hp
theorem block0_l (b : List Int) (hb : b.length ≤ 140737488351232) (cnt : Int) (hc : cnt ≤ 5) (n : Nat) : ∀ (k : Nat) (x : List S119) (i p h : Int), 0 ≤ p → 0 ≤ i → i + (n : Int) = cnt → piece x 0 → (x.length : Int) ≤ 15 + i → 2 * n + 40 < k →
    ∃ r p' h', spec_l05Block.l0 k cnt 0 x i b p h = some (r, p', h') ∧ piece r 0 ∧ r.length ≤ 20 ∧ 0 ≤ p' := by
  induction n with
  | zero =>
    intro k x i p h hp h0 hi hx hl hk
    obtain ⟨k, rfl⟩ := succ_of hk
    rw [spec_l05Block.l0, if_neg (by omega)]
    exact ⟨_, _, _, rfl, hx, by omega, hp⟩
  | succ n ih =>
    intro k x i p h hp h0 hi hx hl hk
    obtain ⟨k, rfl⟩ := succ_of hk
    obtain ⟨k, rfl⟩ := succ_of (d := 38) (by omega : 38 < k)
    have leaf : ∀ p h : Int, 0 ≤ p → ∃ r p' h', spec_l05Block.j1 (k + 1) cnt 0 x i false b p h = some (r, p', h') ∧ piece r 0 ∧ r.length ≤ 20 ∧ 0 ≤ p' := by
      intro p h hp
      obtain ⟨s, p', h', a1, a2, a3, a4⟩ := leafStep b hb p h hp k (by omega)
      rw [a4 _ _ _ _ (by omega), w64 (by omega) (by omega)]
      exact ih k _ (i + 1) p' h' a3 (by omega) (by omega) (piece_app hx (piece_one a1 a2 (by omega))) (by simp only [List.length_append, List.length_cons, List.length_nil]; omega) (by omega)
    rw [spec_l05Block.l0, if_pos (by omega), if_pos (by omega)]
    by_cases h6 : (x.length : Int) < 6
    · rw [if_pos h6]
      obtain ⟨o, p1, h1, e1, hp1⟩ := l01Once_ok b p h 5 hp hb
      rw [e1]
      simp only [Option.bind_some]
      cases o with
      | false => exact leaf p1 h1 hp1
      | true =>
        have nest : ∀ c p h : Int, 0 ≤ p → 1 ≤ c → c ≤ 2 → ∃ r p' h', spec_l05Block.f k b p h c (0 + 1) = some (r, p', h') ∧ piece r (0 + 1) ∧ r.length ≤ 8 ∧ 0 ≤ p' := by
          intro c p h hp c1 c2
          obtain ⟨m, rfl⟩ := succ_of (d := 37) (by omega : 37 < k)
          rw [spec_l05Block.f]
          exact block1_l b hb c c2 c.toNat m [] 0 p h hp (by omega) (by omega) (piece_nil 1) (by simp) (by omega)
        obtain ⟨s, r, p', h', a1, a2, a3, a4, a5, a6⟩ := nodeStep b hb 0 (by omega) (by omega) 8 k (by omega) nest p1 h1 hp1
        rw [a6 _ _ _ (by omega), w64 (by omega) (by omega)]
        exact ih k _ (i + 1) p' h' a5 (by omega) (by omega) (piece_app hx (piece_node a1 a2 endStmt_ok rfl a3 (by omega))) (by simp only [List.length_append, List.length_cons, List.length_nil]; omega) (by omega)
    · rw [if_neg h6]
      exact leaf p h hp
theorem l05Case_ok (b : List Int) (hb : b.length ≤ 140737488351232) (p h : Int) (hp : 0 ≤ p) (k : Nat) (hk : 60 < k) : ∃ r p' h', spec_l05Case.f k b p h = some (r, p', h') ∧ blockOk r = true ∧ 0 ≤ p' := by
  unfold spec_l05Case.f
  obtain ⟨n, p1, h1, e1, a1, a2, _, hp1⟩ := l01Below_ok b p h 6 hp hb
  have := a2 (by omega)
  obtain ⟨m, rfl⟩ := succ_of (d := 59) (by omega : 59 < k)
  obtain ⟨r, p2, h2, e2, q1, q2, hp2⟩ := block0_l b hb n (by omega) n.toNat m [] 0 p1 h1 hp1 (by omega) (by omega) (piece_nil 0) (by simp) (by omega)
  rw [e1]
  simp only [Option.bind_some]
  rw [spec_l05Block.f, e2]
  refine ⟨_, _, _, rfl, ?_, hp2⟩
  have := q1 0 [] (by omega) (by omega)
  rw [List.append_nil] at this
  rw [blockOk, this, decide_eq_true (by omega : (r.length : Int) ≤ 24)]
  rfl
theorem l06Program_l (b : List Int) (hb : b.length ≤ 140737488351232) (n : Nat) : ∀ (k : Nat) (i p h : Int) (x : List S28), 0 ≤ p → 0 ≤ i → i + (n : Int) = 3 → (x.length : Int) = i → x.all taskOkB = true → n + 70 < k →
    ∃ r p' h', spec_l06Program.l0 k i b p h x = some (r, p', h') ∧ progOk r = true ∧ r.length ≤ 3 := by
  induction n with
  | zero =>
    intro k i p h x hp h0 hi hx ha hk
    obtain ⟨k, rfl⟩ := succ_of hk
    obtain ⟨m, p1, h1, e1, a1, a2, _, hp1⟩ := l01Below_ok b p h 3 hp hb
    have := a2 (by omega)
    rw [spec_l06Program.l0, e1]
    simp only [Option.bind_some]
    rw [w64 (x := 1 + m) (by omega) (by omega), if_neg (by omega)]
    refine ⟨_, _, _, rfl, ?_, by omega⟩
    rw [progOk, ha, decide_eq_true (by omega : 1 ≤ (x.length : Int) ∧ (x.length : Int) ≤ 6)]
    rfl
  | succ n ih =>
    intro k i p h x hp h0 hi hx ha hk
    obtain ⟨k, rfl⟩ := succ_of hk
    obtain ⟨m, p1, h1, e1, a1, a2, _, hp1⟩ := l01Below_ok b p h 3 hp hb
    have := a2 (by omega)
    rw [spec_l06Program.l0, e1]
    simp only [Option.bind_some]
    rw [w64 (x := 1 + m) (by omega) (by omega)]
    by_cases c : i < 1 + m
    · rw [if_pos c]
      obtain ⟨r, p2, h2, e2, ok2, hp2⟩ := l05Case_ok b hb p1 h1 hp1 k (by omega)
      obtain ⟨y0, y1, y2, p3, h3, e3, ok3, hp3⟩ := l03Expr_ok b p2 h2 hp2 hb
      simp only [e2, e3, Option.bind_some]
      rw [if_pos (by omega), w64 (x := i + 1) (by omega) (by omega)]
      refine ih k (i + 1) p3 h3 _ hp3 (by omega) (by omega) (by simp only [List.length_append, List.length_cons, List.length_nil]; omega) ?_ (by omega)
      rw [List.all_append, ha]
      simp [taskOkB, ok2, ok3]
    · rw [if_neg c]
      refine ⟨_, _, _, rfl, ?_, by omega⟩
      rw [progOk, ha, decide_eq_true (by omega : 1 ≤ (x.length : Int) ∧ (x.length : Int) ≤ 6)]
      rfl
/-- A drawn program is valid. -/
theorem drawProgram_at (b : List Int) (hb : b.length ≤ 140737488351232) (k : Nat) (hk : b.length + 100 < k) : ∃ l, spec_DrawProgram.f k b = some l ∧ progOk l = true ∧ l.length ≤ 3 := by
  unfold spec_DrawProgram.f spec_l06Program.f
  obtain ⟨h, e⟩ := l01New_at b hb k (by omega)
  obtain ⟨r, p', h', e2, h1, h2⟩ := l06Program_l b hb 3 k 0 0 h [] (by omega) (by omega) (by omega) (by simp) (by simp) (by omega)
  simp only [e, e2, Option.bind_some]
  exact ⟨_, rfl, h1, h2⟩
theorem progOk_len {l : List S28} (h : progOk l = true) : l.length ≤ 6 ∧ ∀ y ∈ l, blockOk y.f0 = true ∧ y.f0.length ≤ 24 := by
  rw [progOk, Bool.and_eq_true, decide_eq_true_eq, List.all_eq_true] at h
  refine ⟨by omega, fun y hy => ?_⟩
  have := h.2 y hy
  rw [taskOkB, Bool.and_eq_true] at this
  have t := this.1
  have t2 := t
  rw [blockOk, Bool.and_eq_true, decide_eq_true_eq] at t2
  exact ⟨t, by omega⟩
theorem l03Vars_l (b : List Int) (hb : b.length ≤ 140737488351232) (n : Nat) : ∀ (k : Nat) (i p h : Int) (x : List Int), 0 ≤ p → 0 ≤ i → i + (n : Int) = 8 → (x.length : Int) = i → x.all valP = true → n < k →
    ∃ r p' h', spec_l03Vars.l0 k x i b p h = some (r, p', h') ∧ r.length = 8 ∧ r.all valP = true := by
  induction n with
  | zero =>
    intro k i p h x hp h0 hi hx ha hk
    obtain ⟨k, rfl⟩ := succ_of hk
    rw [spec_l03Vars.l0, if_neg (by omega)]
    exact ⟨_, _, _, rfl, by omega, ha⟩
  | succ n ih =>
    intro k i p h x hp h0 hi hx ha hk
    obtain ⟨k, rfl⟩ := succ_of hk
    obtain ⟨m, p1, h1, e1, a1, a2, _, hp1⟩ := l01Below_ok b p h 2000 hp hb
    have := a2 (by omega)
    rw [spec_l03Vars.l0, if_pos (by omega), e1]
    simp only [Option.bind_some]
    rw [w64 (x := m - 1000) (by omega) (by omega)]
    obtain ⟨v, p2, h2, e2, q, hp2⟩ := l01PickInt_ok b p1 h1 [0, 1, 2, 5, m - 1000, 1000000] hp1 hb (by simp)
    rw [e2]
    simp only [Option.bind_some]
    rw [if_pos (by omega), w64 (x := i + 1) (by omega) (by omega)]
    refine ih k (i + 1) p2 h2 _ hp2 (by omega) (by omega) (by simp only [List.length_append, List.length_cons, List.length_nil]; omega) ?_ (by omega)
    simp only [List.mem_cons, List.not_mem_nil, or_false] at q
    rw [List.all_append, ha]
    simp [valP]
    omega
/-- Drawn variables: eight values. -/
theorem drawVars_at (b : List Int) (hb : b.length ≤ 140737488351232) (k : Nat) (hk : b.length + 10 < k) : ∃ l, spec_DrawVars.f k b = some l ∧ l.length = 8 ∧ l.all valP = true := by
  unfold spec_DrawVars.f spec_l03Vars.f
  obtain ⟨h, e⟩ := l01New_at b hb k (by omega)
  obtain ⟨r, p', h', e2, h1, h2⟩ := l03Vars_l b hb 8 k 0 0 h [] (by omega) (by omega) (by omega) (by simp) (by simp) (by omega)
  simp only [e, e2, Option.bind_some]
  exact ⟨_, rfl, h1, h2⟩
theorem packI_in {a b c r : Int} (h : impl_PackControl.f a b c = some r) : r = -1 ∨ ((0 ≤ a ∧ a ≤ 5) ∧ (0 ≤ b ∧ b ≤ 8) ∧ (0 ≤ c ∧ c ≤ 24)) := by
  unfold impl_PackControl.f at h
  simp only [within_eq, Option.bind_some, decide_eq_true_eq] at h
  by_cases h1 : 0 ≤ a ∧ a ≤ 5
  · rw [if_pos h1] at h
    by_cases h2 : 0 ≤ b ∧ b ≤ 8
    · rw [if_pos h2] at h
      by_cases h3 : 0 ≤ c ∧ c ≤ 24
      · exact .inr ⟨h1, h2, h3⟩
      · rw [if_neg h3] at h
        exact .inl (Option.some.inj h).symm
    · rw [if_neg h2] at h
      exact .inl (Option.some.inj h).symm
  · rw [if_neg h1] at h
    exact .inl (Option.some.inj h).symm
/-- What a control word says: the task, the log's length, the box's length. -/
theorem unpackI_all (a : Int) : ∃ s n t, impl_UnpackControl.f a = some (s, n, t) ∧ ((s = -1 ∧ n = -1 ∧ t = -1) ∨ ((0 ≤ s ∧ s ≤ 5) ∧ (0 ≤ n ∧ n ≤ 8) ∧ (0 ≤ t ∧ t ≤ 24))) := by
  unfold impl_UnpackControl.f
  by_cases h0 : a < 0
  · rw [if_pos h0]
    exact ⟨_, _, _, rfl, .inl ⟨rfl, rfl, rfl⟩⟩
  · rw [if_neg h0]
    obtain ⟨r, h⟩ := packI_ok (Int.tmod a 8) (Int.tmod (wrap64 (Int.tdiv a 8)) 16) (wrap64 (Int.tdiv a 128))
    rw [h]
    simp only [Option.bind_some]
    by_cases e : r = a
    · rw [if_pos e]
      rcases packI_in h with q | q
      · omega
      · exact ⟨_, _, _, rfl, .inr q⟩
    · rw [if_neg e]
      exact ⟨_, _, _, rfl, .inl ⟨rfl, rfl, rfl⟩⟩
/-- The log of a memory holds variables and values, from an entry on. -/
def logOk (m : List Int) : Nat → Int → Bool
  | 0, _ => true
  | d + 1, i => decide (0 ≤ rd m (9 + 2 * i) ∧ rd m (9 + 2 * i) ≤ 7) && (valP (rd m (9 + 2 * i + 1)) && logOk m d (i + 1))
/-- A memory that fits a program. -/
def memOk (l : List S28) (m : List Int) : Bool :=
  progOk l && (decide (m.length = 49) && (match impl_UnpackControl.f (rd m 8) with
    | none => false
    | some (s, n, t) => decide (0 ≤ s ∧ s < (l.length : Int)) && ((m.take 8).all valP && (((m.take (25 + t).toNat).drop 25).all valP && logOk m n.toNat 0))))
theorem isValI_eq (x : Int) : impl_IsValue.f x = some (valP x) := valP_eq x
theorem isVarI_eq (x : Int) : impl_isVar.f x = some (decide (0 ≤ x ∧ x ≤ 7)) := by
  unfold impl_isVar.f
  rw [within_eq]
  rfl
theorem areValI_eq (l : List Int) : impl_areValues.f l = some (l.all valP) := by
  unfold impl_areValues.f
  rw [List.all_eq_not_any_not]
theorem logI_l (m : List Int) (hm : m.length = 49) (n : Int) (hn : n ≤ 8) (d : Nat) : ∀ (k : Nat) (i : Int), 0 ≤ i → i + (d : Int) = n → d < k →
    impl_MemOk.l0 k m n i = some (logOk m d i) := by
  induction d with
  | zero =>
    intro k i h0 hi hk
    obtain ⟨k, rfl⟩ := succ_of hk
    simp only [impl_MemOk.l0]
    rw [if_neg (by omega)]
    rfl
  | succ d ih =>
    intro k i h0 hi hk
    obtain ⟨k, rfl⟩ := succ_of hk
    have w1 : wrap64 (2 * i) = 2 * i := w64 (by omega) (by omega)
    have w2 : wrap64 (9 + 2 * i) = 9 + 2 * i := w64 (by omega) (by omega)
    have w3 : wrap64 (9 + 2 * i + 1) = 9 + 2 * i + 1 := w64 (by omega) (by omega)
    have w4 : wrap64 (i + 1) = i + 1 := w64 (by omega) (by omega)
    simp only [impl_MemOk.l0, w1, w2, w3, w4, isVarI_eq, isValI_eq, Option.bind_some, decide_eq_true_eq]
    rw [if_pos (by omega), if_pos (by omega), if_pos (by omega), ih k (i + 1) (by omega) (by omega) (by omega), logOk]
    by_cases h : 0 ≤ rd m (9 + 2 * i) ∧ rd m (9 + 2 * i) ≤ 7
    · rw [if_pos h, if_pos (by omega), if_pos (by omega)]
      cases valP (rd m (9 + 2 * i + 1)) <;> simp [h]
    · rw [if_neg h]
      simp only [h, decide_false, Bool.false_and]
theorem memOkI_at (l : List S28) (h : ∀ y ∈ l, y.f0.length ≤ 1048576) (m : List Int) (hm : m.length ≤ 1048576) (k : Nat) (hk : 2097160 < k) : impl_MemOk.f k l m = some (memOk l m) := by
  unfold impl_MemOk.f memOk
  rw [progOkI_at l h k hk]
  obtain ⟨k, rfl⟩ := succ_of (d := 20) (by omega : 20 < k)
  obtain ⟨k, rfl⟩ := succ_of (d := 19) (by omega : 19 < k)
  simp only [Option.bind_some, impl_MemOk.j0, impl_MemOk.j1, areValI_eq]
  by_cases p : progOk l = true
  · simp only [p, if_true, Bool.true_and]
    by_cases e : m.length = 49
    · obtain ⟨s, n, t, eu, hu⟩ := unpackI_all (rd m 8)
      have e' : (m.length : Int) = 49 := by omega
      have g8 : (8 : Int) ≤ (m.length : Int) := by omega
      have g9 : (8 : Int) < (m.length : Int) := by omega
      simp only [e', e, eu, Option.bind_some, if_true, decide_true, Bool.true_and, (by omega : (8 : Int) ≤ 49), (by omega : (8 : Int) < 49)]
      rcases hu with ⟨rfl, rfl, rfl⟩ | ⟨h1, h2, h3⟩
      · cases List.all (List.take 8 m) valP <;> simp
      · have w1 : wrap64 (25 + t) = 25 + t := w64 (by omega) (by omega)
        have s0 : ¬ s < 0 := by omega
        have t0 : (25 : Int) ≤ 25 + t := by omega
        have t1 : (25 : Int) + t ≤ 49 := by omega
        have lg := logI_l m e n (by omega) n.toNat k 0 (by omega) (by omega) (by omega)
        simp only [w1, s0, t0, t1, if_true, if_false, lg]
        by_cases hs : s ≥ (l.length : Int)
        · have : ¬ (0 ≤ s ∧ s < (l.length : Int)) := by omega
          cases List.all (List.take 8 m) valP <;> simp [hs, this]
        · have : (0 ≤ s ∧ s < (l.length : Int)) := by omega
          simp only [hs, this, if_false, and_self, decide_true, Bool.true_and]
          cases List.all (List.take 8 m) valP <;> cases List.all (List.drop 25 (List.take (25 + t).toNat m)) valP <;> simp [e, t1]
    · have e' : ¬ (m.length : Int) = 49 := by omega
      simp [e, e']
  · simp [p]
theorem unpack_zero : impl_UnpackControl.f 0 = some (0, 0, 0) := by
  have w0 : wrap64 0 = 0 := w64 (by omega) (by omega)
  unfold impl_UnpackControl.f impl_PackControl.f
  simp [within_eq, w0]
/-- A new memory. -/
def memNew (v : List Int) : List Int := v ++ List.replicate 41 0
theorem memNew_len {v : List Int} (h : v.length = 8) : (memNew v).length = 49 := by
  unfold memNew
  simp [h]
theorem memNew_8 {v : List Int} (h : v.length = 8) : rd (memNew v) 8 = 0 := by
  unfold rd memNew
  rw [List.getD_eq_getElem?_getD, List.getElem?_append_right (by omega), h]
  rfl
theorem memNew_take {v : List Int} (h : v.length = 8) : (memNew v).take 8 = v := by
  unfold memNew
  rw [List.take_append_of_le_length (by omega), List.take_of_length_le (by omega)]
theorem memNew_ok {v : List Int} (h : v.length = 8) (hv : v.all valP = true) {l : List S28} (hl : progOk l = true) : memOk l (memNew v) = true := by
  unfold memOk
  rw [memNew_8 h, unpack_zero, memNew_take h, memNew_len h, hl, hv]
  have h1 : 1 ≤ (l.length : Int) := by
    unfold progOk at hl
    simp only [Bool.and_eq_true, decide_eq_true_eq] at hl
    omega
  have e : ((memNew v).take (25 + 0 : Int).toNat).drop 25 = [] := by
    apply List.drop_eq_nil_of_le
    rw [List.length_take]
    exact Nat.min_le_left _ _
  simp only [e, List.all_nil, logOk, decide_true, Bool.true_and, Int.toNat_zero, Bool.and_true]
  exact decide_eq_true ⟨by omega, by omega⟩
theorem big_eq (l : List Int) : laws_big.f l = some (decide ((l.length : Int) > 1048576)) := rfl
theorem sameInts_l (l : List Int) (hl : l.length ≤ 1048576) (d : Nat) : ∀ (k : Nat) (i : Int), 0 ≤ i → i + (d : Int) = (l.length : Int) → d < k → laws_sameInts.l0 k l l i = some true := by
  induction d with
  | zero =>
    intro k i h0 hi hk
    obtain ⟨k, rfl⟩ := succ_of hk
    simp only [laws_sameInts.l0]
    rw [if_neg (by omega)]
  | succ d ih =>
    intro k i h0 hi hk
    obtain ⟨k, rfl⟩ := succ_of hk
    simp only [laws_sameInts.l0]
    rw [if_pos (by omega), if_pos h0, if_pos (by omega), if_pos trivial, w64 (by omega) (by omega)]
    exact ih k (i + 1) (by omega) (by omega) (by omega)
theorem FnMemories : laws_FnMemories.Pure := by
  intro b _ _ _
  refine ⟨b.length + 4000000, ?_⟩
  unfold laws_FnMemories.f
  rw [big_eq]
  simp only [Option.bind_some, decide_eq_true_eq]
  by_cases hl : (b.length : Int) > 1048576
  · rw [if_pos hl]
  rw [if_neg hl]
  obtain ⟨p, ep, hp, hp3⟩ := drawProgram_at b (by omega) (b.length + 4000000) (by omega)
  obtain ⟨v, ev, hv8, hv⟩ := drawVars_at b (by omega) (b.length + 4000000) (by omega)
  obtain ⟨_, hpl⟩ := progOk_len hp
  have hpy : ∀ y ∈ p, y.f0.length ≤ 1048576 := fun y hy => by have := (hpl y hy).2; omega
  have e8 : (v.length : Int) = 8 := by omega
  have hm := memNew_len hv8
  have hm' : ((memNew v).length : Int) = 49 := by omega
  have eN : impl_MemNew.f v = some (memNew v, true) := by
    unfold impl_MemNew.f impl_VarsOk.f slices_Clone_int_int.f
    rw [if_pos e8, areValI_eq, hv]
    simp only [Option.bind_some, if_true]
    rw [if_pos (by omega)]
    simp only [Option.bind_some]
    rw [if_pos (by omega)]
    rfl
  have eV : impl_MemVars.f (memNew v) = some v := by
    unfold impl_MemVars.f slices_Clone_int_int.f
    rw [if_pos hm', if_pos (by omega), memNew_take hv8, if_pos (by omega)]
    rfl
  have eS : impl_MemSent.f (memNew v) = some [] := by
    unfold impl_MemSent.f slices_Clone_int_int.f
    have w1 : wrap64 (25 + 0) = 25 := w64 (by omega) (by omega)
    have e : ((memNew v).take (25 : Int).toNat).drop 25 = [] := by
      apply List.drop_eq_nil_of_le
      rw [List.length_take]
      exact Nat.min_le_left _ _
    rw [if_pos hm', if_pos (by omega), memNew_8 hv8, unpack_zero]
    simp only [Option.bind_some, w1, e]
    rw [if_neg (by omega), if_pos (by omega), if_pos (by omega)]
    rfl
  have eC : impl_IsClean.f (memNew v) = some true := by
    unfold impl_IsClean.f
    rw [if_pos hm', if_pos (by omega), memNew_8 hv8, unpack_zero]
    rfl
  have eO := memOkI_at p hpy (memNew v) (by omega) (b.length + 4000000) (by omega)
  rw [memNew_ok hv8 hv hp] at eO
  have eL : impl_LostWork.f (b.length + 4000000) p (memNew v) = some 0 := by
    unfold impl_LostWork.f
    rw [eO]
    simp only [Option.bind_some, if_true]
    rw [if_pos (by omega), memNew_8 hv8, unpack_zero]
    rfl
  have eI : laws_sameInts.f (b.length + 4000000) v v = some true := by
    unfold laws_sameInts.f
    rw [if_pos rfl, sameInts_l v (by omega) v.length _ 0 (by omega) (by omega) (by omega)]
  simp only [ep, ev, eN, eO, eV, eI, eS, eC, eL, Option.bind_some, if_true, List.length_nil]
  simp

end Go.Proofs.Ytaicbghmfeehkaa.Pure
