/- The law FnUnlogged: for every input the function answers true. No condition. -/
import Derived.Test.YtakhaknglhgimaaGx14
namespace Go.Proofs.Ytakhaknglhgimaa.Pure
open Go.RowKit Go.Proofs.Ytakhaknglhgimaa.G Go.Proofs.YtakhaknglhgimaaW.PrintWords Go.Proofs.YtakhaknglhgimaaW.PrintLast
set_option linter.unusedVariables false
set_option linter.unusedSimpArgs false

theorem w64 {x : Int} (h : -9223372036854775808 ≤ x) (h2 : x ≤ 9223372036854775807) : wrap64 x = x := by
  unfold wrap64
  omega
theorem wf_i64 {x : Int} (h : (Lit.int .i64 x).wf = true) : -9223372036854775808 ≤ x ∧ x ≤ 9223372036854775807 := by
  simp only [Lit.wf, IntKind.min, IntKind.max, IntKind.signed, IntKind.bits, Bool.and_eq_true, decide_eq_true_eq, if_true] at h
  omega
theorem succ_of {k d : Nat} (h : d < k) : ∃ m, k = m + 1 := ⟨k - 1, by omega⟩
theorem rd_eq {l : List Int} {i : Int} (h0 : 0 ≤ i) (h : i < (l.length : Int)) : l[i.toNat]? = some (rd l i) := by
  unfold rd
  rw [List.getD_eq_getElem?_getD, List.getElem?_eq_getElem (by omega)]
  rfl
theorem drop_rd {l : List Int} {i : Int} (h0 : 0 ≤ i) (h : i < (l.length : Int)) : l.drop i.toNat = rd l i :: l.drop (i + 1).toNat := by
  have h1 : i.toNat < l.length := by omega
  have h2 : (i + 1).toNat = i.toNat + 1 := by omega
  have h3 := rd_eq h0 h
  rw [h2, List.drop_eq_getElem_cons h1]
  rw [List.getElem?_eq_getElem h1] at h3
  rw [Option.some.inj h3]
/-- The numbers a, a + 1, .. : n of them. -/
def marks (a : Int) (n : Nat) : List Int := (List.range n).map fun j : Nat => a + (j : Int)
theorem marks_len (a : Int) (n : Nat) : (marks a n).length = n := by simp [marks]
theorem marks_get (a : Int) (n i : Nat) (h : i < n) : (marks a n)[i]? = some (a + (i : Int)) := by simp [marks, h]
theorem rd_all {P : Int → Prop} {l : List Int} (h : ∀ x ∈ l, P x) {i : Int} (h0 : 0 ≤ i) (h1 : i < (l.length : Int)) : P (rd l i) := h _ (List.mem_of_getElem? (rd_eq h0 h1))
theorem getD_rd {α : Type} (z : α) {l : List α} {i : Int} (h0 : 0 ≤ i) (h : i < (l.length : Int)) : l[i.toNat]? = some (l.getD i.toNat z) := by
  rw [List.getD_eq_getElem?_getD, List.getElem?_eq_getElem (by omega)]
  rfl
theorem drop_getD {α : Type} (z : α) {l : List α} {i : Int} (h0 : 0 ≤ i) (h : i < (l.length : Int)) : l.drop i.toNat = l.getD i.toNat z :: l.drop (i + 1).toNat := by
  have h1 : i.toNat < l.length := by omega
  have h2 : (i + 1).toNat = i.toNat + 1 := by omega
  have h3 := getD_rd z h0 h
  rw [h2, List.drop_eq_getElem_cons h1]
  rw [List.getElem?_eq_getElem h1] at h3
  rw [Option.some.inj h3]
theorem getD_mem {α : Type} (z : α) {l : List α} {i : Int} (h0 : 0 ≤ i) (h : i < (l.length : Int)) : l.getD i.toNat z ∈ l := List.mem_of_getElem? (getD_rd z h0 h)
theorem tmod_in {a n : Int} (ha : 0 ≤ a) (hn : 0 < n) : 0 ≤ Int.tmod a n ∧ Int.tmod a n < n := by
  rw [Int.tmod_eq_emod_of_nonneg ha]
  exact ⟨Int.emod_nonneg _ (by omega), Int.emod_lt_of_pos _ hn⟩
theorem within_eq (a b c : Int) : impl_within.f a b c = some (decide (b ≤ a ∧ a ≤ c)) := by
  unfold impl_within.f
  by_cases h : b ≤ a <;> simp [h]
/-- An expression of the language. -/
def exprOk (a b c : Int) : Bool := decide ((1 ≤ a ∧ a ≤ 7) ∧ (-8 ≤ b ∧ b ≤ 999) ∧ -8 ≤ c ∧ c ≤ 999)
/-- A statement of the language: its kind, its variable, its number, its expression. -/
def stmtOk (a b c d e f : Int) : Bool :=
  if a = 1 then decide ((0 ≤ b ∧ b ≤ 7) ∧ c = 0) && exprOk d e f
  else if a = 2 then decide ((0 ≤ b ∧ b ≤ 7) ∧ (0 ≤ c ∧ c ≤ 3) ∧ d = 0 ∧ e = 0 ∧ f = 0)
  else if a = 3 ∨ a = 4 then decide (b = 0 ∧ c = 0) && exprOk d e f
  else if a = 5 then decide (b = 0 ∧ (1 ≤ c ∧ c ≤ 5) ∧ d = 0 ∧ e = 0 ∧ f = 0)
  else if a = 6 then decide (b = 0 ∧ c = 0 ∧ d = 0 ∧ e = 0 ∧ f = 0) else false
theorem operandI_eq (x : Int) : impl_OperandOk.f x = some (decide (-8 ≤ x ∧ x ≤ 999)) := by unfold impl_OperandOk.f; rw [within_eq]; rfl
theorem exprI_eq (a b c : Int) : impl_ExprOk.f a b c = some (exprOk a b c) := by
  unfold impl_ExprOk.f exprOk
  rw [within_eq, operandI_eq, operandI_eq]
  by_cases h1 : 1 ≤ a ∧ a ≤ 7 <;> by_cases h2 : -8 ≤ b ∧ b ≤ 999 <;> simp [h1, h2]
theorem stmtI_eq (a b c d e f : Int) (k : Nat) (hk : 3 < k) : impl_StmtOk.f k a b c d e f = some (stmtOk a b c d e f) := by
  obtain ⟨k, rfl⟩ : ∃ m, k = m + 4 := ⟨k - 4, by omega⟩
  unfold impl_StmtOk.f impl_hasVar.f impl_isVar.f stmtOk
  simp only [impl_StmtOk.j0, impl_StmtOk.j1, impl_hasExpr.f, impl_isSensor.f, within_eq, exprI_eq, Option.bind_some]
  by_cases h1 : a = 1
  · subst h1
    by_cases h : c = 0 <;> by_cases g : 0 ≤ b ∧ b ≤ 7 <;> cases exprOk d e f <;> simp [h, g]
  by_cases h2 : a = 2
  · subst h2
    by_cases h : d = 0 <;> by_cases h' : e = 0 <;> by_cases h'' : f = 0 <;> by_cases g : 0 ≤ b ∧ b ≤ 7 <;> simp [h, h', h'', g]
  by_cases h3 : a = 3
  · subst h3
    by_cases h : b = 0 <;> by_cases h' : c = 0 <;> cases exprOk d e f <;> simp [h, h']
  by_cases h4 : a = 4
  · subst h4
    by_cases h : b = 0 <;> by_cases h' : c = 0 <;> cases exprOk d e f <;> simp [h, h']
  by_cases h5 : a = 5
  · subst h5
    by_cases h : b = 0 <;> by_cases h' : d = 0 <;> by_cases h'' : e = 0 <;> by_cases g : f = 0 <;> simp [h, h', h'', g]
  by_cases h6 : a = 6
  · subst h6
    by_cases h : b = 0 <;> by_cases h' : d = 0 <;> by_cases h'' : e = 0 <;> by_cases g : f = 0 <;> by_cases g' : c = 0 <;> simp [h, h', h'', g, g']
  · have n : ¬ (1 ≤ a ∧ a ≤ 6) := by omega
    simp [h1, h2, h3, h4, h5, h6, n]
/-- A statement of the language. -/
def stOk (s : S77) : Bool := stmtOk s.f0 s.f1 s.f2 s.f3.f0 s.f3.f1 s.f3.f2
/-- A block as a tree: its statements in order, an opening one with what it holds and its closing one. -/
inductive Bk where
  | nil : Bk
  | leaf (s : S77) (t : Bk) : Bk
  | node (s : S77) (b : Bk) (e : S77) (t : Bk) : Bk
def Bk.flat : Bk → List S77
  | .nil => []
  | .leaf s t => s :: t.flat
  | .node s b e t => s :: (b.flat ++ e :: t.flat)
def Bk.ok : Bk → Prop
  | .nil => True
  | .leaf s t => s.f0 ≠ 4 ∧ s.f0 ≠ 5 ∧ s.f0 ≠ 6 ∧ t.ok
  | .node s b e t => (s.f0 = 4 ∨ s.f0 = 5) ∧ b.ok ∧ e.f0 = 6 ∧ t.ok
/-- How many are open, behind a statement. -/
def dNext (s : S77) (d : Int) : Int := if s.f0 = 4 ∨ s.f0 = 5 then d + 1 else if s.f0 = 6 then d - 1 else d
/-- The statements are valid, and there are never too many or too few open ones. -/
def blkOk : List S77 → Int → Bool
  | [], d => decide (d = 0)
  | s :: t, d => stOk s && (decide (0 ≤ dNext s d ∧ dNext s d ≤ 3) && blkOk t (dNext s d))
def blockOk (l : List S77) : Bool := blkOk l 0 && decide ((l.length : Int) ≤ 24)
theorem blkOk_cons {s : S77} {t : List S77} {d : Int} : blkOk (s :: t) d = true ↔ stOk s = true ∧ (0 ≤ dNext s d ∧ dNext s d ≤ 3) ∧ blkOk t (dNext s d) = true := by
  rw [blkOk, Bool.and_eq_true, Bool.and_eq_true, decide_eq_true_eq]
theorem blkOk_all : ∀ (l : List S77) (d : Int), blkOk l d = true → ∀ s ∈ l, stOk s = true
  | [], d, h, s, hs => by simp at hs
  | x :: t, d, h, s, hs => by
    obtain ⟨h1, h2, h3⟩ := blkOk_cons.1 h
    rcases List.mem_cons.1 hs with rfl | hs
    · exact h1
    · exact blkOk_all t _ h3 s hs
theorem parse (n : Nat) : ∀ (l : List S77) (d : Int), l.length ≤ n → 0 ≤ d → blkOk l d = true →
    (d = 0 → ∃ T : Bk, T.ok ∧ T.flat = l) ∧ (0 < d → ∃ (T : Bk) (e : S77) (r : List S77), T.ok ∧ e.f0 = 6 ∧ l = T.flat ++ e :: r ∧ blkOk r (d - 1) = true) := by
  induction n with
  | zero =>
    intro l d hl hd h
    have : l = [] := List.eq_nil_of_length_eq_zero (by omega)
    subst this
    simp only [blkOk, decide_eq_true_eq] at h
    exact ⟨fun _ => ⟨.nil, trivial, rfl⟩, fun h2 => absurd h (by omega)⟩
  | succ n ih =>
    intro l d hl hd h
    cases l with
    | nil =>
      simp only [blkOk, decide_eq_true_eq] at h
      exact ⟨fun _ => ⟨.nil, trivial, rfl⟩, fun h2 => absurd h (by omega)⟩
    | cons s t =>
      obtain ⟨h1, h2, h3⟩ := blkOk_cons.1 h
      simp only [List.length_cons] at hl
      by_cases o : s.f0 = 4 ∨ s.f0 = 5
      · have e : dNext s d = d + 1 := by rw [dNext, if_pos o]
        rw [e] at h2 h3
        obtain ⟨T1, c, r, k1, k2, k3, k4⟩ := (ih t (d + 1) (by omega) (by omega) h3).2 (by omega)
        rw [Int.add_sub_cancel] at k4
        have hr : r.length ≤ n := by
          have := congrArg List.length k3
          simp only [List.length_append, List.length_cons] at this
          omega
        obtain ⟨q1, q2⟩ := ih r d hr hd k4
        constructor
        · intro d0
          obtain ⟨T2, m1, m2⟩ := q1 d0
          exact ⟨.node s T1 c T2, ⟨o, k1, k2, m1⟩, by rw [Bk.flat, m2, k3]⟩
        · intro d0
          obtain ⟨T2, c2, r2, m1, m2, m3, m4⟩ := q2 d0
          exact ⟨.node s T1 c T2, c2, r2, ⟨o, k1, k2, m1⟩, m2, by rw [Bk.flat, k3, m3]; simp, m4⟩
      · by_cases c : s.f0 = 6
        · have e : dNext s d = d - 1 := by rw [dNext, if_neg o, if_pos c]
          rw [e] at h2 h3
          exact ⟨fun d0 => absurd h2 (by omega), fun _ => ⟨.nil, s, t, trivial, c, rfl, h3⟩⟩
        · have e : dNext s d = d := by rw [dNext, if_neg o, if_neg c]
          rw [e] at h2 h3
          obtain ⟨q1, q2⟩ := ih t d (by omega) hd h3
          constructor
          · intro d0
            obtain ⟨T2, m1, m2⟩ := q1 d0
            exact ⟨.leaf s T2, ⟨fun h => o (.inl h), fun h => o (.inr h), c, m1⟩, by rw [Bk.flat, m2]⟩
          · intro d0
            obtain ⟨T2, c2, r2, m1, m2, m3, m4⟩ := q2 d0
            exact ⟨.leaf s T2, c2, r2, ⟨fun h => o (.inl h), fun h => o (.inr h), c, m1⟩, m2, by rw [Bk.flat, m3]; rfl, m4⟩
/-- A valid block is a tree. -/
theorem blockOk_tree {l : List S77} (h : blockOk l = true) : ∃ T : Bk, T.ok ∧ T.flat = l ∧ l.length ≤ 24 ∧ ∀ s ∈ l, stOk s = true := by
  rw [blockOk, Bool.and_eq_true, decide_eq_true_eq] at h
  obtain ⟨T, h1, h2⟩ := (parse l.length l 0 (by omega) (by omega) h.1).1 rfl
  exact ⟨T, h1, h2, by omega, blkOk_all l 0 h.1⟩
/-- What stands at a place of a list. -/
theorem at_mid (pre post : List S77) (s : S77) {i : Int} (hi : i = (pre.length : Int)) : rd_T77 (pre ++ s :: post) i = s := by
  unfold rd_T77
  rw [hi, Int.toNat_natCast, List.getD_eq_getElem?_getD, List.getElem?_append_right (by omega), Nat.sub_self]
  rfl
theorem opening_eq (x : Int) : impl_isOpening.f x = some (decide (x = 4 ∨ x = 5)) := by
  unfold impl_isOpening.f
  by_cases h : x = 4
  · simp [h]
  · by_cases h2 : x = 5 <;> simp [h, h2]
theorem blockI_l (l : List S77) (hl : l.length ≤ 1048576) (n : Nat) : ∀ (k : Nat) (d i : Int), 0 ≤ d → d ≤ 3 → 0 ≤ i → i + (n : Int) = (l.length : Int) → 2 * n + 5 < k →
    impl_BlockOk.l0 k l d l (l.length : Int) i = some (blkOk (l.drop i.toNat) d && decide ((l.length : Int) ≤ 24)) := by
  induction n with
  | zero =>
    intro k d i hd hd3 h0 hi hk
    obtain ⟨k, rfl⟩ := succ_of hk
    simp only [impl_BlockOk.l0]
    rw [if_neg (by omega), List.drop_eq_nil_of_le (by omega), blkOk]
    by_cases h : d = 0 <;> simp [h]
  | succ n ih =>
    intro k d i hd hd3 h0 hi hk
    obtain ⟨k, rfl⟩ := succ_of hk
    obtain ⟨k, rfl⟩ := succ_of (d := 4) (by omega : 4 < k)
    rw [impl_BlockOk.l0, if_pos (by omega), if_pos h0, if_pos (by omega), stmtI_eq _ _ _ _ _ _ _ (by omega), opening_eq, drop_getD z77 h0 (by omega)]
    change (Option.bind (some (stOk (rd_T77 l i))) _) = some (blkOk (rd_T77 l i :: _) d && _)
    generalize rd_T77 l i = s
    rw [blkOk]
    by_cases h1 : stOk s = true
    · simp only [h1, Option.bind_some, if_true, Bool.true_and, impl_BlockOk.j1, w64 (x := i + 1) (by omega) (by omega), w64 (x := d + 1) (by omega) (by omega), w64 (x := d + 1 - 1) (by omega) (by omega), w64 (x := d - 1) (by omega) (by omega), decide_eq_true_eq]
      have go := fun (x : Int) (a : 0 ≤ x) (b : x ≤ 3) => ih k x (i + 1) a b (by omega) (by omega) (by omega)
      unfold dNext
      by_cases o : s.f0 = 4 ∨ s.f0 = 5
      · have n6 : ¬ s.f0 = 6 := by omega
        rw [if_pos o, if_neg n6, if_pos o, if_neg (by omega)]
        by_cases g : d + 1 > 3
        · rw [if_pos g]
          simp
          omega
        · rw [if_neg g, go _ (by omega) (by omega)]
          have : 0 ≤ d + 1 ∧ d + 1 ≤ 3 := by omega
          simp [this]
      · rw [if_neg o, if_neg o]
        by_cases n6 : s.f0 = 6
        · rw [if_pos n6, if_pos n6]
          by_cases g : d - 1 < 0
          · rw [if_pos g]
            simp
            omega
          · rw [if_neg g, if_neg (by omega), go _ (by omega) (by omega)]
            have : 0 ≤ d - 1 ∧ d - 1 ≤ 3 := by omega
            have g1 : 1 ≤ d := by omega
            simp [this, g1]
        · rw [if_neg n6, if_neg n6, if_neg (by omega), if_neg (by omega), go _ hd hd3]
          simp [hd, hd3]
    · simp [h1]
theorem blockI_at (l : List S77) (hl : l.length ≤ 1048576) (k : Nat) (hk : 2 * l.length + 5 < k) : impl_BlockOk.f k l = some (blockOk l) := by
  unfold impl_BlockOk.f blockOk
  rw [blockI_l l hl l.length k 0 0 (by omega) (by omega) (by omega) (by omega) hk]
  simp
def taskOkB (t : S34) : Bool := blockOk t.f0 && exprOk t.f1.f0 t.f1.f1 t.f1.f2
/-- A valid program. -/
def progOk (l : List S34) : Bool := decide (1 ≤ (l.length : Int) ∧ (l.length : Int) ≤ 6) && l.all taskOkB
theorem taskOkI_at (t : S34) (h : t.f0.length ≤ 1048576) (k : Nat) (hk : 2097160 < k) : impl_taskOk.f k t.f0 t.f1.f0 t.f1.f1 t.f1.f2 = some (taskOkB t) := by
  unfold impl_taskOk.f taskOkB
  rw [blockI_at _ h k (by omega), exprI_eq]
  simp only [Option.bind_some]
  cases blockOk t.f0 <;> simp
theorem anyNot_at (k : Nat) (hk : 2097160 < k) : ∀ (l : List S34), (∀ y ∈ l, y.f0.length ≤ 1048576) → anyNot k l = some (!(l.all taskOkB))
  | [], _ => rfl
  | t :: r, h => by
    rw [anyNot, taskOkI_at t (h t (by simp)) k hk, anyNot_at k hk r (fun y hy => h y (List.mem_cons_of_mem _ hy))]
    simp only [Option.bind_some, List.all_cons]
    cases taskOkB t <;> simp
theorem progOkI_at (l : List S34) (h : ∀ y ∈ l, y.f0.length ≤ 1048576) (k : Nat) (hk : 2097160 < k) : impl_ProgramOk.f k l = some (progOk l) := by
  unfold impl_ProgramOk.f progOk
  rw [within_eq, anyNot_at k hk l h]
  simp only [Option.bind_some, decide_eq_true_eq, Bool.not_not]
  by_cases c : 1 ≤ (l.length : Int) ∧ (l.length : Int) ≤ 6
  · rw [if_pos c]
    simp [c]
  · rw [if_neg c]
    simp only [c, decide_false, Bool.false_and]
theorem and_mask (x : Int) (m : Nat) (hm : m < 9223372036854775808) : 0 ≤ Go.bits .and .i64 x (m : Int) ∧ Go.bits .and .i64 x (m : Int) ≤ (m : Int) := by
  have hb : (BitVec.ofInt 64 (m : Int)).toNat = m := by
    rw [BitVec.ofInt_natCast, BitVec.toNat_ofNat]
    omega
  have h : ((BitVec.ofInt 64 x) &&& (BitVec.ofInt 64 (m : Int))).toNat ≤ m := by
    rw [BitVec.toNat_and, hb]
    exact Nat.and_le_right
  have e : Go.bits .and .i64 x (m : Int) = IntKind.i64.wrap (((BitVec.ofInt 64 x) &&& (BitVec.ofInt 64 (m : Int))).toNat : Int) := rfl
  rw [e, IntKind.wrap_i64]
  omega
theorem and255 (x : Int) : 0 ≤ Go.bits .and .i64 x 255 ∧ Go.bits .and .i64 x 255 ≤ 255 := and_mask x 255 (by omega)
theorem l01Byte_ok (b : List Int) (i h : Int) (h0 : 0 ≤ i) (hb : b.length ≤ 140737488351232) :
    ∃ r i' h', spec_l01Byte.f b i h = some (r, i', h') ∧ 0 ≤ r ∧ r ≤ 255 ∧ 0 ≤ i' := by
  unfold spec_l01Byte.f
  by_cases h1 : i < (b.length : Int)
  · rw [if_pos h1, if_pos h0, w64 (x := i + 1) (by omega) (by omega)]
    exact ⟨_, _, _, rfl, (and255 _).1, (and255 _).2, by omega⟩
  · rw [if_neg h1]
    exact ⟨_, _, _, rfl, (and255 _).1, (and255 _).2, h0⟩
theorem l01Below_ok (b : List Int) (i h n : Int) (h0 : 0 ≤ i) (hb : b.length ≤ 140737488351232) :
    ∃ r i' h', spec_l01Below.f b i h n = some (r, i', h') ∧ 0 ≤ r ∧ (0 < n → r < n) ∧ (n ≤ 0 → r = 0) ∧ 0 ≤ i' := by
  unfold spec_l01Below.f
  by_cases h1 : n ≤ 0
  · rw [if_pos h1]
    exact ⟨_, _, _, rfl, by omega, by omega, by omega, h0⟩
  rw [if_neg h1]
  by_cases h2 : n ≤ 256
  · obtain ⟨r, i', h', e, hr0, hr1, hi'⟩ := l01Byte_ok b i h h0 hb
    rw [if_pos h2, e]
    simp only [Option.bind_some]
    rw [if_neg (by omega)]
    have := tmod_in (a := r) (n := n) hr0 (by omega)
    exact ⟨_, _, _, rfl, this.1, fun _ => this.2, by omega, hi'⟩
  · rw [if_neg h2]
    obtain ⟨x, i1, g1, e1, hx0, hx1, hi1⟩ := l01Byte_ok b i h h0 hb
    obtain ⟨y, i2, g2, e2, hy0, hy1, hi2⟩ := l01Byte_ok b i1 g1 hi1 hb
    obtain ⟨z, i3, g3, e3, hz0, hz1, hi3⟩ := l01Byte_ok b i2 g2 hi2 hb
    obtain ⟨u, i4, g4, e4, hu0, hu1, hi4⟩ := l01Byte_ok b i3 g3 hi3 hb
    simp only [e1, e2, e3, e4, Option.bind_some]
    rw [if_neg (by omega)]
    rw [w64 (x := x * 16777216) (by omega) (by omega), w64 (x := y * 65536) (by omega) (by omega), w64 (x := z * 256) (by omega) (by omega), w64 (x := x * 16777216 + y * 65536) (by omega) (by omega), w64 (x := x * 16777216 + y * 65536 + z * 256) (by omega) (by omega), w64 (x := x * 16777216 + y * 65536 + z * 256 + u) (by omega) (by omega)]
    have := tmod_in (a := x * 16777216 + y * 65536 + z * 256 + u) (n := n) (by omega) (by omega)
    exact ⟨_, _, _, rfl, this.1, fun _ => this.2, by omega, hi4⟩
theorem l01New_l (b : List Int) (_hb : b.length ≤ 140737488351232) (d : Nat) : ∀ (k : Nat) (x i : Int), 0 ≤ i → i ≤ (b.length : Int) → i + (d : Int) = (b.length : Int) → d < k →
    ∃ h, spec_l01New.l0 k b x i = some (b, 0, h) := by
  induction d with
  | zero =>
    intro k x i h0 h1 hi hk
    obtain ⟨k, rfl⟩ := succ_of hk
    simp only [spec_l01New.l0]
    rw [if_neg (by omega)]
    exact ⟨_, rfl⟩
  | succ d ih =>
    intro k x i h0 h1 hi hk
    obtain ⟨k, rfl⟩ := succ_of hk
    simp only [spec_l01New.l0]
    rw [if_pos (by omega)]
    by_cases h2 : i < 4000
    · rw [if_pos h2, if_pos h0, w64 (x := i + 1) (by omega) (by omega)]
      exact ih k _ (i + 1) (by omega) (by omega) (by omega) (by omega)
    · rw [if_neg h2]
      exact ⟨_, rfl⟩
theorem l01New_at (b : List Int) (hb : b.length ≤ 140737488351232) (k : Nat) (hk : b.length < k) : ∃ h, spec_l01New.f k b = some (b, 0, h) := by
  unfold spec_l01New.f
  exact l01New_l b hb b.length k _ 0 (by omega) (by omega) (by omega) hk
theorem l01PickInt_ok (b : List Int) (i h : Int) (l : List Int) (h0 : 0 ≤ i) (hb : b.length ≤ 140737488351232) (hl : 0 < l.length) :
    ∃ r i' h', spec_l01PickInt.f b i h l = some (r, i', h') ∧ r ∈ l ∧ 0 ≤ i' := by
  unfold spec_l01PickInt.f
  obtain ⟨r, i', h', e, hr0, hr1, _, hi'⟩ := l01Below_ok b i h (l.length : Int) h0 hb
  have hr := hr1 (by omega)
  simp only [e, Option.bind_some]
  rw [if_pos hr0, if_pos hr]
  exact ⟨_, _, _, rfl, List.mem_of_getElem? (rd_eq hr0 hr), hi'⟩
theorem l01Once_ok (b : List Int) (i h n : Int) (h0 : 0 ≤ i) (hb : b.length ≤ 140737488351232) : ∃ r i' h', spec_l01Once.f b i h n = some (r, i', h') ∧ 0 ≤ i' := by
  unfold spec_l01Once.f
  obtain ⟨r, i', h', e, _, _, _, hi'⟩ := l01Below_ok b i h n h0 hb
  rw [e]
  exact ⟨_, _, _, rfl, hi'⟩
theorem l03Operand_ok (b : List Int) (i h : Int) (h0 : 0 ≤ i) (hb : b.length ≤ 140737488351232) : ∃ r i' h', spec_l03Operand.f b i h = some (r, i', h') ∧ (-8 ≤ r ∧ r ≤ 999) ∧ 0 ≤ i' := by
  unfold spec_l03Operand.f
  obtain ⟨o, i1, h1, e1, hi1⟩ := l01Once_ok b i h 2 h0 hb
  simp only [e1, Option.bind_some]
  cases o with
  | true =>
    obtain ⟨r, i2, h2, e2, q1, q2, _, hi2⟩ := l01Below_ok b i1 h1 5 hi1 hb
    have := q2 (by omega)
    simp only [if_true, e2, Option.bind_some]
    rw [w64 (by omega) (by omega)]
    exact ⟨_, _, _, rfl, by omega, hi2⟩
  | false =>
    obtain ⟨r, i2, h2, e2, q, hi2⟩ := l01PickInt_ok b i1 h1 [0, 1, 2, 3, 10, 999] hi1 hb (by simp)
    simp only [Bool.false_eq_true, if_false, e2, Option.bind_some]
    simp only [List.mem_cons, List.not_mem_nil, or_false] at q
    exact ⟨_, _, _, rfl, by omega, hi2⟩
theorem l03Expr_ok (b : List Int) (i h : Int) (h0 : 0 ≤ i) (hb : b.length ≤ 140737488351232) : ∃ x y z i' h', spec_l03Expr.f b i h = some (x, y, z, i', h') ∧ exprOk x y z = true ∧ 0 ≤ i' := by
  unfold spec_l03Expr.f
  obtain ⟨r, i1, h1, e1, q1, q2, _, hi1⟩ := l01Below_ok b i h 7 h0 hb
  have := q2 (by omega)
  obtain ⟨s, i2, h2, e2, p2, hi2⟩ := l03Operand_ok b i1 h1 hi1 hb
  obtain ⟨t, i3, h3, e3, p3, hi3⟩ := l03Operand_ok b i2 h2 hi2 hb
  simp only [e1, e2, e3, Option.bind_some]
  rw [w64 (by omega) (by omega)]
  refine ⟨_, _, _, _, _, rfl, ?_, hi3⟩
  unfold exprOk
  exact decide_eq_true ⟨by omega, p2, p3⟩
/-- A drawn statement: valid, and neither an opening nor a closing one. -/
theorem l04Stmt_ok (b : List Int) (i h : Int) (h0 : 0 ≤ i) (hb : b.length ≤ 140737488351232) (k : Nat) (hk : 2 < k) : ∃ x0 x1 x2 x3 x4 x5 i' h', spec_l04Stmt.f k b i h = some (x0, x1, x2, x3, x4, x5, i', h') ∧ (x0 = 1 ∨ x0 = 2 ∨ x0 = 3) ∧ stOk ⟨x0, x1, x2, ⟨x3, x4, x5⟩⟩ = true ∧ 0 ≤ i' := by
  unfold spec_l04Stmt.f
  obtain ⟨k, rfl⟩ := succ_of hk
  obtain ⟨r, i1, h1, e1, q1, q2, _, hi1⟩ := l01Below_ok b i h 7 h0 hb
  have := q2 (by omega)
  simp only [e1, Option.bind_some, spec_l04Stmt.j0]
  have sense : ∃ x0 x1 x2 x3 x4 x5 i' h', ((spec_l01Below.f b i1 h1 5).bind fun bt366 => ((spec_l01Below.f b bt366.2.1 bt366.2.2 4).bind fun bt369 => (some ((2 : Int), bt366.1, bt369.1, (0 : Int), (0 : Int), (0 : Int), bt369.2.1, bt369.2.2)))) = some (x0, x1, x2, x3, x4, x5, i', h') ∧ (x0 = 1 ∨ x0 = 2 ∨ x0 = 3) ∧ stOk ⟨x0, x1, x2, ⟨x3, x4, x5⟩⟩ = true ∧ 0 ≤ i' := by
    obtain ⟨v, i2, h2, e2, a1, a2, _, hi2⟩ := l01Below_ok b i1 h1 5 hi1 hb
    obtain ⟨u, i3, h3, e3, c1, c2, _, hi3⟩ := l01Below_ok b i2 h2 4 hi2 hb
    have := a2 (by omega)
    have := c2 (by omega)
    simp only [e2, e3, Option.bind_some]
    refine ⟨_, _, _, _, _, _, _, _, rfl, .inr (.inl rfl), ?_, hi3⟩
    unfold stOk stmtOk
    simp
    omega
  by_cases c0 : r = 0
  · simp only [c0, if_true, beq_self_eq_true]
    exact sense
  rw [if_neg c0]
  by_cases c1 : r = 1
  · simp only [c1, if_true, beq_self_eq_true]
    exact sense
  have c1' : (r == 1) = false := by simpa using c1
  simp only [c1', Bool.false_eq_true, if_false]
  by_cases c2 : r = 2
  · obtain ⟨x, y, z, i2, h2, e2, p, hi2⟩ := l03Expr_ok b i1 h1 hi1 hb
    simp only [c2, if_true, e2, Option.bind_some]
    refine ⟨_, _, _, _, _, _, _, _, rfl, .inr (.inr rfl), ?_, hi2⟩
    unfold stOk stmtOk
    simp [p]
  · rw [if_neg c2]
    obtain ⟨v, i2, h2, e2, a1, a2, _, hi2⟩ := l01Below_ok b i1 h1 5 hi1 hb
    have := a2 (by omega)
    obtain ⟨x, y, z, i3, h3, e3, p, hi3⟩ := l03Expr_ok b i2 h2 hi2 hb
    simp only [e2, e3, Option.bind_some]
    refine ⟨_, _, _, _, _, _, _, _, rfl, .inl rfl, ?_, hi3⟩
    unfold stOk stmtOk
    simp [p]
    omega
/-- A piece of a block: it may stand where no more than d0 are open. -/
def piece (x : List S77) (d0 : Int) : Prop := ∀ (d : Int) (r : List S77), 0 ≤ d → d ≤ d0 → blkOk (x ++ r) d = blkOk r d
theorem piece_nil (d0 : Int) : piece [] d0 := fun d r h0 h1 => rfl
theorem piece_app {x y : List S77} {d0 : Int} (h1 : piece x d0) (h2 : piece y d0) : piece (x ++ y) d0 := by
  intro d r h0 h
  rw [List.append_assoc, h1 d _ h0 h, h2 d r h0 h]
theorem piece_one {s : S77} {d0 : Int} (hs : stOk s = true) (hk : s.f0 = 1 ∨ s.f0 = 2 ∨ s.f0 = 3) (hd : d0 ≤ 3) : piece [s] d0 := by
  intro d r h0 h
  have e : dNext s d = d := by rw [dNext, if_neg (by omega), if_neg (by omega)]
  rw [List.singleton_append, blkOk, e, hs, decide_eq_true (by omega : 0 ≤ d ∧ d ≤ 3)]
  simp
theorem piece_node {s c : S77} {x : List S77} {d0 : Int} (hs : stOk s = true) (hk : s.f0 = 4 ∨ s.f0 = 5) (hc : stOk c = true) (hc6 : c.f0 = 6) (hx : piece x (d0 + 1)) (hd : d0 ≤ 2) : piece (s :: (x ++ [c])) d0 := by
  intro d r h0 h
  have e : dNext s d = d + 1 := by rw [dNext, if_pos hk]
  have e2 : dNext c (d + 1) = d := by
    rw [dNext, if_neg (by omega), if_pos hc6]
    omega
  rw [List.cons_append, List.append_assoc, blkOk, e, hx (d + 1) _ (by omega) (by omega), List.singleton_append, blkOk, e2, hs, hc, decide_eq_true (by omega : 0 ≤ d + 1 ∧ d + 1 ≤ 3), decide_eq_true (by omega : 0 ≤ d ∧ d ≤ 3)]
  simp
theorem endStmt_ok : stOk ⟨6, 0, 0, ⟨0, 0, 0⟩⟩ = true := by
  unfold stOk stmtOk
  simp
theorem leafStep (b : List Int) (hb : b.length ≤ 140737488351232) (p h : Int) (hp : 0 ≤ p) (k : Nat) (hk : 2 < k) :
    ∃ s p' h', stOk s = true ∧ (s.f0 = 1 ∨ s.f0 = 2 ∨ s.f0 = 3) ∧ 0 ≤ p' ∧ ∀ (cnt dep i : Int) (x : List S77), x.length ≤ 1000 → spec_l05Block.j1 (k + 1) cnt dep x i false b p h = spec_l05Block.l0 k cnt dep (x ++ [s]) (wrap64 (i + 1)) b p' h' := by
  obtain ⟨x0, x1, x2, x3, x4, x5, p', h', e, hk3, hok, hp'⟩ := l04Stmt_ok b p h hp hb k hk
  refine ⟨⟨x0, x1, x2, ⟨x3, x4, x5⟩⟩, p', h', hok, hk3, hp', fun cnt dep i x hx => ?_⟩
  rw [spec_l05Block.j1, if_neg (by simp), e]
  simp only [Option.bind_some]
  rw [if_pos (by omega)]
theorem nodeStep (b : List Int) (hb : b.length ≤ 140737488351232) (dep : Int) (hd : 0 ≤ dep) (hd2 : dep ≤ 1) (L k : Nat) (hL : L ≤ 1000) (hn : ∀ c p h : Int, 0 ≤ p → 1 ≤ c → c ≤ 2 → ∃ r p' h', spec_l05Block.f k b p h c (dep + 1) = some (r, p', h') ∧ piece r (dep + 1) ∧ r.length ≤ L ∧ 0 ≤ p') (p h : Int) (hp : 0 ≤ p) :
    ∃ s r p' h', stOk s = true ∧ (s.f0 = 4 ∨ s.f0 = 5) ∧ piece r (dep + 1) ∧ r.length ≤ L ∧ 0 ≤ p' ∧ ∀ (cnt i : Int) (x : List S77), x.length ≤ 1000 → spec_l05Block.j1 (k + 1) cnt dep x i true b p h = spec_l05Block.l0 k cnt dep (x ++ s :: (r ++ [⟨6, 0, 0, ⟨0, 0, 0⟩⟩])) (wrap64 (i + 1)) b p' h' := by
  obtain ⟨n, p1, h1, e1, a1, a2, _, hp1⟩ := l01Below_ok b p h 3 hp hb
  have := a2 (by omega)
  obtain ⟨o, p2, h2, e2, hp2⟩ := l01Once_ok b p1 h1 2 hp1 hb
  have wd : wrap64 (dep + 1) = dep + 1 := w64 (by omega) (by omega)
  cases o with
  | true =>
    obtain ⟨x, y, z, p3, h3, e3, ok3, hp3⟩ := l03Expr_ok b p2 h2 hp2 hb
    obtain ⟨m, p4, h4, e4, c1, c2, _, hp4⟩ := l01Below_ok b p3 h3 2 hp3 hb
    have := c2 (by omega)
    obtain ⟨r, p5, h5, e5, pr, lr, hp5⟩ := hn (1 + m) p4 h4 hp4 (by omega) (by omega)
    refine ⟨⟨4, 0, 0, ⟨x, y, z⟩⟩, r, p5, h5, by unfold stOk stmtOk; simp [ok3], .inl rfl, pr, lr, hp5, fun cnt i q hq => ?_⟩
    rw [spec_l05Block.j1, if_pos rfl, e1]
    simp only [Option.bind_some]
    rw [e2]
    simp only [Option.bind_some, if_true]
    rw [e3]
    simp only [Option.bind_some]
    rw [if_pos (by omega), e4]
    simp only [Option.bind_some]
    rw [wd, w64 (x := 1 + m) (by omega) (by omega), e5]
    simp only [Option.bind_some]
    rw [if_pos (by simp only [List.length_append, List.length_cons, List.length_nil]; omega), if_pos (by simp only [List.length_append, List.length_cons, List.length_nil]; omega)]
    simp only [List.append_assoc, List.singleton_append]
    rfl
  | false =>
    obtain ⟨m, p4, h4, e4, c1, c2, _, hp4⟩ := l01Below_ok b p2 h2 2 hp2 hb
    have := c2 (by omega)
    obtain ⟨r, p5, h5, e5, pr, lr, hp5⟩ := hn (1 + m) p4 h4 hp4 (by omega) (by omega)
    refine ⟨⟨5, 0, 1 + n, ⟨0, 0, 0⟩⟩, r, p5, h5, by unfold stOk stmtOk; simp; omega, .inr rfl, pr, lr, hp5, fun cnt i q hq => ?_⟩
    rw [spec_l05Block.j1, if_pos rfl, e1]
    simp only [Option.bind_some]
    rw [e2]
    simp only [Option.bind_some, Bool.false_eq_true, if_false]
    rw [if_pos (by omega), e4]
    simp only [Option.bind_some]
    rw [wd, w64 (x := 1 + m) (by omega) (by omega), w64 (x := 1 + n) (by omega) (by omega), e5]
    simp only [Option.bind_some]
    rw [if_pos (by simp only [List.length_append, List.length_cons, List.length_nil]; omega), if_pos (by simp only [List.length_append, List.length_cons, List.length_nil]; omega)]
    simp only [List.append_assoc, List.singleton_append]
    rfl
theorem block2_l (b : List Int) (hb : b.length ≤ 140737488351232) (cnt : Int) (hc : cnt ≤ 2) (n : Nat) : ∀ (k : Nat) (x : List S77) (i p h : Int), 0 ≤ p → 0 ≤ i → i + (n : Int) = cnt → piece x 2 → (x.length : Int) ≤ i → 2 * n + 4 < k →
    ∃ r p' h', spec_l05Block.l0 k cnt 2 x i b p h = some (r, p', h') ∧ piece r 2 ∧ r.length ≤ 2 ∧ 0 ≤ p' := by
  induction n with
  | zero =>
    intro k x i p h hp h0 hi hx hl hk
    obtain ⟨k, rfl⟩ := succ_of hk
    rw [spec_l05Block.l0, if_neg (by omega)]
    exact ⟨_, _, _, rfl, hx, by omega, hp⟩
  | succ n ih =>
    intro k x i p h hp h0 hi hx hl hk
    obtain ⟨k, rfl⟩ := succ_of hk
    obtain ⟨k, rfl⟩ := succ_of (d := 3) (by omega : 3 < k)
    obtain ⟨s, p', h', a1, a2, a3, a4⟩ := leafStep b hb p h hp k (by omega)
    rw [spec_l05Block.l0, if_pos (by omega), if_neg (by omega), a4 _ _ _ _ (by omega), w64 (by omega) (by omega)]
    exact ih k _ (i + 1) p' h' a3 (by omega) (by omega) (piece_app hx (piece_one a1 a2 (by omega))) (by simp only [List.length_append, List.length_cons, List.length_nil]; omega) (by omega)
theorem block1_l (b : List Int) (hb : b.length ≤ 140737488351232) (cnt : Int) (hc : cnt ≤ 2) (n : Nat) : ∀ (k : Nat) (x : List S77) (i p h : Int), 0 ≤ p → 0 ≤ i → i + (n : Int) = cnt → piece x 1 → (x.length : Int) ≤ 4 * i → 2 * n + 20 < k →
    ∃ r p' h', spec_l05Block.l0 k cnt 1 x i b p h = some (r, p', h') ∧ piece r 1 ∧ r.length ≤ 8 ∧ 0 ≤ p' := by
  induction n with
  | zero =>
    intro k x i p h hp h0 hi hx hl hk
    obtain ⟨k, rfl⟩ := succ_of hk
    rw [spec_l05Block.l0, if_neg (by omega)]
    exact ⟨_, _, _, rfl, hx, by omega, hp⟩
  | succ n ih =>
    intro k x i p h hp h0 hi hx hl hk
    obtain ⟨k, rfl⟩ := succ_of hk
    obtain ⟨k, rfl⟩ := succ_of (d := 18) (by omega : 18 < k)
    have leaf : ∀ p h : Int, 0 ≤ p → ∃ r p' h', spec_l05Block.j1 (k + 1) cnt 1 x i false b p h = some (r, p', h') ∧ piece r 1 ∧ r.length ≤ 8 ∧ 0 ≤ p' := by
      intro p h hp
      obtain ⟨s, p', h', a1, a2, a3, a4⟩ := leafStep b hb p h hp k (by omega)
      rw [a4 _ _ _ _ (by omega), w64 (by omega) (by omega)]
      exact ih k _ (i + 1) p' h' a3 (by omega) (by omega) (piece_app hx (piece_one a1 a2 (by omega))) (by simp only [List.length_append, List.length_cons, List.length_nil]; omega) (by omega)
    rw [spec_l05Block.l0, if_pos (by omega), if_pos (by omega)]
    by_cases h6 : (x.length : Int) < 6
    · rw [if_pos h6]
      obtain ⟨o, p1, h1, e1, hp1⟩ := l01Once_ok b p h 5 hp hb
      rw [e1]
      simp only [Option.bind_some]
      cases o with
      | false => exact leaf p1 h1 hp1
      | true =>
        have nest : ∀ c p h : Int, 0 ≤ p → 1 ≤ c → c ≤ 2 → ∃ r p' h', spec_l05Block.f k b p h c (1 + 1) = some (r, p', h') ∧ piece r (1 + 1) ∧ r.length ≤ 2 ∧ 0 ≤ p' := by
          intro c p h hp c1 c2
          obtain ⟨m, rfl⟩ := succ_of (d := 17) (by omega : 17 < k)
          rw [spec_l05Block.f]
          exact block2_l b hb c c2 c.toNat m [] 0 p h hp (by omega) (by omega) (piece_nil 2) (by simp) (by omega)
        obtain ⟨s, r, p', h', a1, a2, a3, a4, a5, a6⟩ := nodeStep b hb 1 (by omega) (by omega) 2 k (by omega) nest p1 h1 hp1
        rw [a6 _ _ _ (by omega), w64 (by omega) (by omega)]
        exact ih k _ (i + 1) p' h' a5 (by omega) (by omega) (piece_app hx (piece_node a1 a2 endStmt_ok rfl a3 (by omega))) (by simp only [List.length_append, List.length_cons, List.length_nil]; omega) (by omega)
    · rw [if_neg h6]
      exact leaf p h hp
theorem block0_l (b : List Int) (hb : b.length ≤ 140737488351232) (cnt : Int) (hc : cnt ≤ 5) (n : Nat) : ∀ (k : Nat) (x : List S77) (i p h : Int), 0 ≤ p → 0 ≤ i → i + (n : Int) = cnt → piece x 0 → (x.length : Int) ≤ 15 + i → 2 * n + 40 < k →
    ∃ r p' h', spec_l05Block.l0 k cnt 0 x i b p h = some (r, p', h') ∧ piece r 0 ∧ r.length ≤ 20 ∧ 0 ≤ p' := by
  induction n with
  | zero =>
    intro k x i p h hp h0 hi hx hl hk
    obtain ⟨k, rfl⟩ := succ_of hk
    rw [spec_l05Block.l0, if_neg (by omega)]
    exact ⟨_, _, _, rfl, hx, by omega, hp⟩
  | succ n ih =>
    intro k x i p h hp h0 hi hx hl hk
    obtain ⟨k, rfl⟩ := succ_of hk
    obtain ⟨k, rfl⟩ := succ_of (d := 38) (by omega : 38 < k)
    have leaf : ∀ p h : Int, 0 ≤ p → ∃ r p' h', spec_l05Block.j1 (k + 1) cnt 0 x i false b p h = some (r, p', h') ∧ piece r 0 ∧ r.length ≤ 20 ∧ 0 ≤ p' := by
      intro p h hp
      obtain ⟨s, p', h', a1, a2, a3, a4⟩ := leafStep b hb p h hp k (by omega)
      rw [a4 _ _ _ _ (by omega), w64 (by omega) (by omega)]
      exact ih k _ (i + 1) p' h' a3 (by omega) (by omega) (piece_app hx (piece_one a1 a2 (by omega))) (by simp only [List.length_append, List.length_cons, List.length_nil]; omega) (by omega)
    rw [spec_l05Block.l0, if_pos (by omega), if_pos (by omega)]
    by_cases h6 : (x.length : Int) < 6
    · rw [if_pos h6]
      obtain ⟨o, p1, h1, e1, hp1⟩ := l01Once_ok b p h 5 hp hb
      rw [e1]
      simp only [Option.bind_some]
      cases o with
      | false => exact leaf p1 h1 hp1
      | true =>
        have nest : ∀ c p h : Int, 0 ≤ p → 1 ≤ c → c ≤ 2 → ∃ r p' h', spec_l05Block.f k b p h c (0 + 1) = some (r, p', h') ∧ piece r (0 + 1) ∧ r.length ≤ 8 ∧ 0 ≤ p' := by
          intro c p h hp c1 c2
          obtain ⟨m, rfl⟩ := succ_of (d := 37) (by omega : 37 < k)
          rw [spec_l05Block.f]
          exact block1_l b hb c c2 c.toNat m [] 0 p h hp (by omega) (by omega) (piece_nil 1) (by simp) (by omega)
        obtain ⟨s, r, p', h', a1, a2, a3, a4, a5, a6⟩ := nodeStep b hb 0 (by omega) (by omega) 8 k (by omega) nest p1 h1 hp1
        rw [a6 _ _ _ (by omega), w64 (by omega) (by omega)]
        exact ih k _ (i + 1) p' h' a5 (by omega) (by omega) (piece_app hx (piece_node a1 a2 endStmt_ok rfl a3 (by omega))) (by simp only [List.length_append, List.length_cons, List.length_nil]; omega) (by omega)
    · rw [if_neg h6]
      exact leaf p h hp
theorem l05Case_ok (b : List Int) (hb : b.length ≤ 140737488351232) (p h : Int) (hp : 0 ≤ p) (k : Nat) (hk : 60 < k) : ∃ r p' h', spec_l05Case.f k b p h = some (r, p', h') ∧ blockOk r = true ∧ 0 ≤ p' := by
  unfold spec_l05Case.f
  obtain ⟨n, p1, h1, e1, a1, a2, _, hp1⟩ := l01Below_ok b p h 6 hp hb
  have := a2 (by omega)
  obtain ⟨m, rfl⟩ := succ_of (d := 59) (by omega : 59 < k)
  obtain ⟨r, p2, h2, e2, q1, q2, hp2⟩ := block0_l b hb n (by omega) n.toNat m [] 0 p1 h1 hp1 (by omega) (by omega) (piece_nil 0) (by simp) (by omega)
  rw [e1]
  simp only [Option.bind_some]
  rw [spec_l05Block.f, e2]
  refine ⟨_, _, _, rfl, ?_, hp2⟩
  have := q1 0 [] (by omega) (by omega)
  rw [List.append_nil] at this
  rw [blockOk, this, decide_eq_true (by omega : (r.length : Int) ≤ 24)]
  rfl
theorem l06Program_l (b : List Int) (hb : b.length ≤ 140737488351232) (n : Nat) : ∀ (k : Nat) (i p h : Int) (x : List S34), 0 ≤ p → 0 ≤ i → i + (n : Int) = 3 → (x.length : Int) = i → x.all taskOkB = true → n + 70 < k →
    ∃ r p' h', spec_l06Program.l0 k i b p h x = some (r, p', h') ∧ progOk r = true ∧ r.length ≤ 3 := by
  induction n with
  | zero =>
    intro k i p h x hp h0 hi hx ha hk
    obtain ⟨k, rfl⟩ := succ_of hk
    obtain ⟨m, p1, h1, e1, a1, a2, _, hp1⟩ := l01Below_ok b p h 3 hp hb
    have := a2 (by omega)
    rw [spec_l06Program.l0, e1]
    simp only [Option.bind_some]
    rw [w64 (x := 1 + m) (by omega) (by omega), if_neg (by omega)]
    refine ⟨_, _, _, rfl, ?_, by omega⟩
    rw [progOk, ha, decide_eq_true (by omega : 1 ≤ (x.length : Int) ∧ (x.length : Int) ≤ 6)]
    rfl
  | succ n ih =>
    intro k i p h x hp h0 hi hx ha hk
    obtain ⟨k, rfl⟩ := succ_of hk
    obtain ⟨m, p1, h1, e1, a1, a2, _, hp1⟩ := l01Below_ok b p h 3 hp hb
    have := a2 (by omega)
    rw [spec_l06Program.l0, e1]
    simp only [Option.bind_some]
    rw [w64 (x := 1 + m) (by omega) (by omega)]
    by_cases c : i < 1 + m
    · rw [if_pos c]
      obtain ⟨r, p2, h2, e2, ok2, hp2⟩ := l05Case_ok b hb p1 h1 hp1 k (by omega)
      obtain ⟨y0, y1, y2, p3, h3, e3, ok3, hp3⟩ := l03Expr_ok b p2 h2 hp2 hb
      simp only [e2, e3, Option.bind_some]
      rw [if_pos (by omega), w64 (x := i + 1) (by omega) (by omega)]
      refine ih k (i + 1) p3 h3 _ hp3 (by omega) (by omega) (by simp only [List.length_append, List.length_cons, List.length_nil]; omega) ?_ (by omega)
      rw [List.all_append, ha]
      simp [taskOkB, ok2, ok3]
    · rw [if_neg c]
      refine ⟨_, _, _, rfl, ?_, by omega⟩
      rw [progOk, ha, decide_eq_true (by omega : 1 ≤ (x.length : Int) ∧ (x.length : Int) ≤ 6)]
      rfl
/-- A drawn program is valid. -/
theorem drawProgram_at (b : List Int) (hb : b.length ≤ 140737488351232) (k : Nat) (hk : b.length + 100 < k) : ∃ l, spec_DrawProgram.f k b = some l ∧ progOk l = true ∧ l.length ≤ 3 := by
  unfold spec_DrawProgram.f spec_l06Program.f
  obtain ⟨h, e⟩ := l01New_at b hb k (by omega)
  obtain ⟨r, p', h', e2, h1, h2⟩ := l06Program_l b hb 3 k 0 0 h [] (by omega) (by omega) (by omega) (by simp) (by simp) (by omega)
  simp only [e, e2, Option.bind_some]
  exact ⟨_, rfl, h1, h2⟩
theorem progOk_len {l : List S34} (h : progOk l = true) : l.length ≤ 6 ∧ ∀ y ∈ l, blockOk y.f0 = true ∧ y.f0.length ≤ 24 := by
  rw [progOk, Bool.and_eq_true, decide_eq_true_eq, List.all_eq_true] at h
  refine ⟨by omega, fun y hy => ?_⟩
  have := h.2 y hy
  rw [taskOkB, Bool.and_eq_true] at this
  have t := this.1
  have t2 := t
  rw [blockOk, Bool.and_eq_true, decide_eq_true_eq] at t2
  exact ⟨t, by omega⟩
theorem l03Vars_l (b : List Int) (hb : b.length ≤ 140737488351232) (n : Nat) : ∀ (k : Nat) (i p h : Int) (x : List Int), 0 ≤ p → 0 ≤ i → i + (n : Int) = 8 → (x.length : Int) = i → x.all valP = true → n < k →
    ∃ r p' h', spec_l03Vars.l0 k x i b p h = some (r, p', h') ∧ r.length = 8 ∧ r.all valP = true := by
  induction n with
  | zero =>
    intro k i p h x hp h0 hi hx ha hk
    obtain ⟨k, rfl⟩ := succ_of hk
    rw [spec_l03Vars.l0, if_neg (by omega)]
    exact ⟨_, _, _, rfl, by omega, ha⟩
  | succ n ih =>
    intro k i p h x hp h0 hi hx ha hk
    obtain ⟨k, rfl⟩ := succ_of hk
    obtain ⟨m, p1, h1, e1, a1, a2, _, hp1⟩ := l01Below_ok b p h 2000 hp hb
    have := a2 (by omega)
    rw [spec_l03Vars.l0, if_pos (by omega), e1]
    simp only [Option.bind_some]
    rw [w64 (x := m - 1000) (by omega) (by omega)]
    obtain ⟨v, p2, h2, e2, q, hp2⟩ := l01PickInt_ok b p1 h1 [0, 1, 2, 5, m - 1000, 1000000] hp1 hb (by simp)
    rw [e2]
    simp only [Option.bind_some]
    rw [if_pos (by omega), w64 (x := i + 1) (by omega) (by omega)]
    refine ih k (i + 1) p2 h2 _ hp2 (by omega) (by omega) (by simp only [List.length_append, List.length_cons, List.length_nil]; omega) ?_ (by omega)
    simp only [List.mem_cons, List.not_mem_nil, or_false] at q
    rw [List.all_append, ha]
    simp [valP]
    omega
/-- Drawn variables: eight values. -/
theorem drawVars_at (b : List Int) (hb : b.length ≤ 140737488351232) (k : Nat) (hk : b.length + 10 < k) : ∃ l, spec_DrawVars.f k b = some l ∧ l.length = 8 ∧ l.all valP = true := by
  unfold spec_DrawVars.f spec_l03Vars.f
  obtain ⟨h, e⟩ := l01New_at b hb k (by omega)
  obtain ⟨r, p', h', e2, h1, h2⟩ := l03Vars_l b hb 8 k 0 0 h [] (by omega) (by omega) (by omega) (by simp) (by simp) (by omega)
  simp only [e, e2, Option.bind_some]
  exact ⟨_, rfl, h1, h2⟩
theorem places_l (b : List Int) (hb : b.length ≤ 140737488351232) (d : Nat) : ∀ (k : Nat) (acc : List Int) (j i h : Int), 0 ≤ j → 0 ≤ i → j + (d : Int) = 12 → acc.length + d = 12 → (∀ x ∈ acc, 0 ≤ x ∧ x < 10000) → d < k →
    ∃ r, spec_DrawPlaces.l0 k acc j b i h = some r ∧ r.length = 12 ∧ ∀ x ∈ r, 0 ≤ x ∧ x < 10000 := by
  induction d with
  | zero =>
    intro k acc j i h h0 hi0 hj hl ha hk
    obtain ⟨k, rfl⟩ := succ_of hk
    simp only [spec_DrawPlaces.l0]
    rw [if_neg (by omega)]
    exact ⟨_, rfl, by omega, ha⟩
  | succ d ih =>
    intro k acc j i h h0 hi0 hj hl ha hk
    obtain ⟨k, rfl⟩ := succ_of hk
    simp only [spec_DrawPlaces.l0]
    obtain ⟨r, i', h', e, hr0, hr1, _, hi'⟩ := l01Below_ok b i h 10000 hi0 hb
    rw [if_pos (by omega)]
    simp only [e, Option.bind_some]
    rw [if_pos (by omega), w64 (x := j + 1) (by omega) (by omega)]
    refine ih k _ (j + 1) i' h' (by omega) hi' (by omega) (by simp; omega) ?_ (by omega)
    intro x hx
    rcases List.mem_append.1 hx with hx | hx
    · exact ha x hx
    · rw [List.mem_singleton.1 hx]
      exact ⟨hr0, hr1 (by omega)⟩
theorem places_at (b : List Int) (hb : b.length ≤ 140737488351232) (k : Nat) (hk : b.length < k) (hk2 : 12 < k) :
    ∃ r, spec_DrawPlaces.f k b = some r ∧ r.length = 12 ∧ ∀ x ∈ r, 0 ≤ x ∧ x < 10000 := by
  unfold spec_DrawPlaces.f
  obtain ⟨h, e⟩ := l01New_at b hb k hk
  simp only [e, Option.bind_some]
  exact places_l b hb 12 k [] 0 0 h (by omega) (by omega) (by omega) (by simp) (by simp) hk2
theorem l12Readings_l (b : List Int) (hb : b.length ≤ 140737488351232) (d : Nat) : ∀ (k : Nat) (acc : List Int) (j i h : Int), 0 ≤ j → j ≤ 9 → 0 ≤ i → j + (d : Int) = 9 → (acc.length : Int) = j → (∀ x ∈ acc, -200 ≤ x ∧ x < 600) → d < k →
    ∃ r i' h', spec_l12Readings.l0 k acc j b i h = some (r, i', h') ∧ j ≤ (r.length : Int) ∧ r.length ≤ 9 ∧ 1 ≤ r.length ∧ (∀ x ∈ r, -200 ≤ x ∧ x < 600) ∧ 0 ≤ i' := by
  induction d with
  | zero =>
    intro k acc j i h h0 h9 hi0 hj hl ha hk
    obtain ⟨k, rfl⟩ := succ_of hk
    simp only [spec_l12Readings.l0]
    obtain ⟨r, i', h', e, hr0, hr1, _, hi'⟩ := l01Below_ok b i h 9 hi0 hb
    have := hr1 (by omega)
    simp only [e, Option.bind_some]
    rw [w64 (x := 1 + r) (by omega) (by omega), if_neg (by omega)]
    exact ⟨_, _, _, rfl, by omega, by omega, by omega, ha, hi'⟩
  | succ d ih =>
    intro k acc j i h h0 h9 hi0 hj hl ha hk
    obtain ⟨k, rfl⟩ := succ_of hk
    simp only [spec_l12Readings.l0]
    obtain ⟨r, i', h', e, hr0, hr1, _, hi'⟩ := l01Below_ok b i h 9 hi0 hb
    have := hr1 (by omega)
    simp only [e, Option.bind_some]
    rw [w64 (x := 1 + r) (by omega) (by omega)]
    by_cases hlt : j < 1 + r
    · obtain ⟨q, i2, g2, e2, hq0, hq1, _, hi2⟩ := l01Below_ok b i' h' 800 hi' hb
      have := hq1 (by omega)
      rw [if_pos hlt]
      simp only [e2, Option.bind_some]
      rw [if_pos (by omega), w64 (x := q - 200) (by omega) (by omega), w64 (x := j + 1) (by omega) (by omega)]
      obtain ⟨r', i3, g3, e3, p1, p2, p3, p4, p5⟩ := ih k (acc ++ [q - 200]) (j + 1) i2 g2 (by omega) (by omega) hi2 (by omega) (by simp; omega) (by
        intro x hx
        rcases List.mem_append.1 hx with hx | hx
        · exact ha x hx
        · rw [List.mem_singleton.1 hx]
          omega) (by omega)
      exact ⟨r', i3, g3, e3, by omega, p2, p3, p4, p5⟩
    · rw [if_neg hlt]
      exact ⟨_, _, _, rfl, by omega, by omega, by omega, ha, hi'⟩
theorem l12Readings_at (b : List Int) (i h : Int) (h0 : 0 ≤ i) (hb : b.length ≤ 140737488351232) (k : Nat) (hk : 9 < k) :
    ∃ r i' h', spec_l12Readings.f k b i h = some (r, i', h') ∧ r.length ≤ 9 ∧ 1 ≤ r.length ∧ (∀ x ∈ r, -200 ≤ x ∧ x < 600) ∧ 0 ≤ i' := by
  unfold spec_l12Readings.f
  obtain ⟨r, i', h', e, _, p2, p3, p4, p5⟩ := l12Readings_l b hb 9 k [] 0 i h (by omega) (by omega) h0 (by omega) (by simp) (by simp) hk
  exact ⟨r, i', h', e, p2, p3, p4, p5⟩
theorem drawReadings_at (b : List Int) (hb : b.length ≤ 140737488351232) (k : Nat) (hk : b.length < k) (hk2 : 9 < k) :
    ∃ r, spec_DrawReadings.f k b = some r ∧ r.length ≤ 9 ∧ 1 ≤ r.length ∧ ∀ x ∈ r, -200 ≤ x ∧ x < 600 := by
  unfold spec_DrawReadings.f
  obtain ⟨h, e⟩ := l01New_at b hb k hk
  simp only [e, Option.bind_some]
  obtain ⟨r, i', h', e', p1, p2, p3, _⟩ := l12Readings_at b 0 h (by omega) hb k hk2
  simp only [e', Option.bind_some]
  exact ⟨_, rfl, p1, p2, p3⟩
theorem isValI_eq (x : Int) : impl_IsValue.f x = some (valP x) := valP_eq x
theorem isVarI_eq (x : Int) : impl_isVar.f x = some (decide (0 ≤ x ∧ x ≤ 7)) := by
  unfold impl_isVar.f
  rw [within_eq]
  rfl
theorem areValI_eq (l : List Int) : impl_areValues.f l = some (l.all valP) := by
  unfold impl_areValues.f
  rw [List.all_eq_not_any_not]
/-- A number, clamped to the range of values. -/
def sat (a : Int) : Int := if a < -1000000 then -1000000 else if a > 1000000 then 1000000 else a
theorem sat_in (a : Int) : -1000000 ≤ sat a ∧ sat a ≤ 1000000 := by
  unfold sat
  split
  · omega
  · split <;> omega
theorem sat_id {a : Int} (h : -1000000 ≤ a) (h2 : a ≤ 1000000) : sat a = a := by
  unfold sat
  rw [if_neg (by omega), if_neg (by omega)]
theorem clampI_eq (a : Int) : impl_Clamp.f a (-1000000) 1000000 = some (sat a) := by
  unfold impl_Clamp.f mn mx sat
  rw [if_neg (by omega)]
  congr 1
  split <;> split <;> (try split) <;> omega
theorem saturateI_eq (a : Int) : impl_Saturate.f a = some (sat a) := by
  unfold impl_Saturate.f
  rw [clampI_eq]
  rfl
theorem addI_eq (a b : Int) : impl_AddValues.f a b = some (sat (sat a + sat b)) := by
  unfold impl_AddValues.f
  simp only [saturateI_eq, Option.bind_some]
  have h1 := sat_in a
  have h2 := sat_in b
  rw [w64 (by omega) (by omega)]
theorem stOk_loop {s : S77} (h : stOk s = true) (o : s.f0 = 5) : 1 ≤ s.f2 ∧ s.f2 ≤ 5 := by
  unfold stOk stmtOk at h
  simp [o] at h
  omega
theorem stOk_if {s : S77} (h : stOk s = true) (o : s.f0 = 4) : s.f2 = 0 := by
  unfold stOk stmtOk at h
  simp [o] at h
  omega
theorem stOk_set {s : S77} (h : stOk s = true) (o : s.f0 = 1) : (0 ≤ s.f1 ∧ s.f1 ≤ 7) ∧ exprOk s.f3.f0 s.f3.f1 s.f3.f2 = true := by
  unfold stOk stmtOk at h
  simp only [o, if_true, Bool.and_eq_true, decide_eq_true_eq] at h
  exact ⟨h.1.1, h.2⟩
theorem stOk_sense {s : S77} (h : stOk s = true) (o : s.f0 = 2) : (0 ≤ s.f1 ∧ s.f1 ≤ 7) ∧ 0 ≤ s.f2 ∧ s.f2 ≤ 3 := by
  unfold stOk stmtOk at h
  simp [o] at h
  omega
theorem stOk_expr {s : S77} (h : stOk s = true) (o : s.f0 = 3 ∨ s.f0 = 4) : exprOk s.f3.f0 s.f3.f1 s.f3.f2 = true := by
  unfold stOk stmtOk at h
  have h1 : ¬ s.f0 = 1 := by omega
  have h2 : ¬ s.f0 = 2 := by omega
  simp only [h1, h2, o, if_true, if_false, Bool.and_eq_true] at h
  exact h.2
theorem valP_iff (x : Int) : valP x = true ↔ -1000000 ≤ x ∧ x ≤ 1000000 := by unfold valP; rw [decide_eq_true_eq]
/-- What an operand is worth, and an expression. -/
def opv (v : List Int) (n : Int) : Int := if n < 0 then rd v (-1 - n) else n
def evalE (v : List Int) (a b c : Int) : Int :=
  if a = 1 then sat (sat (opv v b) + sat (opv v c)) else if a = 2 then sat (sat (opv v b) - sat (opv v c)) else if a = 3 then sat (sat (opv v b) * sat (opv v c))
  else if a = 4 then mn (opv v b) (opv v c) else if a = 5 then mx (opv v b) (opv v c) else if a = 6 then (if opv v b < opv v c then 1 else 0) else (if opv v b = opv v c then 1 else 0)
/-- Variables that are valid. -/
def vok (v : List Int) : Prop := v.length = 8 ∧ v.all valP = true
theorem vok_rd {v : List Int} (h : vok v) {i : Int} (h0 : 0 ≤ i) (h1 : i < 8) : -1000000 ≤ rd v i ∧ rd v i ≤ 1000000 := by
  have h2 := rd_eq (l := v) h0 (by rw [h.1]; exact h1)
  exact (valP_iff _).1 (List.all_eq_true.1 h.2 _ (List.mem_of_getElem? h2))
theorem opv_in {v : List Int} (h : vok v) {n : Int} (h0 : -8 ≤ n) (h1 : n ≤ 999) : -1000000 ≤ opv v n ∧ opv v n ≤ 1000000 := by
  unfold opv
  split
  · exact vok_rd h (by omega) (by omega)
  · omega
theorem mul_in {a b : Int} (ha : -1000000 ≤ a ∧ a ≤ 1000000) (hb : -1000000 ≤ b ∧ b ≤ 1000000) : -1000000000000 ≤ a * b ∧ a * b ≤ 1000000000000 := by
  have h1 : a.natAbs ≤ 1000000 := by omega
  have h2 : b.natAbs ≤ 1000000 := by omega
  have h3 : (a * b).natAbs ≤ 1000000 * 1000000 := by rw [Int.natAbs_mul]; exact Nat.mul_le_mul h1 h2
  omega
theorem exprOk_iff (a b c : Int) : exprOk a b c = true ↔ (1 ≤ a ∧ a ≤ 7) ∧ (-8 ≤ b ∧ b ≤ 999) ∧ -8 ≤ c ∧ c ≤ 999 := by unfold exprOk; rw [decide_eq_true_eq]
theorem evalE_in {v : List Int} (h : vok v) {a b c : Int} (he : exprOk a b c = true) : -1000000 ≤ evalE v a b c ∧ evalE v a b c ≤ 1000000 := by
  obtain ⟨_, hb, hc⟩ := (exprOk_iff a b c).1 he
  have h1 := opv_in h hb.1 hb.2
  have h2 := opv_in h hc.1 hc.2
  unfold evalE mn mx
  repeat' split
  all_goals first | exact sat_in _ | omega
theorem vok_set {v : List Int} (h : vok v) (i : Nat) {x : Int} (hx : -1000000 ≤ x ∧ x ≤ 1000000) : vok (v.set i x) := by
  refine ⟨by rw [List.length_set]; exact h.1, ?_⟩
  rw [List.all_eq_true]
  intro y hy
  rcases List.mem_or_eq_of_mem_set hy with h1 | rfl
  · exact List.all_eq_true.1 h.2 y h1
  · exact (valP_iff _).2 hx
theorem bitI_eq (b : Bool) : impl_bit.f b = some (if b = true then 1 else 0) := by cases b <;> rfl
theorem varsI_eq (v : List Int) : impl_VarsOk.f v = some (decide (v.length = 8) && v.all valP) := by
  unfold impl_VarsOk.f
  by_cases h : v.length = 8
  · rw [if_pos (by omega), areValI_eq]
    simp [h]
  · rw [if_neg (by omega)]
    simp [h]
theorem varsI_ok {v : List Int} (h : vok v) : impl_VarsOk.f v = some true := by rw [varsI_eq, h.2]; simp [h.1]
theorem operandI_at {v : List Int} (h : vok v) {n : Int} (h0 : -8 ≤ n) (h1 : n ≤ 999) : impl_operand.f v n = some (opv v n) := by
  unfold impl_operand.f opv
  by_cases c : n < 0
  · rw [if_pos c, if_pos c, w64 (by omega) (by omega), if_pos (by omega), if_pos (by rw [h.1]; omega)]
  · rw [if_neg c, if_neg c]
theorem subI_eq (a b : Int) : impl_SubValues.f a b = some (sat (sat a - sat b)) := by
  unfold impl_SubValues.f
  simp only [saturateI_eq, Option.bind_some]
  have h1 := sat_in a
  have h2 := sat_in b
  rw [w64 (by omega) (by omega)]
theorem mulI_eq (a b : Int) : impl_MulValues.f a b = some (sat (sat a * sat b)) := by
  unfold impl_MulValues.f
  simp only [saturateI_eq, Option.bind_some]
  have h := mul_in (sat_in a) (sat_in b)
  rw [w64 (by omega) (by omega)]
theorem evalI_at {v : List Int} (h : vok v) {a b c : Int} (he : exprOk a b c = true) (k : Nat) (hk : 0 < k) : impl_EvalExpr.f k v a b c = some (evalE v a b c) := by
  obtain ⟨k, rfl⟩ := succ_of hk
  obtain ⟨_, hb, hc⟩ := (exprOk_iff a b c).1 he
  unfold impl_EvalExpr.f
  rw [varsI_ok h, exprI_eq, he]
  simp only [Option.bind_some, if_true, impl_EvalExpr.j0, operandI_at h hb.1 hb.2, operandI_at h hc.1 hc.2, addI_eq, subI_eq, mulI_eq, bitI_eq, Bool.not_true]
  unfold evalE
  simp only [Bool.false_eq_true, if_false, decide_eq_true_eq, beq_iff_eq]
  repeat' split
  all_goals first | rfl | simp_all
theorem take_drop_mid {α : Type} (pre m post : List α) {i j : Int} (hi : i = (pre.length : Int)) (hj : j = i + (m.length : Int)) : ((pre ++ (m ++ post)).take j.toNat).drop i.toNat = m := by
  have h1 : j.toNat = pre.length + m.length := by omega
  have h2 : i.toNat = pre.length := by omega
  rw [h1, h2, ← List.append_assoc, List.take_append_of_le_length (by simp), List.take_of_length_le (by simp), List.drop_left]
theorem endI_l : ∀ (T : Bk), T.ok → ∀ (k : Nat) (pre post : List S77) (x i : Int), i = (pre.length : Int) → (pre ++ (T.flat ++ post)).length ≤ 1048576 → 1 ≤ x → x + (T.flat.length : Int) ≤ 4000000 → 2 * T.flat.length < k →
    impl_endOf.l0 k (pre ++ (T.flat ++ post)) x i = impl_endOf.l0 (k - 2 * T.flat.length) (pre ++ (T.flat ++ post)) x (i + (T.flat.length : Int))
  | .nil, _, k, pre, post, x, i, hi, hl, hx, hx2, hk => by
    simp [Bk.flat]
  | .leaf s t, ok, k, pre, post, x, i, hi, hl, hx, hx2, hk => by
    simp only [Bk.flat, List.length_cons, List.length_append, List.cons_append] at hk hl hx2 ⊢
    obtain ⟨k, rfl⟩ := succ_of (d := 1) (by omega : 1 < k)
    obtain ⟨k, rfl⟩ := succ_of (d := 0) (by omega : 0 < k)
    have e := at_mid pre (t.flat ++ post) s hi
    rw [impl_endOf.l0, if_pos (by simp only [List.length_append, List.length_cons]; omega), if_pos (by omega), e, opening_eq]
    have n4 : ¬ (s.f0 = 4 ∨ s.f0 = 5) := fun h => h.elim ok.1 ok.2.1
    simp only [Option.bind_some, decide_eq_true_eq]
    rw [if_neg n4, impl_endOf.j1, if_pos (by omega), if_pos (by simp only [List.length_append, List.length_cons]; omega), e, if_neg ok.2.2.1, if_neg (by omega), w64 (by omega) (by omega)]
    have r := endI_l t ok.2.2.2 k (pre ++ [s]) post x (i + 1) (by simp only [List.length_append, List.length_cons, List.length_nil]; omega) (by simp only [List.length_append, List.length_cons, List.length_nil]; omega) hx (by omega) (by omega)
    simp only [List.append_assoc, List.singleton_append] at r
    rw [r]
    congr 1
    · omega
    · omega
  | .node s b c t, ok, k, pre, post, x, i, hi, hl, hx, hx2, hk => by
    obtain ⟨o, ob, oc, ot⟩ := ok
    simp only [Bk.flat, List.length_cons, List.length_append, List.cons_append, List.append_assoc] at hk hl hx2 ⊢
    obtain ⟨k, rfl⟩ := succ_of (d := 1) (by omega : 1 < k)
    obtain ⟨k, rfl⟩ := succ_of (d := 0) (by omega : 0 < k)
    have e := at_mid pre (b.flat ++ c :: (t.flat ++ post)) s hi
    rw [impl_endOf.l0, if_pos (by simp only [List.length_append, List.length_cons]; omega), if_pos (by omega), e, opening_eq]
    simp only [Option.bind_some, decide_eq_true_eq]
    rw [if_pos o, impl_endOf.j1, if_pos (by omega), if_pos (by simp only [List.length_append, List.length_cons]; omega), e, if_neg (by omega), w64 (x := i + 1) (by omega) (by omega), w64 (x := x + 1) (by omega) (by omega), if_neg (by omega)]
    have r := endI_l b ob k (pre ++ [s]) (c :: (t.flat ++ post)) (x + 1) (i + 1) (by simp only [List.length_append, List.length_cons, List.length_nil]; omega) (by simp only [List.length_append, List.length_cons, List.length_nil]; omega) (by omega) (by omega) (by omega)
    simp only [List.append_assoc, List.singleton_append] at r
    rw [r]
    obtain ⟨m, em⟩ := succ_of (d := 1) (by omega : 1 < k - 2 * b.flat.length)
    rw [em]
    obtain ⟨m, rfl⟩ := succ_of (d := 0) (by omega : 0 < m)
    have e2 : rd_T77 (pre ++ s :: (b.flat ++ c :: (t.flat ++ post))) (i + 1 + (b.flat.length : Int)) = c := by
      have := at_mid (pre ++ s :: b.flat) (t.flat ++ post) c (i := i + 1 + (b.flat.length : Int)) (by simp only [List.length_append, List.length_cons]; omega)
      simpa only [List.append_assoc, List.cons_append] using this
    rw [impl_endOf.l0, if_pos (by simp only [List.length_append, List.length_cons]; omega), if_pos (by omega), e2, opening_eq]
    simp only [Option.bind_some, decide_eq_true_eq]
    rw [if_neg (by omega), impl_endOf.j1, if_pos (by omega), if_pos (by simp only [List.length_append, List.length_cons]; omega), e2, if_pos oc, w64 (x := x + 1 - 1) (by omega) (by omega), if_neg (by omega), w64 (by omega) (by omega), Int.add_sub_cancel]
    have r2 := endI_l t ot m (pre ++ s :: (b.flat ++ [c])) post x (i + 1 + (b.flat.length : Int) + 1) (by simp only [List.length_append, List.length_cons, List.length_nil]; omega) (by simp only [List.length_append, List.length_cons, List.length_nil]; omega) hx (by omega) (by omega)
    simp only [List.append_assoc, List.nil_append, List.cons_append] at r2
    rw [r2]
    congr 1
    · omega
    · omega
/-- Where the statement that closes an opening one stands. -/
theorem endI_at (pre post : List S77) (s c : S77) (b : Bk) (ok : b.ok) (o : s.f0 = 4 ∨ s.f0 = 5) (oc : c.f0 = 6) (i : Int) (hi : i = (pre.length : Int)) (hl : (pre ++ s :: (b.flat ++ c :: post)).length ≤ 1048576) (k : Nat) (hk : 2 * b.flat.length + 4 < k) :
    impl_endOf.f k (pre ++ s :: (b.flat ++ c :: post)) i = some (i + 1 + (b.flat.length : Int)) := by
  unfold impl_endOf.f
  have hl' := hl
  simp only [List.length_append, List.length_cons] at hl'
  obtain ⟨k, rfl⟩ := succ_of (d := 1) (by omega : 1 < k)
  obtain ⟨k, rfl⟩ := succ_of (d := 0) (by omega : 0 < k)
  have e := at_mid pre (b.flat ++ c :: post) s hi
  rw [impl_endOf.l0, if_pos (by simp only [List.length_append, List.length_cons]; omega), if_pos (by omega), e, opening_eq]
  simp only [Option.bind_some, decide_eq_true_eq]
  rw [if_pos o, impl_endOf.j1, if_pos (by omega), if_pos (by simp only [List.length_append, List.length_cons]; omega), e, if_neg (by omega), w64 (x := i + 1) (by omega) (by omega), w64 (x := 0 + 1) (by omega) (by omega), if_neg (by omega)]
  have r := endI_l b ok k (pre ++ [s]) (c :: post) (0 + 1) (i + 1) (by simp only [List.length_append, List.length_cons, List.length_nil]; omega) (by simp only [List.length_append, List.length_cons, List.length_nil]; omega) (by omega) (by omega) (by omega)
  simp only [List.append_assoc, List.singleton_append] at r
  rw [r]
  obtain ⟨m, em⟩ := succ_of (d := 1) (by omega : 1 < k - 2 * b.flat.length)
  rw [em]
  obtain ⟨m, rfl⟩ := succ_of (d := 0) (by omega : 0 < m)
  have e2 : rd_T77 (pre ++ s :: (b.flat ++ c :: post)) (i + 1 + (b.flat.length : Int)) = c := by
    have := at_mid (pre ++ s :: b.flat) post c (i := i + 1 + (b.flat.length : Int)) (by simp only [List.length_append, List.length_cons]; omega)
    simpa only [List.append_assoc, List.cons_append] using this
  rw [impl_endOf.l0, if_pos (by simp only [List.length_append, List.length_cons]; omega), if_pos (by omega), e2, opening_eq]
  simp only [Option.bind_some, decide_eq_true_eq]
  rw [if_neg (by omega), impl_endOf.j1, if_pos (by omega), if_pos (by simp only [List.length_append, List.length_cons]; omega), e2, if_pos oc, w64 (x := 0 + 1 - 1) (by omega) (by omega), if_pos (by omega)]
/-- A walk through a block as a tree. -/
def walkT {σ : Type} (step : σ → S77 → Option (σ × Bool)) : Bk → σ → Option σ
  | .nil, s => some s
  | .leaf x t, s => (step s x).bind fun y => walkT step t y.1
  | .node x b _ t, s => (step s x).bind fun y => (walkRep (fun s' => walkT step b s') (if x.f0 = 4 then (if y.2 = true then (1 : Int) else 0) else x.f2).toNat y.1).bind fun s' => walkT step t s'
theorem walkI_l {σ : Type} (step : σ → S77 → Option (σ × Bool)) : ∀ (T : Bk), T.ok → (∀ s ∈ T.flat, stOk s = true) → ∀ (k : Nat) (pre : List S77) (i : Int) (s : σ), i = (pre.length : Int) → (pre ++ T.flat).length ≤ 1048576 → 3 * T.flat.length + 8 < k →
    impl_walk.l0 step k (pre ++ T.flat) i s = walkT step T s
  | .nil, _, _, k, pre, i, s, hi, hl, hk => by
    obtain ⟨k, rfl⟩ := succ_of hk
    rw [impl_walk.l0, if_neg (by simp only [Bk.flat, List.append_nil]; omega)]
    rfl
  | .leaf x t, ok, hs, k, pre, i, s, hi, hl, hk => by
    simp only [Bk.flat, List.length_cons, List.length_append] at hk hl ⊢
    obtain ⟨k, rfl⟩ := succ_of (d := 4) (by omega : 4 < k)
    have e := at_mid pre t.flat x hi
    have n4 : ¬ (x.f0 = 4 ∨ x.f0 = 5) := fun h => h.elim ok.1 ok.2.1
    have w1 : wrap64 (i + 1) = i + 1 := w64 (by omega) (by omega)
    rw [impl_walk.l0, if_pos (by simp only [List.length_append, List.length_cons]; omega), if_pos (by omega), e, if_neg ok.2.2.1, opening_eq, w1, walkT]
    simp only [Option.bind_some, decide_eq_true_eq]
    congr 1
    funext y
    rw [if_neg n4]
    have r := walkI_l step t ok.2.2.2 (fun x hx => hs x (by simp [Bk.flat, hx])) k (pre ++ [x]) (i + 1) y.1 (by simp only [List.length_append, List.length_cons, List.length_nil]; omega) (by simp only [List.length_append, List.length_cons, List.length_nil]; omega) (by omega)
    simp only [List.append_assoc, List.singleton_append] at r
    rw [r]
  | .node x b c t, ok, hs, k, pre, i, s, hi, hl, hk => by
    obtain ⟨o, ob, oc, ot⟩ := ok
    simp only [Bk.flat, List.length_cons, List.length_append] at hk hl ⊢
    obtain ⟨k, rfl⟩ := succ_of (d := 4) (by omega : 4 < k)
    have hss := hs x (by simp [Bk.flat])
    have e := at_mid pre (b.flat ++ c :: t.flat) x hi
    have w1 : wrap64 (i + 1) = i + 1 := w64 (by omega) (by omega)
    have w2 : wrap64 (i + 1 + (b.flat.length : Int) + 1) = i + 1 + (b.flat.length : Int) + 1 := w64 (by omega) (by omega)
    have hend := endI_at pre t.flat x c b ob o oc i hi (by simp only [List.length_append, List.length_cons]; omega) k (by omega)
    have hn : ∀ y : σ × Bool, (if x.f0 = 4 then impl_bit.f y.2 else some x.f2) = some (if x.f0 = 4 then (if y.2 = true then (1 : Int) else 0) else x.f2) := fun y => by
      split
      · rw [bitI_eq]
      · rfl
    have hn2 : ∀ y : σ × Bool, (if x.f0 = 4 then (if y.2 = true then (1 : Int) else 0) else x.f2) ≤ 9223372036854775807 := fun y => by
      by_cases h4 : x.f0 = 4
      · rw [if_pos h4]; split <;> omega
      · rw [if_neg h4]
        have := stOk_loop hss (by omega : x.f0 = 5)
        omega
    rw [impl_walk.l0, if_pos (by simp only [List.length_append, List.length_cons]; omega), if_pos (by omega), e, if_neg (by omega), opening_eq, w1, walkT]
    simp only [Option.bind_some, decide_eq_true_eq]
    congr 1
    funext y
    rw [if_pos o, hend, hn]
    simp only [Option.bind_some]
    rw [w2, if_pos ⟨by omega, by omega, by simp only [List.length_append, List.length_cons]; omega, hn2 y⟩]
    obtain ⟨m, rfl⟩ := succ_of (d := 0) (by omega : 0 < k)
    have r1 : ∀ s', impl_walk.f step (m + 1) (((pre ++ x :: (b.flat ++ c :: t.flat)).take (i + 1 + (b.flat.length : Int)).toNat).drop (i + 1).toNat) s' = walkT step b s' := fun s' => by
      have q := take_drop_mid (pre ++ [x]) b.flat (c :: t.flat) (i := i + 1) (j := i + 1 + (b.flat.length : Int)) (by simp only [List.length_append, List.length_cons, List.length_nil]; omega) rfl
      simp only [List.append_assoc, List.singleton_append] at q
      rw [q, impl_walk.f]
      have := walkI_l step b ob (fun x hx => hs x (by simp [Bk.flat, hx])) m [] 0 s' rfl (by simp only [List.nil_append]; omega) (by omega)
      simpa using this
    simp only [r1]
    congr 1
    funext s'
    have r2 := walkI_l step t ot (fun x hx => hs x (by simp [Bk.flat, hx])) (m + 1) (pre ++ x :: (b.flat ++ [c])) (i + 1 + (b.flat.length : Int) + 1) s' (by simp only [List.length_append, List.length_cons, List.length_nil]; omega) (by simp only [List.length_append, List.length_cons, List.length_nil]; omega) (by omega)
    simp only [List.append_assoc, List.nil_append, List.cons_append] at r2
    rw [r2]
theorem walkI_at {σ : Type} (step : σ → S77 → Option (σ × Bool)) (T : Bk) (ok : T.ok) (hs : ∀ s ∈ T.flat, stOk s = true) (hl : T.flat.length ≤ 1048576) (k : Nat) (hk : 3 * T.flat.length + 9 < k) (s : σ) : impl_walk.f step k T.flat s = walkT step T s := by
  obtain ⟨k, rfl⟩ := succ_of hk
  rw [impl_walk.f]
  have := walkI_l step T ok hs k [] 0 s rfl (by simpa using hl) (by omega)
  simpa using this
/-- How many statements are carried out at the most. -/
def lng : Bk → Nat
  | .nil => 0
  | .leaf _ t => 1 + lng t
  | .node x b _ t => (if x.f0 = 4 then 1 else x.f2.toNat) * lng b + lng t
theorem lng_le : ∀ (T : Bk), T.ok → (∀ s ∈ T.flat, stOk s = true) → lng T ≤ 3 ^ T.flat.length
  | .nil, _, _ => by simp [lng]
  | .leaf x t, ok, hs => by
    have := lng_le t ok.2.2.2 (fun x hx => hs x (by simp [Bk.flat, hx]))
    have h1 : 1 ≤ 3 ^ t.flat.length := Nat.one_le_pow _ _ (by omega)
    simp only [lng, Bk.flat, List.length_cons, Nat.pow_succ]
    omega
  | .node x b c t, ok, hs => by
    obtain ⟨o, ob, oc, ot⟩ := ok
    have r1 := lng_le b ob (fun x hx => hs x (by simp [Bk.flat, hx]))
    have r2 := lng_le t ot (fun x hx => hs x (by simp [Bk.flat, hx]))
    have hss := hs x (by simp [Bk.flat])
    have hn : (if x.f0 = 4 then 1 else x.f2.toNat) ≤ 5 := by
      by_cases h4 : x.f0 = 4
      · rw [if_pos h4]; omega
      · rw [if_neg h4]
        have := stOk_loop hss (by omega : x.f0 = 5)
        omega
    have h1 : 1 ≤ 3 ^ b.flat.length := Nat.one_le_pow _ _ (by omega)
    have h2 : 1 ≤ 3 ^ t.flat.length := Nat.one_le_pow _ _ (by omega)
    have e : 3 ^ (b.flat.length + (t.flat.length + 1) + 1) = 9 * (3 ^ b.flat.length * 3 ^ t.flat.length) := by
      rw [Nat.pow_succ, Nat.pow_add, Nat.pow_succ]
      generalize 3 ^ b.flat.length = p
      generalize 3 ^ t.flat.length = q
      rw [← Nat.mul_assoc, Nat.mul_assoc, Nat.mul_comm]
    have m1 := Nat.mul_le_mul hn r1
    have m2 := Nat.mul_le_mul_left (3 ^ b.flat.length) h2
    have m3 := Nat.mul_le_mul_right (3 ^ t.flat.length) h1
    simp only [lng, Bk.flat, List.length_cons, List.length_append]
    rw [e]
    generalize 3 ^ b.flat.length * 3 ^ t.flat.length = pq at *
    omega
theorem lng_24 {T : Bk} (ok : T.ok) (hs : ∀ s ∈ T.flat, stOk s = true) (hl : T.flat.length ≤ 24) : lng T ≤ 282429536481 :=
  Nat.le_trans (lng_le T ok hs) (Nat.le_trans (Nat.pow_le_pow_right (by omega) hl) (by decide))
def rep {σ : Type} (f : σ → σ) : Nat → σ → σ
  | 0, s => s
  | n + 1, s => rep f n (f s)
/-- What a walk comes to where each step is defined. -/
def runT {σ : Type} (c : σ → S77 → σ × Bool) : Bk → σ → σ
  | .nil, s => s
  | .leaf x t, s => runT c t (c s x).1
  | .node x b _ t, s => runT c t (rep (runT c b) (if x.f0 = 4 then (if (c s x).2 = true then (1 : Int) else 0) else x.f2).toNat (c s x).1)
theorem walkRep_run {σ : Type} (f : σ → Option σ) (g : σ → σ) (P : Nat → σ → Prop) (L : Nat) (h : ∀ n s, P (L + n) s → f s = some (g s) ∧ P n (g s)) : ∀ (n m : Nat) (s : σ), P (n * L + m) s → walkRep f n s = some (rep g n s) ∧ P m (rep g n s)
  | 0, m, s, hp => ⟨rfl, by show P m s; simpa using hp⟩
  | n + 1, m, s, hp => by
    have e : (n + 1) * L + m = L + (n * L + m) := by rw [Nat.succ_mul]; omega
    rw [e] at hp
    obtain ⟨h1, h2⟩ := h _ s hp
    rw [walkRep, h1]
    exact walkRep_run f g P L h n m (g s) h2
theorem walkT_run {σ : Type} (step : σ → S77 → Option (σ × Bool)) (c : σ → S77 → σ × Bool) (P : Nat → σ → Prop) (mono : ∀ m n s, m ≤ n → P n s → P m s) : ∀ (T : Bk), T.ok →
    (∀ x ∈ T.flat, x.f0 ≠ 4 → x.f0 ≠ 5 → x.f0 ≠ 6 → ∀ n s, P (n + 1) s → step s x = some (c s x) ∧ P n (c s x).1) →
    (∀ x ∈ T.flat, (x.f0 = 4 ∨ x.f0 = 5) → ∀ n s, P n s → step s x = some (c s x) ∧ P n (c s x).1) →
    ∀ (n : Nat) (s : σ), P (lng T + n) s → walkT step T s = some (runT c T s) ∧ P n (runT c T s)
  | .nil, _, _, _, n, s, hp => ⟨rfl, by show P n s; simpa [lng] using hp⟩
  | .leaf x t, ok, hl, hn, n, s, hp => by
    have e : lng (.leaf x t) + n = (lng t + n) + 1 := by simp only [lng]; omega
    rw [e] at hp
    obtain ⟨h1, h2⟩ := hl x (by simp [Bk.flat]) ok.1 ok.2.1 ok.2.2.1 _ s hp
    rw [walkT, h1]
    exact walkT_run step c P mono t ok.2.2.2 (fun x hx => hl x (by simp [Bk.flat, hx])) (fun x hx => hn x (by simp [Bk.flat, hx])) n _ h2
  | .node x b e t, ok, hl, hn, n, s, hp => by
    obtain ⟨o, ob, oc, ot⟩ := ok
    have hp' : P ((if x.f0 = 4 then 1 else x.f2.toNat) * lng b + (lng t + n)) s := by
      have e : lng (.node x b e t) + n = (if x.f0 = 4 then 1 else x.f2.toNat) * lng b + (lng t + n) := by simp only [lng]; omega
      rw [e] at hp; exact hp
    obtain ⟨h1, h2⟩ := hn x (by simp [Bk.flat]) o _ s hp'
    rw [walkT, h1]
    simp only [Option.bind_some]
    have hle : (if x.f0 = 4 then (if (c s x).2 = true then (1 : Int) else 0) else x.f2).toNat ≤ (if x.f0 = 4 then 1 else x.f2.toNat) := by
      by_cases h4 : x.f0 = 4
      · rw [if_pos h4, if_pos h4]; split <;> simp
      · rw [if_neg h4, if_neg h4]; exact Nat.le_refl _
    have h3 := mono _ _ _ (Nat.add_le_add_right (Nat.mul_le_mul_right (lng b) hle) (lng t + n)) h2
    obtain ⟨h5, h6⟩ := walkRep_run (fun s' => walkT step b s') (runT c b) P (lng b) (fun n s hp => walkT_run step c P mono b ob (fun x hx => hl x (by simp [Bk.flat, hx])) (fun x hx => hn x (by simp [Bk.flat, hx])) n s hp) _ _ _ h3
    rw [h5]
    exact walkT_run step c P mono t ot (fun x hx => hl x (by simp [Bk.flat, hx])) (fun x hx => hn x (by simp [Bk.flat, hx])) n _ h6
/-- One statement of a task, carried out. -/
def effC {ζ : Type} (sn : ζ → Int → Int → ζ × Int) (st : List Int × List Int × Int × ζ) (x : S77) : (List Int × List Int × Int × ζ) × Bool :=
  if x.f0 = 2 then ((st.1.set x.f1.toNat (sn st.2.2.2 st.2.2.1 x.f2).2, st.2.1, st.2.2.1 + 1, (sn st.2.2.2 st.2.2.1 x.f2).1), true)
  else if x.f0 = 1 then ((st.1.set x.f1.toNat (evalE st.1 x.f3.f0 x.f3.f1 x.f3.f2), st.2.1, st.2.2.1, st.2.2.2), true)
  else if x.f0 = 3 then ((st.1, st.2.1 ++ [evalE st.1 x.f3.f0 x.f3.f1 x.f3.f2], st.2.2.1, st.2.2.2), true)
  else if x.f0 = 4 then (st, evalE st.1 x.f3.f0 x.f3.f1 x.f3.f2 != 0)
  else (st, true)
/-- What holds ahead of n more statements. -/
def effInv {ζ : Type} (M : Int) (Q : Int → ζ → Prop) (n : Nat) (st : List Int × List Int × Int × ζ) : Prop := vok st.1 ∧ 0 ≤ st.2.2.1 ∧ (st.2.1.length : Int) + st.2.2.1 + (n : Int) ≤ M ∧ Q st.2.2.1 st.2.2.2
theorem effInv_mono {ζ : Type} {M : Int} {Q : Int → ζ → Prop} (m n : Nat) (st : List Int × List Int × Int × ζ) (h : m ≤ n) (hp : effInv M Q n st) : effInv M Q m st := ⟨hp.1, hp.2.1, by have := hp.2.2.1; omega, hp.2.2.2⟩
/-- What is asked of the sensors. -/
def snOk {ζ : Type} (M : Int) (Q : Int → ζ → Prop) (sn : ζ → Int → Int → ζ × Int) : Prop := ∀ z u m, 0 ≤ u → u < M → 0 ≤ m → m ≤ 3 → Q u z → (-1000000 ≤ (sn z u m).2 ∧ (sn z u m).2 ≤ 1000000) ∧ Q (u + 1) (sn z u m).1
theorem effC_leaf {ζ : Type} {M : Int} {Q : Int → ζ → Prop} {sn : ζ → Int → Int → ζ × Int} (hs : snOk M Q sn) {x : S77} (hx : stOk x = true) (n : Nat) (st : List Int × List Int × Int × ζ) (h4 : x.f0 ≠ 4) (h5 : x.f0 ≠ 5) (hp : effInv M Q (n + 1) st) : effInv M Q n (effC sn st x).1 := by
  obtain ⟨v, s, u, z⟩ := st
  obtain ⟨p1, p2, p3, p4⟩ := hp
  simp only at p1 p2 p3 p4
  unfold effC effInv
  simp only
  by_cases k2 : x.f0 = 2
  · obtain ⟨a1, a2⟩ := stOk_sense hx k2
    obtain ⟨b1, b2⟩ := hs z u x.f2 p2 (by omega) a2.1 a2.2 p4
    rw [if_pos k2]
    exact ⟨vok_set p1 _ b1, by simp only; omega, by simp only; omega, b2⟩
  rw [if_neg k2]
  by_cases k1 : x.f0 = 1
  · rw [if_pos k1]
    exact ⟨vok_set p1 _ (evalE_in p1 (stOk_set hx k1).2), p2, by simp only; omega, p4⟩
  rw [if_neg k1]
  by_cases k3 : x.f0 = 3
  · rw [if_pos k3]
    exact ⟨p1, p2, by simp only [List.length_append, List.length_singleton]; omega, p4⟩
  rw [if_neg k3, if_neg h4]
  exact ⟨p1, p2, by simp only; omega, p4⟩
theorem effC_node {ζ : Type} {M : Int} {Q : Int → ζ → Prop} (sn : ζ → Int → Int → ζ × Int) {x : S77} (n : Nat) (st : List Int × List Int × Int × ζ) (o : x.f0 = 4 ∨ x.f0 = 5) (hp : effInv M Q n st) : effInv M Q n (effC sn st x).1 := by
  unfold effC
  rw [if_neg (by omega), if_neg (by omega), if_neg (by omega)]
  split <;> exact hp
theorem effI_step {ζ : Type} {M : Int} (hM : M ≤ 1000000000000) {Q : Int → ζ → Prop} {sn : ζ → Int → Int → ζ × Int} {sense : ζ → Int → Int → Option (ζ × Int)} (he : ∀ z u m, 0 ≤ u → u < M → 0 ≤ m → m ≤ 3 → Q u z → sense z u m = some (sn z u m)) (k : Nat) (hk : 0 < k)
    {x : S77} (hx : stOk x = true) (h6 : x.f0 ≠ 6) (n : Nat) (st : List Int × List Int × Int × ζ) (hn : x.f0 ≠ 4 → x.f0 ≠ 5 → 0 < n) (hp : effInv M Q n st) : effStep sense k st x = some (effC sn st x) := by
  obtain ⟨v, s, u, z⟩ := st
  obtain ⟨p1, p2, p3, p4⟩ := hp
  simp only at p1 p2 p3 p4
  unfold effStep effC
  simp only
  by_cases k2 : x.f0 = 2
  · obtain ⟨a1, a2⟩ := stOk_sense hx k2
    have := hn (by omega) (by omega)
    rw [if_pos k2, if_pos k2, he z u x.f2 p2 (by omega) a2.1 a2.2 p4]
    simp only [Option.bind_some]
    rw [if_pos ⟨a1.1, by rw [p1.1]; omega⟩, w64 (by omega) (by omega)]
  rw [if_neg k2, if_neg k2]
  by_cases k1 : x.f0 = 1
  · obtain ⟨a1, a2⟩ := stOk_set hx k1
    rw [if_pos k1, if_pos k1, evalI_at p1 a2 k hk]
    simp only [Option.bind_some]
    rw [if_pos ⟨a1.1, by rw [p1.1]; omega⟩]
  rw [if_neg k1, if_neg k1]
  by_cases k3 : x.f0 = 3
  · rw [if_pos k3, if_pos k3, evalI_at p1 (stOk_expr hx (.inl k3)) k hk]
    simp only [Option.bind_some]
    rw [if_pos (by omega)]
  rw [if_neg k3, if_neg k3]
  by_cases k4 : x.f0 = 4
  · rw [if_pos k4, if_pos k4, evalI_at p1 (stOk_expr hx (.inr k4)) k hk]
    rfl
  · rw [if_neg k4, if_neg k4]
/-- The task that follows. -/
def nextT (l : List S34) (v : List Int) (i : Int) : Int := (Int.tmod (Int.tmod (evalE v (rd_T34 l i).f1.f0 (rd_T34 l i).f1.f1 (rd_T34 l i).f1.f2) (l.length : Int) + (l.length : Int)) (l.length : Int))
theorem progOk_task {l : List S34} (h : progOk l = true) {i : Int} (h0 : 0 ≤ i) (h1 : i < (l.length : Int)) : rd_T34 l i ∈ l ∧ blockOk (rd_T34 l i).f0 = true ∧ exprOk (rd_T34 l i).f1.f0 (rd_T34 l i).f1.f1 (rd_T34 l i).f1.f2 = true := by
  have hm : rd_T34 l i ∈ l := by
    unfold rd_T34
    rw [List.getD_eq_getElem?_getD, List.getElem?_eq_getElem (by omega)]
    exact List.getElem_mem _
  rw [progOk, Bool.and_eq_true, List.all_eq_true] at h
  have := h.2 _ hm
  rw [taskOkB, Bool.and_eq_true] at this
  exact ⟨hm, this⟩
theorem hasTaskI_at (l : List S34) (h : ∀ y ∈ l, y.f0.length ≤ 1048576) (hl : l.length ≤ 1048576) (i : Int) (k : Nat) (hk : 2097160 < k) : impl_hasTask.f k l i = some (progOk l && decide (0 ≤ i ∧ i < (l.length : Int))) := by
  unfold impl_hasTask.f
  rw [progOkI_at l h k hk, w64 (by omega) (by omega), within_eq]
  simp only [Option.bind_some]
  have e : decide (0 ≤ i ∧ i ≤ (l.length : Int) - 1) = decide (0 ≤ i ∧ i < (l.length : Int)) := by congr 1; apply propext; constructor <;> intro h <;> omega
  rw [e]
  cases progOk l <;> simp
theorem nextI_at (l : List S34) (hp : progOk l = true) {v : List Int} (hv : vok v) {i : Int} (h0 : 0 ≤ i) (h1 : i < (l.length : Int)) (k : Nat) (hk : 2097160 < k) : impl_NextTask.f k l v i = some (nextT l v i) := by
  obtain ⟨q1, q2⟩ := progOk_len hp
  obtain ⟨_, _, he⟩ := progOk_task hp h0 h1
  unfold impl_NextTask.f nextT
  rw [hasTaskI_at l (fun y hy => by have := (q2 y hy).2; omega) (by omega) i k hk, hp, varsI_ok hv]
  simp only [Option.bind_some, Bool.true_and, decide_eq_true_eq]
  have b := evalE_in hv he
  have hn : (0 : Int) < (l.length : Int) := by omega
  have b2 := Int.tmod_lt_of_pos (evalE v (rd_T34 l i).f1.f0 (rd_T34 l i).f1.f1 (rd_T34 l i).f1.f2) hn
  have b3 := Int.lt_tmod_of_pos (evalE v (rd_T34 l i).f1.f0 (rd_T34 l i).f1.f1 (rd_T34 l i).f1.f2) hn
  rw [if_pos ⟨h0, h1⟩, if_pos trivial, if_pos h0, if_pos h1, evalI_at hv he k (by omega)]
  simp only [Option.bind_some]
  rw [if_neg (by omega), w64 (by omega) (by omega)]
/-- A task, carried out: the variables, what is sent, how many readings, the reader's state. -/
def effRun {ζ : Type} (sn : ζ → Int → Int → ζ × Int) (T : Bk) (v : List Int) (z : ζ) : List Int × List Int × Int × ζ := runT (effC sn) T (v, [], 0, z)
theorem effectI_at {ζ : Type} {Q : Int → ζ → Prop} {sn : ζ → Int → Int → ζ × Int} {sense : ζ → Int → Int → Option (ζ × Int)} (l : List S34) (hp : progOk l = true) {v : List Int} (hv : vok v) {i : Int} (h0 : 0 ≤ i) (h1 : i < (l.length : Int)) (T : Bk) (ok : T.ok) (hT : T.flat = (rd_T34 l i).f0)
    (hs : snOk (lng T) Q sn) (he : ∀ z u m, 0 ≤ u → u < (lng T : Int) → 0 ≤ m → m ≤ 3 → Q u z → sense z u m = some (sn z u m)) (z : ζ) (hz : Q 0 z) (k : Nat) (hk : 2097160 < k) :
    impl_effect.f sense k l i v z = some (((effRun sn T v z).1, (effRun sn T v z).2.1, nextT l (effRun sn T v z).1 i, (effRun sn T v z).2.2.1), (effRun sn T v z).2.2.2) ∧ effInv (lng T) Q 0 (effRun sn T v z) := by
  obtain ⟨_, hb, _⟩ := progOk_task hp h0 h1
  rw [← hT] at hb
  obtain ⟨_, _, _, hl, hss⟩ := blockOk_tree hb
  have hM := lng_24 ok hss hl
  unfold impl_effect.f slices_Clone_int_int.f
  have hw := walkT_run (effStep sense k) (effC sn) (effInv (lng T) Q) effInv_mono T ok
    (fun x hx h4 h5 h6 n s hq => ⟨effI_step (by omega) he k (by omega) (hss x hx) h6 (n + 1) s (fun _ _ => by omega) hq, effC_leaf hs (hss x hx) n s h4 h5 hq⟩)
    (fun x hx o n s hq => ⟨effI_step (by omega) he k (by omega) (hss x hx) (by omega) n s (fun h4 h5 => absurd o (by omega)) hq, effC_node sn n s o hq⟩) 0 (v, [], 0, z) ⟨hv, by simp, by simp, hz⟩
  rw [if_pos (by rw [hv.1]; omega)]
  simp only [Option.bind_some]
  rw [if_pos ⟨h0, h1⟩, ← hT, walkI_at _ T ok hss (by omega) k (by omega), hw.1]
  simp only [Option.bind_some]
  change (impl_NextTask.f k l (effRun sn T v z).1 i).bind _ = _ ∧ _
  rw [show impl_NextTask.f k l (effRun sn T v z).1 i = _ from nextI_at l hp hw.2.1 h0 h1 k hk]
  exact ⟨rfl, hw.2⟩
/-- The sensors' values out of a list. -/
def usedN (u : List Int) (_ : Unit) (n _ : Int) : Unit × Int := ((), if n < (u.length : Int) then rd u n else 0)
theorem usedN_ok {u : List Int} (hu : u.all valP = true) (M : Int) : snOk M (fun _ _ => True) (usedN u) := fun z n m h0 _ _ _ _ => by
  refine ⟨?_, trivial⟩
  unfold usedN
  simp only
  split
  · exact (valP_iff _).1 (List.all_eq_true.1 hu _ (List.mem_of_getElem? (rd_eq h0 (by omega))))
  · omega
theorem usedS_at (u : List Int) (z : Unit) (n m : Int) (h0 : 0 ≤ n) : usedS u z n m = some (usedN u z n m) := by
  unfold usedS usedN impl_usedAt.f
  by_cases h : n < (u.length : Int)
  · rw [if_neg (by omega), if_pos h0, if_pos h, if_pos h]; rfl
  · rw [if_pos (by omega), if_neg h]; rfl
theorem taskEffI_at (l : List S34) (hp : progOk l = true) {v : List Int} (hv : vok v) {i : Int} (h0 : 0 ≤ i) (h1 : i < (l.length : Int)) {u : List Int} (hu : u.all valP = true) (T : Bk) (ok : T.ok) (hT : T.flat = (rd_T34 l i).f0) (k : Nat) (hk : 2097160 < k) :
    impl_TaskEffect.f k l i v u = some ((effRun (usedN u) T v ()).1, (effRun (usedN u) T v ()).2.1, nextT l (effRun (usedN u) T v ()).1 i, (effRun (usedN u) T v ()).2.2.1, true) ∧ effInv (lng T) (fun _ _ => True) 0 (effRun (usedN u) T v ()) := by
  obtain ⟨q1, q2⟩ := progOk_len hp
  obtain ⟨e1, e2⟩ := effectI_at (sense := usedS u) l hp hv h0 h1 T ok hT (usedN_ok hu _) (fun z n m a _ _ _ _ => usedS_at u z n m a) () trivial k hk
  unfold impl_TaskEffect.f
  rw [hasTaskI_at l (fun y hy => by have := (q2 y hy).2; omega) (by omega) i k hk, hp, varsI_ok hv, areValI_eq, hu, e1]
  simp only [Option.bind_some, Bool.true_and, if_true, decide_eq_true_eq]
  rw [if_pos ⟨h0, h1⟩]
  exact ⟨rfl, e2⟩
section
open Go.Lib
/-- Strictly ascending. -/
abbrev Asc (l : List Int) : Prop := l.Pairwise (· < ·)
theorem asc_ext : ∀ {a b : List Int}, Asc a → Asc b → (∀ x, x ∈ a ↔ x ∈ b) → a = b
  | [], [], _, _, _ => rfl
  | [], y :: ys, _, _, h => absurd ((h y).2 List.mem_cons_self) (by simp)
  | x :: xs, [], _, _, h => absurd ((h x).1 List.mem_cons_self) (by simp)
  | x :: xs, y :: ys, ha, hb, h => by
    rw [Asc, List.pairwise_cons] at ha hb
    have e : x = y := by
      have h1 := (h x).1 List.mem_cons_self
      have h2 := (h y).2 List.mem_cons_self
      rcases List.mem_cons.1 h1 with e | h1
      · exact e
      · rcases List.mem_cons.1 h2 with e | h2
        · exact e.symm
        · have := hb.1 x h1
          have := ha.1 y h2
          omega
    subst e
    rw [asc_ext ha.2 hb.2 (fun z => ?_)]
    have := h z
    simp only [List.mem_cons] at this
    constructor
    · intro hz
      rcases this.1 (.inr hz) with e | h
      · subst e
        have := ha.1 z hz
        omega
      · exact h
    · intro hz
      rcases this.2 (.inr hz) with e | h
      · subst e
        have := hb.1 z hz
        omega
      · exact h
theorem compactUpTo_sorted (d : Array Int) (hs : ∀ i j, i ≤ j → j < d.size → d[i]! ≤ d[j]!) : ∀ m, m ≤ d.size → Asc (compactUpTo d m) ∧ (∀ x ∈ compactUpTo d m, ∃ j, j < m ∧ d[j]! = x) ∧ ∀ j, j < m → d[j]! ∈ compactUpTo d m
  | 0, _ => by
    have e : compactUpTo d 0 = [] := by simp [compactUpTo]
    rw [e]
    exact ⟨List.Pairwise.nil, fun x hx => by simp at hx, fun j hj => by omega⟩
  | m + 1, hm => by
    obtain ⟨h1, h2, h3⟩ := compactUpTo_sorted d hs m (by omega)
    rw [compactUpTo_succ]
    by_cases hk : keeps d m = true
    · rw [if_pos hk]
      refine ⟨List.pairwise_append.2 ⟨h1, List.pairwise_singleton _ _, ?_⟩, ?_, ?_⟩
      · intro x hx y hy
        rw [List.mem_singleton] at hy
        subst hy
        obtain ⟨j, hj, rfl⟩ := h2 x hx
        have q := of_decide_eq_true hk
        have a1 := hs j (m - 1) (by omega) (by omega)
        have a2 := hs (m - 1) m (by omega) (by omega)
        have a3 : d[m]! ≠ d[m - 1]! := by
          rcases q with q | q
          · omega
          · exact q
        omega
      · intro x hx
        rcases List.mem_append.1 hx with hx | hx
        · obtain ⟨j, hj, e⟩ := h2 x hx
          exact ⟨j, by omega, e⟩
        · rw [List.mem_singleton] at hx
          exact ⟨m, by omega, hx.symm⟩
      · intro j hj
        by_cases e : j = m
        · subst e
          exact List.mem_append.2 (.inr (List.mem_singleton.2 rfl))
        · exact List.mem_append.2 (.inl (h3 j (by omega)))
    · rw [if_neg hk, List.append_nil]
      have q : ¬ (m = 0 ∨ d[m]! ≠ d[m - 1]!) := fun h => hk (decide_eq_true h)
      refine ⟨h1, fun x hx => ?_, fun j hj => ?_⟩
      · obtain ⟨j, hj, e⟩ := h2 x hx
        exact ⟨j, by omega, e⟩
      · by_cases e : j = m
        · subst e
          have e2 : d[j]! = d[j - 1]! := Classical.byContradiction fun h => q (.inr h)
          rw [e2]
          exact h3 (j - 1) (by omega)
        · exact h3 j (by omega)
/-- What slices.Sort and slices.Compact make of a list: its members, strictly ascending. -/
def touch (l : List Int) : List Int := compact (l.mergeSort fun x y => decide (x ≤ y))
theorem touch_at (l : List Int) : Asc (touch l) ∧ (∀ x, x ∈ touch l ↔ x ∈ l) ∧ (touch l).length ≤ l.length := by
  have hp : (l.mergeSort fun x y => decide (x ≤ y)).Pairwise (fun x y => decide (x ≤ y) = true) := List.pairwise_mergeSort (fun a b c h1 h2 => by simp only [decide_eq_true_eq] at *; omega) (fun a b => by simp only [Bool.or_eq_true, decide_eq_true_eq]; omega) l
  have hm : ∀ x, x ∈ (l.mergeSort fun x y => decide (x ≤ y)) ↔ x ∈ l := fun x => List.mem_mergeSort
  have hl : (l.mergeSort fun x y => decide (x ≤ y)).length = l.length := List.length_mergeSort l
  unfold touch
  generalize (l.mergeSort fun x y => decide (x ≤ y)) = z at hp hm hl
  have hs : ∀ i j, i ≤ j → j < z.toArray.size → z.toArray[i]! ≤ z.toArray[j]! := by
    intro i j hij hj
    have hj' : j < z.length := by simpa using hj
    by_cases e : i = j
    · subst e
      exact Int.le_refl _
    · have := List.pairwise_iff_getElem.1 hp i j (by omega) hj' (by omega)
      simpa [List.getElem!_toArray, hj', show i < z.length by omega] using this
  obtain ⟨h1, h2, h3⟩ := compactUpTo_sorted z.toArray hs z.length (by simp)
  refine ⟨h1, fun x => ?_, ?_⟩
  · rw [← hm]
    constructor
    · intro hx
      obtain ⟨j, hj, e⟩ := h2 x hx
      rw [← e]
      simp [hj]
    · intro hx
      obtain ⟨j, hj, e⟩ := List.mem_iff_getElem.1 hx
      have := h3 j hj
      simp [hj] at this
      rw [e] at this
      exact this
  · have : (compact z).length ≤ z.length := by
      unfold compact compactUpTo
      rw [List.length_map]
      have := List.length_filter_le (keeps z.toArray) (List.range z.length)
      rw [List.length_range] at this
      exact this
    omega
end
/-- Where an opening statement stands: what it holds. -/
theorem flat_node : ∀ (T : Bk), T.ok → ∀ (j : Nat) (x : S77), T.flat[j]? = some x → x.f0 = 4 ∨ x.f0 = 5 → ∃ (pre post : List S77) (b : Bk) (c : S77), T.flat = pre ++ x :: (b.flat ++ c :: post) ∧ pre.length = j ∧ b.ok ∧ c.f0 = 6
  | .nil, _, j, x, h, _ => by simp [Bk.flat] at h
  | .leaf s t, ok, j, x, h, o => by
    cases j with
    | zero =>
      simp only [Bk.flat, List.getElem?_cons_zero, Option.some.injEq] at h
      subst h
      exact absurd o (by have := ok.1; have := ok.2.1; omega)
    | succ j =>
      simp only [Bk.flat, List.getElem?_cons_succ] at h
      obtain ⟨pre, post, b, c, e, hl, hb, hc⟩ := flat_node t ok.2.2.2 j x h o
      exact ⟨s :: pre, post, b, c, by rw [Bk.flat, e]; rfl, by simp [hl], hb, hc⟩
  | .node s b0 e0 t, ok, j, x, h, o => by
    obtain ⟨os, ob, oc, ot⟩ := ok
    cases j with
    | zero =>
      simp only [Bk.flat, List.getElem?_cons_zero, Option.some.injEq] at h
      subst h
      exact ⟨[], t.flat, b0, e0, rfl, rfl, ob, oc⟩
    | succ j =>
      simp only [Bk.flat, List.getElem?_cons_succ] at h
      by_cases q : j < b0.flat.length
      · rw [List.getElem?_append_left q] at h
        obtain ⟨pre, post, b, c, e, hl, hb, hc⟩ := flat_node b0 ob j x h o
        exact ⟨s :: pre, post ++ e0 :: t.flat, b, c, by rw [Bk.flat, e]; simp, by simp [hl], hb, hc⟩
      · rw [List.getElem?_append_right (by omega)] at h
        obtain ⟨i, hi⟩ : ∃ i, j - b0.flat.length = i := ⟨_, rfl⟩
        rw [hi] at h
        cases i with
        | zero =>
          simp only [List.getElem?_cons_zero, Option.some.injEq] at h
          subst h
          omega
        | succ i =>
          simp only [List.getElem?_cons_succ] at h
          obtain ⟨pre, post, b, c, e, hl, hb, hc⟩ := flat_node t ot i x h o
          exact ⟨s :: (b0.flat ++ e0 :: pre), post, b, c, by rw [Bk.flat, e]; simp, by simp [hl]; omega, hb, hc⟩
theorem guardL_ok (T : Bk) (ok : T.ok) (hl : T.flat.length ≤ 1048576) (k : Nat) (hk : 2 * T.flat.length + 4 < k) : ∀ (d : Nat) (i : Int) (g : List Bool), 0 ≤ i → i + (d : Int) = (T.flat.length : Int) → ∃ G, guardL k T.flat d i g = some G
  | 0, i, g, _, _ => ⟨g, rfl⟩
  | d + 1, i, g, h0, hi => by
    rw [guardL]
    by_cases c : (rd_T77 T.flat i).f0 = 4
    · rw [if_pos c]
      obtain ⟨pre, post, b, e, he, hp, hb, hc⟩ := flat_node T ok i.toNat (rd_T77 T.flat i) (getD_rd z77 h0 (by omega)) (.inl c)
      have hlen : T.flat.length = pre.length + (b.flat.length + post.length + 2) := by
        rw [he]
        simp only [List.length_append, List.length_cons]
        omega
      have hend := endI_at pre post (rd_T77 T.flat i) e b hb (.inl c) hc i (by omega) (by rw [← he]; exact hl) k (by omega)
      rw [← he] at hend
      rw [hend]
      simp only [Option.bind_some]
      rw [if_pos (by omega)]
      exact guardL_ok T ok hl k hk d (i + 1) _ (by omega) (by omega)
    · rw [if_neg c]
      exact guardL_ok T ok hl k hk d (i + 1) _ (by omega) (by omega)
theorem writtenL_mem (q : Int → Bool) : ∀ (l : List S77) (i : Int) (y : Int), y ∈ writtenL q l i → y ∈ writtenL (fun _ => true) l 0
  | [], i, y, h => by simp [writtenL] at h
  | x :: r, i, y, h => by
    have all : ∀ (l : List S77) (i j : Int), writtenL (fun _ => true) l i = writtenL (fun _ => true) l j := by
      intro l
      induction l with
      | nil => intro i j; rfl
      | cons x r ih =>
        intro i j
        rw [writtenL, writtenL, ih (i + 1) (j + 1)]
    rw [writtenL] at h ⊢
    rw [all r (0 + 1) 0]
    by_cases w : writes x = true
    · rw [if_pos ⟨w, rfl⟩]
      by_cases c : q i = true
      · rw [if_pos ⟨w, c⟩] at h
        rcases List.mem_cons.1 h with e | h
        · rw [e]
          exact List.mem_cons_self
        · exact List.mem_cons_of_mem _ (writtenL_mem q r (i + 1) y h)
      · rw [if_neg (fun h => c h.2)] at h
        exact List.mem_cons_of_mem _ (writtenL_mem q r (i + 1) y h)
    · rw [if_neg (fun h => w h.1)] at h
      rw [if_neg (fun h => w h.1)]
      exact writtenL_mem q r (i + 1) y h
theorem writtenL_in : ∀ (l : List S77) (i : Int) (x : S77), x ∈ l → writes x = true → x.f1 ∈ writtenL (fun _ => true) l i
  | [], _, _, h, _ => by simp at h
  | y :: r, i, x, h, w => by
    rw [writtenL]
    rcases List.mem_cons.1 h with e | h
    · subst e
      rw [if_pos ⟨w, rfl⟩]
      exact List.mem_cons_self
    · split
      · exact List.mem_cons_of_mem _ (writtenL_in r (i + 1) x h w)
      · exact writtenL_in r (i + 1) x h w
theorem writtenL_len (q : Int → Bool) : ∀ (l : List S77) (i : Int), (writtenL q l i).length ≤ l.length
  | [], _ => Nat.le_refl _
  | x :: r, i => by
    rw [writtenL]
    have := writtenL_len q r (i + 1)
    split
    · simp only [List.length_cons]
      omega
    · simp only [List.length_cons]
      omega
theorem mustW_at {l : List S77} (hb : blockOk l = true) (k : Nat) (hk : 100 < k) : ∃ G, guardL k l l.length 0 (List.replicate l.length false) = some G ∧ impl_MustWrite.f k l = some (touch (writtenL (fun i => !rdB G i) l 0)) := by
  obtain ⟨T, ok, hT, h24, hs⟩ := blockOk_tree hb
  obtain ⟨G, hG⟩ := guardL_ok T ok (by rw [hT]; omega) k (by rw [hT]; omega) T.flat.length 0 (List.replicate l.length false) (by omega) (by omega)
  rw [hT] at hG
  refine ⟨G, hG, ?_⟩
  unfold impl_MustWrite.f
  rw [blockI_at l (by omega) k (by omega), hb]
  simp only [Option.bind_some, if_true]
  rw [if_pos (by omega), hG]
  rfl
theorem mayW_at {l : List S77} (hb : blockOk l = true) (k : Nat) (hk : 100 < k) : impl_MayWrite.f k l = some (touch (writtenL (fun _ => true) l 0)) := by
  obtain ⟨T, ok, hT, h24, hs⟩ := blockOk_tree hb
  unfold impl_MayWrite.f
  rw [blockI_at l (by omega) k (by omega), hb]
  simp only [Option.bind_some, if_true]
  rw [if_pos (by omega)]
  rfl
theorem has_l (l : List Int) (hl : l.length ≤ 1048576) (x : Int) (d : Nat) : ∀ (k : Nat) (i : Int), 0 ≤ i → i + (d : Int) = (l.length : Int) → d < k →
    laws_has.l0 k l x i = some (decide (x ∈ l.drop i.toNat)) := by
  induction d with
  | zero =>
    intro k i h0 hi hk
    obtain ⟨k, rfl⟩ := succ_of hk
    simp only [laws_has.l0]
    rw [if_neg (by omega), List.drop_eq_nil_of_le (by omega)]
    simp
  | succ d ih =>
    intro k i h0 hi hk
    obtain ⟨k, rfl⟩ := succ_of hk
    simp only [laws_has.l0]
    rw [if_pos (by omega), if_pos h0, drop_rd h0 (by omega)]
    by_cases e : rd l i = x
    · rw [if_pos e]
      simp [e]
    · rw [if_neg e, w64 (by omega) (by omega), ih k (i + 1) (by omega) (by omega) (by omega)]
      have : ¬ x = rd l i := fun h => e h.symm
      simp [this]
theorem has_at (l : List Int) (hl : l.length ≤ 1048576) (x : Int) (k : Nat) (hk : l.length < k) : laws_has.f k l x = some (decide (x ∈ l)) := by
  unfold laws_has.f
  rw [has_l l hl x l.length k 0 (by omega) (by omega) hk]
  simp
theorem le_of_mono {α : Type} {f : Nat → Option α} (hm : ∀ k, LeO (f k) (f (k + 1))) {k k' : Nat} {r : α} (h : f k = some r) (hk : k ≤ k') : f k' = some r := by
  obtain ⟨d, rfl⟩ := Nat.exists_eq_add_of_le hk
  induction d with
  | zero => exact h
  | succ d ih => exact hm _ _ (ih (by omega))
theorem hasExprI_eq (a : Int) : impl_hasExpr.f a = some (decide (a = 1 ∨ a = 3 ∨ a = 4)) := by
  unfold impl_hasExpr.f
  by_cases h1 : a = 1
  · simp [h1]
  by_cases h2 : a = 3
  · simp [h2]
  rw [if_neg h1, if_neg h2]
  by_cases h3 : a = 4
  · simp [h3]
  · simp [h1, h2, h3]
theorem hasVarK_eq (a : Int) : impl_hasVar.f a = some (decide (a = 1 ∨ a = 2)) := by
  unfold impl_hasVar.f
  by_cases h1 : a = 1
  · simp [h1]
  rw [if_neg h1]
  by_cases h3 : a = 2
  · simp [h3]
  · simp [h1, h3]
theorem readsL_in : ∀ (l : List Int), (∀ n ∈ l, -8 ≤ n) → ∀ y ∈ readsL l, 0 ≤ y ∧ y < 8
  | [], _, y, h => by simp [readsL] at h
  | n :: r, hn, y, h => by
    have h8 := hn n (by simp)
    rw [readsL] at h
    by_cases c : n < 0
    · rw [if_pos c, w64 (by omega) (by omega)] at h
      rcases List.mem_cons.1 h with e | h
      · omega
      · exact readsL_in r (fun m hm => hn m (by simp [hm])) y h
    · rw [if_neg c] at h
      exact readsL_in r (fun m hm => hn m (by simp [hm])) y h
theorem readF_ok (st : List Bool) : ∀ (ys : List Int), (∀ y ∈ ys, 0 ≤ y ∧ y < 8) → ∀ fi : List Bool, fi.length = 8 → ∃ fi', readF st ys fi = some fi' ∧ fi'.length = 8
  | [], _, fi, hf => ⟨fi, rfl, hf⟩
  | y :: r, hy, fi, hf => by
    rw [readF, if_pos (hy y (by simp))]
    exact readF_ok st r (fun z hz => hy z (by simp [hz])) _ (by split <;> simp [hf])
theorem readI_ok {a b c : Int} (h : exprOk a b c = true) (st fi : List Bool) (hf : fi.length = 8) : ∃ fi', reader_read.f a b c st fi = some fi' ∧ fi'.length = 8 := by
  have h2 := of_decide_eq_true h
  unfold reader_read.f impl_ReadsOf.f
  rw [exprI_eq, h]
  simp only [Option.bind_some, if_true]
  refine readF_ok st _ (fun y hy => ?_) fi hf
  have : y ∈ touch (readsL [b, c]) := hy
  rw [(touch_at (readsL [b, c])).2.1] at this
  exact readsL_in [b, c] (fun n hn => by
    simp only [List.mem_cons, List.not_mem_nil, or_false] at hn
    omega) y this
abbrev passOk (k : Nat) (l : List S77) (i : Int) (st fi : List Bool) : Prop := ∃ r, rpass.l0 k l i st fi = some r ∧ r.1.length = 8 ∧ r.2.length = 8
theorem passI_step (pre rest : List S77) (x : S77) (i : Int) (hi : i = (pre.length : Int)) (hl : (pre ++ x :: rest).length ≤ 1048576) (hx : stOk x = true) (h4 : x.f0 ≠ 4) (st fi : List Bool) (hs : st.length = 8) (hf : fi.length = 8)
    (next : ∀ st' fi' : List Bool, st'.length = 8 → fi'.length = 8 → ∃ k, passOk k (pre ++ x :: rest) (i + 1) st' fi') : ∃ k, passOk k (pre ++ x :: rest) i st fi := by
  have e := at_mid pre rest x hi
  simp only [List.length_append, List.length_cons] at hl
  have hread : ∃ fi1, (if decide (x.f0 = 1 ∨ x.f0 = 3 ∨ x.f0 = 4) = true then reader_read.f x.f3.f0 x.f3.f1 x.f3.f2 st fi else some fi) = some fi1 ∧ fi1.length = 8 := by
    by_cases c : x.f0 = 1 ∨ x.f0 = 3 ∨ x.f0 = 4
    · rw [if_pos (by simpa using c)]
      refine readI_ok ?_ st fi hf
      by_cases c1 : x.f0 = 1
      · exact (stOk_set hx c1).2
      · exact stOk_expr hx (by omega)
    · rw [if_neg (by simpa using c)]
      exact ⟨fi, rfl, hf⟩
  obtain ⟨fi1, h1, hf1⟩ := hread
  by_cases cv : x.f0 = 1 ∨ x.f0 = 2
  · have hr : 0 ≤ x.f1 ∧ x.f1 < 8 := by
      rcases cv with c | c
      · have := (stOk_set hx c).1
        omega
      · have := (stOk_sense hx c).1
        omega
    obtain ⟨k, r, e2, hr2⟩ := next (st.set x.f1.toNat true) fi1 (by simp [hs]) hf1
    refine ⟨k + 1, r, ?_, hr2⟩
    rw [rpass.l0, if_pos (by simp only [List.length_append, List.length_cons]; omega), if_pos (by omega), e, hasExprI_eq, hasVarK_eq]
    simp only [Option.bind_some, h1]
    rw [if_pos (by simpa using cv), if_pos hr]
    simp only [Option.bind_some]
    rw [if_neg h4, w64 (by omega) (by omega)]
    exact e2
  · obtain ⟨k, r, e2, hr2⟩ := next st fi1 hs hf1
    refine ⟨k + 1, r, ?_, hr2⟩
    rw [rpass.l0, if_pos (by simp only [List.length_append, List.length_cons]; omega), if_pos (by omega), e, hasExprI_eq, hasVarK_eq]
    simp only [Option.bind_some, h1]
    rw [if_neg (by simpa using cv), if_neg h4, w64 (by omega) (by omega)]
    exact e2
theorem passI_l : ∀ (T : Bk), T.ok → (∀ s ∈ T.flat, stOk s = true) → ∀ (pre post : List S77) (i : Int) (st fi : List Bool), i = (pre.length : Int) → (pre ++ (T.flat ++ post)).length ≤ 1048576 → st.length = 8 → fi.length = 8 →
    (∀ st' fi' : List Bool, st'.length = 8 → fi'.length = 8 → ∃ k, passOk k (pre ++ (T.flat ++ post)) (i + (T.flat.length : Int)) st' fi') → ∃ k, passOk k (pre ++ (T.flat ++ post)) i st fi
  | .nil, _, _, pre, post, i, st, fi, _, _, hs, hf, next => by
    have := next st fi hs hf
    simpa [Bk.flat] using this
  | .leaf x t, ok, hst, pre, post, i, st, fi, hi, hl, hs, hf, next => by
    simp only [Bk.flat, List.length_cons, List.length_append, List.cons_append] at hl next ⊢
    refine passI_step pre (t.flat ++ post) x i hi (by simp only [List.length_append, List.length_cons]; omega) (hst x (by simp [Bk.flat])) ok.1 st fi hs hf (fun st' fi' hs' hf' => ?_)
    have := passI_l t ok.2.2.2 (fun y hy => hst y (by simp [Bk.flat, hy])) (pre ++ [x]) post (i + 1) st' fi' (by simp only [List.length_append, List.length_cons, List.length_nil]; omega) (by simp only [List.length_append, List.length_cons, List.length_nil]; omega) hs' hf' (fun s2 f2 q1 q2 => by
      have := next s2 f2 q1 q2
      simp only [List.append_assoc, List.singleton_append]
      rw [show i + 1 + (t.flat.length : Int) = i + ((t.flat.length + 1 : Nat) : Int) by omega]
      exact this)
    simpa only [List.append_assoc, List.singleton_append] using this
  | .node x b c t, ok, hst, pre, post, i, st, fi, hi, hl, hs, hf, next => by
    obtain ⟨o, ob, oc, ot⟩ := ok
    simp only [Bk.flat, List.length_cons, List.length_append, List.cons_append, List.append_assoc] at hl next ⊢
    have hx := hst x (by simp [Bk.flat])
    have hc := hst c (by simp [Bk.flat])
    have tl : ∀ st' fi' : List Bool, st'.length = 8 → fi'.length = 8 → ∃ k, passOk k (pre ++ x :: (b.flat ++ c :: (t.flat ++ post))) (i + 1 + (b.flat.length : Int) + 1) st' fi' := fun st' fi' hs' hf' => by
      have := passI_l t ot (fun y hy => hst y (by simp [Bk.flat, hy])) (pre ++ x :: (b.flat ++ [c])) post (i + 1 + (b.flat.length : Int) + 1) st' fi' (by simp only [List.length_append, List.length_cons, List.length_nil]; omega) (by simp only [List.length_append, List.length_cons, List.length_nil]; omega) hs' hf' (fun s2 f2 q1 q2 => by
        have := next s2 f2 q1 q2
        simp only [List.append_assoc, List.cons_append, List.nil_append]
        rw [show i + 1 + (b.flat.length : Int) + 1 + (t.flat.length : Int) = i + ((b.flat.length + (t.flat.length + 1) + 1 : Nat) : Int) by omega]
        exact this)
      simpa only [List.append_assoc, List.cons_append, List.nil_append] using this
    by_cases h4 : x.f0 = 4
    · have e := at_mid pre (b.flat ++ c :: (t.flat ++ post)) x hi
      obtain ⟨fi1, h1, hf1⟩ := readI_ok (stOk_expr hx (.inr h4)) st fi hf
      have hend : ∀ k, 2 * b.flat.length + 4 < k → impl_endOf.f k (pre ++ x :: (b.flat ++ c :: (t.flat ++ post))) i = some (i + 1 + (b.flat.length : Int)) := fun k hk => endI_at pre (t.flat ++ post) x c b ob o oc i hi (by simp only [List.length_append, List.length_cons]; omega) k hk
      obtain ⟨kb, rb, eb, lb1, lb2⟩ := passI_l b ob (fun y hy => hst y (by simp [Bk.flat, hy])) [] [] 0 st fi1 rfl (by simp only [List.nil_append, List.append_nil]; omega) hs hf1 (fun s2 f2 q1 q2 => ⟨1, (s2, f2), by rw [rpass.l0, if_neg (by simp)], q1, q2⟩)
      simp only [List.nil_append, List.append_nil] at eb
      obtain ⟨kt, r, et, hr⟩ := tl st rb.2 hs lb2
      refine ⟨(kb + kt + 2 * b.flat.length + 6) + 1, r, ?_, hr⟩
      rw [rpass.l0, if_pos (by simp only [List.length_append, List.length_cons]; omega), if_pos (by omega), e, hasExprI_eq, hasVarK_eq]
      simp only [Option.bind_some]
      rw [if_pos (by simp [h4]), h1]
      simp only [Option.bind_some]
      rw [if_neg (by simp [h4]), if_pos h4, hend _ (by omega)]
      simp only [Option.bind_some]
      rw [w64 (x := i + 1) (by omega) (by omega), w64 (x := i + 1 + (b.flat.length : Int) + 1) (by omega) (by omega), if_pos ⟨by omega, by omega, by simp only [List.length_append, List.length_cons]; omega⟩]
      have q := take_drop_mid (pre ++ [x]) b.flat (c :: (t.flat ++ post)) (i := i + 1) (j := i + 1 + (b.flat.length : Int)) (by simp only [List.length_append, List.length_cons, List.length_nil]; omega) rfl
      simp only [List.append_assoc, List.singleton_append] at q
      rw [q]
      have eb2 : rpass.f (kb + 1) b.flat st fi1 = some rb := by rw [rpass.f]; exact eb
      rw [le_of_mono (fun k => (rpass.mono_l k).1 b.flat st fi1) eb2 (k' := kb + kt + 2 * b.flat.length + 6) (by omega)]
      simp only [Option.bind_some]
      exact le_of_mono (fun k => (rpass.mono_l k).2 _ _ _ _) et (by omega)
    · refine passI_step pre (b.flat ++ c :: (t.flat ++ post)) x i hi (by simp only [List.length_append, List.length_cons]; omega) hx h4 st fi hs hf (fun st' fi' hs' hf' => ?_)
      have := passI_l b ob (fun y hy => hst y (by simp [Bk.flat, hy])) (pre ++ [x]) (c :: (t.flat ++ post)) (i + 1) st' fi' (by simp only [List.length_append, List.length_cons, List.length_nil]; omega) (by simp only [List.length_append, List.length_cons, List.length_nil]; omega) hs' hf' (fun s2 f2 q1 q2 => by
        have := passI_step (pre ++ x :: b.flat) (t.flat ++ post) c (i + 1 + (b.flat.length : Int)) (by simp only [List.length_append, List.length_cons]; omega) (by simp only [List.length_append, List.length_cons]; omega) hc (by omega) s2 f2 q1 q2 (fun s3 f3 u1 u2 => by
          have := tl s3 f3 u1 u2
          simpa only [List.append_assoc, List.cons_append] using this)
        simpa only [List.append_assoc, List.cons_append, List.singleton_append, List.nil_append] using this)
      simpa only [List.append_assoc, List.singleton_append] using this
theorem firstL_len (fi : List Bool) : ∀ (n : Nat) (i : Int), (firstL fi n i).length ≤ n
  | 0, _ => Nat.le_refl _
  | n + 1, i => by
    rw [firstL]
    have := firstL_len fi n (i + 1)
    split
    · simp only [List.length_cons]
      omega
    · omega
theorem taskI_at {l : List S77} (hb : blockOk l = true) {a b c : Int} (he : exprOk a b c = true) (k : Nat) (hk : 100 < k) : impl_taskOk.f k l a b c = some true := by
  obtain ⟨_, _, _, h24, _⟩ := blockOk_tree hb
  unfold impl_taskOk.f
  rw [blockI_at l (by omega) k (by omega), hb, exprI_eq, he]
  rfl
theorem mrf_ok {l : List S77} (hb : blockOk l = true) {a b c : Int} (he : exprOk a b c = true) : ∃ k fs, impl_MayReadFirst.f k l a b c = some fs ∧ fs.length ≤ 8 := by
  obtain ⟨T, ok, hT, h24, hst⟩ := blockOk_tree hb
  obtain ⟨k, s, es, ls1, ls2⟩ := passI_l T ok (by rw [hT]; exact hst) [] [] 0 z8 z8 rfl (by simp only [List.nil_append, List.append_nil, hT]; omega) rfl rfl (fun s2 f2 q1 q2 => ⟨1, (s2, f2), by rw [rpass.l0, if_neg (by simp)], q1, q2⟩)
  simp only [List.nil_append, List.append_nil, hT] at es
  obtain ⟨fi, ef, _⟩ := readI_ok he s.1 s.2 ls2
  refine ⟨k + 102, firstL fi 8 0, ?_, firstL_len fi 8 0⟩
  unfold impl_MayReadFirst.f
  have es2 : rpass.f (k + 1) l z8 z8 = some s := by rw [rpass.f]; exact es
  rw [taskI_at hb he _ (by omega)]
  simp only [Option.bind_some, if_true]
  rw [le_of_mono (fun k => (rpass.mono_l k).1 l z8 z8) es2 (k' := k + 102) (by omega)]
  simp only [Option.bind_some, ef]
theorem rdB8_set (l : List Bool) (hl : l.length = 8) (i y : Int) (i0 : 0 ≤ i) (i1 : i < 8) (y0 : 0 ≤ y) : rdB8 (l.set i.toNat true) y = (decide (y = i) || rdB8 l y) := by
  unfold rdB8 rdOf
  rw [List.getD_eq_getElem?_getD, List.getD_eq_getElem?_getD]
  by_cases e : y = i
  · subst e
    rw [List.getElem?_set_self (by omega)]
    simp
  · rw [List.getElem?_set_ne (by omega)]
    simp [e]
theorem rd_set8 (l : List Int) (hl : l.length = 8) (i y x : Int) (i0 : 0 ≤ i) (i1 : i < 8) (y0 : 0 ≤ y) : rd (l.set i.toNat x) y = if y = i then x else rd l y := by
  unfold rd
  rw [List.getD_eq_getElem?_getD, List.getD_eq_getElem?_getD]
  by_cases e : y = i
  · subst e
    rw [List.getElem?_set_self (by omega), if_pos rfl]
    rfl
  · rw [List.getElem?_set_ne (by omega), if_neg e]
/-- What is read ahead of being set, behind some readings. -/
def readP (st : List Bool) : List Int → List Bool → List Bool
  | [], fi => fi
  | y :: r, fi => readP st r (if rdB8 st y = true then fi else fi.set y.toNat true)
theorem readF_P (st : List Bool) : ∀ (ys : List Int), (∀ y ∈ ys, 0 ≤ y ∧ y < 8) → ∀ fi : List Bool, readF st ys fi = some (readP st ys fi)
  | [], _, fi => rfl
  | y :: r, hy, fi => by
    rw [readF, if_pos (hy y (by simp)), readP]
    exact readF_P st r (fun z hz => hy z (by simp [hz])) _
theorem readP_len (st : List Bool) : ∀ (ys : List Int) (fi : List Bool), (readP st ys fi).length = fi.length
  | [], fi => rfl
  | y :: r, fi => by
    rw [readP, readP_len st r]
    split
    · rfl
    · rw [List.length_set]
theorem readP_up (st : List Bool) : ∀ (ys : List Int), (∀ y ∈ ys, 0 ≤ y ∧ y < 8) → ∀ fi : List Bool, fi.length = 8 → ∀ i : Int, 0 ≤ i → rdB8 fi i = true → rdB8 (readP st ys fi) i = true
  | [], _, fi, _, i, _, h => h
  | y :: r, hy, fi, hf, i, i0, h => by
    have h8 := hy y (by simp)
    rw [readP]
    refine readP_up st r (fun z hz => hy z (by simp [hz])) _ (by split <;> simp [hf]) i i0 ?_
    split
    · exact h
    · rw [rdB8_set fi hf y i h8.1 h8.2 i0, h]
      simp
theorem readP_in (st : List Bool) : ∀ (ys : List Int), (∀ y ∈ ys, 0 ≤ y ∧ y < 8) → ∀ fi : List Bool, fi.length = 8 → ∀ y ∈ ys, rdB8 st y = true ∨ rdB8 (readP st ys fi) y = true
  | [], _, fi, _, y, h => by simp at h
  | z :: r, hy, fi, hf, y, h => by
    have h8 := hy z (by simp)
    rcases List.mem_cons.1 h with e | h
    · subst e
      by_cases c : rdB8 st y = true
      · exact .inl c
      · refine .inr ?_
        rw [readP, if_neg c]
        refine readP_up st r (fun z hz => hy z (by simp [hz])) _ (by simp [hf]) y h8.1 ?_
        rw [rdB8_set fi hf y y h8.1 h8.2 h8.1]
        simp
    · rw [readP]
      exact readP_in st r (fun z hz => hy z (by simp [hz])) _ (by split <;> simp [hf]) y h
/-- The variables that an expression reads. -/
def rs (b c : Int) : List Int := touch (readsL [b, c])
theorem rs_in {a b c : Int} (h : exprOk a b c = true) : ∀ y ∈ rs b c, 0 ≤ y ∧ y < 8 := by
  have h2 := (exprOk_iff a b c).1 h
  intro y hy
  rw [rs, (touch_at (readsL [b, c])).2.1] at hy
  exact readsL_in [b, c] (fun n hn => by
    simp only [List.mem_cons, List.not_mem_nil, or_false] at hn
    omega) y hy
theorem readI_P {a b c : Int} (h : exprOk a b c = true) (st fi : List Bool) : reader_read.f a b c st fi = some (readP st (rs b c) fi) := by
  unfold reader_read.f impl_ReadsOf.f
  rw [exprI_eq, h]
  simp only [Option.bind_some, if_true]
  exact readF_P st _ (rs_in h) fi
/-- What is read first behind a statement, and what is set. -/
def rdS (x : S77) (st fi : List Bool) : List Bool := if x.f0 = 1 ∨ x.f0 = 3 ∨ x.f0 = 4 then readP st (rs x.f3.f1 x.f3.f2) fi else fi
def stS (x : S77) (st : List Bool) : List Bool := if x.f0 = 1 ∨ x.f0 = 2 then st.set x.f1.toNat true else st
/-- The pass over a block. -/
def passT : Bk → List Bool → List Bool → List Bool × List Bool
  | .nil, st, fi => (st, fi)
  | .leaf x t, st, fi => passT t (stS x st) (rdS x st fi)
  | .node x b _ t, st, fi => if x.f0 = 4 then passT t st (passT b st (rdS x st fi)).2 else passT t (passT b st fi).1 (passT b st fi).2
theorem stmt_expr {x : S77} (hx : stOk x = true) (c : x.f0 = 1 ∨ x.f0 = 3 ∨ x.f0 = 4) : exprOk x.f3.f0 x.f3.f1 x.f3.f2 = true := by
  by_cases c1 : x.f0 = 1
  · exact (stOk_set hx c1).2
  · exact stOk_expr hx (by omega)
theorem stmt_var {x : S77} (hx : stOk x = true) (c : x.f0 = 1 ∨ x.f0 = 2) : 0 ≤ x.f1 ∧ x.f1 < 8 := by
  rcases c with c | c
  · have := (stOk_set hx c).1
    omega
  · have := (stOk_sense hx c).1
    omega
theorem passI_stepT (pre rest : List S77) (x : S77) (i : Int) (hi : i = (pre.length : Int)) (hl : (pre ++ x :: rest).length ≤ 1048576) (hx : stOk x = true) (h4 : x.f0 ≠ 4) (st fi : List Bool) (r : List Bool × List Bool)
    (next : ∃ k, rpass.l0 k (pre ++ x :: rest) (i + 1) (stS x st) (rdS x st fi) = some r) : ∃ k, rpass.l0 k (pre ++ x :: rest) i st fi = some r := by
  have e := at_mid pre rest x hi
  simp only [List.length_append, List.length_cons] at hl
  have h1 : (if decide (x.f0 = 1 ∨ x.f0 = 3 ∨ x.f0 = 4) = true then reader_read.f x.f3.f0 x.f3.f1 x.f3.f2 st fi else some fi) = some (rdS x st fi) := by
    unfold rdS
    by_cases c : x.f0 = 1 ∨ x.f0 = 3 ∨ x.f0 = 4
    · rw [if_pos (by simpa using c), if_pos c]
      exact readI_P (stmt_expr hx c) st fi
    · rw [if_neg (by simpa using c), if_neg c]
  obtain ⟨k, e2⟩ := next
  refine ⟨k + 1, ?_⟩
  unfold stS at e2
  by_cases cv : x.f0 = 1 ∨ x.f0 = 2
  · rw [if_pos cv] at e2
    rw [rpass.l0, if_pos (by simp only [List.length_append, List.length_cons]; omega), if_pos (by omega), e, hasExprI_eq, hasVarK_eq]
    simp only [Option.bind_some, h1]
    rw [if_pos (by simpa using cv), if_pos (stmt_var hx cv)]
    simp only [Option.bind_some]
    rw [if_neg h4, w64 (by omega) (by omega)]
    exact e2
  · rw [if_neg cv] at e2
    rw [rpass.l0, if_pos (by simp only [List.length_append, List.length_cons]; omega), if_pos (by omega), e, hasExprI_eq, hasVarK_eq]
    simp only [Option.bind_some, h1]
    rw [if_neg (by simpa using cv), if_neg h4, w64 (by omega) (by omega)]
    exact e2
theorem passI_t : ∀ (T : Bk), T.ok → (∀ s ∈ T.flat, stOk s = true) → ∀ (pre post : List S77) (i : Int) (st fi : List Bool) (r : List Bool × List Bool), i = (pre.length : Int) → (pre ++ (T.flat ++ post)).length ≤ 1048576 →
    (∃ k, rpass.l0 k (pre ++ (T.flat ++ post)) (i + (T.flat.length : Int)) (passT T st fi).1 (passT T st fi).2 = some r) → ∃ k, rpass.l0 k (pre ++ (T.flat ++ post)) i st fi = some r
  | .nil, _, _, pre, post, i, st, fi, r, _, _, next => by
    simpa [Bk.flat, passT] using next
  | .leaf x t, ok, hst, pre, post, i, st, fi, r, hi, hl, next => by
    simp only [Bk.flat, List.length_cons, List.length_append, List.cons_append, passT] at hl next ⊢
    refine passI_stepT pre (t.flat ++ post) x i hi (by simp only [List.length_append, List.length_cons]; omega) (hst x (by simp [Bk.flat])) ok.1 st fi r ?_
    have := passI_t t ok.2.2.2 (fun y hy => hst y (by simp [Bk.flat, hy])) (pre ++ [x]) post (i + 1) (stS x st) (rdS x st fi) r (by simp only [List.length_append, List.length_cons, List.length_nil]; omega) (by simp only [List.length_append, List.length_cons, List.length_nil]; omega) (by
      simp only [List.append_assoc, List.singleton_append]
      rw [show i + 1 + (t.flat.length : Int) = i + ((t.flat.length + 1 : Nat) : Int) by omega]
      exact next)
    simpa only [List.append_assoc, List.singleton_append] using this
  | .node x b c t, ok, hst, pre, post, i, st, fi, r, hi, hl, next => by
    obtain ⟨o, ob, oc, ot⟩ := ok
    simp only [Bk.flat, List.length_cons, List.length_append, List.cons_append, List.append_assoc, passT] at hl next ⊢
    have hx := hst x (by simp [Bk.flat])
    have hc := hst c (by simp [Bk.flat])
    have tl : ∀ st' fi' : List Bool, (∃ k, rpass.l0 k (pre ++ x :: (b.flat ++ c :: (t.flat ++ post))) (i + ((b.flat.length + (t.flat.length + 1) + 1 : Nat) : Int)) (passT t st' fi').1 (passT t st' fi').2 = some r) → ∃ k, rpass.l0 k (pre ++ x :: (b.flat ++ c :: (t.flat ++ post))) (i + 1 + (b.flat.length : Int) + 1) st' fi' = some r := fun st' fi' nx => by
      have := passI_t t ot (fun y hy => hst y (by simp [Bk.flat, hy])) (pre ++ x :: (b.flat ++ [c])) post (i + 1 + (b.flat.length : Int) + 1) st' fi' r (by simp only [List.length_append, List.length_cons, List.length_nil]; omega) (by simp only [List.length_append, List.length_cons, List.length_nil]; omega) (by
        simp only [List.append_assoc, List.cons_append, List.nil_append]
        rw [show i + 1 + (b.flat.length : Int) + 1 + (t.flat.length : Int) = i + ((b.flat.length + (t.flat.length + 1) + 1 : Nat) : Int) by omega]
        exact nx)
      simpa only [List.append_assoc, List.cons_append, List.nil_append] using this
    by_cases h4 : x.f0 = 4
    · rw [if_pos h4] at next
      have e := at_mid pre (b.flat ++ c :: (t.flat ++ post)) x hi
      have h1 := readI_P (stOk_expr hx (.inr h4)) st fi
      have hend : ∀ k, 2 * b.flat.length + 4 < k → impl_endOf.f k (pre ++ x :: (b.flat ++ c :: (t.flat ++ post))) i = some (i + 1 + (b.flat.length : Int)) := fun k hk => endI_at pre (t.flat ++ post) x c b ob o oc i hi (by simp only [List.length_append, List.length_cons]; omega) k hk
      have hrd : rdS x st fi = readP st (rs x.f3.f1 x.f3.f2) fi := by unfold rdS; rw [if_pos (by omega)]
      rw [hrd] at next
      obtain ⟨kb, eb⟩ := passI_t b ob (fun y hy => hst y (by simp [Bk.flat, hy])) [] [] 0 st (readP st (rs x.f3.f1 x.f3.f2) fi) (passT b st (readP st (rs x.f3.f1 x.f3.f2) fi)) rfl (by simp only [List.nil_append, List.append_nil]; omega) ⟨1, by rw [rpass.l0, if_neg (by simp)]⟩
      simp only [List.nil_append, List.append_nil] at eb
      obtain ⟨kt, et⟩ := tl _ _ next
      refine ⟨(kb + kt + 2 * b.flat.length + 6) + 1, ?_⟩
      rw [rpass.l0, if_pos (by simp only [List.length_append, List.length_cons]; omega), if_pos (by omega), e, hasExprI_eq, hasVarK_eq]
      simp only [Option.bind_some]
      rw [if_pos (by simp [h4]), h1]
      simp only [Option.bind_some]
      rw [if_neg (by simp [h4]), if_pos h4, hend _ (by omega)]
      simp only [Option.bind_some]
      rw [w64 (x := i + 1) (by omega) (by omega), w64 (x := i + 1 + (b.flat.length : Int) + 1) (by omega) (by omega), if_pos ⟨by omega, by omega, by simp only [List.length_append, List.length_cons]; omega⟩]
      have q := take_drop_mid (pre ++ [x]) b.flat (c :: (t.flat ++ post)) (i := i + 1) (j := i + 1 + (b.flat.length : Int)) (by simp only [List.length_append, List.length_cons, List.length_nil]; omega) rfl
      simp only [List.append_assoc, List.singleton_append] at q
      rw [q]
      have eb2 : rpass.f (kb + 1) b.flat st (readP st (rs x.f3.f1 x.f3.f2) fi) = some (passT b st (readP st (rs x.f3.f1 x.f3.f2) fi)) := by rw [rpass.f]; exact eb
      rw [le_of_mono (fun k => (rpass.mono_l k).1 b.flat st (readP st (rs x.f3.f1 x.f3.f2) fi)) eb2 (k' := kb + kt + 2 * b.flat.length + 6) (by omega)]
      simp only [Option.bind_some]
      exact le_of_mono (fun k => (rpass.mono_l k).2 _ _ _ _) et (by omega)
    · rw [if_neg h4] at next
      have n1 : stS x st = st := by unfold stS; rw [if_neg (by omega)]
      have n2 : rdS x st fi = fi := by unfold rdS; rw [if_neg (by omega)]
      refine passI_stepT pre (b.flat ++ c :: (t.flat ++ post)) x i hi (by simp only [List.length_append, List.length_cons]; omega) hx h4 st fi r ?_
      rw [n1, n2]
      have := passI_t b ob (fun y hy => hst y (by simp [Bk.flat, hy])) (pre ++ [x]) (c :: (t.flat ++ post)) (i + 1) st fi r (by simp only [List.length_append, List.length_cons, List.length_nil]; omega) (by simp only [List.length_append, List.length_cons, List.length_nil]; omega) (by
        have := passI_stepT (pre ++ x :: b.flat) (t.flat ++ post) c (i + 1 + (b.flat.length : Int)) (by simp only [List.length_append, List.length_cons]; omega) (by simp only [List.length_append, List.length_cons]; omega) hc (by omega) (passT b st fi).1 (passT b st fi).2 r (by
          have m1 : stS c (passT b st fi).1 = (passT b st fi).1 := by unfold stS; rw [if_neg (by omega)]
          have m2 : rdS c (passT b st fi).1 (passT b st fi).2 = (passT b st fi).2 := by unfold rdS; rw [if_neg (by omega)]
          rw [m1, m2]
          have := tl _ _ next
          simpa only [List.append_assoc, List.cons_append] using this)
        simpa only [List.append_assoc, List.cons_append, List.singleton_append, List.nil_append] using this)
      simpa only [List.append_assoc, List.singleton_append] using this
theorem firstL_mem (fi : List Bool) : ∀ (n : Nat) (i y : Int), i ≤ y → y < i + (n : Int) → rdB8 fi y = true → y ∈ firstL fi n i
  | 0, i, y, h1, h2, _ => by omega
  | n + 1, i, y, h1, h2, h => by
    rw [firstL]
    by_cases e : i = y
    · subst e
      rw [if_pos h]
      exact List.mem_cons_self
    · have := firstL_mem fi n (i + 1) y (by omega) (by omega) h
      split
      · exact List.mem_cons_of_mem _ this
      · exact this
/-- What is read first, told by the tree. -/
def firstT (T : Bk) (b c : Int) : List Int := firstL (readP (passT T z8 z8).1 (rs b c) (passT T z8 z8).2) 8 0
theorem mrf_at {l : List S77} (hb : blockOk l = true) {a b c : Int} (he : exprOk a b c = true) (T : Bk) (ok : T.ok) (hT : T.flat = l) : ∃ k0, ∀ k, k0 ≤ k → impl_MayReadFirst.f k l a b c = some (firstT T b c) := by
  obtain ⟨_, _, _, h24, hst⟩ := blockOk_tree hb
  obtain ⟨k, es⟩ := passI_t T ok (by rw [hT]; exact hst) [] [] 0 z8 z8 (passT T z8 z8) rfl (by simp only [List.nil_append, List.append_nil, hT]; omega) ⟨1, by rw [rpass.l0, if_neg (by simp)]⟩
  simp only [List.nil_append, List.append_nil, hT] at es
  refine ⟨k + 102, fun k' hk => le_of_mono (fun k => impl_MayReadFirst.mono l a b c k) (k := k + 102) ?_ hk⟩
  unfold impl_MayReadFirst.f
  have es2 : rpass.f (k + 1) l z8 z8 = some (passT T z8 z8) := by rw [rpass.f]; exact es
  rw [taskI_at hb he _ (by omega)]
  simp only [Option.bind_some, if_true]
  rw [le_of_mono (fun k => (rpass.mono_l k).1 l z8 z8) es2 (k' := k + 102) (by omega)]
  simp only [Option.bind_some]
  rw [readI_P he]
  rfl
/-- Nothing that was read first or set is lost. -/
def upTo (a b : List Bool) : Prop := ∀ y : Int, 0 ≤ y → rdB8 a y = true → rdB8 b y = true
theorem rdS_up {x : S77} (hx : stOk x = true) (st fi : List Bool) (hf : fi.length = 8) : (rdS x st fi).length = 8 ∧ upTo fi (rdS x st fi) := by
  unfold rdS
  split
  · rename_i c
    exact ⟨by rw [readP_len, hf], fun y y0 h => readP_up st _ (rs_in (stmt_expr hx c)) fi hf y y0 h⟩
  · exact ⟨hf, fun y _ h => h⟩
theorem stS_up {x : S77} (hx : stOk x = true) (st : List Bool) (hs : st.length = 8) : (stS x st).length = 8 ∧ upTo st (stS x st) := by
  unfold stS
  split
  · rename_i c
    obtain ⟨v0, v1⟩ := stmt_var hx c
    exact ⟨by rw [List.length_set, hs], fun y y0 h => by rw [rdB8_set st hs _ y v0 v1 y0, h]; simp⟩
  · exact ⟨hs, fun y _ h => h⟩
theorem passT_up : ∀ (T : Bk), (∀ s ∈ T.flat, stOk s = true) → ∀ (st fi : List Bool), st.length = 8 → fi.length = 8 → (passT T st fi).1.length = 8 ∧ (passT T st fi).2.length = 8 ∧ upTo st (passT T st fi).1 ∧ upTo fi (passT T st fi).2
  | .nil, _, st, fi, hs, hf => ⟨hs, hf, fun _ _ h => h, fun _ _ h => h⟩
  | .leaf x t, hst, st, fi, hs, hf => by
    have hx := hst x (by simp [Bk.flat])
    obtain ⟨a1, a2⟩ := stS_up hx st hs
    obtain ⟨b1, b2⟩ := rdS_up hx st fi hf
    obtain ⟨c1, c2, c3, c4⟩ := passT_up t (fun y hy => hst y (by simp [Bk.flat, hy])) (stS x st) (rdS x st fi) a1 b1
    rw [passT]
    exact ⟨c1, c2, fun y y0 h => c3 y y0 (a2 y y0 h), fun y y0 h => c4 y y0 (b2 y y0 h)⟩
  | .node x b e t, hst, st, fi, hs, hf => by
    have hx := hst x (by simp [Bk.flat])
    have hbs := passT_up b (fun y hy => hst y (by simp [Bk.flat, hy]))
    have hts := passT_up t (fun y hy => hst y (by simp [Bk.flat, hy]))
    rw [passT]
    by_cases h4 : x.f0 = 4
    · rw [if_pos h4]
      obtain ⟨b1, b2⟩ := rdS_up hx st fi hf
      obtain ⟨c1, c2, c3, c4⟩ := hbs st (rdS x st fi) hs b1
      obtain ⟨d1, d2, d3, d4⟩ := hts st (passT b st (rdS x st fi)).2 hs c2
      exact ⟨d1, d2, d3, fun y y0 h => d4 y y0 (c4 y y0 (b2 y y0 h))⟩
    · rw [if_neg h4]
      obtain ⟨c1, c2, c3, c4⟩ := hbs st fi hs hf
      obtain ⟨d1, d2, d3, d4⟩ := hts (passT b st fi).1 (passT b st fi).2 c1 c2
      exact ⟨d1, d2, fun y y0 h => d3 y y0 (c3 y y0 h), fun y y0 h => d4 y y0 (c4 y y0 h)⟩
/-- Two lists of variables agree where it is set, and where they are not of D. -/
def agr (D : Int → Prop) (st : List Bool) (v v' : List Int) : Prop := v.length = 8 ∧ v'.length = 8 ∧ ∀ y : Int, 0 ≤ y → y < 8 → (rdB8 st y = true ∨ ¬ D y) → rd v y = rd v' y
/-- What is read first is not of D. -/
def off (D : Int → Prop) (fi : List Bool) : Prop := ∀ y : Int, 0 ≤ y → y < 8 → rdB8 fi y = true → ¬ D y
theorem off_up {D : Int → Prop} {a b : List Bool} (h : upTo a b) (hb : off D b) : off D a := fun y y0 y1 ha => hb y y0 y1 (h y y0 ha)
theorem agr_up {D : Int → Prop} {a b : List Bool} (h : upTo a b) {v v' : List Int} (hA : agr D b v v') : agr D a v v' := ⟨hA.1, hA.2.1, fun y y0 y1 o => hA.2.2 y y0 y1 (o.elim (fun q => .inl (h y y0 q)) .inr)⟩
theorem evalE_same {D : Int → Prop} {st fi : List Bool} {v v' : List Int} {a b c : Int} (he : exprOk a b c = true) (hA : agr D st v v') (hf : fi.length = 8) (hD : off D (readP st (rs b c) fi)) : evalE v a b c = evalE v' a b c := by
  have h2 := (exprOk_iff a b c).1 he
  have key : ∀ n, (n = b ∨ n = c) → opv v n = opv v' n := by
    intro n hn
    unfold opv
    split
    · rename_i hneg
      have hm : (-1 - n) ∈ rs b c := by
        rw [rs, (touch_at (readsL [b, c])).2.1]
        have w : wrap64 (-1 - n) = -1 - n := w64 (by omega) (by omega)
        rcases hn with e | e
        · subst e
          rw [readsL, if_pos hneg, w]
          exact List.mem_cons_self
        · subst e
          have : -1 - n ∈ readsL [n] := by
            rw [readsL, if_pos hneg, w]
            exact List.mem_cons_self
          rw [readsL]
          split
          · exact List.mem_cons_of_mem _ this
          · exact this
      have h8 := rs_in he _ hm
      refine hA.2.2 _ h8.1 h8.2 ?_
      rcases readP_in st _ (rs_in he) fi hf _ hm with q | q
      · exact .inl q
      · exact .inr (hD _ h8.1 h8.2 q)
    · rfl
  unfold evalE
  rw [key b (.inl rfl), key c (.inr rfl)]
/-- Two states that agree. -/
def same {ζ : Type} (D : Int → Prop) (st : List Bool) (s s' : List Int × List Int × Int × ζ) : Prop := agr D st s.1 s'.1 ∧ s.2 = s'.2
theorem agr_set {D : Int → Prop} {st : List Bool} (hs : st.length = 8) {v v' : List Int} (hA : agr D st v v') (i x : Int) (i0 : 0 ≤ i) (i1 : i < 8) : agr D (st.set i.toNat true) (v.set i.toNat x) (v'.set i.toNat x) := by
  obtain ⟨a1, a2, a3⟩ := hA
  refine ⟨by rw [List.length_set, a1], by rw [List.length_set, a2], fun y y0 y1 o => ?_⟩
  rw [rd_set8 v a1 i y x i0 i1 y0, rd_set8 v' a2 i y x i0 i1 y0]
  by_cases e : y = i
  · rw [if_pos e, if_pos e]
  · rw [if_neg e, if_neg e]
    refine a3 y y0 y1 (o.elim (fun q => .inl ?_) .inr)
    rw [rdB8_set st hs i y i0 i1 y0] at q
    simpa [e] using q
theorem step_ni {ζ : Type} (sn : ζ → Int → Int → ζ × Int) {D : Int → Prop} {x : S77} (hx : stOk x = true) (st fi : List Bool) (hs : st.length = 8) (hf : fi.length = 8) (hD : off D (rdS x st fi)) (s s' : List Int × List Int × Int × ζ) (h : same D st s s') :
    same D (stS x st) (effC sn s x).1 (effC sn s' x).1 ∧ (effC sn s x).2 = (effC sn s' x).2 := by
  obtain ⟨v, o⟩ := s
  obtain ⟨v', o'⟩ := s'
  obtain ⟨hA, ho⟩ := h
  simp only at hA ho
  subst ho
  obtain ⟨s, u, z⟩ := o
  have hev : x.f0 = 1 ∨ x.f0 = 3 ∨ x.f0 = 4 → evalE v x.f3.f0 x.f3.f1 x.f3.f2 = evalE v' x.f3.f0 x.f3.f1 x.f3.f2 := fun c => by
    unfold rdS at hD
    rw [if_pos c] at hD
    exact evalE_same (stmt_expr hx c) hA hf hD
  unfold effC stS
  simp only
  by_cases k2 : x.f0 = 2
  · rw [if_pos k2, if_pos k2, if_pos (.inr k2)]
    obtain ⟨i0, i1⟩ := stmt_var hx (.inr k2)
    exact ⟨⟨agr_set hs hA _ _ i0 i1, rfl⟩, rfl⟩
  rw [if_neg k2, if_neg k2]
  by_cases k1 : x.f0 = 1
  · rw [if_pos k1, if_pos k1, if_pos (.inl k1), hev (.inl k1)]
    obtain ⟨i0, i1⟩ := stmt_var hx (.inl k1)
    exact ⟨⟨agr_set hs hA _ _ i0 i1, rfl⟩, rfl⟩
  rw [if_neg k1, if_neg k1, if_neg (by omega)]
  by_cases k3 : x.f0 = 3
  · rw [if_pos k3, if_pos k3, hev (.inr (.inl k3))]
    exact ⟨⟨hA, rfl⟩, rfl⟩
  rw [if_neg k3, if_neg k3]
  by_cases k4 : x.f0 = 4
  · rw [if_pos k4, if_pos k4, hev (.inr (.inr k4))]
    exact ⟨⟨hA, rfl⟩, rfl⟩
  · rw [if_neg k4, if_neg k4]
    exact ⟨⟨hA, rfl⟩, rfl⟩
theorem rep_ni {ζ : Type} {D : Int → Prop} {st st1 : List Bool} {f : List Int × List Int × Int × ζ → List Int × List Int × Int × ζ} (h : ∀ s s', same D st s s' → same D st1 (f s) (f s')) (hu : upTo st st1) : ∀ (n : Nat) (s s' : List Int × List Int × Int × ζ), same D st s s' → same D st1 (rep f (n + 1) s) (rep f (n + 1) s')
  | 0, s, s', hs => h s s' hs
  | n + 1, s, s', hs => by
    have := h s s' hs
    rw [rep, rep]
    exact rep_ni h hu n _ _ ⟨agr_up hu this.1, this.2⟩
/-- Two runs that begin alike but for D, none of which is read first, go alike. -/
theorem run_ni {ζ : Type} (sn : ζ → Int → Int → ζ × Int) {D : Int → Prop} : ∀ (T : Bk), T.ok → (∀ s ∈ T.flat, stOk s = true) → ∀ (st fi : List Bool), st.length = 8 → fi.length = 8 → off D (passT T st fi).2 → ∀ s s', same D st s s' → same D (passT T st fi).1 (runT (effC sn) T s) (runT (effC sn) T s')
  | .nil, _, _, st, fi, _, _, _, s, s', h => h
  | .leaf x t, ok, hst, st, fi, hs, hf, hD, s, s', h => by
    have hx := hst x (by simp [Bk.flat])
    have ht : ∀ y ∈ t.flat, stOk y = true := fun y hy => hst y (by simp [Bk.flat, hy])
    rw [passT] at hD ⊢
    obtain ⟨a1, a2⟩ := stS_up hx st hs
    obtain ⟨b1, b2⟩ := rdS_up hx st fi hf
    obtain ⟨c1, c2, c3, c4⟩ := passT_up t ht (stS x st) (rdS x st fi) a1 b1
    obtain ⟨h1, _⟩ := step_ni sn hx st fi hs hf (off_up c4 hD) s s' h
    rw [runT, runT]
    exact run_ni sn t ok.2.2.2 ht _ _ a1 b1 hD _ _ h1
  | .node x b e t, ok, hst, st, fi, hs, hf, hD, s, s', h => by
    obtain ⟨o, ob, oc, ot⟩ := ok
    have hx := hst x (by simp [Bk.flat])
    have hb : ∀ y ∈ b.flat, stOk y = true := fun y hy => hst y (by simp [Bk.flat, hy])
    have ht : ∀ y ∈ t.flat, stOk y = true := fun y hy => hst y (by simp [Bk.flat, hy])
    rw [passT] at hD ⊢
    rw [runT, runT]
    have n1 : stS x st = st := by unfold stS; rw [if_neg (by omega)]
    by_cases h4 : x.f0 = 4
    · rw [if_pos h4] at hD ⊢
      obtain ⟨b1, b2⟩ := rdS_up hx st fi hf
      obtain ⟨c1, c2, c3, c4⟩ := passT_up b hb st (rdS x st fi) hs b1
      obtain ⟨d1, d2, d3, d4⟩ := passT_up t ht st (passT b st (rdS x st fi)).2 hs c2
      have hDb := off_up d4 hD
      obtain ⟨h1, h2⟩ := step_ni sn hx st fi hs hf (off_up c4 hDb) s s' h
      rw [n1] at h1
      refine run_ni sn t ot ht st _ hs c2 hD _ _ ?_
      rw [if_pos h4, if_pos h4, h2]
      split
      · have := run_ni sn b ob hb st _ hs b1 hDb _ _ h1
        exact ⟨agr_up c3 this.1, this.2⟩
      · exact h1
    · rw [if_neg h4] at hD ⊢
      have n2 : rdS x st fi = fi := by unfold rdS; rw [if_neg (by omega)]
      obtain ⟨c1, c2, c3, c4⟩ := passT_up b hb st fi hs hf
      obtain ⟨d1, d2, d3, d4⟩ := passT_up t ht (passT b st fi).1 (passT b st fi).2 c1 c2
      have hDb := off_up d4 hD
      obtain ⟨h1, h2⟩ := step_ni sn hx st fi hs hf (by rw [n2]; exact off_up c4 hDb) s s' h
      rw [n1] at h1
      refine run_ni sn t ot ht _ _ c1 c2 hD _ _ ?_
      rw [if_neg h4, if_neg h4]
      have hl := stOk_loop hx (by omega)
      obtain ⟨n, hn⟩ : ∃ n, x.f2.toNat = n + 1 := ⟨x.f2.toNat - 1, by omega⟩
      rw [hn]
      exact rep_ni (fun s s' q => run_ni sn b ob hb st fi hs hf hDb s s' q) c3 n _ _ h1
/-- What a block writes outside every 'if'. -/
def mustT : Bk → List Int
  | .nil => []
  | .leaf x t => if x.f0 = 1 ∨ x.f0 = 2 then x.f1 :: mustT t else mustT t
  | .node x b _ t => if x.f0 = 4 then mustT t else mustT b ++ mustT t
theorem mustT_nn : ∀ (T : Bk), (∀ s ∈ T.flat, stOk s = true) → ∀ y ∈ mustT T, 0 ≤ y
  | .nil, _, y, h => by simp [mustT] at h
  | .leaf x t, hst, y, h => by
    have ht := mustT_nn t (fun y hy => hst y (by simp [Bk.flat, hy]))
    rw [mustT] at h
    by_cases c : x.f0 = 1 ∨ x.f0 = 2
    · rw [if_pos c] at h
      rcases List.mem_cons.1 h with e | h
      · rw [e]
        exact (stmt_var (hst x (by simp [Bk.flat])) c).1
      · exact ht y h
    · rw [if_neg c] at h
      exact ht y h
  | .node x b e t, hst, y, h => by
    have hb := mustT_nn b (fun y hy => hst y (by simp [Bk.flat, hy]))
    have ht := mustT_nn t (fun y hy => hst y (by simp [Bk.flat, hy]))
    rw [mustT] at h
    split at h
    · exact ht y h
    · rcases List.mem_append.1 h with h | h
      · exact hb y h
      · exact ht y h
theorem mustT_set : ∀ (T : Bk), (∀ s ∈ T.flat, stOk s = true) → ∀ (st fi : List Bool), st.length = 8 → fi.length = 8 → ∀ y ∈ mustT T, rdB8 (passT T st fi).1 y = true
  | .nil, _, st, fi, _, _, y, h => by simp [mustT] at h
  | .leaf x t, hst, st, fi, hs, hf, y, h => by
    have hx := hst x (by simp [Bk.flat])
    have ht : ∀ y ∈ t.flat, stOk y = true := fun y hy => hst y (by simp [Bk.flat, hy])
    obtain ⟨a1, a2⟩ := stS_up hx st hs
    obtain ⟨b1, b2⟩ := rdS_up hx st fi hf
    rw [passT]
    rw [mustT] at h
    by_cases c : x.f0 = 1 ∨ x.f0 = 2
    · rw [if_pos c] at h
      rcases List.mem_cons.1 h with e | h
      · obtain ⟨i0, i1⟩ := stmt_var hx c
        subst e
        refine (passT_up t ht (stS x st) (rdS x st fi) a1 b1).2.2.1 _ i0 ?_
        unfold stS
        rw [if_pos c, rdB8_set st hs _ _ i0 i1 i0]
        simp
      · exact mustT_set t ht _ _ a1 b1 y h
    · rw [if_neg c] at h
      exact mustT_set t ht _ _ a1 b1 y h
  | .node x b e t, hst, st, fi, hs, hf, y, h => by
    have hx := hst x (by simp [Bk.flat])
    have hb : ∀ y ∈ b.flat, stOk y = true := fun y hy => hst y (by simp [Bk.flat, hy])
    have ht : ∀ y ∈ t.flat, stOk y = true := fun y hy => hst y (by simp [Bk.flat, hy])
    have rng : ∀ z ∈ mustT b, 0 ≤ z := mustT_nn b hb
    rw [passT]
    rw [mustT] at h
    by_cases h4 : x.f0 = 4
    · rw [if_pos h4] at h ⊢
      obtain ⟨b1, b2⟩ := rdS_up hx st fi hf
      obtain ⟨c1, c2, c3, c4⟩ := passT_up b hb st (rdS x st fi) hs b1
      exact mustT_set t ht _ _ hs c2 y h
    · rw [if_neg h4] at h ⊢
      obtain ⟨c1, c2, c3, c4⟩ := passT_up b hb st fi hs hf
      rcases List.mem_append.1 h with h | h
      · exact (passT_up t ht _ _ c1 c2).2.2.1 y (rng y h) (mustT_set b hb st fi hs hf y h)
      · exact mustT_set t ht _ _ c1 c2 y h
/-- A statement that writes is outside every 'if', or an 'if' holds it. -/
theorem must_or : ∀ (T : Bk), T.ok → ∀ (j : Nat) (x : S77), T.flat[j]? = some x → writes x = true → x.f1 ∈ mustT T ∨ ∃ (pre post : List S77) (y : S77) (b : Bk) (c : S77), T.flat = pre ++ y :: (b.flat ++ c :: post) ∧ y.f0 = 4 ∧ b.ok ∧ c.f0 = 6 ∧ pre.length < j ∧ j ≤ pre.length + b.flat.length
  | .nil, _, j, x, h, _ => by simp [Bk.flat] at h
  | .leaf s t, ok, j, x, h, w => by
    cases j with
    | zero =>
      simp only [Bk.flat, List.getElem?_cons_zero, Option.some.injEq] at h
      subst h
      refine .inl ?_
      unfold writes at w
      rw [mustT, if_pos (by simpa using w)]
      exact List.mem_cons_self
    | succ j =>
      simp only [Bk.flat, List.getElem?_cons_succ] at h
      rcases must_or t ok.2.2.2 j x h w with q | ⟨pre, post, y, b, c, e, q1, q2, q3, q4, q5⟩
      · refine .inl ?_
        rw [mustT]
        split
        · exact List.mem_cons_of_mem _ q
        · exact q
      · exact .inr ⟨s :: pre, post, y, b, c, by rw [Bk.flat, e]; rfl, q1, q2, q3, by simp; omega, by simp only [List.length_cons]; omega⟩
  | .node s b0 e0 t, ok, j, x, h, w => by
    obtain ⟨os, ob, oc, ot⟩ := ok
    have hw : x.f0 = 1 ∨ x.f0 = 2 := by
      unfold writes at w
      simpa using w
    cases j with
    | zero =>
      simp only [Bk.flat, List.getElem?_cons_zero, Option.some.injEq] at h
      subst h
      omega
    | succ j =>
      simp only [Bk.flat, List.getElem?_cons_succ] at h
      by_cases q : j < b0.flat.length
      · by_cases h4 : s.f0 = 4
        · exact .inr ⟨[], t.flat, s, b0, e0, rfl, h4, ob, oc, by simp, by simp only [List.length_nil]; omega⟩
        · rw [List.getElem?_append_left q] at h
          rcases must_or b0 ob j x h w with q | ⟨pre, post, y, b, c, e, q1, q2, q3, q4, q5⟩
          · refine .inl ?_
            rw [mustT, if_neg h4]
            exact List.mem_append.2 (.inl q)
          · exact .inr ⟨s :: pre, post ++ e0 :: t.flat, y, b, c, by rw [Bk.flat, e]; simp, q1, q2, q3, by simp; omega, by simp only [List.length_cons]; omega⟩
      · rw [List.getElem?_append_right (by omega)] at h
        obtain ⟨i, hi⟩ : ∃ i, j - b0.flat.length = i := ⟨_, rfl⟩
        rw [hi] at h
        cases i with
        | zero =>
          simp only [List.getElem?_cons_zero, Option.some.injEq] at h
          subst h
          omega
        | succ i =>
          simp only [List.getElem?_cons_succ] at h
          rcases must_or t ot i x h w with q | ⟨pre, post, y, b, c, e, q1, q2, q3, q4, q5⟩
          · refine .inl ?_
            rw [mustT]
            split
            · exact q
            · exact List.mem_append.2 (.inr q)
          · exact .inr ⟨s :: (b0.flat ++ e0 :: pre), post, y, b, c, by rw [Bk.flat, e]; simp, q1, q2, q3, by simp only [List.length_cons, List.length_append]; omega, by simp only [List.length_cons, List.length_append]; omega⟩
theorem markN_rd (g : List Bool) (a : Nat) : ∀ (m : Nat) (p : Int), 0 ≤ p → p < (g.length : Int) → (rdB g p = true → rdB (markN g a m) p = true) ∧ ((a : Int) ≤ p → p < (a : Int) + (m : Int) → rdB (markN g a m) p = true)
  | 0, p, p0, p1 => ⟨fun h => h, fun h1 h2 => by omega⟩
  | m + 1, p, p0, p1 => by
    obtain ⟨h1, h2⟩ := markN_rd g a m p p0 p1
    have hl := markN_len g a m
    rw [markN]
    have key : rdB ((markN g a m).set (a + m) true) p = (decide (p.toNat = a + m) || rdB (markN g a m) p) := by
      unfold rdB rdOf
      rw [List.getD_eq_getElem?_getD, List.getD_eq_getElem?_getD]
      by_cases e : p.toNat = a + m
      · rw [e, List.getElem?_set_self (by omega)]
        simp
      · rw [List.getElem?_set_ne (by omega)]
        simp [e]
    rw [key]
    constructor
    · intro h
      rw [h1 h]
      simp
    · intro q1 q2
      by_cases e : p.toNat = a + m
      · simp [e]
      · rw [h2 q1 (by omega)]
        simp
theorem guardL_up (k : Nat) (l : List S77) : ∀ (d : Nat) (i : Int) (g G : List Bool), guardL k l d i g = some G → ∀ p : Int, 0 ≤ p → p < (g.length : Int) → rdB g p = true → rdB G p = true
  | 0, i, g, G, h, p, p0, p1, hp => by
    rw [guardL, Option.some.injEq] at h
    rw [← h]
    exact hp
  | d + 1, i, g, G, h, p, p0, p1, hp => by
    rw [guardL] at h
    split at h
    · rw [Option.bind_eq_some_iff] at h
      obtain ⟨e, _, h⟩ := h
      split at h
      · exact guardL_up k l d _ _ G h p p0 (by rw [markN_len]; exact p1) ((markN_rd g _ _ p p0 p1).1 hp)
      · simp at h
    · exact guardL_up k l d _ _ G h p p0 p1 hp
theorem guardL_mark (k : Nat) (l : List S77) : ∀ (d : Nat) (i : Int) (g G : List Bool), 0 ≤ i → i + (d : Int) = (l.length : Int) → g.length = l.length → guardL k l d i g = some G → ∀ a : Int, i ≤ a → a < (l.length : Int) → (rd_T77 l a).f0 = 4 → ∀ e, impl_endOf.f k l a = some e → ∀ p : Int, a ≤ p → p ≤ e → rdB G p = true
  | 0, i, g, G, i0, hi, hg, h, a, ia, al, a4, e, he, p, pa, pe => by omega
  | d + 1, i, g, G, i0, hi, hg, h, a, ia, al, a4, e, he, p, pa, pe => by
    rw [guardL] at h
    by_cases ei : a = i
    · subst ei
      rw [if_pos a4, he] at h
      simp only [Option.bind_some] at h
      by_cases c : e < (l.length : Int)
      · rw [if_pos c] at h
        refine guardL_up k l d _ _ G h p (by omega) (by rw [markN_len]; omega) ?_
        exact (markN_rd g _ _ p (by omega) (by omega)).2 (by omega) (by omega)
      · rw [if_neg c] at h
        simp at h
    · split at h
      · rw [Option.bind_eq_some_iff] at h
        obtain ⟨e2, _, h⟩ := h
        split at h
        · exact guardL_mark k l d (i + 1) _ G (by omega) (by omega) (by rw [markN_len]; exact hg) h a (by omega) al a4 e he p pa pe
        · simp at h
      · exact guardL_mark k l d (i + 1) _ G (by omega) (by omega) hg h a (by omega) al a4 e he p pa pe
theorem writtenL_at (q : Int → Bool) : ∀ (l : List S77) (i y : Int), y ∈ writtenL q l i → ∃ (j : Nat) (x : S77), l[j]? = some x ∧ writes x = true ∧ x.f1 = y ∧ q (i + (j : Int)) = true
  | [], i, y, h => by simp [writtenL] at h
  | x :: r, i, y, h => by
    rw [writtenL] at h
    have tl : y ∈ writtenL q r (i + 1) → ∃ (j : Nat) (z : S77), (x :: r)[j]? = some z ∧ writes z = true ∧ z.f1 = y ∧ q (i + (j : Int)) = true := fun h => by
      obtain ⟨j, z, h1, h2, h3, h4⟩ := writtenL_at q r (i + 1) y h
      exact ⟨j + 1, z, by simpa using h1, h2, h3, by rw [show i + ((j + 1 : Nat) : Int) = i + 1 + (j : Int) by omega]; exact h4⟩
    split at h
    · rename_i c
      rcases List.mem_cons.1 h with e | h
      · exact ⟨0, x, by simp, c.1, e.symm, by simpa using c.2⟩
      · exact tl h
    · exact tl h
/-- What must be written is set behind the pass. -/
theorem must_sub (T : Bk) (ok : T.ok) (hl : T.flat.length ≤ 1048576) (k : Nat) (hk : 2 * T.flat.length + 4 < k) (G : List Bool) (hG : guardL k T.flat T.flat.length 0 (List.replicate T.flat.length false) = some G) (y : Int) (hy : y ∈ touch (writtenL (fun i => !rdB G i) T.flat 0)) : y ∈ mustT T := by
  rw [(touch_at _).2.1] at hy
  obtain ⟨j, x, h1, h2, h3, h4⟩ := writtenL_at _ _ 0 y hy
  rcases must_or T ok j x h1 h2 with q | ⟨pre, post, s, b, c, e, q1, q2, q3, q4, q5⟩
  · rw [← h3]
    exact q
  · exfalso
    have hlen : T.flat.length = pre.length + (b.flat.length + post.length + 2) := by
      rw [e]
      simp only [List.length_append, List.length_cons]
      omega
    have hend := endI_at pre post s c b q2 (.inl q1) q3 (pre.length : Int) rfl (by rw [← e]; exact hl) k (by omega)
    rw [← e] at hend
    have hs : rd_T77 T.flat (pre.length : Int) = s := by rw [e]; exact at_mid pre _ s rfl
    have := guardL_mark k T.flat T.flat.length 0 _ G (by omega) (by omega) (by simp) hG (pre.length : Int) (by omega) (by omega) (by rw [hs]; exact q1) _ hend (j : Int) (by omega) (by omega)
    have h5 : (!rdB G (0 + (j : Int))) = true := h4
    rw [Int.zero_add, this] at h5
    simp at h5
theorem z8_no (y : Int) (y0 : 0 ≤ y) (y1 : y < 8) : rdB8 z8 y = false := by
  have : y = 0 ∨ y = 1 ∨ y = 2 ∨ y = 3 ∨ y = 4 ∨ y = 5 ∨ y = 6 ∨ y = 7 := by omega
  rcases this with e | e | e | e | e | e | e | e <;> subst e <;> rfl
theorem eq_of_rd {v v' : List Int} (h : v.length = 8) (h' : v'.length = 8) (hr : ∀ y : Int, 0 ≤ y → y < 8 → rd v y = rd v' y) : v = v' := by
  refine List.ext_getElem (by omega) fun i h1 h2 => ?_
  have := hr (i : Int) (by omega) (by omega)
  unfold rd at this
  rw [Int.toNat_natCast, List.getD_eq_getElem?_getD, List.getD_eq_getElem?_getD, List.getElem?_eq_getElem h1, List.getElem?_eq_getElem h2] at this
  exact this
/-- A task whose variables differ only where it never reads first. -/
theorem task_ni {ζ : Type} (sn : ζ → Int → Int → ζ × Int) (T : Bk) (ok : T.ok) (hst : ∀ s ∈ T.flat, stOk s = true) {a b c : Int} (he : exprOk a b c = true) (D : Int → Prop) (hD : ∀ y : Int, D y → y ∉ firstT T b c) {v v' : List Int} (h8 : v.length = 8) (h8' : v'.length = 8) (hag : ∀ y : Int, 0 ≤ y → y < 8 → ¬ D y → rd v y = rd v' y) (z : ζ) :
    same D (passT T z8 z8).1 (effRun sn T v z) (effRun sn T v' z) ∧ evalE (effRun sn T v z).1 a b c = evalE (effRun sn T v' z).1 a b c := by
  obtain ⟨p1, p2, _, _⟩ := passT_up T hst z8 z8 rfl rfl
  have hoff : off D (readP (passT T z8 z8).1 (rs b c) (passT T z8 z8).2) := fun y y0 y1 h d => hD y d (firstL_mem _ 8 0 y y0 (by omega) h)
  have hA : agr D z8 v v' := ⟨h8, h8', fun y y0 y1 o => hag y y0 y1 (o.elim (fun q => by rw [z8_no y y0 y1] at q; simp at q) id)⟩
  have hr := run_ni sn T ok hst z8 z8 rfl rfl (off_up (fun y y0 h => readP_up _ _ (rs_in he) _ p2 y y0 h) hoff) (v, [], 0, z) (v', [], 0, z) ⟨hA, rfl⟩
  exact ⟨hr, evalE_same he hr.1 p2 hoff⟩
theorem nextT_same (l : List S34) {v v' : List Int} {i : Int} (h : evalE v (rd_T34 l i).f1.f0 (rd_T34 l i).f1.f1 (rd_T34 l i).f1.f2 = evalE v' (rd_T34 l i).f1.f0 (rd_T34 l i).f1.f1 (rd_T34 l i).f1.f2) : nextT l v i = nextT l v' i := by
  unfold nextT
  rw [h]
theorem sameInts_l (a : List Int) (hb : a.length ≤ 35184372088832) (d : Nat) : ∀ (k : Nat) (i : Int), 0 ≤ i → i + (d : Int) = (a.length : Int) → d < k →
    laws_sameInts.l0 k a a i = some true := by
  induction d with
  | zero =>
    intro k i h0 hi hk
    obtain ⟨k, rfl⟩ := succ_of hk
    simp only [laws_sameInts.l0]
    rw [if_neg (by omega)]
  | succ d ih =>
    intro k i h0 hi hk
    obtain ⟨k, rfl⟩ := succ_of hk
    simp only [laws_sameInts.l0]
    rw [if_pos (by omega), if_pos h0, if_pos (by omega), if_pos trivial, w64 (by omega) (by omega)]
    exact ih k (i + 1) (by omega) (by omega) (by omega)
theorem sameInts_at (a : List Int) (hb : a.length ≤ 35184372088832) (k : Nat) (hk : a.length < k) : laws_sameInts.f k a a = some true := by
  unfold laws_sameInts.f
  rw [if_pos rfl]
  exact sameInts_l a hb a.length k 0 (by omega) (by omega) hk
theorem big_eq (l : List Int) : laws_big.f l = some (decide ((l.length : Int) > 1048576)) := rfl
/-- What must be logged: what may be written, but for what is never read first and always written. -/
def logOf (ws fs ms : List Int) : List Int := ws.filter fun x => !(!decide (x ∈ fs) && decide (x ∈ ms))
theorem mustLog_at {l : List S77} (hb : blockOk l = true) {a b c : Int} (he : exprOk a b c = true) (T : Bk) (ok : T.ok) (hT : T.flat = l) : ∃ k0 G, (∃ k1, 100 < k1 ∧ guardL k1 l l.length 0 (List.replicate l.length false) = some G) ∧ ∀ k, k0 ≤ k → impl_MustLog.f k l a b c = some (logOf (touch (writtenL (fun _ => true) l 0)) (firstT T b c) (touch (writtenL (fun i => !rdB G i) l 0))) := by
  obtain ⟨_, _, _, h24, _⟩ := blockOk_tree hb
  obtain ⟨k, ef⟩ := mrf_at hb he T ok hT
  obtain ⟨G, hG, em⟩ := mustW_at hb (k + 101) (by omega)
  obtain ⟨_, _, lb⟩ := touch_at (writtenL (fun i => !rdB G i) l 0)
  have hbl := writtenL_len (fun i => !rdB G i) l 0
  refine ⟨k + 101, G, ⟨k + 101, by omega, hG⟩, fun k' hk => le_of_mono (fun k => impl_MustLog.mono l a b c k) (k := k + 101) ?_ hk⟩
  unfold impl_MustLog.f
  rw [taskI_at hb he _ (by omega)]
  simp only [Option.bind_some, if_true]
  have hfl := firstL_len (readP (passT T z8 z8).1 (rs b c) (passT T z8 z8).2) 8 0
  rw [ef _ (by omega), em, mayW_at hb (k + 101) (by omega)]
  simp only [Option.bind_some]
  rw [if_pos ⟨by unfold firstT; omega, by omega⟩]
  rfl
theorem fnUnlogged_l (v r x may log : List Int) (p : List S34) (l1 : may.length ≤ 1048576) (l2 : log.length ≤ 1048576) (x12 : x.length = 12) (xb : ∀ y ∈ x, 0 ≤ y ∧ y < 10000) (k0 : Nat)
    (fin : ∀ ch k, vok ch → (∀ y : Int, 0 ≤ y → y < 8 → ¬ (y ∈ may ∧ y ∉ log) → rd v y = rd ch y) → k0 ≤ k → laws_FnUnlogged.l0 k v r x may log ch 8 p = some true) (d : Nat) :
    ∀ (k : Nat) (i : Int) (ch : List Int), 0 ≤ i → i + (d : Int) = 8 → vok ch → (∀ y : Int, 0 ≤ y → y < 8 → ¬ (y ∈ may ∧ y ∉ log) → rd v y = rd ch y) → d + k0 + 1048577 < k → laws_FnUnlogged.l0 k v r x may log ch i p = some true := by
  induction d with
  | zero =>
    intro k i ch h0 hi hv hs hk
    have e : i = 8 := by omega
    rw [e]
    exact fin ch k hv hs (by omega)
  | succ d ih =>
    intro k i ch h0 hi hv hs hk
    obtain ⟨k, rfl⟩ := succ_of (show 0 < k by omega)
    have a0 := rd_all xb (i := i) h0 (by omega)
    rw [laws_FnUnlogged.l0, if_pos (by omega), w64 (x := i + 1) (by omega) (by omega), has_at may l1 i k (by omega), has_at log l2 i k (by omega)]
    simp only [Option.bind_some, decide_eq_true_eq]
    by_cases c1 : i ∈ may
    · rw [if_pos c1]
      by_cases c2 : i ∈ log
      · rw [if_pos c2]
        exact ih k (i + 1) ch (by omega) (by omega) hv hs (by omega)
      · rw [if_neg c2, if_pos h0, if_pos (by omega), if_pos (by rw [hv.1]; omega), w64 (x := rd x i - 5000) (by omega) (by omega)]
        refine ih k (i + 1) _ (by omega) (by omega) (vok_set hv _ (by omega)) (fun y y0 y1 hn => ?_) (by omega)
        rw [rd_set8 ch hv.1 i y _ h0 (by omega) y0]
        by_cases e : y = i
        · subst e
          exact absurd ⟨c1, c2⟩ hn
        · rw [if_neg e]
          exact hs y y0 y1 hn
    · rw [if_neg c1]
      exact ih k (i + 1) ch (by omega) (by omega) hv hs (by omega)
theorem FnUnlogged : laws_FnUnlogged.Pure := by
  intro b _ _ _
  by_cases hl : (b.length : Int) > 1048576
  · refine ⟨1, ?_⟩
    unfold laws_FnUnlogged.f
    rw [big_eq]
    simp only [Option.bind_some, decide_eq_true_eq]
    rw [if_pos hl]
  obtain ⟨p, ep0, hp, hp3⟩ := drawProgram_at b (by omega) (b.length + 2097200) (by omega)
  have hp0 : 0 < (p.length : Int) := by
    rw [progOk, Bool.and_eq_true, decide_eq_true_eq] at hp
    omega
  obtain ⟨_, hb0, he0⟩ := progOk_task hp (i := 0) (by omega) hp0
  obtain ⟨T, ok, hT, h24, hst⟩ := blockOk_tree hb0
  obtain ⟨k0, G, ⟨k1, hk1, hG⟩, hF⟩ := mustLog_at hb0 he0 T ok hT
  obtain ⟨K, hK, hK0⟩ : ∃ K, b.length + 3000000000000 ≤ K ∧ k0 ≤ K := ⟨b.length + 3000000000000 + k0, by omega, by omega⟩
  refine ⟨K + 1, ?_⟩
  have ep := le_of_mono (fun k => spec_DrawProgram.mono b k) ep0 (k' := K + 1) (by omega)
  obtain ⟨v, ev, hv8, hv⟩ := drawVars_at b (by omega) (K + 1) (by omega)
  obtain ⟨r, er, _, _, hr0⟩ := drawReadings_at b (by omega) (K + 1) (by omega) (by omega)
  obtain ⟨x, ex, x12, xb⟩ := places_at b (by omega) (K + 1) (by omega) (by omega)
  have hr : r.all valP = true := by
    rw [List.all_eq_true]
    intro x hx
    have := hr0 x hx
    exact (valP_iff x).2 (by omega)
  unfold laws_FnUnlogged.f
  rw [big_eq]
  simp only [Option.bind_some, decide_eq_true_eq]
  rw [if_neg hl]
  simp only [ep, ev, er, ex, Option.bind_some]
  rw [if_pos hp0, mayW_at hb0 (K + 1) (by omega)]
  simp only [Option.bind_some]
  rw [hF (K + 1) (by omega)]
  simp only [Option.bind_some, List.nil_append, List.length_nil]
  rw [if_pos (by omega)]
  obtain ⟨_, _, la⟩ := touch_at (writtenL (fun _ => true) (rd_T34 p 0).f0 0)
  have hla := writtenL_len (fun _ => true) (rd_T34 p 0).f0 0
  have hlo : (logOf (touch (writtenL (fun _ => true) (rd_T34 p 0).f0 0)) (firstT T (rd_T34 p 0).f1.f1 (rd_T34 p 0).f1.f2) (touch (writtenL (fun i => !rdB G i) (rd_T34 p 0).f0 0))).length ≤ 1048576 := by
    unfold logOf
    have := List.length_filter_le (fun x => !(!decide (x ∈ firstT T (rd_T34 p 0).f1.f1 (rd_T34 p 0).f1.f2) && decide (x ∈ touch (writtenL (fun i => !rdB G i) (rd_T34 p 0).f0 0)))) (touch (writtenL (fun _ => true) (rd_T34 p 0).f0 0))
    omega
  refine fnUnlogged_l v r x _ _ p (by omega) hlo x12 xb 2000000000000 (fun ch k hc hs hk => ?_) 8 (K + 1) 0 v (by omega) (by omega) ⟨hv8, hv⟩ (fun _ _ _ _ => rfl) (by omega)
  obtain ⟨k, rfl⟩ := succ_of (show 0 < k by omega)
  obtain ⟨e1, i1⟩ := taskEffI_at p hp ⟨hv8, hv⟩ (i := 0) (by omega) hp0 hr T ok hT k (by omega)
  obtain ⟨e2, i2⟩ := taskEffI_at p hp hc (i := 0) (by omega) hp0 hr T ok hT k (by omega)
  have hst' : ∀ s ∈ T.flat, stOk s = true := by rw [hT]; exact hst
  have hD : ∀ y : Int, (y ∈ touch (writtenL (fun _ => true) (rd_T34 p 0).f0 0) ∧ y ∉ logOf (touch (writtenL (fun _ => true) (rd_T34 p 0).f0 0)) (firstT T (rd_T34 p 0).f1.f1 (rd_T34 p 0).f1.f2) (touch (writtenL (fun i => !rdB G i) (rd_T34 p 0).f0 0))) → y ∉ firstT T (rd_T34 p 0).f1.f1 (rd_T34 p 0).f1.f2 ∧ y ∈ touch (writtenL (fun i => !rdB G i) (rd_T34 p 0).f0 0) := by
    intro y hy
    obtain ⟨h1, h2⟩ := hy
    unfold logOf at h2
    rw [List.mem_filter] at h2
    by_cases c1 : y ∈ firstT T (rd_T34 p 0).f1.f1 (rd_T34 p 0).f1.f2
    · exact absurd ⟨h1, by simp [c1]⟩ h2
    · by_cases c2 : y ∈ touch (writtenL (fun i => !rdB G i) (rd_T34 p 0).f0 0)
      · exact ⟨c1, c2⟩
      · exact absurd ⟨h1, by simp [c2]⟩ h2
  obtain ⟨⟨⟨a1, a2, a3⟩, hsm⟩, hev⟩ := task_ni (usedN r) T ok hst' he0 _ (fun y hy => (hD y hy).1) hv8 hc.1 hs ()
  have hV : (effRun (usedN r) T v ()).1 = (effRun (usedN r) T ch ()).1 := by
    refine eq_of_rd a1 a2 (fun y y0 y1 => a3 y y0 y1 ?_)
    by_cases c : y ∈ touch (writtenL (fun _ => true) (rd_T34 p 0).f0 0) ∧ y ∉ logOf (touch (writtenL (fun _ => true) (rd_T34 p 0).f0 0)) (firstT T (rd_T34 p 0).f1.f1 (rd_T34 p 0).f1.f2) (touch (writtenL (fun i => !rdB G i) (rd_T34 p 0).f0 0))
    · exact .inl (mustT_set T hst' z8 z8 rfl rfl y (must_sub T ok (by rw [hT]; omega) k1 (by rw [hT]; omega) G (by rw [hT]; exact hG) y (by rw [hT]; exact (hD y c).2)))
    · exact .inr c
  have hsl : (effRun (usedN r) T v ()).2.1.length ≤ 282429536481 := by
    have := i1.2.2.1
    have h2 := i1.2.1
    have := lng_24 ok hst' (by rw [hT]; exact h24)
    omega
  rw [laws_FnUnlogged.l0, if_neg (by omega), e1, e2]
  simp only [Option.bind_some, if_true]
  unfold laws_sameEffect.f
  rw [← hV, ← hsm, sameInts_at _ (by rw [a1]; omega) k (by rw [a1]; omega)]
  simp only [Option.bind_some, if_true]
  rw [sameInts_at _ (by omega) k (by omega)]
  simp

end Go.Proofs.Ytakhaknglhgimaa.Pure
