/- The law FnExactLostWork: for every input the function answers true. No condition. -/
import Derived.Test.YtaicbghmfeehkaaGx8
namespace Go.Proofs.Ytaicbghmfeehkaa.Pure
open Go.RowKit Go.Proofs.Ytaicbghmfeehkaa.G Go.Proofs.YtaicbghmfeehkaaW.PrintWords Go.Proofs.YtaicbghmfeehkaaW.PrintLast
set_option linter.unusedVariables false
set_option linter.unusedSimpArgs false

theorem w64 {x : Int} (h : -9223372036854775808 ≤ x) (h2 : x ≤ 9223372036854775807) : wrap64 x = x := by
  unfold wrap64
  omega
theorem wf_i64 {x : Int} (h : (Lit.int .i64 x).wf = true) : -9223372036854775808 ≤ x ∧ x ≤ 9223372036854775807 := by
  simp only [Lit.wf, IntKind.min, IntKind.max, IntKind.signed, IntKind.bits, Bool.and_eq_true, decide_eq_true_eq, if_true] at h
  omega
theorem succ_of {k d : Nat} (h : d < k) : ∃ m, k = m + 1 := ⟨k - 1, by omega⟩
theorem rd_eq {l : List Int} {i : Int} (h0 : 0 ≤ i) (h : i < (l.length : Int)) : l[i.toNat]? = some (rd l i) := by
  unfold rd
  rw [List.getD_eq_getElem?_getD, List.getElem?_eq_getElem (by omega)]
  rfl
theorem drop_rd {l : List Int} {i : Int} (h0 : 0 ≤ i) (h : i < (l.length : Int)) : l.drop i.toNat = rd l i :: l.drop (i + 1).toNat := by
  have h1 : i.toNat < l.length := by omega
  have h2 : (i + 1).toNat = i.toNat + 1 := by omega
  have h3 := rd_eq h0 h
  rw [h2, List.drop_eq_getElem_cons h1]
  rw [List.getElem?_eq_getElem h1] at h3
  rw [Option.some.inj h3]
/-- The numbers a, a + 1, .. : n of them. -/
def marks (a : Int) (n : Nat) : List Int := (List.range n).map fun j : Nat => a + (j : Int)
theorem marks_len (a : Int) (n : Nat) : (marks a n).length = n := by simp [marks]
theorem marks_get (a : Int) (n i : Nat) (h : i < n) : (marks a n)[i]? = some (a + (i : Int)) := by simp [marks, h]
theorem rd_all {P : Int → Prop} {l : List Int} (h : ∀ x ∈ l, P x) {i : Int} (h0 : 0 ≤ i) (h1 : i < (l.length : Int)) : P (rd l i) := h _ (List.mem_of_getElem? (rd_eq h0 h1))
theorem getD_rd {α : Type} (z : α) {l : List α} {i : Int} (h0 : 0 ≤ i) (h : i < (l.length : Int)) : l[i.toNat]? = some (l.getD i.toNat z) := by
  rw [List.getD_eq_getElem?_getD, List.getElem?_eq_getElem (by omega)]
  rfl
theorem drop_getD {α : Type} (z : α) {l : List α} {i : Int} (h0 : 0 ≤ i) (h : i < (l.length : Int)) : l.drop i.toNat = l.getD i.toNat z :: l.drop (i + 1).toNat := by
  have h1 : i.toNat < l.length := by omega
  have h2 : (i + 1).toNat = i.toNat + 1 := by omega
  have h3 := getD_rd z h0 h
  rw [h2, List.drop_eq_getElem_cons h1]
  rw [List.getElem?_eq_getElem h1] at h3
  rw [Option.some.inj h3]
theorem getD_mem {α : Type} (z : α) {l : List α} {i : Int} (h0 : 0 ≤ i) (h : i < (l.length : Int)) : l.getD i.toNat z ∈ l := List.mem_of_getElem? (getD_rd z h0 h)
theorem toIntS_l (l : List Int) (hl : l.length ≤ 35184372088832) (d : Nat) : ∀ (k : Nat) (x : List Int) (i : Int), 0 ≤ i → x.length = l.length → i + (d : Int) = (l.length : Int) → (∀ j : Nat, (j : Int) < i → x[j]? = l[j]?) → d < k →
    laws_toIntS.l0 k l x i = some l := by
  induction d with
  | zero =>
    intro k x i h0 hx hi hj hk
    obtain ⟨k, rfl⟩ := succ_of hk
    simp only [laws_toIntS.l0]
    rw [if_neg (by omega)]
    congr 1
    apply List.ext_getElem?
    intro j
    by_cases h : (j : Int) < i
    · exact hj j h
    · rw [List.getElem?_eq_none (by omega), List.getElem?_eq_none (by omega)]
  | succ d ih =>
    intro k x i h0 hx hi hj hk
    obtain ⟨k, rfl⟩ := succ_of hk
    simp only [laws_toIntS.l0]
    rw [if_pos (by omega), if_pos h0, if_pos (by omega), w64 (by omega) (by omega)]
    refine ih k _ (i + 1) (by omega) (by simpa using hx) (by omega) (fun j h => ?_) (by omega)
    rw [List.getElem?_set]
    by_cases e : i.toNat = j
    · subst e
      rw [if_pos rfl, if_pos (by omega), rd_eq h0 (by omega)]
    · rw [if_neg e]
      exact hj j (by omega)
theorem toIntS_at (l : List Int) (hl : l.length ≤ 35184372088832) (k : Nat) (hk : l.length < k) : laws_toIntS.f k l = some l := by
  unfold laws_toIntS.f
  rw [if_pos (by omega), if_pos (by omega)]
  exact toIntS_l l hl l.length k _ 0 (by omega) (by simp) (by omega) (fun j h => by omega) hk
theorem eqIntS_l (a b : List Int) (hl : a.length = b.length) (hb : a.length ≤ 35184372088832) (d : Nat) : ∀ (k : Nat) (i : Int), 0 ≤ i → i + (d : Int) = (a.length : Int) → d < k →
    laws_eqIntS.l0 k a b i = some (decide (a.drop i.toNat = b.drop i.toNat)) := by
  induction d with
  | zero =>
    intro k i h0 hi hk
    obtain ⟨k, rfl⟩ := succ_of hk
    simp only [laws_eqIntS.l0]
    rw [if_neg (by omega), List.drop_eq_nil_of_le (by omega), List.drop_eq_nil_of_le (by omega)]
    simp
  | succ d ih =>
    intro k i h0 hi hk
    obtain ⟨k, rfl⟩ := succ_of hk
    simp only [laws_eqIntS.l0]
    rw [if_pos (by omega), if_pos h0, if_pos (by omega), w64 (by omega) (by omega), drop_rd h0 (by omega), drop_rd h0 (by omega), ih k (i + 1) (by omega) (by omega) (by omega)]
    by_cases e : rd a i = rd b i
    · rw [if_pos e]
      simp [e]
    · rw [if_neg e]
      simp [e]
theorem eqIntS_at (a b : List Int) (hb : a.length ≤ 35184372088832) (k : Nat) (hk : a.length < k) : laws_eqIntS.f k a b = some (decide (a = b)) := by
  unfold laws_eqIntS.f
  by_cases hl : a.length = b.length
  · rw [if_pos (by omega), eqIntS_l a b hl hb a.length k 0 (by omega) (by omega) hk]
    simp
  · rw [if_neg (by omega)]
    have : a ≠ b := fun e => hl (by rw [e])
    simp [this]
theorem eqIntS_same (a : List Int) (hb : a.length ≤ 35184372088832) (k : Nat) (hk : a.length < k) : laws_eqIntS.f k a a = some true := by
  rw [eqIntS_at a a hb k hk]
  simp
theorem l01In_eq (a b c : Int) : spec_l01In.f a b c = some (decide (b ≤ a ∧ a ≤ c)) := by
  unfold spec_l01In.f
  by_cases h : b ≤ a <;> simp [h]
theorem within_eq (a b c : Int) : impl_within.f a b c = some (decide (b ≤ a ∧ a ≤ c)) := by
  unfold impl_within.f
  by_cases h : b ≤ a <;> simp [h]
theorem packI_ok (a b c : Int) : ∃ r, impl_PackControl.f a b c = some r := by
  unfold impl_PackControl.f
  simp only [within_eq, Option.bind_some]
  split
  · split
    · split
      · exact ⟨_, rfl⟩
      · exact ⟨_, rfl⟩
    · exact ⟨_, rfl⟩
  · exact ⟨_, rfl⟩
theorem pack_eq (a b c : Int) : spec_PackControl.f a b c = impl_PackControl.f a b c := by
  unfold spec_PackControl.f impl_PackControl.f
  simp only [within_eq, l01In_eq]
theorem packI_le {a b c r : Int} (h : impl_PackControl.f a b c = some r) : r ≤ 100000 := by
  unfold impl_PackControl.f at h
  simp only [within_eq, Option.bind_some, decide_eq_true_eq] at h
  by_cases h1 : 0 ≤ a ∧ a ≤ 5
  · rw [if_pos h1] at h
    by_cases h2 : 0 ≤ b ∧ b ≤ 8
    · rw [if_pos h2] at h
      by_cases h3 : 0 ≤ c ∧ c ≤ 24
      · rw [if_pos h3] at h
        rw [w64 (x := 16 * c) (by omega) (by omega), w64 (x := b + 16 * c) (by omega) (by omega), w64 (x := 8 * (b + 16 * c)) (by omega) (by omega), w64 (by omega) (by omega)] at h
        have := Option.some.inj h
        omega
      · rw [if_neg h3] at h
        have := Option.some.inj h
        omega
    · rw [if_neg h2] at h
      have := Option.some.inj h
      omega
  · rw [if_neg h1] at h
    have := Option.some.inj h
    omega
theorem unpackI_ok (a : Int) : ∃ r, impl_UnpackControl.f a = some r := by
  unfold impl_UnpackControl.f
  split
  · exact ⟨_, rfl⟩
  · obtain ⟨r, h⟩ := packI_ok (Int.tmod a 8) (Int.tmod (wrap64 (Int.tdiv a 8)) 16) (wrap64 (Int.tdiv a 128))
    rw [h]
    simp only [Option.bind_some]
    split
    · exact ⟨_, rfl⟩
    · exact ⟨_, rfl⟩
theorem unpack_eq (a : Int) (k : Nat) (hk : 0 < k) : spec_UnpackControl.f k a = impl_UnpackControl.f a := by
  obtain ⟨k, rfl⟩ := succ_of hk
  unfold spec_UnpackControl.f impl_UnpackControl.f
  by_cases h : a < 0
  · rw [if_pos h, if_pos h]
    simp [spec_UnpackControl.j0]
  · rw [if_neg h, if_neg h]
    simp only [spec_UnpackControl.j0, decide_eq_true_eq, pack_eq]
    by_cases h2 : a > 100000
    · rw [if_pos h2]
      obtain ⟨r, e⟩ := packI_ok (Int.tmod a 8) (Int.tmod (wrap64 (Int.tdiv a 8)) 16) (wrap64 (Int.tdiv a 128))
      have := packI_le e
      rw [e]
      simp only [Option.bind_some]
      rw [if_neg (by omega)]
    · rw [if_neg h2]
theorem operandS_eq (x : Int) : spec_OperandOk.f x = some (decide (-8 ≤ x ∧ x ≤ 999)) := by unfold spec_OperandOk.f; rw [l01In_eq]; rfl
theorem operandI_eq (x : Int) : impl_OperandOk.f x = some (decide (-8 ≤ x ∧ x ≤ 999)) := by unfold impl_OperandOk.f; rw [within_eq]; rfl
/-- An expression of the language. -/
def exprOk (a b c : Int) : Bool := decide ((1 ≤ a ∧ a ≤ 7) ∧ (-8 ≤ b ∧ b ≤ 999) ∧ -8 ≤ c ∧ c ≤ 999)
theorem exprS_eq (a b c : Int) : spec_ExprOk.f a b c = some (exprOk a b c) := by
  unfold spec_ExprOk.f exprOk
  rw [l01In_eq, operandS_eq, operandS_eq]
  by_cases h1 : 1 ≤ a ∧ a ≤ 7 <;> by_cases h2 : -8 ≤ b ∧ b ≤ 999 <;> simp [h1, h2]
theorem exprI_eq (a b c : Int) : impl_ExprOk.f a b c = some (exprOk a b c) := by
  unfold impl_ExprOk.f exprOk
  rw [within_eq, operandI_eq, operandI_eq]
  by_cases h1 : 1 ≤ a ∧ a ≤ 7 <;> by_cases h2 : -8 ≤ b ∧ b ≤ 999 <;> simp [h1, h2]
/-- A statement of the language: its kind, its variable, its number, its expression. -/
def stmtOk (a b c d e f : Int) : Bool :=
  if a = 1 then decide ((0 ≤ b ∧ b ≤ 7) ∧ c = 0) && exprOk d e f
  else if a = 2 then decide ((0 ≤ b ∧ b ≤ 7) ∧ (0 ≤ c ∧ c ≤ 3) ∧ d = 0 ∧ e = 0 ∧ f = 0)
  else if a = 3 ∨ a = 4 then decide (b = 0 ∧ c = 0) && exprOk d e f
  else if a = 5 then decide (b = 0 ∧ (1 ≤ c ∧ c ≤ 5) ∧ d = 0 ∧ e = 0 ∧ f = 0)
  else if a = 6 then decide (b = 0 ∧ c = 0 ∧ d = 0 ∧ e = 0 ∧ f = 0) else false
theorem stmtS_eq (a b c d e f : Int) (k : Nat) (hk : 3 < k) : spec_StmtOk.f k a b c d e f = some (stmtOk a b c d e f) := by
  obtain ⟨k, rfl⟩ : ∃ m, k = m + 4 := ⟨k - 4, by omega⟩
  unfold spec_StmtOk.f spec_l04Plain.f stmtOk
  simp only [spec_l04Plain.j0, spec_StmtOk.j0, l01In_eq, exprS_eq, Option.bind_some]
  by_cases h1 : a = 1
  · subst h1
    by_cases h : c = 0 <;> by_cases g : 0 ≤ b ∧ b ≤ 7 <;> simp [h, g]
  by_cases h2 : a = 2
  · subst h2
    by_cases h : d = 0 <;> by_cases h' : e = 0 <;> by_cases h'' : f = 0 <;> by_cases g : 0 ≤ b ∧ b ≤ 7 <;> simp [h, h', h'', g]
  by_cases h3 : a = 3
  · subst h3
    by_cases h : b = 0 <;> by_cases h' : c = 0 <;> simp [h, h']
  by_cases h4 : a = 4
  · subst h4
    by_cases h : b = 0 <;> by_cases h' : c = 0 <;> simp [h, h']
  by_cases h5 : a = 5
  · subst h5
    by_cases h : b = 0 <;> by_cases h' : d = 0 <;> by_cases h'' : e = 0 <;> by_cases g : f = 0 <;> simp [h, h', h'', g]
  by_cases h6 : a = 6
  · subst h6
    by_cases h : b = 0 <;> by_cases h' : d = 0 <;> by_cases h'' : e = 0 <;> by_cases g : f = 0 <;> by_cases g' : c = 0 <;> simp [h, h', h'', g, g']
  · simp [h1, h2, h3, h4, h5, h6]
theorem stmtI_eq (a b c d e f : Int) (k : Nat) (hk : 3 < k) : impl_StmtOk.f k a b c d e f = some (stmtOk a b c d e f) := by
  obtain ⟨k, rfl⟩ : ∃ m, k = m + 4 := ⟨k - 4, by omega⟩
  unfold impl_StmtOk.f impl_hasVar.f impl_isVar.f stmtOk
  simp only [impl_StmtOk.j0, impl_StmtOk.j1, impl_hasExpr.f, impl_isSensor.f, within_eq, exprI_eq, Option.bind_some]
  by_cases h1 : a = 1
  · subst h1
    by_cases h : c = 0 <;> by_cases g : 0 ≤ b ∧ b ≤ 7 <;> cases exprOk d e f <;> simp [h, g]
  by_cases h2 : a = 2
  · subst h2
    by_cases h : d = 0 <;> by_cases h' : e = 0 <;> by_cases h'' : f = 0 <;> by_cases g : 0 ≤ b ∧ b ≤ 7 <;> simp [h, h', h'', g]
  by_cases h3 : a = 3
  · subst h3
    by_cases h : b = 0 <;> by_cases h' : c = 0 <;> cases exprOk d e f <;> simp [h, h']
  by_cases h4 : a = 4
  · subst h4
    by_cases h : b = 0 <;> by_cases h' : c = 0 <;> cases exprOk d e f <;> simp [h, h']
  by_cases h5 : a = 5
  · subst h5
    by_cases h : b = 0 <;> by_cases h' : d = 0 <;> by_cases h'' : e = 0 <;> by_cases g : f = 0 <;> simp [h, h', h'', g]
  by_cases h6 : a = 6
  · subst h6
    by_cases h : b = 0 <;> by_cases h' : d = 0 <;> by_cases h'' : e = 0 <;> by_cases g : f = 0 <;> by_cases g' : c = 0 <;> simp [h, h', h'', g, g']
  · have n : ¬ (1 ≤ a ∧ a ≤ 6) := by omega
    simp [h1, h2, h3, h4, h5, h6, n]
/-- A statement of the language. -/
def stOk (s : S119) : Bool := stmtOk s.f0 s.f1 s.f2 s.f3.f0 s.f3.f1 s.f3.f2
/-- A block as a tree: its statements in order, an opening one with what it holds and its closing one. -/
inductive Bk where
  | nil : Bk
  | leaf (s : S119) (t : Bk) : Bk
  | node (s : S119) (b : Bk) (e : S119) (t : Bk) : Bk
def Bk.flat : Bk → List S119
  | .nil => []
  | .leaf s t => s :: t.flat
  | .node s b e t => s :: (b.flat ++ e :: t.flat)
def Bk.ok : Bk → Prop
  | .nil => True
  | .leaf s t => s.f0 ≠ 4 ∧ s.f0 ≠ 5 ∧ s.f0 ≠ 6 ∧ t.ok
  | .node s b e t => (s.f0 = 4 ∨ s.f0 = 5) ∧ b.ok ∧ e.f0 = 6 ∧ t.ok
/-- How many are open, behind a statement. -/
def dNext (s : S119) (d : Int) : Int := if s.f0 = 4 ∨ s.f0 = 5 then d + 1 else if s.f0 = 6 then d - 1 else d
/-- The statements are valid, and there are never too many or too few open ones. -/
def blkOk : List S119 → Int → Bool
  | [], d => decide (d = 0)
  | s :: t, d => stOk s && (decide (0 ≤ dNext s d ∧ dNext s d ≤ 3) && blkOk t (dNext s d))
def blockOk (l : List S119) : Bool := blkOk l 0 && decide ((l.length : Int) ≤ 24)
theorem blkOk_cons {s : S119} {t : List S119} {d : Int} : blkOk (s :: t) d = true ↔ stOk s = true ∧ (0 ≤ dNext s d ∧ dNext s d ≤ 3) ∧ blkOk t (dNext s d) = true := by
  rw [blkOk, Bool.and_eq_true, Bool.and_eq_true, decide_eq_true_eq]
theorem blkOk_all : ∀ (l : List S119) (d : Int), blkOk l d = true → ∀ s ∈ l, stOk s = true
  | [], d, h, s, hs => by simp at hs
  | x :: t, d, h, s, hs => by
    obtain ⟨h1, h2, h3⟩ := blkOk_cons.1 h
    rcases List.mem_cons.1 hs with rfl | hs
    · exact h1
    · exact blkOk_all t _ h3 s hs
theorem parse (n : Nat) : ∀ (l : List S119) (d : Int), l.length ≤ n → 0 ≤ d → blkOk l d = true →
    (d = 0 → ∃ T : Bk, T.ok ∧ T.flat = l) ∧ (0 < d → ∃ (T : Bk) (e : S119) (r : List S119), T.ok ∧ e.f0 = 6 ∧ l = T.flat ++ e :: r ∧ blkOk r (d - 1) = true) := by
  induction n with
  | zero =>
    intro l d hl hd h
    have : l = [] := List.eq_nil_of_length_eq_zero (by omega)
    subst this
    simp only [blkOk, decide_eq_true_eq] at h
    exact ⟨fun _ => ⟨.nil, trivial, rfl⟩, fun h2 => absurd h (by omega)⟩
  | succ n ih =>
    intro l d hl hd h
    cases l with
    | nil =>
      simp only [blkOk, decide_eq_true_eq] at h
      exact ⟨fun _ => ⟨.nil, trivial, rfl⟩, fun h2 => absurd h (by omega)⟩
    | cons s t =>
      obtain ⟨h1, h2, h3⟩ := blkOk_cons.1 h
      simp only [List.length_cons] at hl
      by_cases o : s.f0 = 4 ∨ s.f0 = 5
      · have e : dNext s d = d + 1 := by rw [dNext, if_pos o]
        rw [e] at h2 h3
        obtain ⟨T1, c, r, k1, k2, k3, k4⟩ := (ih t (d + 1) (by omega) (by omega) h3).2 (by omega)
        rw [Int.add_sub_cancel] at k4
        have hr : r.length ≤ n := by
          have := congrArg List.length k3
          simp only [List.length_append, List.length_cons] at this
          omega
        obtain ⟨q1, q2⟩ := ih r d hr hd k4
        constructor
        · intro d0
          obtain ⟨T2, m1, m2⟩ := q1 d0
          exact ⟨.node s T1 c T2, ⟨o, k1, k2, m1⟩, by rw [Bk.flat, m2, k3]⟩
        · intro d0
          obtain ⟨T2, c2, r2, m1, m2, m3, m4⟩ := q2 d0
          exact ⟨.node s T1 c T2, c2, r2, ⟨o, k1, k2, m1⟩, m2, by rw [Bk.flat, k3, m3]; simp, m4⟩
      · by_cases c : s.f0 = 6
        · have e : dNext s d = d - 1 := by rw [dNext, if_neg o, if_pos c]
          rw [e] at h2 h3
          exact ⟨fun d0 => absurd h2 (by omega), fun _ => ⟨.nil, s, t, trivial, c, rfl, h3⟩⟩
        · have e : dNext s d = d := by rw [dNext, if_neg o, if_neg c]
          rw [e] at h2 h3
          obtain ⟨q1, q2⟩ := ih t d (by omega) hd h3
          constructor
          · intro d0
            obtain ⟨T2, m1, m2⟩ := q1 d0
            exact ⟨.leaf s T2, ⟨fun h => o (.inl h), fun h => o (.inr h), c, m1⟩, by rw [Bk.flat, m2]⟩
          · intro d0
            obtain ⟨T2, c2, r2, m1, m2, m3, m4⟩ := q2 d0
            exact ⟨.leaf s T2, c2, r2, ⟨fun h => o (.inl h), fun h => o (.inr h), c, m1⟩, m2, by rw [Bk.flat, m3]; rfl, m4⟩
/-- A valid block is a tree. -/
theorem blockOk_tree {l : List S119} (h : blockOk l = true) : ∃ T : Bk, T.ok ∧ T.flat = l ∧ l.length ≤ 24 ∧ ∀ s ∈ l, stOk s = true := by
  rw [blockOk, Bool.and_eq_true, decide_eq_true_eq] at h
  obtain ⟨T, h1, h2⟩ := (parse l.length l 0 (by omega) (by omega) h.1).1 rfl
  exact ⟨T, h1, h2, by omega, blkOk_all l 0 h.1⟩
/-- What stands at a place of a list. -/
theorem at_mid (pre post : List S119) (s : S119) {i : Int} (hi : i = (pre.length : Int)) : rd_T119 (pre ++ s :: post) i = s := by
  unfold rd_T119
  rw [hi, Int.toNat_natCast, List.getD_eq_getElem?_getD, List.getElem?_append_right (by omega), Nat.sub_self]
  rfl
theorem opening_eq (x : Int) : impl_isOpening.f x = some (decide (x = 4 ∨ x = 5)) := by
  unfold impl_isOpening.f
  by_cases h : x = 4
  · simp [h]
  · by_cases h2 : x = 5 <;> simp [h, h2]
theorem blockI_l (l : List S119) (hl : l.length ≤ 1048576) (n : Nat) : ∀ (k : Nat) (d i : Int), 0 ≤ d → d ≤ 3 → 0 ≤ i → i + (n : Int) = (l.length : Int) → 2 * n + 5 < k →
    impl_BlockOk.l0 k l d l (l.length : Int) i = some (blkOk (l.drop i.toNat) d && decide ((l.length : Int) ≤ 24)) := by
  induction n with
  | zero =>
    intro k d i hd hd3 h0 hi hk
    obtain ⟨k, rfl⟩ := succ_of hk
    simp only [impl_BlockOk.l0]
    rw [if_neg (by omega), List.drop_eq_nil_of_le (by omega), blkOk]
    by_cases h : d = 0 <;> simp [h]
  | succ n ih =>
    intro k d i hd hd3 h0 hi hk
    obtain ⟨k, rfl⟩ := succ_of hk
    obtain ⟨k, rfl⟩ := succ_of (d := 4) (by omega : 4 < k)
    rw [impl_BlockOk.l0, if_pos (by omega), if_pos h0, if_pos (by omega), stmtI_eq _ _ _ _ _ _ _ (by omega), opening_eq, drop_getD z119 h0 (by omega)]
    change (Option.bind (some (stOk (rd_T119 l i))) _) = some (blkOk (rd_T119 l i :: _) d && _)
    generalize rd_T119 l i = s
    rw [blkOk]
    by_cases h1 : stOk s = true
    · simp only [h1, Option.bind_some, if_true, Bool.true_and, impl_BlockOk.j1, w64 (x := i + 1) (by omega) (by omega), w64 (x := d + 1) (by omega) (by omega), w64 (x := d + 1 - 1) (by omega) (by omega), w64 (x := d - 1) (by omega) (by omega), decide_eq_true_eq]
      have go := fun (x : Int) (a : 0 ≤ x) (b : x ≤ 3) => ih k x (i + 1) a b (by omega) (by omega) (by omega)
      unfold dNext
      by_cases o : s.f0 = 4 ∨ s.f0 = 5
      · have n6 : ¬ s.f0 = 6 := by omega
        rw [if_pos o, if_neg n6, if_pos o, if_neg (by omega)]
        by_cases g : d + 1 > 3
        · rw [if_pos g]
          simp
          omega
        · rw [if_neg g, go _ (by omega) (by omega)]
          have : 0 ≤ d + 1 ∧ d + 1 ≤ 3 := by omega
          simp [this]
      · rw [if_neg o, if_neg o]
        by_cases n6 : s.f0 = 6
        · rw [if_pos n6, if_pos n6]
          by_cases g : d - 1 < 0
          · rw [if_pos g]
            simp
            omega
          · rw [if_neg g, if_neg (by omega), go _ (by omega) (by omega)]
            have : 0 ≤ d - 1 ∧ d - 1 ≤ 3 := by omega
            have g1 : 1 ≤ d := by omega
            simp [this, g1]
        · rw [if_neg n6, if_neg n6, if_neg (by omega), if_neg (by omega), go _ hd hd3]
          simp [hd, hd3]
    · simp [h1]
theorem blockI_at (l : List S119) (hl : l.length ≤ 1048576) (k : Nat) (hk : 2 * l.length + 5 < k) : impl_BlockOk.f k l = some (blockOk l) := by
  unfold impl_BlockOk.f blockOk
  rw [blockI_l l hl l.length k 0 0 (by omega) (by omega) (by omega) (by omega) hk]
  simp
theorem blockS_l (l : List S119) (hl : l.length ≤ 1048576) (n : Nat) : ∀ (k : Nat) (d i : Int), 0 ≤ d → d ≤ 3 → 0 ≤ i → i + (n : Int) = (l.length : Int) → 2 * n + 5 < k →
    spec_BlockOk.l0 k l d i = some (blkOk (l.drop i.toNat) d && decide ((l.length : Int) ≤ 24)) := by
  induction n with
  | zero =>
    intro k d i hd hd3 h0 hi hk
    obtain ⟨k, rfl⟩ := succ_of hk
    simp only [spec_BlockOk.l0]
    rw [if_neg (by omega), List.drop_eq_nil_of_le (by omega), blkOk]
    by_cases h : d = 0 <;> simp [h]
  | succ n ih =>
    intro k d i hd hd3 h0 hi hk
    obtain ⟨k, rfl⟩ := succ_of hk
    obtain ⟨k, rfl⟩ := succ_of (d := 4) (by omega : 4 < k)
    rw [spec_BlockOk.l0, if_pos (by omega), if_pos h0, stmtS_eq _ _ _ _ _ _ _ (by omega), drop_getD z119 h0 (by omega)]
    change (Option.bind (some (stOk (rd_T119 l i))) _) = some (blkOk (rd_T119 l i :: _) d && _)
    generalize rd_T119 l i = s
    rw [blkOk]
    by_cases h1 : stOk s = true
    · simp only [h1, Option.bind_some, if_true, Bool.true_and, spec_BlockOk.j1, l01In_eq, w64 (x := i + 1) (by omega) (by omega), w64 (x := d + 1) (by omega) (by omega), w64 (x := d - 1) (by omega) (by omega), decide_eq_true_eq]
      have go := fun (x : Int) (a : 0 ≤ x) (b : x ≤ 3) => ih k x (i + 1) a b (by omega) (by omega) (by omega)
      unfold dNext
      by_cases o : s.f0 = 4 ∨ s.f0 = 5
      · rw [if_pos o]
        by_cases g : 0 ≤ d + 1 ∧ d + 1 ≤ 3
        · rw [go _ g.1 g.2]
          rcases o with o | o <;> simp [o, g]
        · rcases o with o | o <;> simp [o, g]
      · rw [if_neg o]
        have n4 : ¬ s.f0 = 4 := fun h => o (.inl h)
        have n5 : ¬ s.f0 = 5 := fun h => o (.inr h)
        by_cases n6 : s.f0 = 6
        · by_cases g : 0 ≤ d - 1 ∧ d - 1 ≤ 3
          · rw [go _ g.1 g.2]
            have g1 : 1 ≤ d := by omega
            simp [n6, g, g1]
          · obtain rfl : d = 0 := by omega
            simp [n6]
        · rw [go _ hd hd3]
          simp [n4, n5, n6, hd, hd3]
    · simp [h1]
theorem blockS_at (l : List S119) (hl : l.length ≤ 1048576) (k : Nat) (hk : 2 * l.length + 5 < k) : spec_BlockOk.f k l = some (blockOk l) := by
  unfold spec_BlockOk.f blockOk
  rw [blockS_l l hl l.length k 0 0 (by omega) (by omega) (by omega) (by omega) hk]
  simp
def stm (x : S122) : S119 := ⟨x.f0, x.f1, x.f2, ⟨x.f3.f0, x.f3.f1, x.f3.f2⟩⟩
theorem szStmtS_eq (l : List S122) (a : Int) (hl : l.length ≤ 9223372036854775807) (h0 : 0 ≤ a) (h1 : a ≤ 1048576) : laws_szStmtS.f l a = some (if a < (l.length : Int) then -1 else a - (l.length : Int)) := by
  unfold laws_szStmtS.f
  rw [w64 (by omega) (by omega)]
  by_cases h : a < (l.length : Int)
  · rw [if_pos (by omega), if_pos h]
  · rw [if_neg (by omega), if_neg h]
theorem toStmtS_l (l : List S122) (hl : l.length ≤ 1048576) (d : Nat) : ∀ (k : Nat) (x : List S119) (i : Int), 0 ≤ i → x.length = l.length → i + (d : Int) = (l.length : Int) → (∀ j : Nat, (j : Int) < i → x[j]? = (l.map stm)[j]?) → d < k →
    laws_toStmtS.l0 k l x i = some (l.map stm) := by
  induction d with
  | zero =>
    intro k x i h0 hx hi hj hk
    obtain ⟨k, rfl⟩ := succ_of hk
    simp only [laws_toStmtS.l0]
    rw [if_neg (by omega)]
    congr 1
    apply List.ext_getElem?
    intro j
    by_cases h : (j : Int) < i
    · exact hj j h
    · rw [List.getElem?_eq_none (by omega), List.getElem?_eq_none (by rw [List.length_map]; omega)]
  | succ d ih =>
    intro k x i h0 hx hi hj hk
    obtain ⟨k, rfl⟩ := succ_of hk
    simp only [laws_toStmtS.l0, laws_toStmt.f, laws_toExpr.f]
    rw [if_pos (by omega), if_pos h0]
    simp only [Option.bind_some]
    rw [if_pos (by omega), w64 (by omega) (by omega)]
    refine ih k _ (i + 1) (by omega) (by simpa using hx) (by omega) (fun j h => ?_) (by omega)
    rw [List.getElem?_set]
    by_cases e : i.toNat = j
    · subst e
      rw [if_pos rfl, if_pos (by omega), List.getElem?_map, getD_rd z122 h0 (by omega)]
      rfl
    · rw [if_neg e]
      exact hj j (by omega)
theorem toStmtS_at (l : List S122) (hl : l.length ≤ 1048576) (k : Nat) (hk : l.length < k) : laws_toStmtS.f k l = some (l.map stm) := by
  unfold laws_toStmtS.f
  rw [if_pos (by omega), if_pos (by omega)]
  exact toStmtS_l l hl l.length k _ 0 (by omega) (by simp) (by omega) (fun j h => by omega) (by omega)
theorem eqStmtS_l (l : List S119) (hl : l.length ≤ 1048576) (d : Nat) : ∀ (k : Nat) (i : Int), 0 ≤ i → i + (d : Int) = (l.length : Int) → d < k →
    laws_eqStmtS.l0 k l l i = some true := by
  induction d with
  | zero =>
    intro k i h0 hi hk
    obtain ⟨k, rfl⟩ := succ_of hk
    simp only [laws_eqStmtS.l0]
    rw [if_neg (by omega)]
  | succ d ih =>
    intro k i h0 hi hk
    obtain ⟨k, rfl⟩ := succ_of hk
    simp only [laws_eqStmtS.l0, laws_eqStmt.f, laws_eqExpr.f]
    rw [if_pos (by omega), if_pos h0, if_pos (by omega), w64 (by omega) (by omega)]
    simp only [if_true, Option.bind_some]
    exact ih k (i + 1) (by omega) (by omega) (by omega)
theorem eqStmtS_same (l : List S119) (hl : l.length ≤ 1048576) (k : Nat) (hk : l.length < k) : laws_eqStmtS.f k l l = some true := by
  unfold laws_eqStmtS.f
  rw [if_pos rfl]
  exact eqStmtS_l l hl l.length k 0 (by omega) (by omega) (by omega)
theorem task_or (x : S39) (g : gd39 x) : ∃ r, laws_szTask.f x.f0 x.f1.f0 x.f1.f1 x.f1.f2 1048576 = some r ∧ (r < 0 ∨ ((x.f0.map stm).length ≤ 1048576 ∧ (∀ k, 1048577 < k → laws_toTask.f k x.f0 x.f1.f0 x.f1.f1 x.f1.f2 = some (x.f0.map stm, x.f1.f0, x.f1.f1, x.f1.f2)) ∧ (∀ k, 1048577 < k → laws_eqTask.f k (x.f0.map stm) x.f1.f0 x.f1.f1 x.f1.f2 (x.f0.map stm) x.f1.f0 x.f1.f1 x.f1.f2 = some true))) := by
  obtain ⟨⟨a1, a2⟩, g2⟩ := g
  simp only [maxLen] at a1
  unfold laws_szTask.f
  rw [szStmtS_eq _ _ (by omega) (by omega) (by omega)]
  simp only [Option.bind_some]
  by_cases h : (1048576 : Int) < (x.f0.length : Int)
  · rw [if_pos (by rw [if_pos h]; omega)]
    exact ⟨_, rfl, .inl (by omega)⟩
  rw [if_neg (by rw [if_neg h]; omega), if_neg h]
  have hm : (x.f0.map stm).length ≤ 1048576 := by rw [List.length_map]; omega
  refine ⟨_, rfl, .inr ⟨hm, fun k hk => ?_, fun k hk => ?_⟩⟩
  · unfold laws_toTask.f laws_toExpr.f
    rw [toStmtS_at _ (by omega) _ (by omega)]
    rfl
  · unfold laws_eqTask.f laws_eqExpr.f
    rw [eqStmtS_same _ hm _ (by omega)]
    simp
def tsk (x : S39) : S28 := ⟨x.f0.map stm, ⟨x.f1.f0, x.f1.f1, x.f1.f2⟩⟩
theorem szTask_eq (x : S39) (a : Int) (hl : x.f0.length ≤ 9223372036854775807) (h0 : 0 ≤ a) (h1 : a ≤ 1048576) : laws_szTask.f x.f0 x.f1.f0 x.f1.f1 x.f1.f2 a = some (if a < (x.f0.length : Int) then -1 else a - (x.f0.length : Int)) := by
  unfold laws_szTask.f
  rw [szStmtS_eq _ _ hl h0 h1]
  simp only [Option.bind_some]
  by_cases h : a < (x.f0.length : Int)
  · rw [if_pos h]
    simp
  · rw [if_neg h, if_neg (by omega)]
theorem szTaskS_l (l : List S39) (hl : l.length ≤ 1048576) (hy : ∀ y ∈ l, y.f0.length ≤ 9223372036854775807) (d : Nat) : ∀ (k : Nat) (a i : Int), 0 ≤ i → i + (d : Int) = (l.length : Int) → 0 ≤ a → a ≤ 1048576 → d < k →
    ∃ r, laws_szTaskS.l0 k l a i = some r ∧ (0 ≤ r → r ≤ a ∧ ∀ y ∈ l.drop i.toNat, (y.f0.length : Int) ≤ a) := by
  induction d with
  | zero =>
    intro k a i h0 hi ha hb hk
    obtain ⟨k, rfl⟩ := succ_of hk
    simp only [laws_szTaskS.l0]
    rw [if_neg (by omega), List.drop_eq_nil_of_le (by omega)]
    exact ⟨_, rfl, fun _ => ⟨by omega, by simp⟩⟩
  | succ d ih =>
    intro k a i h0 hi ha hb hk
    obtain ⟨k, rfl⟩ := succ_of hk
    simp only [laws_szTaskS.l0]
    have hm := getD_mem z39 h0 (by omega : i < (l.length : Int))
    rw [if_pos (by omega), if_pos h0, szTask_eq (rd_T39 l i) a (hy _ hm) ha hb, w64 (by omega) (by omega), drop_getD z39 h0 (by omega)]
    simp only [Option.bind_some]
    change ∃ r, (if (if a < ((rd_T39 l i).f0.length : Int) then (-1 : Int) else a - ((rd_T39 l i).f0.length : Int)) < 0 then _ else _) = _ ∧ (_ → _ ∧ ∀ y ∈ rd_T39 l i :: _, _)
    by_cases h : a < ((rd_T39 l i).f0.length : Int)
    · rw [if_pos (by rw [if_pos h]; omega)]
      exact ⟨_, rfl, fun h => absurd h (by omega)⟩
    · rw [if_neg (by rw [if_neg h]; omega), if_neg h]
      obtain ⟨r, e, q⟩ := ih k (a - ((rd_T39 l i).f0.length : Int)) (i + 1) (by omega) (by omega) (by omega) (by omega) (by omega)
      refine ⟨r, e, fun hr => ?_⟩
      obtain ⟨q1, q2⟩ := q hr
      refine ⟨by omega, fun y hy => ?_⟩
      rcases List.mem_cons.1 hy with rfl | hy
      · omega
      · have := q2 y hy
        omega
theorem szProgram_at (l : List S39) (a : Int) (hl : l.length ≤ 9223372036854775807) (hy : ∀ y ∈ l, y.f0.length ≤ 9223372036854775807) (h0 : 0 ≤ a) (h1 : a ≤ 1048576) (k : Nat) (hk : 1048577 < k) :
    ∃ r, laws_szProgram.f k l a = some r ∧ (0 ≤ r → r ≤ a ∧ (l.length : Int) ≤ a ∧ ∀ y ∈ l, (y.f0.length : Int) ≤ a) := by
  unfold laws_szProgram.f laws_szTaskS.f
  rw [w64 (by omega) (by omega)]
  by_cases h : a - (l.length : Int) < 0
  · rw [if_pos h]
    exact ⟨-1, by simp, fun h => absurd h (by omega)⟩
  · rw [if_neg h]
    obtain ⟨r, e, q⟩ := szTaskS_l l (by omega) hy l.length k (a - (l.length : Int)) 0 (by omega) (by omega) (by omega) (by omega) (by omega)
    rw [e]
    simp only [Option.bind_some]
    by_cases hr : r < 0
    · rw [if_pos hr]
      exact ⟨_, rfl, fun h => absurd h (by omega)⟩
    rw [if_neg hr]
    refine ⟨r, rfl, fun hr => ?_⟩
    obtain ⟨q1, q2⟩ := q hr
    refine ⟨by omega, by omega, fun y hy => ?_⟩
    have := q2 y (by simpa using hy)
    omega
theorem toTask_at (x : S39) (h : x.f0.length ≤ 1048576) (k : Nat) (hk : 1048577 < k) : laws_toTask.f k x.f0 x.f1.f0 x.f1.f1 x.f1.f2 = some (x.f0.map stm, x.f1.f0, x.f1.f1, x.f1.f2) := by
  unfold laws_toTask.f laws_toExpr.f
  rw [toStmtS_at _ h _ (by omega)]
  rfl
theorem toTaskS_l (l : List S39) (hl : l.length ≤ 1048576) (hy : ∀ y ∈ l, y.f0.length ≤ 1048576) (d : Nat) : ∀ (k : Nat) (x : List S28) (i : Int), 0 ≤ i → x.length = l.length → i + (d : Int) = (l.length : Int) → (∀ j : Nat, (j : Int) < i → x[j]? = (l.map tsk)[j]?) → d + 1048580 < k →
    laws_toTaskS.l0 k l x i = some (l.map tsk) := by
  induction d with
  | zero =>
    intro k x i h0 hx hi hj hk
    obtain ⟨k, rfl⟩ := succ_of hk
    simp only [laws_toTaskS.l0]
    rw [if_neg (by omega)]
    congr 1
    apply List.ext_getElem?
    intro j
    by_cases h : (j : Int) < i
    · exact hj j h
    · rw [List.getElem?_eq_none (by omega), List.getElem?_eq_none (by rw [List.length_map]; omega)]
  | succ d ih =>
    intro k x i h0 hx hi hj hk
    obtain ⟨k, rfl⟩ := succ_of hk
    have hm : (rd_T39 l i).f0.length ≤ 1048576 := hy _ (getD_mem z39 h0 (by omega : i < (l.length : Int)))
    simp only [laws_toTaskS.l0]
    rw [if_pos (by omega), if_pos h0, toTask_at _ hm k (by omega)]
    simp only [Option.bind_some]
    rw [if_pos (by omega), w64 (by omega) (by omega)]
    refine ih k _ (i + 1) (by omega) (by simpa using hx) (by omega) (fun j h => ?_) (by omega)
    rw [List.getElem?_set]
    by_cases e : i.toNat = j
    · subst e
      rw [if_pos rfl, if_pos (by omega), List.getElem?_map, getD_rd z39 h0 (by omega)]
      rfl
    · rw [if_neg e]
      exact hj j (by omega)
theorem toProgram_at (l : List S39) (hl : l.length ≤ 1048576) (hy : ∀ y ∈ l, y.f0.length ≤ 1048576) (k : Nat) (hk : 2097160 < k) : laws_toProgram.f k l = some (l.map tsk) := by
  unfold laws_toProgram.f laws_toTaskS.f
  rw [if_pos (by omega), if_pos (by omega), toTaskS_l l hl hy l.length k _ 0 (by omega) (by simp) (by omega) (fun j h => by omega) (by omega)]
  rfl
theorem eqTask_same (x : S28) (h : x.f0.length ≤ 1048576) (k : Nat) (hk : 1048577 < k) : laws_eqTask.f k x.f0 x.f1.f0 x.f1.f1 x.f1.f2 x.f0 x.f1.f0 x.f1.f1 x.f1.f2 = some true := by
  unfold laws_eqTask.f laws_eqExpr.f
  rw [eqStmtS_same _ h _ (by omega)]
  simp
theorem eqTaskS_l (l : List S28) (hl : l.length ≤ 1048576) (hy : ∀ y ∈ l, y.f0.length ≤ 1048576) (d : Nat) : ∀ (k : Nat) (i : Int), 0 ≤ i → i + (d : Int) = (l.length : Int) → d + 1048580 < k →
    laws_eqTaskS.l0 k l l i = some true := by
  induction d with
  | zero =>
    intro k i h0 hi hk
    obtain ⟨k, rfl⟩ := succ_of hk
    simp only [laws_eqTaskS.l0]
    rw [if_neg (by omega)]
  | succ d ih =>
    intro k i h0 hi hk
    obtain ⟨k, rfl⟩ := succ_of hk
    have hm : (rd_T28 l i).f0.length ≤ 1048576 := hy _ (getD_mem z28 h0 (by omega : i < (l.length : Int)))
    simp only [laws_eqTaskS.l0]
    rw [if_pos (by omega), if_pos h0, if_pos (by omega), eqTask_same _ hm k (by omega), w64 (by omega) (by omega)]
    simp only [if_true, Option.bind_some]
    exact ih k (i + 1) (by omega) (by omega) (by omega)
theorem eqProgram_same (l : List S28) (hl : l.length ≤ 1048576) (hy : ∀ y ∈ l, y.f0.length ≤ 1048576) (k : Nat) (hk : 2097160 < k) : laws_eqProgram.f k l l = some true := by
  unfold laws_eqProgram.f laws_eqTaskS.f
  rw [if_pos rfl, eqTaskS_l l hl hy l.length k 0 (by omega) (by omega) (by omega)]
  simp
/-- What a law needs of a program that it is given. -/
theorem program_or (x : S48) (g : gd48 x) : ∀ k, 2097160 < k → ∃ r, laws_szProgram.f k x.f0 1048576 = some r ∧ (0 ≤ r → (x.f0.map tsk).length ≤ 1048576 ∧ (∀ y ∈ x.f0.map tsk, y.f0.length ≤ 1048576) ∧ (∀ k, 2097160 < k → laws_toProgram.f k x.f0 = some (x.f0.map tsk)) ∧ (∀ k, 2097160 < k → laws_eqProgram.f k (x.f0.map tsk) (x.f0.map tsk) = some true)) := by
  intro k hk
  obtain ⟨a1, a2⟩ := g
  simp only [maxLen] at a1
  obtain ⟨r, e, q⟩ := szProgram_at x.f0 1048576 (by omega) (fun y hy => by have := (a2 y hy).1.1; simp only [maxLen] at this; omega) (by omega) (by omega) k (by omega)
  refine ⟨r, e, fun hr => ?_⟩
  obtain ⟨_, q2, q3⟩ := q hr
  have hy : ∀ y ∈ x.f0, y.f0.length ≤ 1048576 := fun y hy => by have := q3 y hy; omega
  have hm : ∀ y ∈ x.f0.map tsk, y.f0.length ≤ 1048576 := by
    intro y hy'
    obtain ⟨z, hz, rfl⟩ := List.mem_map.1 hy'
    simp only [tsk, List.length_map]
    exact hy z hz
  have hl : (x.f0.map tsk).length ≤ 1048576 := by rw [List.length_map]; omega
  exact ⟨hl, hm, fun k hk => toProgram_at _ (by omega) hy k hk, fun k hk => eqProgram_same _ hl hm k hk⟩
def taskOkB (t : S28) : Bool := blockOk t.f0 && exprOk t.f1.f0 t.f1.f1 t.f1.f2
/-- A valid program. -/
def progOk (l : List S28) : Bool := decide (1 ≤ (l.length : Int) ∧ (l.length : Int) ≤ 6) && l.all taskOkB
theorem taskOkI_at (t : S28) (h : t.f0.length ≤ 1048576) (k : Nat) (hk : 2097160 < k) : impl_taskOk.f k t.f0 t.f1.f0 t.f1.f1 t.f1.f2 = some (taskOkB t) := by
  unfold impl_taskOk.f taskOkB
  rw [blockI_at _ h k (by omega), exprI_eq]
  simp only [Option.bind_some]
  cases blockOk t.f0 <;> simp
theorem anyNot_at (k : Nat) (hk : 2097160 < k) : ∀ (l : List S28), (∀ y ∈ l, y.f0.length ≤ 1048576) → anyNot k l = some (!(l.all taskOkB))
  | [], _ => rfl
  | t :: r, h => by
    rw [anyNot, taskOkI_at t (h t (by simp)) k hk, anyNot_at k hk r (fun y hy => h y (List.mem_cons_of_mem _ hy))]
    simp only [Option.bind_some, List.all_cons]
    cases taskOkB t <;> simp
theorem progOkI_at (l : List S28) (h : ∀ y ∈ l, y.f0.length ≤ 1048576) (k : Nat) (hk : 2097160 < k) : impl_ProgramOk.f k l = some (progOk l) := by
  unfold impl_ProgramOk.f progOk
  rw [within_eq, anyNot_at k hk l h]
  simp only [Option.bind_some, decide_eq_true_eq, Bool.not_not]
  by_cases c : 1 ≤ (l.length : Int) ∧ (l.length : Int) ≤ 6
  · rw [if_pos c]
    simp [c]
  · rw [if_neg c]
    simp only [c, decide_false, Bool.false_and]
theorem progOkS_l (l : List S28) (hl : l.length ≤ 1048576) (h : ∀ y ∈ l, y.f0.length ≤ 1048576) (d : Nat) : ∀ (k : Nat) (i : Int), 0 ≤ i → i + (d : Int) = (l.length : Int) → d + 2097160 < k →
    spec_ProgramOk.l0 k i l = some ((l.drop i.toNat).all taskOkB && decide (1 ≤ (l.length : Int) ∧ (l.length : Int) ≤ 6)) := by
  induction d with
  | zero =>
    intro k i h0 hi hk
    obtain ⟨k, rfl⟩ := succ_of hk
    simp only [spec_ProgramOk.l0]
    rw [if_neg (by omega), l01In_eq, List.drop_eq_nil_of_le (by omega)]
    simp
  | succ d ih =>
    intro k i h0 hi hk
    obtain ⟨k, rfl⟩ := succ_of hk
    have hm : (rd_T28 l i).f0.length ≤ 1048576 := h _ (getD_mem z28 h0 (by omega : i < (l.length : Int)))
    simp only [spec_ProgramOk.l0]
    rw [if_pos (by omega), if_pos h0, blockS_at _ hm k (by omega), exprS_eq, w64 (by omega) (by omega), ih k (i + 1) (by omega) (by omega) (by omega), drop_getD z28 h0 (by omega)]
    simp only [Option.bind_some, List.all_cons]
    change _ = some (taskOkB (rd_T28 l i) && _ && _)
    unfold taskOkB
    cases blockOk (rd_T28 l i).f0 <;> cases exprOk (rd_T28 l i).f1.f0 (rd_T28 l i).f1.f1 (rd_T28 l i).f1.f2 <;> simp
theorem progOkS_at (l : List S28) (hl : l.length ≤ 1048576) (h : ∀ y ∈ l, y.f0.length ≤ 1048576) (k : Nat) (hk : 3145740 < k) : spec_ProgramOk.f k l = some (progOk l) := by
  unfold spec_ProgramOk.f progOk
  rw [progOkS_l l hl h l.length k 0 (by omega) (by omega) (by omega)]
  simp only [Int.toNat_zero, List.drop_zero]
  rw [Bool.and_comm]
theorem packI_in {a b c r : Int} (h : impl_PackControl.f a b c = some r) : r = -1 ∨ ((0 ≤ a ∧ a ≤ 5) ∧ (0 ≤ b ∧ b ≤ 8) ∧ (0 ≤ c ∧ c ≤ 24)) := by
  unfold impl_PackControl.f at h
  simp only [within_eq, Option.bind_some, decide_eq_true_eq] at h
  by_cases h1 : 0 ≤ a ∧ a ≤ 5
  · rw [if_pos h1] at h
    by_cases h2 : 0 ≤ b ∧ b ≤ 8
    · rw [if_pos h2] at h
      by_cases h3 : 0 ≤ c ∧ c ≤ 24
      · exact .inr ⟨h1, h2, h3⟩
      · rw [if_neg h3] at h
        exact .inl (Option.some.inj h).symm
    · rw [if_neg h2] at h
      exact .inl (Option.some.inj h).symm
  · rw [if_neg h1] at h
    exact .inl (Option.some.inj h).symm
/-- What a control word says: the task, the log's length, the box's length. -/
theorem unpackI_all (a : Int) : ∃ s n t, impl_UnpackControl.f a = some (s, n, t) ∧ ((s = -1 ∧ n = -1 ∧ t = -1) ∨ ((0 ≤ s ∧ s ≤ 5) ∧ (0 ≤ n ∧ n ≤ 8) ∧ (0 ≤ t ∧ t ≤ 24))) := by
  unfold impl_UnpackControl.f
  by_cases h0 : a < 0
  · rw [if_pos h0]
    exact ⟨_, _, _, rfl, .inl ⟨rfl, rfl, rfl⟩⟩
  · rw [if_neg h0]
    obtain ⟨r, h⟩ := packI_ok (Int.tmod a 8) (Int.tmod (wrap64 (Int.tdiv a 8)) 16) (wrap64 (Int.tdiv a 128))
    rw [h]
    simp only [Option.bind_some]
    by_cases e : r = a
    · rw [if_pos e]
      rcases packI_in h with q | q
      · omega
      · exact ⟨_, _, _, rfl, .inr q⟩
    · rw [if_neg e]
      exact ⟨_, _, _, rfl, .inl ⟨rfl, rfl, rfl⟩⟩
/-- The log of a memory holds variables and values, from an entry on. -/
def logOk (m : List Int) : Nat → Int → Bool
  | 0, _ => true
  | d + 1, i => decide (0 ≤ rd m (9 + 2 * i) ∧ rd m (9 + 2 * i) ≤ 7) && (valP (rd m (9 + 2 * i + 1)) && logOk m d (i + 1))
/-- A memory that fits a program. -/
def memOk (l : List S28) (m : List Int) : Bool :=
  progOk l && (decide (m.length = 49) && (match impl_UnpackControl.f (rd m 8) with
    | none => false
    | some (s, n, t) => decide (0 ≤ s ∧ s < (l.length : Int)) && ((m.take 8).all valP && (((m.take (25 + t).toNat).drop 25).all valP && logOk m n.toNat 0))))
theorem isValI_eq (x : Int) : impl_IsValue.f x = some (valP x) := valP_eq x
theorem isVarI_eq (x : Int) : impl_isVar.f x = some (decide (0 ≤ x ∧ x ≤ 7)) := by
  unfold impl_isVar.f
  rw [within_eq]
  rfl
theorem areValI_eq (l : List Int) : impl_areValues.f l = some (l.all valP) := by
  unfold impl_areValues.f
  rw [List.all_eq_not_any_not]
theorem logI_l (m : List Int) (hm : m.length = 49) (n : Int) (hn : n ≤ 8) (d : Nat) : ∀ (k : Nat) (i : Int), 0 ≤ i → i + (d : Int) = n → d < k →
    impl_MemOk.l0 k m n i = some (logOk m d i) := by
  induction d with
  | zero =>
    intro k i h0 hi hk
    obtain ⟨k, rfl⟩ := succ_of hk
    simp only [impl_MemOk.l0]
    rw [if_neg (by omega)]
    rfl
  | succ d ih =>
    intro k i h0 hi hk
    obtain ⟨k, rfl⟩ := succ_of hk
    have w1 : wrap64 (2 * i) = 2 * i := w64 (by omega) (by omega)
    have w2 : wrap64 (9 + 2 * i) = 9 + 2 * i := w64 (by omega) (by omega)
    have w3 : wrap64 (9 + 2 * i + 1) = 9 + 2 * i + 1 := w64 (by omega) (by omega)
    have w4 : wrap64 (i + 1) = i + 1 := w64 (by omega) (by omega)
    simp only [impl_MemOk.l0, w1, w2, w3, w4, isVarI_eq, isValI_eq, Option.bind_some, decide_eq_true_eq]
    rw [if_pos (by omega), if_pos (by omega), if_pos (by omega), ih k (i + 1) (by omega) (by omega) (by omega), logOk]
    by_cases h : 0 ≤ rd m (9 + 2 * i) ∧ rd m (9 + 2 * i) ≤ 7
    · rw [if_pos h, if_pos (by omega), if_pos (by omega)]
      cases valP (rd m (9 + 2 * i + 1)) <;> simp [h]
    · rw [if_neg h]
      simp only [h, decide_false, Bool.false_and]
theorem memOkI_at (l : List S28) (h : ∀ y ∈ l, y.f0.length ≤ 1048576) (m : List Int) (hm : m.length ≤ 1048576) (k : Nat) (hk : 2097160 < k) : impl_MemOk.f k l m = some (memOk l m) := by
  unfold impl_MemOk.f memOk
  rw [progOkI_at l h k hk]
  obtain ⟨k, rfl⟩ := succ_of (d := 20) (by omega : 20 < k)
  obtain ⟨k, rfl⟩ := succ_of (d := 19) (by omega : 19 < k)
  simp only [Option.bind_some, impl_MemOk.j0, impl_MemOk.j1, areValI_eq]
  by_cases p : progOk l = true
  · simp only [p, if_true, Bool.true_and]
    by_cases e : m.length = 49
    · obtain ⟨s, n, t, eu, hu⟩ := unpackI_all (rd m 8)
      have e' : (m.length : Int) = 49 := by omega
      have g8 : (8 : Int) ≤ (m.length : Int) := by omega
      have g9 : (8 : Int) < (m.length : Int) := by omega
      simp only [e', e, eu, Option.bind_some, if_true, decide_true, Bool.true_and, (by omega : (8 : Int) ≤ 49), (by omega : (8 : Int) < 49)]
      rcases hu with ⟨rfl, rfl, rfl⟩ | ⟨h1, h2, h3⟩
      · cases List.all (List.take 8 m) valP <;> simp
      · have w1 : wrap64 (25 + t) = 25 + t := w64 (by omega) (by omega)
        have s0 : ¬ s < 0 := by omega
        have t0 : (25 : Int) ≤ 25 + t := by omega
        have t1 : (25 : Int) + t ≤ 49 := by omega
        have lg := logI_l m e n (by omega) n.toNat k 0 (by omega) (by omega) (by omega)
        simp only [w1, s0, t0, t1, if_true, if_false, lg]
        by_cases hs : s ≥ (l.length : Int)
        · have : ¬ (0 ≤ s ∧ s < (l.length : Int)) := by omega
          cases List.all (List.take 8 m) valP <;> simp [hs, this]
        · have : (0 ≤ s ∧ s < (l.length : Int)) := by omega
          simp only [hs, this, if_false, and_self, decide_true, Bool.true_and]
          cases List.all (List.take 8 m) valP <;> cases List.all (List.drop 25 (List.take (25 + t).toNat m)) valP <;> simp [e, t1]
    · have e' : ¬ (m.length : Int) = 49 := by omega
      simp [e, e']
  · simp [p]
theorem isValS_eq (x : Int) : spec_IsValue.f x = some (valP x) := by
  unfold spec_IsValue.f
  rw [l01In_eq]
  rfl
theorem valuesS_l (l : List Int) (hl : l.length ≤ 1048576) (d : Nat) : ∀ (k : Nat) (i : Int), 0 ≤ i → i + (d : Int) = (l.length : Int) → d < k → spec_l09Values.l0 k l i = some ((l.drop i.toNat).all valP) := by
  induction d with
  | zero =>
    intro k i h0 hi hk
    obtain ⟨k, rfl⟩ := succ_of hk
    simp only [spec_l09Values.l0]
    rw [if_neg (by omega), List.drop_eq_nil_of_le (by omega)]
    rfl
  | succ d ih =>
    intro k i h0 hi hk
    obtain ⟨k, rfl⟩ := succ_of hk
    simp only [spec_l09Values.l0]
    rw [if_pos (by omega), if_pos h0, isValS_eq, drop_rd h0 (by omega), w64 (by omega) (by omega), ih k (i + 1) (by omega) (by omega) (by omega)]
    simp only [Option.bind_some, List.all_cons]
    cases valP (rd l i) <;> simp
theorem valuesS_at (l : List Int) (hl : l.length ≤ 1048576) (k : Nat) (hk : l.length < k) : spec_l09Values.f k l = some (l.all valP) := by
  unfold spec_l09Values.f
  rw [valuesS_l l hl l.length k 0 (by omega) (by omega) hk]
  simp
theorem logS_l (m : List Int) (hm : m.length = 49) (n : Int) (hn : n ≤ 8) (d : Nat) : ∀ (k : Nat) (i : Int), 0 ≤ i → i + (d : Int) = n → d < k →
    spec_MemOk.l0 k m n i = some (logOk m d i) := by
  induction d with
  | zero =>
    intro k i h0 hi hk
    obtain ⟨k, rfl⟩ := succ_of hk
    simp only [spec_MemOk.l0]
    rw [if_neg (by omega)]
    rfl
  | succ d ih =>
    intro k i h0 hi hk
    obtain ⟨k, rfl⟩ := succ_of hk
    have w1 : wrap64 (2 * i) = 2 * i := w64 (by omega) (by omega)
    have w2 : wrap64 (9 + 2 * i) = 9 + 2 * i := w64 (by omega) (by omega)
    have w3 : wrap64 (9 + 2 * i + 1) = 9 + 2 * i + 1 := w64 (by omega) (by omega)
    have w4 : wrap64 (i + 1) = i + 1 := w64 (by omega) (by omega)
    simp only [spec_MemOk.l0, w1, w2, w3, w4, l01In_eq, isValS_eq, Option.bind_some, decide_eq_true_eq]
    rw [if_pos (by omega), if_pos (by omega), if_pos (by omega), ih k (i + 1) (by omega) (by omega) (by omega), logOk]
    by_cases h : 0 ≤ rd m (9 + 2 * i) ∧ rd m (9 + 2 * i) ≤ 7
    · rw [if_pos h, if_pos (by omega), if_pos (by omega)]
      cases valP (rd m (9 + 2 * i + 1)) <;> simp [h]
    · rw [if_neg h]
      simp only [h, decide_false, Bool.false_and]
theorem memOkS_at (l : List S28) (hl : l.length ≤ 1048576) (h : ∀ y ∈ l, y.f0.length ≤ 1048576) (m : List Int) (hm : m.length ≤ 1048576) (k : Nat) (hk : 3145740 < k) : spec_MemOk.f k l m = some (memOk l m) := by
  unfold spec_MemOk.f memOk
  rw [progOkS_at l hl h k hk]
  obtain ⟨k, rfl⟩ := succ_of (d := 120) (by omega : 120 < k)
  obtain ⟨k, rfl⟩ := succ_of (d := 119) (by omega : 119 < k)
  simp only [Option.bind_some, spec_MemOk.j0, spec_MemOk.j1]
  by_cases p : progOk l = true
  · simp only [p, if_true, Bool.true_and]
    by_cases e : m.length = 49
    · obtain ⟨s, n, t, eu, hu⟩ := unpackI_all (rd m 8)
      have e' : (m.length : Int) = 49 := by omega
      simp only [e', e, eu, unpack_eq _ (k + 1) (by omega), Option.bind_some, if_true, decide_true, Bool.true_and, (by omega : (8 : Int) ≤ 49), (by omega : (8 : Int) < 49), bne_self_eq_false, Bool.false_eq_true, if_false]
      rcases hu with ⟨rfl, rfl, rfl⟩ | ⟨h1, h2, h3⟩
      · simp
      · have w1 : wrap64 (25 + t) = 25 + t := w64 (by omega) (by omega)
        have s0 : ¬ s < 0 := by omega
        have t0 : (25 : Int) ≤ 25 + t := by omega
        have t1 : (25 : Int) + t ≤ 49 := by omega
        have lg := logS_l m e n (by omega) n.toNat k 0 (by omega) (by omega) (by omega)
        have v1 := valuesS_at (m.take 8) (by rw [List.length_take]; omega) (k + 1) (by rw [List.length_take]; omega)
        have v2 := valuesS_at ((m.take (25 + t).toNat).drop 25) (by rw [List.length_drop, List.length_take]; omega) (k + 1) (by rw [List.length_drop, List.length_take]; omega)
        simp only [w1, s0, t0, t1, if_true, if_false, lg, v1, v2, Option.bind_some]
        by_cases hs : s ≥ (l.length : Int)
        · have : ¬ (0 ≤ s ∧ s < (l.length : Int)) := by omega
          simp [hs, this]
        · have : (0 ≤ s ∧ s < (l.length : Int)) := by omega
          simp only [hs, this, if_false, and_self, decide_true, Bool.true_and]
          cases List.all (List.take 8 m) valP <;> cases List.all (List.drop 25 (List.take (25 + t).toNat m)) valP <;> simp [e, t1]
    · have e' : ¬ (m.length : Int) = 49 := by omega
      simp [e, e']
  · simp [p]
theorem FnExactLostWork : laws_FnExactLostWork.Pure := by
  intro x m g g2
  refine ⟨4000000, ?_⟩
  unfold laws_FnExactLostWork.f
  by_cases hm : (m.length : Int) > 1048576
  · rw [if_pos hm]
  rw [if_neg hm]
  obtain ⟨r, e, q⟩ := program_or x g 4000000 (by omega)
  rw [e]
  simp only [Option.bind_some]
  by_cases hr : r < 0
  · rw [if_pos hr]
  rw [if_neg hr]
  obtain ⟨hl, hy, h1, h2⟩ := q (by omega)
  simp only [h1 4000000 (by omega), h2 4000000 (by omega), toIntS_at m (by omega) 4000000 (by omega), eqIntS_same m (by omega) 4000000 (by omega), Option.bind_some, if_true]
  generalize x.f0.map tsk = l at *
  unfold spec_LostWork.f impl_LostWork.f
  rw [memOkI_at l hy m (by omega) 4000000 (by omega), memOkS_at l hl hy m (by omega) 4000000 (by omega)]
  simp only [Option.bind_some, unpack_eq _ 4000000 (by omega)]
  by_cases ok : memOk l m = true
  · have h49 : m.length = 49 := by
      unfold memOk at ok
      simp only [Bool.and_eq_true, decide_eq_true_eq] at ok
      exact ok.2.1
    obtain ⟨s, n, t, eu, hu⟩ := unpackI_all (rd m 8)
    have g8 : (8 : Int) < (m.length : Int) := by omega
    simp only [ok, g8, eu, if_true, Option.bind_some]
  · simp [ok]

end Go.Proofs.Ytaicbghmfeehkaa.Pure
