/- The law FnExactStmtCost: for every input the function answers true. No condition. -/
import Derived.Test.YtlcgohhcoalahaaGx30
namespace Go.Proofs.Ytlcgohhcoalahaa.Pure
open Go.RowKit Go.Proofs.Ytlcgohhcoalahaa.G Go.Proofs.YtlcgohhcoalahaaW.PrintWords Go.Proofs.YtlcgohhcoalahaaW.PrintLast

theorem w64 {x : Int} (h : -9223372036854775808 ≤ x) (h2 : x ≤ 9223372036854775807) : wrap64 x = x := by
  unfold wrap64
  omega
theorem wf_i64 {x : Int} (h : (Lit.int .i64 x).wf = true) : -9223372036854775808 ≤ x ∧ x ≤ 9223372036854775807 := by
  simp only [Lit.wf, IntKind.min, IntKind.max, IntKind.signed, IntKind.bits, Bool.and_eq_true, decide_eq_true_eq, if_true] at h
  omega
theorem succ_of {k d : Nat} (h : d < k) : ∃ m, k = m + 1 := ⟨k - 1, by omega⟩
theorem rd_eq {l : List Int} {i : Int} (h0 : 0 ≤ i) (h : i < (l.length : Int)) : l[i.toNat]? = some (rd l i) := by
  unfold rd
  rw [List.getD_eq_getElem?_getD, List.getElem?_eq_getElem (by omega)]
  rfl
theorem drop_rd {l : List Int} {i : Int} (h0 : 0 ≤ i) (h : i < (l.length : Int)) : l.drop i.toNat = rd l i :: l.drop (i + 1).toNat := by
  have h1 : i.toNat < l.length := by omega
  have h2 : (i + 1).toNat = i.toNat + 1 := by omega
  have h3 := rd_eq h0 h
  rw [h2, List.drop_eq_getElem_cons h1]
  rw [List.getElem?_eq_getElem h1] at h3
  rw [Option.some.inj h3]
/-- The numbers a, a + 1, .. : n of them. -/
def marks (a : Int) (n : Nat) : List Int := (List.range n).map fun j : Nat => a + (j : Int)
theorem marks_len (a : Int) (n : Nat) : (marks a n).length = n := by simp [marks]
theorem marks_get (a : Int) (n i : Nat) (h : i < n) : (marks a n)[i]? = some (a + (i : Int)) := by simp [marks, h]
theorem rd_all {P : Int → Prop} {l : List Int} (h : ∀ x ∈ l, P x) {i : Int} (h0 : 0 ≤ i) (h1 : i < (l.length : Int)) : P (rd l i) := h _ (List.mem_of_getElem? (rd_eq h0 h1))
theorem l01In_eq (a b c : Int) : spec_l01In.f a b c = some (decide (b ≤ a ∧ a ≤ c)) := by
  unfold spec_l01In.f
  by_cases h : b ≤ a <;> simp [h]
theorem within_eq (a b c : Int) : impl_within.f a b c = some (decide (b ≤ a ∧ a ≤ c)) := by
  unfold impl_within.f
  by_cases h : b ≤ a <;> simp [h]
theorem impl_bool {p : Prop} [Decidable p] {α : Type} (a b : α) (c : Bool) (h : c = decide p) : (if c = true then a else b) = if p then a else b := by subst h; by_cases p <;> simp [*]
theorem operandS_eq (x : Int) : spec_OperandOk.f x = some (decide (-8 ≤ x ∧ x ≤ 999)) := by unfold spec_OperandOk.f; rw [l01In_eq]; rfl
theorem operandI_eq (x : Int) : impl_OperandOk.f x = some (decide (-8 ≤ x ∧ x ≤ 999)) := by unfold impl_OperandOk.f; rw [within_eq]; rfl
/-- An expression of the language. -/
def exprOk (a b c : Int) : Bool := decide ((1 ≤ a ∧ a ≤ 7) ∧ (-8 ≤ b ∧ b ≤ 999) ∧ -8 ≤ c ∧ c ≤ 999)
theorem exprS_eq (a b c : Int) : spec_ExprOk.f a b c = some (exprOk a b c) := by
  unfold spec_ExprOk.f exprOk
  rw [l01In_eq, operandS_eq, operandS_eq]
  by_cases h1 : 1 ≤ a ∧ a ≤ 7 <;> by_cases h2 : -8 ≤ b ∧ b ≤ 999 <;> simp [h1, h2]
theorem exprI_eq (a b c : Int) : impl_ExprOk.f a b c = some (exprOk a b c) := by
  unfold impl_ExprOk.f exprOk
  rw [within_eq, operandI_eq, operandI_eq]
  by_cases h1 : 1 ≤ a ∧ a ≤ 7 <;> by_cases h2 : -8 ≤ b ∧ b ≤ 999 <;> simp [h1, h2]
/-- A statement of the language: its kind, its variable, its number, its expression. -/
def stmtOk (a b c d e f : Int) : Bool :=
  if a = 1 then decide ((0 ≤ b ∧ b ≤ 7) ∧ c = 0) && exprOk d e f
  else if a = 2 then decide ((0 ≤ b ∧ b ≤ 7) ∧ (0 ≤ c ∧ c ≤ 3) ∧ d = 0 ∧ e = 0 ∧ f = 0)
  else if a = 3 ∨ a = 4 then decide (b = 0 ∧ c = 0) && exprOk d e f
  else if a = 5 then decide (b = 0 ∧ (1 ≤ c ∧ c ≤ 5) ∧ d = 0 ∧ e = 0 ∧ f = 0)
  else if a = 6 then decide (b = 0 ∧ c = 0 ∧ d = 0 ∧ e = 0 ∧ f = 0) else false
theorem stmtS_eq (a b c d e f : Int) : spec_StmtOk.f 100 a b c d e f = some (stmtOk a b c d e f) := by
  unfold spec_StmtOk.f spec_l04Plain.f stmtOk
  simp only [spec_l04Plain.j0, spec_StmtOk.j0, l01In_eq, exprS_eq, Option.bind_some]
  by_cases h1 : a = 1
  · subst h1
    by_cases h : c = 0 <;> by_cases g : 0 ≤ b ∧ b ≤ 7 <;> simp [h, g]
  by_cases h2 : a = 2
  · subst h2
    by_cases h : d = 0 <;> by_cases h' : e = 0 <;> by_cases h'' : f = 0 <;> by_cases g : 0 ≤ b ∧ b ≤ 7 <;> simp [h, h', h'', g]
  by_cases h3 : a = 3
  · subst h3
    by_cases h : b = 0 <;> by_cases h' : c = 0 <;> simp [h, h']
  by_cases h4 : a = 4
  · subst h4
    by_cases h : b = 0 <;> by_cases h' : c = 0 <;> simp [h, h']
  by_cases h5 : a = 5
  · subst h5
    by_cases h : b = 0 <;> by_cases h' : d = 0 <;> by_cases h'' : e = 0 <;> by_cases g : f = 0 <;> simp [h, h', h'', g]
  by_cases h6 : a = 6
  · subst h6
    by_cases h : b = 0 <;> by_cases h' : d = 0 <;> by_cases h'' : e = 0 <;> by_cases g : f = 0 <;> by_cases g' : c = 0 <;> simp [h, h', h'', g, g']
  · simp [h1, h2, h3, h4, h5, h6]
theorem stmtI_eq (a b c d e f : Int) : impl_StmtOk.f 100 a b c d e f = some (stmtOk a b c d e f) := by
  unfold impl_StmtOk.f impl_hasVar.f impl_isVar.f stmtOk
  simp only [impl_StmtOk.j0, impl_StmtOk.j1, impl_hasExpr.f, impl_isSensor.f, within_eq, exprI_eq, Option.bind_some]
  by_cases h1 : a = 1
  · subst h1
    by_cases h : c = 0 <;> by_cases g : 0 ≤ b ∧ b ≤ 7 <;> cases exprOk d e f <;> simp [h, g]
  by_cases h2 : a = 2
  · subst h2
    by_cases h : d = 0 <;> by_cases h' : e = 0 <;> by_cases h'' : f = 0 <;> by_cases g : 0 ≤ b ∧ b ≤ 7 <;> simp [h, h', h'', g]
  by_cases h3 : a = 3
  · subst h3
    by_cases h : b = 0 <;> by_cases h' : c = 0 <;> cases exprOk d e f <;> simp [h, h']
  by_cases h4 : a = 4
  · subst h4
    by_cases h : b = 0 <;> by_cases h' : c = 0 <;> cases exprOk d e f <;> simp [h, h']
  by_cases h5 : a = 5
  · subst h5
    by_cases h : b = 0 <;> by_cases h' : d = 0 <;> by_cases h'' : e = 0 <;> by_cases g : f = 0 <;> simp [h, h', h'', g]
  by_cases h6 : a = 6
  · subst h6
    by_cases h : b = 0 <;> by_cases h' : d = 0 <;> by_cases h'' : e = 0 <;> by_cases g : f = 0 <;> by_cases g' : c = 0 <;> simp [h, h', h'', g, g']
  · have n : ¬ (1 ≤ a ∧ a ≤ 6) := by omega
    simp [h1, h2, h3, h4, h5, h6, n]
theorem FnExactStmtCost : laws_FnExactStmtCost.Pure := by
  intro x g
  refine ⟨100, ?_⟩
  unfold laws_FnExactStmtCost.f laws_toStmt.f laws_toExpr.f spec_StmtCost.f impl_StmtCost.f spec_l11Cost.f
  simp only [stmtS_eq, stmtI_eq, Option.bind_some]
  by_cases h : stmtOk x.f0 x.f1 x.f2 x.f3.f0 x.f3.f1 x.f3.f2 = true
  · simp only [h, if_true]
    unfold stmtOk at h
    by_cases h1 : x.f0 = 1
    · simp [h1, rd]
    by_cases h2 : x.f0 = 2
    · simp [h2, rd]
    by_cases h3 : x.f0 = 3
    · simp [h3, rd]
    by_cases h4 : x.f0 = 4
    · simp [h4, rd]
    by_cases h5 : x.f0 = 5
    · simp [h5, rd]
    by_cases h6 : x.f0 = 6
    · simp [h6, rd]
    · simp [h1, h2, h3, h4, h5, h6] at h
  · simp [h]

end Go.Proofs.Ytlcgohhcoalahaa.Pure
