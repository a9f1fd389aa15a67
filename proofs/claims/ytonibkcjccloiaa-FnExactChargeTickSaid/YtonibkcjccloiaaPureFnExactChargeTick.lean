/- The law FnExactChargeTick: for every input the function answers true. No condition. -/
import Derived.Test.YtonibkcjccloiaaGx8
namespace Go.Proofs.Ytonibkcjccloiaa.Pure
open Go.RowKit Go.Proofs.Ytonibkcjccloiaa.G Go.Proofs.YtonibkcjccloiaaW.PrintWords Go.Proofs.YtonibkcjccloiaaW.PrintLast

theorem w64 {x : Int} (h : -9223372036854775808 ≤ x) (h2 : x ≤ 9223372036854775807) : wrap64 x = x := by
  unfold wrap64
  omega
theorem wf_i64 {x : Int} (h : (Lit.int .i64 x).wf = true) : -9223372036854775808 ≤ x ∧ x ≤ 9223372036854775807 := by
  simp only [Lit.wf, IntKind.min, IntKind.max, IntKind.signed, IntKind.bits, Bool.and_eq_true, decide_eq_true_eq, if_true] at h
  omega
theorem succ_of {k d : Nat} (h : d < k) : ∃ m, k = m + 1 := ⟨k - 1, by omega⟩
theorem rd_eq {l : List Int} {i : Int} (h0 : 0 ≤ i) (h : i < (l.length : Int)) : l[i.toNat]? = some (rd l i) := by
  unfold rd
  rw [List.getD_eq_getElem?_getD, List.getElem?_eq_getElem (by omega)]
  rfl
theorem drop_rd {l : List Int} {i : Int} (h0 : 0 ≤ i) (h : i < (l.length : Int)) : l.drop i.toNat = rd l i :: l.drop (i + 1).toNat := by
  have h1 : i.toNat < l.length := by omega
  have h2 : (i + 1).toNat = i.toNat + 1 := by omega
  have h3 := rd_eq h0 h
  rw [h2, List.drop_eq_getElem_cons h1]
  rw [List.getElem?_eq_getElem h1] at h3
  rw [Option.some.inj h3]
/-- The numbers a, a + 1, .. : n of them. -/
def marks (a : Int) (n : Nat) : List Int := (List.range n).map fun j : Nat => a + (j : Int)
theorem marks_len (a : Int) (n : Nat) : (marks a n).length = n := by simp [marks]
theorem marks_get (a : Int) (n i : Nat) (h : i < n) : (marks a n)[i]? = some (a + (i : Int)) := by simp [marks, h]
theorem l01In_eq (a b c : Int) : spec_l01In.f a b c = some (decide (b ≤ a ∧ a ≤ c)) := by
  unfold spec_l01In.f
  by_cases h : b ≤ a <;> simp [h]
theorem within_eq (a b c : Int) : impl_within.f a b c = some (decide (b ≤ a ∧ a ≤ c)) := by
  unfold impl_within.f
  by_cases h : b ≤ a <;> simp [h]
/-- A store is valid. -/
def sOk (a b c d : Int) : Bool := decide (1 ≤ b ∧ b ≤ 5000) && (decide (0 ≤ a ∧ a ≤ b) && (decide (1 ≤ c ∧ c ≤ b) && decide (0 ≤ d ∧ d ≤ 100)))
theorem sOk_iff {a b c d : Int} : sOk a b c d = true ↔ (1 ≤ b ∧ b ≤ 5000) ∧ (0 ≤ a ∧ a ≤ b) ∧ (1 ≤ c ∧ c ≤ b) ∧ (0 ≤ d ∧ d ≤ 100) := by
  simp only [sOk, Bool.and_eq_true, decide_eq_true_eq]
theorem storeOkI_eq (a b c d : Int) : impl_StoreOk.f a b c d = some (sOk a b c d) := by
  unfold impl_StoreOk.f sOk
  simp only [within_eq, Option.bind_some]
  by_cases h1 : 1 ≤ b ∧ b ≤ 5000
  · by_cases h2 : 0 ≤ a ∧ a ≤ b
    · by_cases h3 : 1 ≤ c ∧ c ≤ b
      · simp [h1, h2, h3]
      · simp [h1, h2, h3]
    · simp [h1, h2]
  · simp [h1]
theorem storeOkS_eq (a b c d : Int) : spec_StoreOk.f a b c d = some (sOk a b c d) := by
  unfold spec_StoreOk.f sOk
  simp only [l01In_eq, Option.bind_some]
  by_cases h1 : 1 ≤ b ∧ b ≤ 5000
  · by_cases h2 : 0 ≤ a ∧ a ≤ b
    · by_cases h3 : 1 ≤ c ∧ c ≤ b
      · simp [h1, h2, h3]
      · simp [h1, h2, h3]
    · simp [h1, h2]
  · simp [h1]
/-- The charge behind a tick. -/
def tickC (a b d h : Int) : Int := if a + h - d < 0 then 0 else if a + h - d > b then b else a + h - d
theorem tickI_eq {a b c d h : Int} (ok : sOk a b c d = true) (h0 : 0 ≤ h) (h1 : h ≤ 1000) : impl_Store_tick.f a b c d h = some (tickC a b d h, b, c, d) := by
  obtain ⟨hb, ha, hc, hd⟩ := sOk_iff.1 ok
  unfold impl_Store_tick.f impl_Clamp.f tickC mn mx
  rw [w64 (x := a + h) (by omega) (by omega), w64 (by omega) (by omega), if_neg (by omega)]
  simp only [Option.bind_some, Option.some.injEq, Prod.mk.injEq, and_true]
  by_cases e : a + h - d < 0
  · rw [if_pos e, if_pos e, if_neg (by omega)]
  · rw [if_neg e, if_neg e]
theorem isHarvest_eq (h : Int) : impl_isHarvest.f h = some (decide (0 ≤ h ∧ h ≤ 1000)) := by
  unfold impl_isHarvest.f
  rw [within_eq]
  rfl
theorem tickS_eq {a b c d h : Int} (ok : sOk a b c d = true) (h0 : 0 ≤ h) (h1 : h ≤ 1000) (k : Nat) (hk : 0 < k) : spec_l19Tick.f k a b c d h = some (tickC a b d h, b, c, d) := by
  obtain ⟨hb, ha, hc, hd⟩ := sOk_iff.1 ok
  obtain ⟨k, rfl⟩ := succ_of hk
  unfold spec_l19Tick.f spec_Clamp.f tickC
  rw [w64 (x := a + h) (by omega) (by omega), w64 (by omega) (by omega), if_neg (by omega)]
  simp only [spec_Clamp.j0, decide_eq_true_eq]
  by_cases e : a + h - d < 0
  · rw [if_pos e, if_pos e]
    rfl
  · rw [if_neg e, if_neg e]
    by_cases e2 : a + h - d > b
    · rw [if_pos e2, if_pos e2]
      rfl
    · rw [if_neg e2, if_neg e2]
      rfl
/-- The charge behind ChargeTick. -/
def chargeC (a b c d h : Int) : Int := if sOk a b c d = true then (if 0 ≤ h ∧ h ≤ 1000 then tickC a b d h else a) else a
theorem chargeI_eq (a b c d h : Int) : impl_ChargeTick.f a b c d h = some (chargeC a b c d h, b, c, d) := by
  unfold impl_ChargeTick.f chargeC
  rw [storeOkI_eq]
  simp only [Option.bind_some, isHarvest_eq, decide_eq_true_eq]
  by_cases ok : sOk a b c d = true
  · rw [if_pos ok, if_pos ok]
    by_cases hh : 0 ≤ h ∧ h ≤ 1000
    · rw [if_pos hh, if_pos hh, tickI_eq ok hh.1 hh.2]
      rfl
    · rw [if_neg hh, if_neg hh]
  · rw [if_neg ok, if_neg ok]
theorem FnExactChargeTick : laws_FnExactChargeTick.Pure := by
  intro x h _ _
  refine ⟨1, ?_⟩
  unfold laws_FnExactChargeTick.f laws_toStore.f
  have e : spec_ChargeTick.f 1 x.f0 x.f1 x.f2 x.f3 h = some (chargeC x.f0 x.f1 x.f2 x.f3 h, x.f1, x.f2, x.f3) := by
    unfold spec_ChargeTick.f chargeC
    rw [storeOkS_eq]
    simp only [Option.bind_some, l01In_eq, decide_eq_true_eq]
    by_cases ok : sOk x.f0 x.f1 x.f2 x.f3 = true
    · rw [if_pos ok, if_pos ok]
      by_cases hh : 0 ≤ h ∧ h ≤ 1000
      · rw [if_pos hh, if_pos hh, tickS_eq ok hh.1 hh.2 1 (by omega)]
        rfl
      · rw [if_neg hh, if_neg hh]
    · rw [if_neg ok, if_neg ok]
  simp only [Option.bind_some, e, chargeI_eq, laws_eqStore.f, if_true]

end Go.Proofs.Ytonibkcjccloiaa.Pure
