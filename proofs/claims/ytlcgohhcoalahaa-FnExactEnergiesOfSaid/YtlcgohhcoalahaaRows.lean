/-
  No cell of these rows narrows 'for every input' (looked for: loops, veiled, ifaces, maps, wideKeys, modest, calm, conditions, laid).
  DERIVED. THE GIVEN ROWS OF THIS SEAT. 11 by the template 'for every input the law returns true; each argument reads behind the call as it read before'; 0 by the template 'total and deterministic' (their statements: YtlcgohhcoalahaaTotals.lean).
  GIVEN WITH THE SEED: the statements are not yours to turn. If you find one false, say at which input.
  Laid BY PROGRAM, IN A SANDBOX (cutbox-rows.mjs): the forced cells as the released guide's own fill.sh prints them over the translation 98cf7d75109ad6b6… (all of the seat's roots in one cut). By AI agents, Wed Nov 11 2026. No macro, syntax, notation, axiom, sorry.
-/
import Derived.Test.YtlcgohhcoalahaaChecked
import GoSem.Claim
import GoSem.ClaimJoined
import GoSem.ClaimMapViews
import Derived.JoinedTies
import Derived.KernelRfl
namespace Go.Proofs.Ytlcgohhcoalahaa
/- THE CELL 'sum', in the pinned program and in every row, IS THE sha256 OF THE DUMP (.gsa) THAT YtlcgohhcoalahaaProg.lean LOADS. Nothing in Lean hashes anything: it is a label: what it is worth is what the hold of that sum in a sandbox is worth. -/
noncomputable def Try.pinned : Pinned := { name := "ytlcgohhcoalahaa", sum := "98cf7d75109ad6b6ba8550f864fa7e2249c1a103c77402ca2f3b387d00f48fb7", checked := Try.checked }
namespace Rows
def none {H : Type} : Left H := { results := [], args := [] }

/-- 'laws.FnExactBootTasks': WHATEVER THE INPUT: true; the input reads as it did. -/
def fnExactBootTasksSpec : ChangeSpec := { name := "fnExactBootTasks", fn := fun _ => fun
  | [d] => { results := [.lit (.bool true)], args := [d] }
  | _ => none }
def fnExactBootTasksRow : OpenClaim := { program := "ytlcgohhcoalahaa", sum := "98cf7d75109ad6b6ba8550f864fa7e2249c1a103c77402ca2f3b387d00f48fb7", func := "loop.example/g00983/laws.FnExactBootTasks", spec := "fnExactBootTasks", apart := false }
def FnExactBootTasksSaid : Prop := fnExactBootTasksRow.holds Try.pinned (OpenSpec.ofChange fnExactBootTasksSpec)

/-- ITS FALSE NEIGHBOUR: 'it returns false'. Refute it at one input. -/
def fnExactBootTasksWrong : ChangeSpec := { name := "fnExactBootTasks", fn := fun _ => fun
  | [d] => { results := [.lit (.bool false)], args := [d] }
  | _ => none }
def FnExactBootTasksWrongFalsely : Prop := fnExactBootTasksRow.holds Try.pinned (OpenSpec.ofChange fnExactBootTasksWrong)

/-- 'laws.FnTicksToOn': WHATEVER THE INPUT: true; the input reads as it did. -/
def fnTicksToOnSpec : ChangeSpec := { name := "fnTicksToOn", fn := fun _ => fun
  | [d] => { results := [.lit (.bool true)], args := [d] }
  | _ => none }
def fnTicksToOnRow : OpenClaim := { program := "ytlcgohhcoalahaa", sum := "98cf7d75109ad6b6ba8550f864fa7e2249c1a103c77402ca2f3b387d00f48fb7", func := "loop.example/g00983/laws.FnTicksToOn", spec := "fnTicksToOn", unfollowed := true, recurses := true, apart := false }
def FnTicksToOnSaid : Prop := fnTicksToOnRow.holds Try.pinned (OpenSpec.ofChange fnTicksToOnSpec)

/-- ITS FALSE NEIGHBOUR: 'it returns false'. Refute it at one input. -/
def fnTicksToOnWrong : ChangeSpec := { name := "fnTicksToOn", fn := fun _ => fun
  | [d] => { results := [.lit (.bool false)], args := [d] }
  | _ => none }
def FnTicksToOnWrongFalsely : Prop := fnTicksToOnRow.holds Try.pinned (OpenSpec.ofChange fnTicksToOnWrong)

/-- 'laws.FnExactProgress': WHATEVER THE INPUT: true; the input reads as it did. -/
def fnExactProgressSpec : ChangeSpec := { name := "fnExactProgress", fn := fun _ => fun
  | [d] => { results := [.lit (.bool true)], args := [d] }
  | _ => none }
def fnExactProgressRow : OpenClaim := { program := "ytlcgohhcoalahaa", sum := "98cf7d75109ad6b6ba8550f864fa7e2249c1a103c77402ca2f3b387d00f48fb7", func := "loop.example/g00983/laws.FnExactProgress", spec := "fnExactProgress", apart := false }
def FnExactProgressSaid : Prop := fnExactProgressRow.holds Try.pinned (OpenSpec.ofChange fnExactProgressSpec)

/-- ITS FALSE NEIGHBOUR: 'it returns false'. Refute it at one input. -/
def fnExactProgressWrong : ChangeSpec := { name := "fnExactProgress", fn := fun _ => fun
  | [d] => { results := [.lit (.bool false)], args := [d] }
  | _ => none }
def FnExactProgressWrongFalsely : Prop := fnExactProgressRow.holds Try.pinned (OpenSpec.ofChange fnExactProgressWrong)

/-- 'laws.FnExactStmtCost': WHATEVER THE INPUT: true; the input reads as it did. -/
def fnExactStmtCostSpec : ChangeSpec := { name := "fnExactStmtCost", fn := fun _ => fun
  | [d] => { results := [.lit (.bool true)], args := [d] }
  | _ => none }
def fnExactStmtCostRow : OpenClaim := { program := "ytlcgohhcoalahaa", sum := "98cf7d75109ad6b6ba8550f864fa7e2249c1a103c77402ca2f3b387d00f48fb7", func := "loop.example/g00983/laws.FnExactStmtCost", spec := "fnExactStmtCost", apart := false }
def FnExactStmtCostSaid : Prop := fnExactStmtCostRow.holds Try.pinned (OpenSpec.ofChange fnExactStmtCostSpec)

/-- ITS FALSE NEIGHBOUR: 'it returns false'. Refute it at one input. -/
def fnExactStmtCostWrong : ChangeSpec := { name := "fnExactStmtCost", fn := fun _ => fun
  | [d] => { results := [.lit (.bool false)], args := [d] }
  | _ => none }
def FnExactStmtCostWrongFalsely : Prop := fnExactStmtCostRow.holds Try.pinned (OpenSpec.ofChange fnExactStmtCostWrong)

/-- 'laws.FnExactTicksToOn': WHATEVER THE INPUT: true; the input reads as it did. -/
def fnExactTicksToOnSpec : ChangeSpec := { name := "fnExactTicksToOn", fn := fun _ => fun
  | [d1, d2] => { results := [.lit (.bool true)], args := [d1, d2] }
  | _ => none }
def fnExactTicksToOnRow : OpenClaim := { program := "ytlcgohhcoalahaa", sum := "98cf7d75109ad6b6ba8550f864fa7e2249c1a103c77402ca2f3b387d00f48fb7", func := "loop.example/g00983/laws.FnExactTicksToOn", spec := "fnExactTicksToOn", unfollowed := true, recurses := true, apart := false }
def FnExactTicksToOnSaid : Prop := fnExactTicksToOnRow.holds Try.pinned (OpenSpec.ofChange fnExactTicksToOnSpec)

/-- ITS FALSE NEIGHBOUR: 'it returns false'. Refute it at one input. -/
def fnExactTicksToOnWrong : ChangeSpec := { name := "fnExactTicksToOn", fn := fun _ => fun
  | [d1, d2] => { results := [.lit (.bool false)], args := [d1, d2] }
  | _ => none }
def FnExactTicksToOnWrongFalsely : Prop := fnExactTicksToOnRow.holds Try.pinned (OpenSpec.ofChange fnExactTicksToOnWrong)

/-- 'laws.FnBootEnergies': WHATEVER THE INPUT: true; the input reads as it did. -/
def fnBootEnergiesSpec : ChangeSpec := { name := "fnBootEnergies", fn := fun _ => fun
  | [d] => { results := [.lit (.bool true)], args := [d] }
  | _ => none }
def fnBootEnergiesRow : OpenClaim := { program := "ytlcgohhcoalahaa", sum := "98cf7d75109ad6b6ba8550f864fa7e2249c1a103c77402ca2f3b387d00f48fb7", func := "loop.example/g00983/laws.FnBootEnergies", spec := "fnBootEnergies", unfollowed := true, recurses := true, apart := false }
def FnBootEnergiesSaid : Prop := fnBootEnergiesRow.holds Try.pinned (OpenSpec.ofChange fnBootEnergiesSpec)

/-- ITS FALSE NEIGHBOUR: 'it returns false'. Refute it at one input. -/
def fnBootEnergiesWrong : ChangeSpec := { name := "fnBootEnergies", fn := fun _ => fun
  | [d] => { results := [.lit (.bool false)], args := [d] }
  | _ => none }
def FnBootEnergiesWrongFalsely : Prop := fnBootEnergiesRow.holds Try.pinned (OpenSpec.ofChange fnBootEnergiesWrong)

/-- 'laws.FnExactTraceCost': WHATEVER THE INPUT: true; the input reads as it did. -/
def fnExactTraceCostSpec : ChangeSpec := { name := "fnExactTraceCost", fn := fun _ => fun
  | [d] => { results := [.lit (.bool true)], args := [d] }
  | _ => none }
def fnExactTraceCostRow : OpenClaim := { program := "ytlcgohhcoalahaa", sum := "98cf7d75109ad6b6ba8550f864fa7e2249c1a103c77402ca2f3b387d00f48fb7", func := "loop.example/g00983/laws.FnExactTraceCost", spec := "fnExactTraceCost", apart := false }
def FnExactTraceCostSaid : Prop := fnExactTraceCostRow.holds Try.pinned (OpenSpec.ofChange fnExactTraceCostSpec)

/-- ITS FALSE NEIGHBOUR: 'it returns false'. Refute it at one input. -/
def fnExactTraceCostWrong : ChangeSpec := { name := "fnExactTraceCost", fn := fun _ => fun
  | [d] => { results := [.lit (.bool false)], args := [d] }
  | _ => none }
def FnExactTraceCostWrongFalsely : Prop := fnExactTraceCostRow.holds Try.pinned (OpenSpec.ofChange fnExactTraceCostWrong)

/-- 'laws.FnExactIdleBoots': WHATEVER THE INPUT: true; the input reads as it did. -/
def fnExactIdleBootsSpec : ChangeSpec := { name := "fnExactIdleBoots", fn := fun _ => fun
  | [d] => { results := [.lit (.bool true)], args := [d] }
  | _ => none }
def fnExactIdleBootsRow : OpenClaim := { program := "ytlcgohhcoalahaa", sum := "98cf7d75109ad6b6ba8550f864fa7e2249c1a103c77402ca2f3b387d00f48fb7", func := "loop.example/g00983/laws.FnExactIdleBoots", spec := "fnExactIdleBoots", apart := false }
def FnExactIdleBootsSaid : Prop := fnExactIdleBootsRow.holds Try.pinned (OpenSpec.ofChange fnExactIdleBootsSpec)

/-- ITS FALSE NEIGHBOUR: 'it returns false'. Refute it at one input. -/
def fnExactIdleBootsWrong : ChangeSpec := { name := "fnExactIdleBoots", fn := fun _ => fun
  | [d] => { results := [.lit (.bool false)], args := [d] }
  | _ => none }
def FnExactIdleBootsWrongFalsely : Prop := fnExactIdleBootsRow.holds Try.pinned (OpenSpec.ofChange fnExactIdleBootsWrong)

/-- 'laws.FnExactLongestIdle': WHATEVER THE INPUT: true; the input reads as it did. -/
def fnExactLongestIdleSpec : ChangeSpec := { name := "fnExactLongestIdle", fn := fun _ => fun
  | [d] => { results := [.lit (.bool true)], args := [d] }
  | _ => none }
def fnExactLongestIdleRow : OpenClaim := { program := "ytlcgohhcoalahaa", sum := "98cf7d75109ad6b6ba8550f864fa7e2249c1a103c77402ca2f3b387d00f48fb7", func := "loop.example/g00983/laws.FnExactLongestIdle", spec := "fnExactLongestIdle", apart := false }
def FnExactLongestIdleSaid : Prop := fnExactLongestIdleRow.holds Try.pinned (OpenSpec.ofChange fnExactLongestIdleSpec)

/-- ITS FALSE NEIGHBOUR: 'it returns false'. Refute it at one input. -/
def fnExactLongestIdleWrong : ChangeSpec := { name := "fnExactLongestIdle", fn := fun _ => fun
  | [d] => { results := [.lit (.bool false)], args := [d] }
  | _ => none }
def FnExactLongestIdleWrongFalsely : Prop := fnExactLongestIdleRow.holds Try.pinned (OpenSpec.ofChange fnExactLongestIdleWrong)

/-- 'laws.FnExactWastedBy': WHATEVER THE INPUT: true; the input reads as it did. -/
def fnExactWastedBySpec : ChangeSpec := { name := "fnExactWastedBy", fn := fun _ => fun
  | [d1, d2] => { results := [.lit (.bool true)], args := [d1, d2] }
  | _ => none }
def fnExactWastedByRow : OpenClaim := { program := "ytlcgohhcoalahaa", sum := "98cf7d75109ad6b6ba8550f864fa7e2249c1a103c77402ca2f3b387d00f48fb7", func := "loop.example/g00983/laws.FnExactWastedBy", spec := "fnExactWastedBy", unfollowed := true, recurses := true, apart := false }
def FnExactWastedBySaid : Prop := fnExactWastedByRow.holds Try.pinned (OpenSpec.ofChange fnExactWastedBySpec)

/-- ITS FALSE NEIGHBOUR: 'it returns false'. Refute it at one input. -/
def fnExactWastedByWrong : ChangeSpec := { name := "fnExactWastedBy", fn := fun _ => fun
  | [d1, d2] => { results := [.lit (.bool false)], args := [d1, d2] }
  | _ => none }
def FnExactWastedByWrongFalsely : Prop := fnExactWastedByRow.holds Try.pinned (OpenSpec.ofChange fnExactWastedByWrong)

/-- 'laws.FnExactEnergiesOf': WHATEVER THE INPUT: true; the input reads as it did. -/
def fnExactEnergiesOfSpec : ChangeSpec := { name := "fnExactEnergiesOf", fn := fun _ => fun
  | [d1, d2] => { results := [.lit (.bool true)], args := [d1, d2] }
  | _ => none }
def fnExactEnergiesOfRow : OpenClaim := { program := "ytlcgohhcoalahaa", sum := "98cf7d75109ad6b6ba8550f864fa7e2249c1a103c77402ca2f3b387d00f48fb7", func := "loop.example/g00983/laws.FnExactEnergiesOf", spec := "fnExactEnergiesOf", unfollowed := true, recurses := true, apart := false }
def FnExactEnergiesOfSaid : Prop := fnExactEnergiesOfRow.holds Try.pinned (OpenSpec.ofChange fnExactEnergiesOfSpec)

/-- ITS FALSE NEIGHBOUR: 'it returns false'. Refute it at one input. -/
def fnExactEnergiesOfWrong : ChangeSpec := { name := "fnExactEnergiesOf", fn := fun _ => fun
  | [d1, d2] => { results := [.lit (.bool false)], args := [d1, d2] }
  | _ => none }
def FnExactEnergiesOfWrongFalsely : Prop := fnExactEnergiesOfRow.holds Try.pinned (OpenSpec.ofChange fnExactEnergiesOfWrong)

/- THE SECOND FORM. 'bulk': how many values and letters a reading holds, each counted each time it is reached (what is shared counts as often as it is met; a slice's spare places count too). A statement '..UptoSaid' is the law's where the arguments, and the package variables that the reading takes, are together of bulk at most 1048576: NARROWER than '..Said'. Prove '..Said' where nothing that the law and all that it calls make is longer than what came in: it says more and counts as full. Else prove '..UptoSaid'. A law counts once. -/
mutual
def uptoBulk {H : Type} : DataW H → Nat
  | .lit (.string bytes) => bytes.length + 1
  | .lit _ => 1
  | .nil => 1
  | .ptr d => uptoBulk d + 1
  | .slice elems spare => uptoBulkAll elems + uptoBulkAll spare + 1
  | .agg parts => uptoBulkAll parts + 1
  | .iface _ d => uptoBulk d + 1
  | .map entries => uptoBulkEntries entries + 1
  | .held _ => 1
def uptoBulkAll {H : Type} : List (DataW H) → Nat
  | [] => 0
  | d :: r => uptoBulk d + uptoBulkAll r
def uptoBulkEntries {H : Type} : List (Lit × DataW H) → Nat
  | [] => 0
  | x :: r => uptoBulkEntry x + uptoBulkEntries r
def uptoBulkEntry {H : Type} : Lit × DataW H → Nat
  | (.string bytes, d) => bytes.length + uptoBulk d + 1
  | (_, d) => uptoBulk d + 1
 end
def uptoSmall : (H : Type) → List (DataW H) → Bool := fun _ ds => decide (uptoBulkAll ds ≤ 1048576)
def OpenSpec.upto (s : _root_.Go.ChangeSpec) : _root_.Go.OpenSpec := { _root_.Go.OpenSpec.ofChange s with cond := some uptoSmall }

/-- 'laws.FnExactBootTasks', WHERE WHAT IT READS IS OF BULK AT MOST 1048576: true; the input reads as it did. -/
def fnExactBootTasksUptoRow : OpenClaim := { program := "ytlcgohhcoalahaa", sum := "98cf7d75109ad6b6ba8550f864fa7e2249c1a103c77402ca2f3b387d00f48fb7", func := "loop.example/g00983/laws.FnExactBootTasks", spec := "fnExactBootTasks", apart := false, narrowed := true }
def FnExactBootTasksUptoSaid : Prop := fnExactBootTasksUptoRow.holds Try.pinned (OpenSpec.upto fnExactBootTasksSpec)

/-- 'laws.FnTicksToOn', WHERE WHAT IT READS IS OF BULK AT MOST 1048576: true; the input reads as it did. -/
def fnTicksToOnUptoRow : OpenClaim := { program := "ytlcgohhcoalahaa", sum := "98cf7d75109ad6b6ba8550f864fa7e2249c1a103c77402ca2f3b387d00f48fb7", func := "loop.example/g00983/laws.FnTicksToOn", spec := "fnTicksToOn", unfollowed := true, recurses := true, apart := false, narrowed := true }
def FnTicksToOnUptoSaid : Prop := fnTicksToOnUptoRow.holds Try.pinned (OpenSpec.upto fnTicksToOnSpec)

/-- 'laws.FnExactProgress', WHERE WHAT IT READS IS OF BULK AT MOST 1048576: true; the input reads as it did. -/
def fnExactProgressUptoRow : OpenClaim := { program := "ytlcgohhcoalahaa", sum := "98cf7d75109ad6b6ba8550f864fa7e2249c1a103c77402ca2f3b387d00f48fb7", func := "loop.example/g00983/laws.FnExactProgress", spec := "fnExactProgress", apart := false, narrowed := true }
def FnExactProgressUptoSaid : Prop := fnExactProgressUptoRow.holds Try.pinned (OpenSpec.upto fnExactProgressSpec)

/-- 'laws.FnExactStmtCost', WHERE WHAT IT READS IS OF BULK AT MOST 1048576: true; the input reads as it did. -/
def fnExactStmtCostUptoRow : OpenClaim := { program := "ytlcgohhcoalahaa", sum := "98cf7d75109ad6b6ba8550f864fa7e2249c1a103c77402ca2f3b387d00f48fb7", func := "loop.example/g00983/laws.FnExactStmtCost", spec := "fnExactStmtCost", apart := false, narrowed := true }
def FnExactStmtCostUptoSaid : Prop := fnExactStmtCostUptoRow.holds Try.pinned (OpenSpec.upto fnExactStmtCostSpec)

/-- 'laws.FnExactTicksToOn', WHERE WHAT IT READS IS OF BULK AT MOST 1048576: true; the input reads as it did. -/
def fnExactTicksToOnUptoRow : OpenClaim := { program := "ytlcgohhcoalahaa", sum := "98cf7d75109ad6b6ba8550f864fa7e2249c1a103c77402ca2f3b387d00f48fb7", func := "loop.example/g00983/laws.FnExactTicksToOn", spec := "fnExactTicksToOn", unfollowed := true, recurses := true, apart := false, narrowed := true }
def FnExactTicksToOnUptoSaid : Prop := fnExactTicksToOnUptoRow.holds Try.pinned (OpenSpec.upto fnExactTicksToOnSpec)

/-- 'laws.FnBootEnergies', WHERE WHAT IT READS IS OF BULK AT MOST 1048576: true; the input reads as it did. -/
def fnBootEnergiesUptoRow : OpenClaim := { program := "ytlcgohhcoalahaa", sum := "98cf7d75109ad6b6ba8550f864fa7e2249c1a103c77402ca2f3b387d00f48fb7", func := "loop.example/g00983/laws.FnBootEnergies", spec := "fnBootEnergies", unfollowed := true, recurses := true, apart := false, narrowed := true }
def FnBootEnergiesUptoSaid : Prop := fnBootEnergiesUptoRow.holds Try.pinned (OpenSpec.upto fnBootEnergiesSpec)

/-- 'laws.FnExactTraceCost', WHERE WHAT IT READS IS OF BULK AT MOST 1048576: true; the input reads as it did. -/
def fnExactTraceCostUptoRow : OpenClaim := { program := "ytlcgohhcoalahaa", sum := "98cf7d75109ad6b6ba8550f864fa7e2249c1a103c77402ca2f3b387d00f48fb7", func := "loop.example/g00983/laws.FnExactTraceCost", spec := "fnExactTraceCost", apart := false, narrowed := true }
def FnExactTraceCostUptoSaid : Prop := fnExactTraceCostUptoRow.holds Try.pinned (OpenSpec.upto fnExactTraceCostSpec)

/-- 'laws.FnExactIdleBoots', WHERE WHAT IT READS IS OF BULK AT MOST 1048576: true; the input reads as it did. -/
def fnExactIdleBootsUptoRow : OpenClaim := { program := "ytlcgohhcoalahaa", sum := "98cf7d75109ad6b6ba8550f864fa7e2249c1a103c77402ca2f3b387d00f48fb7", func := "loop.example/g00983/laws.FnExactIdleBoots", spec := "fnExactIdleBoots", apart := false, narrowed := true }
def FnExactIdleBootsUptoSaid : Prop := fnExactIdleBootsUptoRow.holds Try.pinned (OpenSpec.upto fnExactIdleBootsSpec)

/-- 'laws.FnExactLongestIdle', WHERE WHAT IT READS IS OF BULK AT MOST 1048576: true; the input reads as it did. -/
def fnExactLongestIdleUptoRow : OpenClaim := { program := "ytlcgohhcoalahaa", sum := "98cf7d75109ad6b6ba8550f864fa7e2249c1a103c77402ca2f3b387d00f48fb7", func := "loop.example/g00983/laws.FnExactLongestIdle", spec := "fnExactLongestIdle", apart := false, narrowed := true }
def FnExactLongestIdleUptoSaid : Prop := fnExactLongestIdleUptoRow.holds Try.pinned (OpenSpec.upto fnExactLongestIdleSpec)

/-- 'laws.FnExactWastedBy', WHERE WHAT IT READS IS OF BULK AT MOST 1048576: true; the input reads as it did. -/
def fnExactWastedByUptoRow : OpenClaim := { program := "ytlcgohhcoalahaa", sum := "98cf7d75109ad6b6ba8550f864fa7e2249c1a103c77402ca2f3b387d00f48fb7", func := "loop.example/g00983/laws.FnExactWastedBy", spec := "fnExactWastedBy", unfollowed := true, recurses := true, apart := false, narrowed := true }
def FnExactWastedByUptoSaid : Prop := fnExactWastedByUptoRow.holds Try.pinned (OpenSpec.upto fnExactWastedBySpec)

/-- 'laws.FnExactEnergiesOf', WHERE WHAT IT READS IS OF BULK AT MOST 1048576: true; the input reads as it did. -/
def fnExactEnergiesOfUptoRow : OpenClaim := { program := "ytlcgohhcoalahaa", sum := "98cf7d75109ad6b6ba8550f864fa7e2249c1a103c77402ca2f3b387d00f48fb7", func := "loop.example/g00983/laws.FnExactEnergiesOf", spec := "fnExactEnergiesOf", unfollowed := true, recurses := true, apart := false, narrowed := true }
def FnExactEnergiesOfUptoSaid : Prop := fnExactEnergiesOfUptoRow.holds Try.pinned (OpenSpec.upto fnExactEnergiesOfSpec)

end Rows
end Go.Proofs.Ytlcgohhcoalahaa
