/-
  No cell of these rows narrows 'for every input' (looked for: loops, veiled, ifaces, maps, wideKeys, modest, calm, conditions, laid).
  DERIVED. THE GIVEN ROWS OF THIS SEAT. 10 by the template 'for every input the law returns true; each argument reads behind the call as it read before'; 0 by the template 'total and deterministic' (their statements: YtaicbghmfeehkaaTotals.lean).
  GIVEN WITH THE SEED: the statements are not yours to turn. If you find one false, say at which input.
  Laid BY PROGRAM, IN A SANDBOX (cutbox-rows.mjs): the forced cells as the released guide's own fill.sh prints them over the translation 65b8ceda56f9d8f1… (all of the seat's roots in one cut). By AI agents, Wed Nov 11 2026. No macro, syntax, notation, axiom, sorry.
-/
import Derived.Test.YtaicbghmfeehkaaChecked
import GoSem.Claim
import GoSem.ClaimJoined
import GoSem.ClaimMapViews
import Derived.JoinedTies
import Derived.KernelRfl
namespace Go.Proofs.Ytaicbghmfeehkaa
/- THE CELL 'sum', in the pinned program and in every row, IS THE sha256 OF THE DUMP (.gsa) THAT YtaicbghmfeehkaaProg.lean LOADS. Nothing in Lean hashes anything: it is a label: what it is worth is what the hold of that sum in a sandbox is worth. -/
noncomputable def Try.pinned : Pinned := { name := "ytaicbghmfeehkaa", sum := "65b8ceda56f9d8f15b2d56c05d8a8a6235468f41d00af12868e1b01d9b35b4c2", checked := Try.checked }
namespace Rows
def none {H : Type} : Left H := { results := [], args := [] }

/-- 'laws.FnCosts': WHATEVER THE INPUT: true; the input reads as it did. -/
def fnCostsSpec : ChangeSpec := { name := "fnCosts", fn := fun _ => fun
  | [d] => { results := [.lit (.bool true)], args := [d] }
  | _ => none }
def fnCostsRow : OpenClaim := { program := "ytaicbghmfeehkaa", sum := "65b8ceda56f9d8f15b2d56c05d8a8a6235468f41d00af12868e1b01d9b35b4c2", func := "loop.example/g00983/laws.FnCosts", spec := "fnCosts", unfollowed := true, recurses := true, apart := false }
def FnCostsSaid : Prop := fnCostsRow.holds Try.pinned (OpenSpec.ofChange fnCostsSpec)

/-- ITS FALSE NEIGHBOUR: 'it returns false'. Refute it at one input. -/
def fnCostsWrong : ChangeSpec := { name := "fnCosts", fn := fun _ => fun
  | [d] => { results := [.lit (.bool false)], args := [d] }
  | _ => none }
def FnCostsWrongFalsely : Prop := fnCostsRow.holds Try.pinned (OpenSpec.ofChange fnCostsWrong)

/-- 'laws.FnExactWriteCount': WHATEVER THE INPUT: true; the input reads as it did. -/
def fnExactWriteCountSpec : ChangeSpec := { name := "fnExactWriteCount", fn := fun _ => fun
  | [d1, d2] => { results := [.lit (.bool true)], args := [d1, d2] }
  | _ => none }
def fnExactWriteCountRow : OpenClaim := { program := "ytaicbghmfeehkaa", sum := "65b8ceda56f9d8f15b2d56c05d8a8a6235468f41d00af12868e1b01d9b35b4c2", func := "loop.example/g00983/laws.FnExactWriteCount", spec := "fnExactWriteCount", unfollowed := true, recurses := true, apart := false }
def FnExactWriteCountSaid : Prop := fnExactWriteCountRow.holds Try.pinned (OpenSpec.ofChange fnExactWriteCountSpec)

/-- ITS FALSE NEIGHBOUR: 'it returns false'. Refute it at one input. -/
def fnExactWriteCountWrong : ChangeSpec := { name := "fnExactWriteCount", fn := fun _ => fun
  | [d1, d2] => { results := [.lit (.bool false)], args := [d1, d2] }
  | _ => none }
def FnExactWriteCountWrongFalsely : Prop := fnExactWriteCountRow.holds Try.pinned (OpenSpec.ofChange fnExactWriteCountWrong)

/-- 'laws.FnExactTaskBound': WHATEVER THE INPUT: true; the input reads as it did. -/
def fnExactTaskBoundSpec : ChangeSpec := { name := "fnExactTaskBound", fn := fun _ => fun
  | [d] => { results := [.lit (.bool true)], args := [d] }
  | _ => none }
def fnExactTaskBoundRow : OpenClaim := { program := "ytaicbghmfeehkaa", sum := "65b8ceda56f9d8f15b2d56c05d8a8a6235468f41d00af12868e1b01d9b35b4c2", func := "loop.example/g00983/laws.FnExactTaskBound", spec := "fnExactTaskBound", unfollowed := true, recurses := true, apart := false }
def FnExactTaskBoundSaid : Prop := fnExactTaskBoundRow.holds Try.pinned (OpenSpec.ofChange fnExactTaskBoundSpec)

/-- ITS FALSE NEIGHBOUR: 'it returns false'. Refute it at one input. -/
def fnExactTaskBoundWrong : ChangeSpec := { name := "fnExactTaskBound", fn := fun _ => fun
  | [d] => { results := [.lit (.bool false)], args := [d] }
  | _ => none }
def FnExactTaskBoundWrongFalsely : Prop := fnExactTaskBoundRow.holds Try.pinned (OpenSpec.ofChange fnExactTaskBoundWrong)

/-- 'laws.FnExactBootBound': WHATEVER THE INPUT: true; the input reads as it did. -/
def fnExactBootBoundSpec : ChangeSpec := { name := "fnExactBootBound", fn := fun _ => fun
  | [d] => { results := [.lit (.bool true)], args := [d] }
  | _ => none }
def fnExactBootBoundRow : OpenClaim := { program := "ytaicbghmfeehkaa", sum := "65b8ceda56f9d8f15b2d56c05d8a8a6235468f41d00af12868e1b01d9b35b4c2", func := "loop.example/g00983/laws.FnExactBootBound", spec := "fnExactBootBound", unfollowed := true, recurses := true, apart := false }
def FnExactBootBoundSaid : Prop := fnExactBootBoundRow.holds Try.pinned (OpenSpec.ofChange fnExactBootBoundSpec)

/-- ITS FALSE NEIGHBOUR: 'it returns false'. Refute it at one input. -/
def fnExactBootBoundWrong : ChangeSpec := { name := "fnExactBootBound", fn := fun _ => fun
  | [d] => { results := [.lit (.bool false)], args := [d] }
  | _ => none }
def FnExactBootBoundWrongFalsely : Prop := fnExactBootBoundRow.holds Try.pinned (OpenSpec.ofChange fnExactBootBoundWrong)

/-- 'laws.FnExactBlockBound': WHATEVER THE INPUT: true; the input reads as it did. -/
def fnExactBlockBoundSpec : ChangeSpec := { name := "fnExactBlockBound", fn := fun _ => fun
  | [d] => { results := [.lit (.bool true)], args := [d] }
  | _ => none }
def fnExactBlockBoundRow : OpenClaim := { program := "ytaicbghmfeehkaa", sum := "65b8ceda56f9d8f15b2d56c05d8a8a6235468f41d00af12868e1b01d9b35b4c2", func := "loop.example/g00983/laws.FnExactBlockBound", spec := "fnExactBlockBound", recurses := true, apart := false }
def FnExactBlockBoundSaid : Prop := fnExactBlockBoundRow.holds Try.pinned (OpenSpec.ofChange fnExactBlockBoundSpec)

/-- ITS FALSE NEIGHBOUR: 'it returns false'. Refute it at one input. -/
def fnExactBlockBoundWrong : ChangeSpec := { name := "fnExactBlockBound", fn := fun _ => fun
  | [d] => { results := [.lit (.bool false)], args := [d] }
  | _ => none }
def FnExactBlockBoundWrongFalsely : Prop := fnExactBlockBoundRow.holds Try.pinned (OpenSpec.ofChange fnExactBlockBoundWrong)

/-- 'laws.FnExactLostWork': WHATEVER THE INPUT: true; the input reads as it did. -/
def fnExactLostWorkSpec : ChangeSpec := { name := "fnExactLostWork", fn := fun _ => fun
  | [d1, d2] => { results := [.lit (.bool true)], args := [d1, d2] }
  | _ => none }
def fnExactLostWorkRow : OpenClaim := { program := "ytaicbghmfeehkaa", sum := "65b8ceda56f9d8f15b2d56c05d8a8a6235468f41d00af12868e1b01d9b35b4c2", func := "loop.example/g00983/laws.FnExactLostWork", spec := "fnExactLostWork", unfollowed := true, recurses := true, apart := false }
def FnExactLostWorkSaid : Prop := fnExactLostWorkRow.holds Try.pinned (OpenSpec.ofChange fnExactLostWorkSpec)

/-- ITS FALSE NEIGHBOUR: 'it returns false'. Refute it at one input. -/
def fnExactLostWorkWrong : ChangeSpec := { name := "fnExactLostWork", fn := fun _ => fun
  | [d1, d2] => { results := [.lit (.bool false)], args := [d1, d2] }
  | _ => none }
def FnExactLostWorkWrongFalsely : Prop := fnExactLostWorkRow.holds Try.pinned (OpenSpec.ofChange fnExactLostWorkWrong)

/-- 'laws.FnMemories': WHATEVER THE INPUT: true; the input reads as it did. -/
def fnMemoriesSpec : ChangeSpec := { name := "fnMemories", fn := fun _ => fun
  | [d] => { results := [.lit (.bool true)], args := [d] }
  | _ => none }
def fnMemoriesRow : OpenClaim := { program := "ytaicbghmfeehkaa", sum := "65b8ceda56f9d8f15b2d56c05d8a8a6235468f41d00af12868e1b01d9b35b4c2", func := "loop.example/g00983/laws.FnMemories", spec := "fnMemories", unfollowed := true, recurses := true, apart := false }
def FnMemoriesSaid : Prop := fnMemoriesRow.holds Try.pinned (OpenSpec.ofChange fnMemoriesSpec)

/-- ITS FALSE NEIGHBOUR: 'it returns false'. Refute it at one input. -/
def fnMemoriesWrong : ChangeSpec := { name := "fnMemories", fn := fun _ => fun
  | [d] => { results := [.lit (.bool false)], args := [d] }
  | _ => none }
def FnMemoriesWrongFalsely : Prop := fnMemoriesRow.holds Try.pinned (OpenSpec.ofChange fnMemoriesWrong)

/-- 'laws.FnTouched': WHATEVER THE INPUT: true; the input reads as it did. -/
def fnTouchedSpec : ChangeSpec := { name := "fnTouched", fn := fun _ => fun
  | [d] => { results := [.lit (.bool true)], args := [d] }
  | _ => none }
def fnTouchedRow : OpenClaim := { program := "ytaicbghmfeehkaa", sum := "65b8ceda56f9d8f15b2d56c05d8a8a6235468f41d00af12868e1b01d9b35b4c2", func := "loop.example/g00983/laws.FnTouched", spec := "fnTouched", recurses := true, apart := false }
def FnTouchedSaid : Prop := fnTouchedRow.holds Try.pinned (OpenSpec.ofChange fnTouchedSpec)

/-- ITS FALSE NEIGHBOUR: 'it returns false'. Refute it at one input. -/
def fnTouchedWrong : ChangeSpec := { name := "fnTouched", fn := fun _ => fun
  | [d] => { results := [.lit (.bool false)], args := [d] }
  | _ => none }
def FnTouchedWrongFalsely : Prop := fnTouchedRow.holds Try.pinned (OpenSpec.ofChange fnTouchedWrong)

/-- 'laws.FnExactTouchedWords': WHATEVER THE INPUT: true; the input reads as it did. -/
def fnExactTouchedWordsSpec : ChangeSpec := { name := "fnExactTouchedWords", fn := fun _ => fun
  | [d] => { results := [.lit (.bool true)], args := [d] }
  | _ => none }
def fnExactTouchedWordsRow : OpenClaim := { program := "ytaicbghmfeehkaa", sum := "65b8ceda56f9d8f15b2d56c05d8a8a6235468f41d00af12868e1b01d9b35b4c2", func := "loop.example/g00983/laws.FnExactTouchedWords", spec := "fnExactTouchedWords", recurses := true, apart := false }
def FnExactTouchedWordsSaid : Prop := fnExactTouchedWordsRow.holds Try.pinned (OpenSpec.ofChange fnExactTouchedWordsSpec)

/-- ITS FALSE NEIGHBOUR: 'it returns false'. Refute it at one input. -/
def fnExactTouchedWordsWrong : ChangeSpec := { name := "fnExactTouchedWords", fn := fun _ => fun
  | [d] => { results := [.lit (.bool false)], args := [d] }
  | _ => none }
def FnExactTouchedWordsWrongFalsely : Prop := fnExactTouchedWordsRow.holds Try.pinned (OpenSpec.ofChange fnExactTouchedWordsWrong)

/-- 'laws.FnParts': WHATEVER THE INPUT: true; the input reads as it did. -/
def fnPartsSpec : ChangeSpec := { name := "fnParts", fn := fun _ => fun
  | [d] => { results := [.lit (.bool true)], args := [d] }
  | _ => none }
def fnPartsRow : OpenClaim := { program := "ytaicbghmfeehkaa", sum := "65b8ceda56f9d8f15b2d56c05d8a8a6235468f41d00af12868e1b01d9b35b4c2", func := "loop.example/g00983/laws.FnParts", spec := "fnParts", recurses := true, apart := false }
def FnPartsSaid : Prop := fnPartsRow.holds Try.pinned (OpenSpec.ofChange fnPartsSpec)

/-- ITS FALSE NEIGHBOUR: 'it returns false'. Refute it at one input. -/
def fnPartsWrong : ChangeSpec := { name := "fnParts", fn := fun _ => fun
  | [d] => { results := [.lit (.bool false)], args := [d] }
  | _ => none }
def FnPartsWrongFalsely : Prop := fnPartsRow.holds Try.pinned (OpenSpec.ofChange fnPartsWrong)

/- THE SECOND FORM. 'bulk': how many values and letters a reading holds, each counted each time it is reached (what is shared counts as often as it is met; a slice's spare places count too). A statement '..UptoSaid' is the law's where the arguments, and the package variables that the reading takes, are together of bulk at most 1048576: NARROWER than '..Said'. Prove '..Said' where nothing that the law and all that it calls make is longer than what came in: it says more and counts as full. Else prove '..UptoSaid'. A law counts once. -/
mutual
def uptoBulk {H : Type} : DataW H → Nat
  | .lit (.string bytes) => bytes.length + 1
  | .lit _ => 1
  | .nil => 1
  | .ptr d => uptoBulk d + 1
  | .slice elems spare => uptoBulkAll elems + uptoBulkAll spare + 1
  | .agg parts => uptoBulkAll parts + 1
  | .iface _ d => uptoBulk d + 1
  | .map entries => uptoBulkEntries entries + 1
  | .held _ => 1
def uptoBulkAll {H : Type} : List (DataW H) → Nat
  | [] => 0
  | d :: r => uptoBulk d + uptoBulkAll r
def uptoBulkEntries {H : Type} : List (Lit × DataW H) → Nat
  | [] => 0
  | x :: r => uptoBulkEntry x + uptoBulkEntries r
def uptoBulkEntry {H : Type} : Lit × DataW H → Nat
  | (.string bytes, d) => bytes.length + uptoBulk d + 1
  | (_, d) => uptoBulk d + 1
 end
def uptoSmall : (H : Type) → List (DataW H) → Bool := fun _ ds => decide (uptoBulkAll ds ≤ 1048576)
def OpenSpec.upto (s : _root_.Go.ChangeSpec) : _root_.Go.OpenSpec := { _root_.Go.OpenSpec.ofChange s with cond := some uptoSmall }

/-- 'laws.FnCosts', WHERE WHAT IT READS IS OF BULK AT MOST 1048576: true; the input reads as it did. -/
def fnCostsUptoRow : OpenClaim := { program := "ytaicbghmfeehkaa", sum := "65b8ceda56f9d8f15b2d56c05d8a8a6235468f41d00af12868e1b01d9b35b4c2", func := "loop.example/g00983/laws.FnCosts", spec := "fnCosts", unfollowed := true, recurses := true, apart := false, narrowed := true }
def FnCostsUptoSaid : Prop := fnCostsUptoRow.holds Try.pinned (OpenSpec.upto fnCostsSpec)

/-- 'laws.FnExactWriteCount', WHERE WHAT IT READS IS OF BULK AT MOST 1048576: true; the input reads as it did. -/
def fnExactWriteCountUptoRow : OpenClaim := { program := "ytaicbghmfeehkaa", sum := "65b8ceda56f9d8f15b2d56c05d8a8a6235468f41d00af12868e1b01d9b35b4c2", func := "loop.example/g00983/laws.FnExactWriteCount", spec := "fnExactWriteCount", unfollowed := true, recurses := true, apart := false, narrowed := true }
def FnExactWriteCountUptoSaid : Prop := fnExactWriteCountUptoRow.holds Try.pinned (OpenSpec.upto fnExactWriteCountSpec)

/-- 'laws.FnExactTaskBound', WHERE WHAT IT READS IS OF BULK AT MOST 1048576: true; the input reads as it did. -/
def fnExactTaskBoundUptoRow : OpenClaim := { program := "ytaicbghmfeehkaa", sum := "65b8ceda56f9d8f15b2d56c05d8a8a6235468f41d00af12868e1b01d9b35b4c2", func := "loop.example/g00983/laws.FnExactTaskBound", spec := "fnExactTaskBound", unfollowed := true, recurses := true, apart := false, narrowed := true }
def FnExactTaskBoundUptoSaid : Prop := fnExactTaskBoundUptoRow.holds Try.pinned (OpenSpec.upto fnExactTaskBoundSpec)

/-- 'laws.FnExactBootBound', WHERE WHAT IT READS IS OF BULK AT MOST 1048576: true; the input reads as it did. -/
def fnExactBootBoundUptoRow : OpenClaim := { program := "ytaicbghmfeehkaa", sum := "65b8ceda56f9d8f15b2d56c05d8a8a6235468f41d00af12868e1b01d9b35b4c2", func := "loop.example/g00983/laws.FnExactBootBound", spec := "fnExactBootBound", unfollowed := true, recurses := true, apart := false, narrowed := true }
def FnExactBootBoundUptoSaid : Prop := fnExactBootBoundUptoRow.holds Try.pinned (OpenSpec.upto fnExactBootBoundSpec)

/-- 'laws.FnExactBlockBound', WHERE WHAT IT READS IS OF BULK AT MOST 1048576: true; the input reads as it did. -/
def fnExactBlockBoundUptoRow : OpenClaim := { program := "ytaicbghmfeehkaa", sum := "65b8ceda56f9d8f15b2d56c05d8a8a6235468f41d00af12868e1b01d9b35b4c2", func := "loop.example/g00983/laws.FnExactBlockBound", spec := "fnExactBlockBound", recurses := true, apart := false, narrowed := true }
def FnExactBlockBoundUptoSaid : Prop := fnExactBlockBoundUptoRow.holds Try.pinned (OpenSpec.upto fnExactBlockBoundSpec)

/-- 'laws.FnExactLostWork', WHERE WHAT IT READS IS OF BULK AT MOST 1048576: true; the input reads as it did. -/
def fnExactLostWorkUptoRow : OpenClaim := { program := "ytaicbghmfeehkaa", sum := "65b8ceda56f9d8f15b2d56c05d8a8a6235468f41d00af12868e1b01d9b35b4c2", func := "loop.example/g00983/laws.FnExactLostWork", spec := "fnExactLostWork", unfollowed := true, recurses := true, apart := false, narrowed := true }
def FnExactLostWorkUptoSaid : Prop := fnExactLostWorkUptoRow.holds Try.pinned (OpenSpec.upto fnExactLostWorkSpec)

/-- 'laws.FnMemories', WHERE WHAT IT READS IS OF BULK AT MOST 1048576: true; the input reads as it did. -/
def fnMemoriesUptoRow : OpenClaim := { program := "ytaicbghmfeehkaa", sum := "65b8ceda56f9d8f15b2d56c05d8a8a6235468f41d00af12868e1b01d9b35b4c2", func := "loop.example/g00983/laws.FnMemories", spec := "fnMemories", unfollowed := true, recurses := true, apart := false, narrowed := true }
def FnMemoriesUptoSaid : Prop := fnMemoriesUptoRow.holds Try.pinned (OpenSpec.upto fnMemoriesSpec)

/-- 'laws.FnTouched', WHERE WHAT IT READS IS OF BULK AT MOST 1048576: true; the input reads as it did. -/
def fnTouchedUptoRow : OpenClaim := { program := "ytaicbghmfeehkaa", sum := "65b8ceda56f9d8f15b2d56c05d8a8a6235468f41d00af12868e1b01d9b35b4c2", func := "loop.example/g00983/laws.FnTouched", spec := "fnTouched", recurses := true, apart := false, narrowed := true }
def FnTouchedUptoSaid : Prop := fnTouchedUptoRow.holds Try.pinned (OpenSpec.upto fnTouchedSpec)

/-- 'laws.FnExactTouchedWords', WHERE WHAT IT READS IS OF BULK AT MOST 1048576: true; the input reads as it did. -/
def fnExactTouchedWordsUptoRow : OpenClaim := { program := "ytaicbghmfeehkaa", sum := "65b8ceda56f9d8f15b2d56c05d8a8a6235468f41d00af12868e1b01d9b35b4c2", func := "loop.example/g00983/laws.FnExactTouchedWords", spec := "fnExactTouchedWords", recurses := true, apart := false, narrowed := true }
def FnExactTouchedWordsUptoSaid : Prop := fnExactTouchedWordsUptoRow.holds Try.pinned (OpenSpec.upto fnExactTouchedWordsSpec)

/-- 'laws.FnParts', WHERE WHAT IT READS IS OF BULK AT MOST 1048576: true; the input reads as it did. -/
def fnPartsUptoRow : OpenClaim := { program := "ytaicbghmfeehkaa", sum := "65b8ceda56f9d8f15b2d56c05d8a8a6235468f41d00af12868e1b01d9b35b4c2", func := "loop.example/g00983/laws.FnParts", spec := "fnParts", recurses := true, apart := false, narrowed := true }
def FnPartsUptoSaid : Prop := fnPartsUptoRow.holds Try.pinned (OpenSpec.upto fnPartsSpec)

end Rows
end Go.Proofs.Ytaicbghmfeehkaa
