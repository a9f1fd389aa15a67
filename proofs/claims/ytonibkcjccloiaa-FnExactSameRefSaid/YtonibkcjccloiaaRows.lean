/-
  No cell of these rows narrows 'for every input' (looked for: loops, veiled, ifaces, maps, wideKeys, modest, calm, conditions, laid).
  DERIVED. THE GIVEN ROWS OF THIS SEAT. 12 by the template 'for every input the law returns true; each argument reads behind the call as it read before'; 0 by the template 'total and deterministic' (their statements: YtonibkcjccloiaaTotals.lean).
  GIVEN WITH THE SEED: the statements are not yours to turn. If you find one false, say at which input.
  Laid BY PROGRAM, IN A SANDBOX (cutbox-rows.mjs): the forced cells as the released guide's own fill.sh prints them over the translation 881c595ea2cae5b4… (all of the seat's roots in one cut). By AI agents, Wed Nov 11 2026. No macro, syntax, notation, axiom, sorry.
-/
import Derived.Test.YtonibkcjccloiaaChecked
import GoSem.Claim
import GoSem.ClaimJoined
import GoSem.ClaimMapViews
import Derived.JoinedTies
import Derived.KernelRfl
namespace Go.Proofs.Ytonibkcjccloiaa
/- THE CELL 'sum', in the pinned program and in every row, IS THE sha256 OF THE DUMP (.gsa) THAT YtonibkcjccloiaaProg.lean LOADS. Nothing in Lean hashes anything: it is a label: what it is worth is what the hold of that sum in a sandbox is worth. -/
noncomputable def Try.pinned : Pinned := { name := "ytonibkcjccloiaa", sum := "881c595ea2cae5b470ef1eb5139d588c0eb7763c597434f9b0d923f77f593112", checked := Try.checked }
namespace Rows
def none {H : Type} : Left H := { results := [], args := [] }

/-- 'laws.FnExactEnergyFor': WHATEVER THE INPUT: true; the input reads as it did. -/
def fnExactEnergyForSpec : ChangeSpec := { name := "fnExactEnergyFor", fn := fun _ => fun
  | [d1, d2] => { results := [.lit (.bool true)], args := [d1, d2] }
  | _ => none }
def fnExactEnergyForRow : OpenClaim := { program := "ytonibkcjccloiaa", sum := "881c595ea2cae5b470ef1eb5139d588c0eb7763c597434f9b0d923f77f593112", func := "loop.example/g00983/laws.FnExactEnergyFor", spec := "fnExactEnergyFor", apart := false }
def FnExactEnergyForSaid : Prop := fnExactEnergyForRow.holds Try.pinned (OpenSpec.ofChange fnExactEnergyForSpec)

/-- ITS FALSE NEIGHBOUR: 'it returns false'. Refute it at one input. -/
def fnExactEnergyForWrong : ChangeSpec := { name := "fnExactEnergyFor", fn := fun _ => fun
  | [d1, d2] => { results := [.lit (.bool false)], args := [d1, d2] }
  | _ => none }
def FnExactEnergyForWrongFalsely : Prop := fnExactEnergyForRow.holds Try.pinned (OpenSpec.ofChange fnExactEnergyForWrong)

/-- 'laws.FnExactStoreOk': WHATEVER THE INPUT: true; the input reads as it did. -/
def fnExactStoreOkSpec : ChangeSpec := { name := "fnExactStoreOk", fn := fun _ => fun
  | [d] => { results := [.lit (.bool true)], args := [d] }
  | _ => none }
def fnExactStoreOkRow : OpenClaim := { program := "ytonibkcjccloiaa", sum := "881c595ea2cae5b470ef1eb5139d588c0eb7763c597434f9b0d923f77f593112", func := "loop.example/g00983/laws.FnExactStoreOk", spec := "fnExactStoreOk", apart := false }
def FnExactStoreOkSaid : Prop := fnExactStoreOkRow.holds Try.pinned (OpenSpec.ofChange fnExactStoreOkSpec)

/-- ITS FALSE NEIGHBOUR: 'it returns false'. Refute it at one input. -/
def fnExactStoreOkWrong : ChangeSpec := { name := "fnExactStoreOk", fn := fun _ => fun
  | [d] => { results := [.lit (.bool false)], args := [d] }
  | _ => none }
def FnExactStoreOkWrongFalsely : Prop := fnExactStoreOkRow.holds Try.pinned (OpenSpec.ofChange fnExactStoreOkWrong)

/-- 'laws.FnExactRecoveryCost': WHATEVER THE INPUT: true; the input reads as it did. -/
def fnExactRecoveryCostSpec : ChangeSpec := { name := "fnExactRecoveryCost", fn := fun _ => fun
  | [d] => { results := [.lit (.bool true)], args := [d] }
  | _ => none }
def fnExactRecoveryCostRow : OpenClaim := { program := "ytonibkcjccloiaa", sum := "881c595ea2cae5b470ef1eb5139d588c0eb7763c597434f9b0d923f77f593112", func := "loop.example/g00983/laws.FnExactRecoveryCost", spec := "fnExactRecoveryCost", apart := false }
def FnExactRecoveryCostSaid : Prop := fnExactRecoveryCostRow.holds Try.pinned (OpenSpec.ofChange fnExactRecoveryCostSpec)

/-- ITS FALSE NEIGHBOUR: 'it returns false'. Refute it at one input. -/
def fnExactRecoveryCostWrong : ChangeSpec := { name := "fnExactRecoveryCost", fn := fun _ => fun
  | [d] => { results := [.lit (.bool false)], args := [d] }
  | _ => none }
def FnExactRecoveryCostWrongFalsely : Prop := fnExactRecoveryCostRow.holds Try.pinned (OpenSpec.ofChange fnExactRecoveryCostWrong)

/-- 'laws.FnExactSpend': WHATEVER THE INPUT: true; the input reads as it did. -/
def fnExactSpendSpec : ChangeSpec := { name := "fnExactSpend", fn := fun _ => fun
  | [d1, d2] => { results := [.lit (.bool true)], args := [d1, d2] }
  | _ => none }
def fnExactSpendRow : OpenClaim := { program := "ytonibkcjccloiaa", sum := "881c595ea2cae5b470ef1eb5139d588c0eb7763c597434f9b0d923f77f593112", func := "loop.example/g00983/laws.FnExactSpend", spec := "fnExactSpend", apart := false }
def FnExactSpendSaid : Prop := fnExactSpendRow.holds Try.pinned (OpenSpec.ofChange fnExactSpendSpec)

/-- ITS FALSE NEIGHBOUR: 'it returns false'. Refute it at one input. -/
def fnExactSpendWrong : ChangeSpec := { name := "fnExactSpend", fn := fun _ => fun
  | [d1, d2] => { results := [.lit (.bool false)], args := [d1, d2] }
  | _ => none }
def FnExactSpendWrongFalsely : Prop := fnExactSpendRow.holds Try.pinned (OpenSpec.ofChange fnExactSpendWrong)

/-- 'laws.FnExactCappedEnergies': WHATEVER THE INPUT: true; the input reads as it did. -/
def fnExactCappedEnergiesSpec : ChangeSpec := { name := "fnExactCappedEnergies", fn := fun _ => fun
  | [d1, d2] => { results := [.lit (.bool true)], args := [d1, d2] }
  | _ => none }
def fnExactCappedEnergiesRow : OpenClaim := { program := "ytonibkcjccloiaa", sum := "881c595ea2cae5b470ef1eb5139d588c0eb7763c597434f9b0d923f77f593112", func := "loop.example/g00983/laws.FnExactCappedEnergies", spec := "fnExactCappedEnergies", apart := false }
def FnExactCappedEnergiesSaid : Prop := fnExactCappedEnergiesRow.holds Try.pinned (OpenSpec.ofChange fnExactCappedEnergiesSpec)

/-- ITS FALSE NEIGHBOUR: 'it returns false'. Refute it at one input. -/
def fnExactCappedEnergiesWrong : ChangeSpec := { name := "fnExactCappedEnergies", fn := fun _ => fun
  | [d1, d2] => { results := [.lit (.bool false)], args := [d1, d2] }
  | _ => none }
def FnExactCappedEnergiesWrongFalsely : Prop := fnExactCappedEnergiesRow.holds Try.pinned (OpenSpec.ofChange fnExactCappedEnergiesWrong)

/-- 'laws.FnExactReadSensor': WHATEVER THE INPUT: true; the input reads as it did. -/
def fnExactReadSensorSpec : ChangeSpec := { name := "fnExactReadSensor", fn := fun _ => fun
  | [d1, d2, d3] => { results := [.lit (.bool true)], args := [d1, d2, d3] }
  | _ => none }
def fnExactReadSensorRow : OpenClaim := { program := "ytonibkcjccloiaa", sum := "881c595ea2cae5b470ef1eb5139d588c0eb7763c597434f9b0d923f77f593112", func := "loop.example/g00983/laws.FnExactReadSensor", spec := "fnExactReadSensor", apart := false }
def FnExactReadSensorSaid : Prop := fnExactReadSensorRow.holds Try.pinned (OpenSpec.ofChange fnExactReadSensorSpec)

/-- ITS FALSE NEIGHBOUR: 'it returns false'. Refute it at one input. -/
def fnExactReadSensorWrong : ChangeSpec := { name := "fnExactReadSensor", fn := fun _ => fun
  | [d1, d2, d3] => { results := [.lit (.bool false)], args := [d1, d2, d3] }
  | _ => none }
def FnExactReadSensorWrongFalsely : Prop := fnExactReadSensorRow.holds Try.pinned (OpenSpec.ofChange fnExactReadSensorWrong)

/-- 'laws.FnCapped': WHATEVER THE INPUT: true; the input reads as it did. -/
def fnCappedSpec : ChangeSpec := { name := "fnCapped", fn := fun _ => fun
  | [d] => { results := [.lit (.bool true)], args := [d] }
  | _ => none }
def fnCappedRow : OpenClaim := { program := "ytonibkcjccloiaa", sum := "881c595ea2cae5b470ef1eb5139d588c0eb7763c597434f9b0d923f77f593112", func := "loop.example/g00983/laws.FnCapped", spec := "fnCapped", apart := false }
def FnCappedSaid : Prop := fnCappedRow.holds Try.pinned (OpenSpec.ofChange fnCappedSpec)

/-- ITS FALSE NEIGHBOUR: 'it returns false'. Refute it at one input. -/
def fnCappedWrong : ChangeSpec := { name := "fnCapped", fn := fun _ => fun
  | [d] => { results := [.lit (.bool false)], args := [d] }
  | _ => none }
def FnCappedWrongFalsely : Prop := fnCappedRow.holds Try.pinned (OpenSpec.ofChange fnCappedWrong)

/-- 'laws.FnReadings': WHATEVER THE INPUT: true; the input reads as it did. -/
def fnReadingsSpec : ChangeSpec := { name := "fnReadings", fn := fun _ => fun
  | [d] => { results := [.lit (.bool true)], args := [d] }
  | _ => none }
def fnReadingsRow : OpenClaim := { program := "ytonibkcjccloiaa", sum := "881c595ea2cae5b470ef1eb5139d588c0eb7763c597434f9b0d923f77f593112", func := "loop.example/g00983/laws.FnReadings", spec := "fnReadings", apart := false }
def FnReadingsSaid : Prop := fnReadingsRow.holds Try.pinned (OpenSpec.ofChange fnReadingsSpec)

/-- ITS FALSE NEIGHBOUR: 'it returns false'. Refute it at one input. -/
def fnReadingsWrong : ChangeSpec := { name := "fnReadings", fn := fun _ => fun
  | [d] => { results := [.lit (.bool false)], args := [d] }
  | _ => none }
def FnReadingsWrongFalsely : Prop := fnReadingsRow.holds Try.pinned (OpenSpec.ofChange fnReadingsWrong)

/-- 'laws.FnExactChargeTick': WHATEVER THE INPUT: true; the input reads as it did. -/
def fnExactChargeTickSpec : ChangeSpec := { name := "fnExactChargeTick", fn := fun _ => fun
  | [d1, d2] => { results := [.lit (.bool true)], args := [d1, d2] }
  | _ => none }
def fnExactChargeTickRow : OpenClaim := { program := "ytonibkcjccloiaa", sum := "881c595ea2cae5b470ef1eb5139d588c0eb7763c597434f9b0d923f77f593112", func := "loop.example/g00983/laws.FnExactChargeTick", spec := "fnExactChargeTick", apart := false }
def FnExactChargeTickSaid : Prop := fnExactChargeTickRow.holds Try.pinned (OpenSpec.ofChange fnExactChargeTickSpec)

/-- ITS FALSE NEIGHBOUR: 'it returns false'. Refute it at one input. -/
def fnExactChargeTickWrong : ChangeSpec := { name := "fnExactChargeTick", fn := fun _ => fun
  | [d1, d2] => { results := [.lit (.bool false)], args := [d1, d2] }
  | _ => none }
def FnExactChargeTickWrongFalsely : Prop := fnExactChargeTickRow.holds Try.pinned (OpenSpec.ofChange fnExactChargeTickWrong)

/-- 'laws.FnExactIsClean': WHATEVER THE INPUT: true; the input reads as it did. -/
def fnExactIsCleanSpec : ChangeSpec := { name := "fnExactIsClean", fn := fun _ => fun
  | [d] => { results := [.lit (.bool true)], args := [d] }
  | _ => none }
def fnExactIsCleanRow : OpenClaim := { program := "ytonibkcjccloiaa", sum := "881c595ea2cae5b470ef1eb5139d588c0eb7763c597434f9b0d923f77f593112", func := "loop.example/g00983/laws.FnExactIsClean", spec := "fnExactIsClean", apart := false }
def FnExactIsCleanSaid : Prop := fnExactIsCleanRow.holds Try.pinned (OpenSpec.ofChange fnExactIsCleanSpec)

/-- ITS FALSE NEIGHBOUR: 'it returns false'. Refute it at one input. -/
def fnExactIsCleanWrong : ChangeSpec := { name := "fnExactIsClean", fn := fun _ => fun
  | [d] => { results := [.lit (.bool false)], args := [d] }
  | _ => none }
def FnExactIsCleanWrongFalsely : Prop := fnExactIsCleanRow.holds Try.pinned (OpenSpec.ofChange fnExactIsCleanWrong)

/-- 'laws.FnCharging': WHATEVER THE INPUT: true; the input reads as it did. -/
def fnChargingSpec : ChangeSpec := { name := "fnCharging", fn := fun _ => fun
  | [d] => { results := [.lit (.bool true)], args := [d] }
  | _ => none }
def fnChargingRow : OpenClaim := { program := "ytonibkcjccloiaa", sum := "881c595ea2cae5b470ef1eb5139d588c0eb7763c597434f9b0d923f77f593112", func := "loop.example/g00983/laws.FnCharging", spec := "fnCharging", apart := false }
def FnChargingSaid : Prop := fnChargingRow.holds Try.pinned (OpenSpec.ofChange fnChargingSpec)

/-- ITS FALSE NEIGHBOUR: 'it returns false'. Refute it at one input. -/
def fnChargingWrong : ChangeSpec := { name := "fnCharging", fn := fun _ => fun
  | [d] => { results := [.lit (.bool false)], args := [d] }
  | _ => none }
def FnChargingWrongFalsely : Prop := fnChargingRow.holds Try.pinned (OpenSpec.ofChange fnChargingWrong)

/-- 'laws.FnExactSameRef': WHATEVER THE INPUT: true; the input reads as it did. -/
def fnExactSameRefSpec : ChangeSpec := { name := "fnExactSameRef", fn := fun _ => fun
  | [d1, d2] => { results := [.lit (.bool true)], args := [d1, d2] }
  | _ => none }
def fnExactSameRefRow : OpenClaim := { program := "ytonibkcjccloiaa", sum := "881c595ea2cae5b470ef1eb5139d588c0eb7763c597434f9b0d923f77f593112", func := "loop.example/g00983/laws.FnExactSameRef", spec := "fnExactSameRef", apart := false }
def FnExactSameRefSaid : Prop := fnExactSameRefRow.holds Try.pinned (OpenSpec.ofChange fnExactSameRefSpec)

/-- ITS FALSE NEIGHBOUR: 'it returns false'. Refute it at one input. -/
def fnExactSameRefWrong : ChangeSpec := { name := "fnExactSameRef", fn := fun _ => fun
  | [d1, d2] => { results := [.lit (.bool false)], args := [d1, d2] }
  | _ => none }
def FnExactSameRefWrongFalsely : Prop := fnExactSameRefRow.holds Try.pinned (OpenSpec.ofChange fnExactSameRefWrong)

/- THE SECOND FORM. 'bulk': how many values and letters a reading holds, each counted each time it is reached (what is shared counts as often as it is met; a slice's spare places count too). A statement '..UptoSaid' is the law's where the arguments, and the package variables that the reading takes, are together of bulk at most 1048576: NARROWER than '..Said'. Prove '..Said' where nothing that the law and all that it calls make is longer than what came in: it says more and counts as full. Else prove '..UptoSaid'. A law counts once. -/
mutual
def uptoBulk {H : Type} : DataW H → Nat
  | .lit (.string bytes) => bytes.length + 1
  | .lit _ => 1
  | .nil => 1
  | .ptr d => uptoBulk d + 1
  | .slice elems spare => uptoBulkAll elems + uptoBulkAll spare + 1
  | .agg parts => uptoBulkAll parts + 1
  | .iface _ d => uptoBulk d + 1
  | .map entries => uptoBulkEntries entries + 1
  | .held _ => 1
def uptoBulkAll {H : Type} : List (DataW H) → Nat
  | [] => 0
  | d :: r => uptoBulk d + uptoBulkAll r
def uptoBulkEntries {H : Type} : List (Lit × DataW H) → Nat
  | [] => 0
  | x :: r => uptoBulkEntry x + uptoBulkEntries r
def uptoBulkEntry {H : Type} : Lit × DataW H → Nat
  | (.string bytes, d) => bytes.length + uptoBulk d + 1
  | (_, d) => uptoBulk d + 1
 end
def uptoSmall : (H : Type) → List (DataW H) → Bool := fun _ ds => decide (uptoBulkAll ds ≤ 1048576)
def OpenSpec.upto (s : _root_.Go.ChangeSpec) : _root_.Go.OpenSpec := { _root_.Go.OpenSpec.ofChange s with cond := some uptoSmall }

/-- 'laws.FnExactEnergyFor', WHERE WHAT IT READS IS OF BULK AT MOST 1048576: true; the input reads as it did. -/
def fnExactEnergyForUptoRow : OpenClaim := { program := "ytonibkcjccloiaa", sum := "881c595ea2cae5b470ef1eb5139d588c0eb7763c597434f9b0d923f77f593112", func := "loop.example/g00983/laws.FnExactEnergyFor", spec := "fnExactEnergyFor", apart := false, narrowed := true }
def FnExactEnergyForUptoSaid : Prop := fnExactEnergyForUptoRow.holds Try.pinned (OpenSpec.upto fnExactEnergyForSpec)

/-- 'laws.FnExactStoreOk', WHERE WHAT IT READS IS OF BULK AT MOST 1048576: true; the input reads as it did. -/
def fnExactStoreOkUptoRow : OpenClaim := { program := "ytonibkcjccloiaa", sum := "881c595ea2cae5b470ef1eb5139d588c0eb7763c597434f9b0d923f77f593112", func := "loop.example/g00983/laws.FnExactStoreOk", spec := "fnExactStoreOk", apart := false, narrowed := true }
def FnExactStoreOkUptoSaid : Prop := fnExactStoreOkUptoRow.holds Try.pinned (OpenSpec.upto fnExactStoreOkSpec)

/-- 'laws.FnExactRecoveryCost', WHERE WHAT IT READS IS OF BULK AT MOST 1048576: true; the input reads as it did. -/
def fnExactRecoveryCostUptoRow : OpenClaim := { program := "ytonibkcjccloiaa", sum := "881c595ea2cae5b470ef1eb5139d588c0eb7763c597434f9b0d923f77f593112", func := "loop.example/g00983/laws.FnExactRecoveryCost", spec := "fnExactRecoveryCost", apart := false, narrowed := true }
def FnExactRecoveryCostUptoSaid : Prop := fnExactRecoveryCostUptoRow.holds Try.pinned (OpenSpec.upto fnExactRecoveryCostSpec)

/-- 'laws.FnExactSpend', WHERE WHAT IT READS IS OF BULK AT MOST 1048576: true; the input reads as it did. -/
def fnExactSpendUptoRow : OpenClaim := { program := "ytonibkcjccloiaa", sum := "881c595ea2cae5b470ef1eb5139d588c0eb7763c597434f9b0d923f77f593112", func := "loop.example/g00983/laws.FnExactSpend", spec := "fnExactSpend", apart := false, narrowed := true }
def FnExactSpendUptoSaid : Prop := fnExactSpendUptoRow.holds Try.pinned (OpenSpec.upto fnExactSpendSpec)

/-- 'laws.FnExactCappedEnergies', WHERE WHAT IT READS IS OF BULK AT MOST 1048576: true; the input reads as it did. -/
def fnExactCappedEnergiesUptoRow : OpenClaim := { program := "ytonibkcjccloiaa", sum := "881c595ea2cae5b470ef1eb5139d588c0eb7763c597434f9b0d923f77f593112", func := "loop.example/g00983/laws.FnExactCappedEnergies", spec := "fnExactCappedEnergies", apart := false, narrowed := true }
def FnExactCappedEnergiesUptoSaid : Prop := fnExactCappedEnergiesUptoRow.holds Try.pinned (OpenSpec.upto fnExactCappedEnergiesSpec)

/-- 'laws.FnExactReadSensor', WHERE WHAT IT READS IS OF BULK AT MOST 1048576: true; the input reads as it did. -/
def fnExactReadSensorUptoRow : OpenClaim := { program := "ytonibkcjccloiaa", sum := "881c595ea2cae5b470ef1eb5139d588c0eb7763c597434f9b0d923f77f593112", func := "loop.example/g00983/laws.FnExactReadSensor", spec := "fnExactReadSensor", apart := false, narrowed := true }
def FnExactReadSensorUptoSaid : Prop := fnExactReadSensorUptoRow.holds Try.pinned (OpenSpec.upto fnExactReadSensorSpec)

/-- 'laws.FnCapped', WHERE WHAT IT READS IS OF BULK AT MOST 1048576: true; the input reads as it did. -/
def fnCappedUptoRow : OpenClaim := { program := "ytonibkcjccloiaa", sum := "881c595ea2cae5b470ef1eb5139d588c0eb7763c597434f9b0d923f77f593112", func := "loop.example/g00983/laws.FnCapped", spec := "fnCapped", apart := false, narrowed := true }
def FnCappedUptoSaid : Prop := fnCappedUptoRow.holds Try.pinned (OpenSpec.upto fnCappedSpec)

/-- 'laws.FnReadings', WHERE WHAT IT READS IS OF BULK AT MOST 1048576: true; the input reads as it did. -/
def fnReadingsUptoRow : OpenClaim := { program := "ytonibkcjccloiaa", sum := "881c595ea2cae5b470ef1eb5139d588c0eb7763c597434f9b0d923f77f593112", func := "loop.example/g00983/laws.FnReadings", spec := "fnReadings", apart := false, narrowed := true }
def FnReadingsUptoSaid : Prop := fnReadingsUptoRow.holds Try.pinned (OpenSpec.upto fnReadingsSpec)

/-- 'laws.FnExactChargeTick', WHERE WHAT IT READS IS OF BULK AT MOST 1048576: true; the input reads as it did. -/
def fnExactChargeTickUptoRow : OpenClaim := { program := "ytonibkcjccloiaa", sum := "881c595ea2cae5b470ef1eb5139d588c0eb7763c597434f9b0d923f77f593112", func := "loop.example/g00983/laws.FnExactChargeTick", spec := "fnExactChargeTick", apart := false, narrowed := true }
def FnExactChargeTickUptoSaid : Prop := fnExactChargeTickUptoRow.holds Try.pinned (OpenSpec.upto fnExactChargeTickSpec)

/-- 'laws.FnExactIsClean', WHERE WHAT IT READS IS OF BULK AT MOST 1048576: true; the input reads as it did. -/
def fnExactIsCleanUptoRow : OpenClaim := { program := "ytonibkcjccloiaa", sum := "881c595ea2cae5b470ef1eb5139d588c0eb7763c597434f9b0d923f77f593112", func := "loop.example/g00983/laws.FnExactIsClean", spec := "fnExactIsClean", apart := false, narrowed := true }
def FnExactIsCleanUptoSaid : Prop := fnExactIsCleanUptoRow.holds Try.pinned (OpenSpec.upto fnExactIsCleanSpec)

/-- 'laws.FnCharging', WHERE WHAT IT READS IS OF BULK AT MOST 1048576: true; the input reads as it did. -/
def fnChargingUptoRow : OpenClaim := { program := "ytonibkcjccloiaa", sum := "881c595ea2cae5b470ef1eb5139d588c0eb7763c597434f9b0d923f77f593112", func := "loop.example/g00983/laws.FnCharging", spec := "fnCharging", apart := false, narrowed := true }
def FnChargingUptoSaid : Prop := fnChargingUptoRow.holds Try.pinned (OpenSpec.upto fnChargingSpec)

/-- 'laws.FnExactSameRef', WHERE WHAT IT READS IS OF BULK AT MOST 1048576: true; the input reads as it did. -/
def fnExactSameRefUptoRow : OpenClaim := { program := "ytonibkcjccloiaa", sum := "881c595ea2cae5b470ef1eb5139d588c0eb7763c597434f9b0d923f77f593112", func := "loop.example/g00983/laws.FnExactSameRef", spec := "fnExactSameRef", apart := false, narrowed := true }
def FnExactSameRefUptoSaid : Prop := fnExactSameRefUptoRow.holds Try.pinned (OpenSpec.upto fnExactSameRefSpec)

end Rows
end Go.Proofs.Ytonibkcjccloiaa
