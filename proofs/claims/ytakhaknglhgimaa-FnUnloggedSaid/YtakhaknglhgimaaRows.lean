/-
  No cell of these rows narrows 'for every input' (looked for: loops, veiled, ifaces, maps, wideKeys, modest, calm, conditions, laid).
  DERIVED. THE GIVEN ROWS OF THIS SEAT. 10 by the template 'for every input the law returns true; each argument reads behind the call as it read before'; 0 by the template 'total and deterministic' (their statements: YtakhaknglhgimaaTotals.lean).
  GIVEN WITH THE SEED: the statements are not yours to turn. If you find one false, say at which input.
  Laid BY PROGRAM, IN A SANDBOX (cutbox-rows.mjs): the forced cells as the released guide's own fill.sh prints them over the translation 8097c2c2dde3683c… (all of the seat's roots in one cut). By AI agents, Wed Nov 11 2026. No macro, syntax, notation, axiom, sorry.
-/
import Derived.Test.YtakhaknglhgimaaChecked
import GoSem.Claim
import GoSem.ClaimJoined
import GoSem.ClaimMapViews
import Derived.JoinedTies
import Derived.KernelRfl
namespace Go.Proofs.Ytakhaknglhgimaa
/- THE CELL 'sum', in the pinned program and in every row, IS THE sha256 OF THE DUMP (.gsa) THAT YtakhaknglhgimaaProg.lean LOADS. Nothing in Lean hashes anything: it is a label: what it is worth is what the hold of that sum in a sandbox is worth. -/
noncomputable def Try.pinned : Pinned := { name := "ytakhaknglhgimaa", sum := "8097c2c2dde3683c9ca21940660ec92b0ac8908cd0c8c51180e53bce81f2fb5e", checked := Try.checked }
namespace Rows
def none {H : Type} : Left H := { results := [], args := [] }

/-- 'laws.FnLongest': WHATEVER THE INPUT: true; the input reads as it did. -/
def fnLongestSpec : ChangeSpec := { name := "fnLongest", fn := fun _ => fun
  | [d] => { results := [.lit (.bool true)], args := [d] }
  | _ => none }
def fnLongestRow : OpenClaim := { program := "ytakhaknglhgimaa", sum := "8097c2c2dde3683c9ca21940660ec92b0ac8908cd0c8c51180e53bce81f2fb5e", func := "loop.example/g00983/laws.FnLongest", spec := "fnLongest", unfollowed := true, recurses := true, apart := false }
def FnLongestSaid : Prop := fnLongestRow.holds Try.pinned (OpenSpec.ofChange fnLongestSpec)

/-- ITS FALSE NEIGHBOUR: 'it returns false'. Refute it at one input. -/
def fnLongestWrong : ChangeSpec := { name := "fnLongest", fn := fun _ => fun
  | [d] => { results := [.lit (.bool false)], args := [d] }
  | _ => none }
def FnLongestWrongFalsely : Prop := fnLongestRow.holds Try.pinned (OpenSpec.ofChange fnLongestWrong)

/-- 'laws.FnRefTasks': WHATEVER THE INPUT: true; the input reads as it did. -/
def fnRefTasksSpec : ChangeSpec := { name := "fnRefTasks", fn := fun _ => fun
  | [d] => { results := [.lit (.bool true)], args := [d] }
  | _ => none }
def fnRefTasksRow : OpenClaim := { program := "ytakhaknglhgimaa", sum := "8097c2c2dde3683c9ca21940660ec92b0ac8908cd0c8c51180e53bce81f2fb5e", func := "loop.example/g00983/laws.FnRefTasks", spec := "fnRefTasks", unfollowed := true, recurses := true, apart := false }
def FnRefTasksSaid : Prop := fnRefTasksRow.holds Try.pinned (OpenSpec.ofChange fnRefTasksSpec)

/-- ITS FALSE NEIGHBOUR: 'it returns false'. Refute it at one input. -/
def fnRefTasksWrong : ChangeSpec := { name := "fnRefTasks", fn := fun _ => fun
  | [d] => { results := [.lit (.bool false)], args := [d] }
  | _ => none }
def FnRefTasksWrongFalsely : Prop := fnRefTasksRow.holds Try.pinned (OpenSpec.ofChange fnRefTasksWrong)

/-- 'laws.FnSenses': WHATEVER THE INPUT: true; the input reads as it did. -/
def fnSensesSpec : ChangeSpec := { name := "fnSenses", fn := fun _ => fun
  | [d] => { results := [.lit (.bool true)], args := [d] }
  | _ => none }
def fnSensesRow : OpenClaim := { program := "ytakhaknglhgimaa", sum := "8097c2c2dde3683c9ca21940660ec92b0ac8908cd0c8c51180e53bce81f2fb5e", func := "loop.example/g00983/laws.FnSenses", spec := "fnSenses", unfollowed := true, recurses := true, apart := false }
def FnSensesSaid : Prop := fnSensesRow.holds Try.pinned (OpenSpec.ofChange fnSensesSpec)

/-- ITS FALSE NEIGHBOUR: 'it returns false'. Refute it at one input. -/
def fnSensesWrong : ChangeSpec := { name := "fnSenses", fn := fun _ => fun
  | [d] => { results := [.lit (.bool false)], args := [d] }
  | _ => none }
def FnSensesWrongFalsely : Prop := fnSensesRow.holds Try.pinned (OpenSpec.ofChange fnSensesWrong)

/-- 'laws.FnRefParts': WHATEVER THE INPUT: true; the input reads as it did. -/
def fnRefPartsSpec : ChangeSpec := { name := "fnRefParts", fn := fun _ => fun
  | [d] => { results := [.lit (.bool true)], args := [d] }
  | _ => none }
def fnRefPartsRow : OpenClaim := { program := "ytakhaknglhgimaa", sum := "8097c2c2dde3683c9ca21940660ec92b0ac8908cd0c8c51180e53bce81f2fb5e", func := "loop.example/g00983/laws.FnRefParts", spec := "fnRefParts", unfollowed := true, recurses := true, apart := false }
def FnRefPartsSaid : Prop := fnRefPartsRow.holds Try.pinned (OpenSpec.ofChange fnRefPartsSpec)

/-- ITS FALSE NEIGHBOUR: 'it returns false'. Refute it at one input. -/
def fnRefPartsWrong : ChangeSpec := { name := "fnRefParts", fn := fun _ => fun
  | [d] => { results := [.lit (.bool false)], args := [d] }
  | _ => none }
def FnRefPartsWrongFalsely : Prop := fnRefPartsRow.holds Try.pinned (OpenSpec.ofChange fnRefPartsWrong)

/-- 'laws.FnExactSensesOf': WHATEVER THE INPUT: true; the input reads as it did. -/
def fnExactSensesOfSpec : ChangeSpec := { name := "fnExactSensesOf", fn := fun _ => fun
  | [d1, d2, d3, d4, d5] => { results := [.lit (.bool true)], args := [d1, d2, d3, d4, d5] }
  | _ => none }
def fnExactSensesOfRow : OpenClaim := { program := "ytakhaknglhgimaa", sum := "8097c2c2dde3683c9ca21940660ec92b0ac8908cd0c8c51180e53bce81f2fb5e", func := "loop.example/g00983/laws.FnExactSensesOf", spec := "fnExactSensesOf", unfollowed := true, recurses := true, apart := false }
def FnExactSensesOfSaid : Prop := fnExactSensesOfRow.holds Try.pinned (OpenSpec.ofChange fnExactSensesOfSpec)

/-- ITS FALSE NEIGHBOUR: 'it returns false'. Refute it at one input. -/
def fnExactSensesOfWrong : ChangeSpec := { name := "fnExactSensesOf", fn := fun _ => fun
  | [d1, d2, d3, d4, d5] => { results := [.lit (.bool false)], args := [d1, d2, d3, d4, d5] }
  | _ => none }
def FnExactSensesOfWrongFalsely : Prop := fnExactSensesOfRow.holds Try.pinned (OpenSpec.ofChange fnExactSensesOfWrong)

/-- 'laws.FnExactTaskEffect': WHATEVER THE INPUT: true; the input reads as it did. -/
def fnExactTaskEffectSpec : ChangeSpec := { name := "fnExactTaskEffect", fn := fun _ => fun
  | [d1, d2, d3, d4] => { results := [.lit (.bool true)], args := [d1, d2, d3, d4] }
  | _ => none }
def fnExactTaskEffectRow : OpenClaim := { program := "ytakhaknglhgimaa", sum := "8097c2c2dde3683c9ca21940660ec92b0ac8908cd0c8c51180e53bce81f2fb5e", func := "loop.example/g00983/laws.FnExactTaskEffect", spec := "fnExactTaskEffect", unfollowed := true, recurses := true, apart := false }
def FnExactTaskEffectSaid : Prop := fnExactTaskEffectRow.holds Try.pinned (OpenSpec.ofChange fnExactTaskEffectSpec)

/-- ITS FALSE NEIGHBOUR: 'it returns false'. Refute it at one input. -/
def fnExactTaskEffectWrong : ChangeSpec := { name := "fnExactTaskEffect", fn := fun _ => fun
  | [d1, d2, d3, d4] => { results := [.lit (.bool false)], args := [d1, d2, d3, d4] }
  | _ => none }
def FnExactTaskEffectWrongFalsely : Prop := fnExactTaskEffectRow.holds Try.pinned (OpenSpec.ofChange fnExactTaskEffectWrong)

/-- 'laws.FnExactRefTasks': WHATEVER THE INPUT: true; the input reads as it did. -/
def fnExactRefTasksSpec : ChangeSpec := { name := "fnExactRefTasks", fn := fun _ => fun
  | [d1, d2, d3, d4] => { results := [.lit (.bool true)], args := [d1, d2, d3, d4] }
  | _ => none }
def fnExactRefTasksRow : OpenClaim := { program := "ytakhaknglhgimaa", sum := "8097c2c2dde3683c9ca21940660ec92b0ac8908cd0c8c51180e53bce81f2fb5e", func := "loop.example/g00983/laws.FnExactRefTasks", spec := "fnExactRefTasks", unfollowed := true, recurses := true, apart := false }
def FnExactRefTasksSaid : Prop := fnExactRefTasksRow.holds Try.pinned (OpenSpec.ofChange fnExactRefTasksSpec)

/-- ITS FALSE NEIGHBOUR: 'it returns false'. Refute it at one input. -/
def fnExactRefTasksWrong : ChangeSpec := { name := "fnExactRefTasks", fn := fun _ => fun
  | [d1, d2, d3, d4] => { results := [.lit (.bool false)], args := [d1, d2, d3, d4] }
  | _ => none }
def FnExactRefTasksWrongFalsely : Prop := fnExactRefTasksRow.holds Try.pinned (OpenSpec.ofChange fnExactRefTasksWrong)

/-- 'laws.FnWrites': WHATEVER THE INPUT: true; the input reads as it did. -/
def fnWritesSpec : ChangeSpec := { name := "fnWrites", fn := fun _ => fun
  | [d] => { results := [.lit (.bool true)], args := [d] }
  | _ => none }
def fnWritesRow : OpenClaim := { program := "ytakhaknglhgimaa", sum := "8097c2c2dde3683c9ca21940660ec92b0ac8908cd0c8c51180e53bce81f2fb5e", func := "loop.example/g00983/laws.FnWrites", spec := "fnWrites", unfollowed := true, recurses := true, apart := false }
def FnWritesSaid : Prop := fnWritesRow.holds Try.pinned (OpenSpec.ofChange fnWritesSpec)

/-- ITS FALSE NEIGHBOUR: 'it returns false'. Refute it at one input. -/
def fnWritesWrong : ChangeSpec := { name := "fnWrites", fn := fun _ => fun
  | [d] => { results := [.lit (.bool false)], args := [d] }
  | _ => none }
def FnWritesWrongFalsely : Prop := fnWritesRow.holds Try.pinned (OpenSpec.ofChange fnWritesWrong)

/-- 'laws.FnReadsFirst': WHATEVER THE INPUT: true; the input reads as it did. -/
def fnReadsFirstSpec : ChangeSpec := { name := "fnReadsFirst", fn := fun _ => fun
  | [d] => { results := [.lit (.bool true)], args := [d] }
  | _ => none }
def fnReadsFirstRow : OpenClaim := { program := "ytakhaknglhgimaa", sum := "8097c2c2dde3683c9ca21940660ec92b0ac8908cd0c8c51180e53bce81f2fb5e", func := "loop.example/g00983/laws.FnReadsFirst", spec := "fnReadsFirst", unfollowed := true, recurses := true, apart := false }
def FnReadsFirstSaid : Prop := fnReadsFirstRow.holds Try.pinned (OpenSpec.ofChange fnReadsFirstSpec)

/-- ITS FALSE NEIGHBOUR: 'it returns false'. Refute it at one input. -/
def fnReadsFirstWrong : ChangeSpec := { name := "fnReadsFirst", fn := fun _ => fun
  | [d] => { results := [.lit (.bool false)], args := [d] }
  | _ => none }
def FnReadsFirstWrongFalsely : Prop := fnReadsFirstRow.holds Try.pinned (OpenSpec.ofChange fnReadsFirstWrong)

/-- 'laws.FnUnlogged': WHATEVER THE INPUT: true; the input reads as it did. -/
def fnUnloggedSpec : ChangeSpec := { name := "fnUnlogged", fn := fun _ => fun
  | [d] => { results := [.lit (.bool true)], args := [d] }
  | _ => none }
def fnUnloggedRow : OpenClaim := { program := "ytakhaknglhgimaa", sum := "8097c2c2dde3683c9ca21940660ec92b0ac8908cd0c8c51180e53bce81f2fb5e", func := "loop.example/g00983/laws.FnUnlogged", spec := "fnUnlogged", unfollowed := true, recurses := true, apart := false }
def FnUnloggedSaid : Prop := fnUnloggedRow.holds Try.pinned (OpenSpec.ofChange fnUnloggedSpec)

/-- ITS FALSE NEIGHBOUR: 'it returns false'. Refute it at one input. -/
def fnUnloggedWrong : ChangeSpec := { name := "fnUnlogged", fn := fun _ => fun
  | [d] => { results := [.lit (.bool false)], args := [d] }
  | _ => none }
def FnUnloggedWrongFalsely : Prop := fnUnloggedRow.holds Try.pinned (OpenSpec.ofChange fnUnloggedWrong)

/- THE SECOND FORM. 'bulk': how many values and letters a reading holds, each counted each time it is reached (what is shared counts as often as it is met; a slice's spare places count too). A statement '..UptoSaid' is the law's where the arguments, and the package variables that the reading takes, are together of bulk at most 1048576: NARROWER than '..Said'. Prove '..Said' where nothing that the law and all that it calls make is longer than what came in: it says more and counts as full. Else prove '..UptoSaid'. A law counts once. -/
mutual
def uptoBulk {H : Type} : DataW H → Nat
  | .lit (.string bytes) => bytes.length + 1
  | .lit _ => 1
  | .nil => 1
  | .ptr d => uptoBulk d + 1
  | .slice elems spare => uptoBulkAll elems + uptoBulkAll spare + 1
  | .agg parts => uptoBulkAll parts + 1
  | .iface _ d => uptoBulk d + 1
  | .map entries => uptoBulkEntries entries + 1
  | .held _ => 1
def uptoBulkAll {H : Type} : List (DataW H) → Nat
  | [] => 0
  | d :: r => uptoBulk d + uptoBulkAll r
def uptoBulkEntries {H : Type} : List (Lit × DataW H) → Nat
  | [] => 0
  | x :: r => uptoBulkEntry x + uptoBulkEntries r
def uptoBulkEntry {H : Type} : Lit × DataW H → Nat
  | (.string bytes, d) => bytes.length + uptoBulk d + 1
  | (_, d) => uptoBulk d + 1
 end
def uptoSmall : (H : Type) → List (DataW H) → Bool := fun _ ds => decide (uptoBulkAll ds ≤ 1048576)
def OpenSpec.upto (s : _root_.Go.ChangeSpec) : _root_.Go.OpenSpec := { _root_.Go.OpenSpec.ofChange s with cond := some uptoSmall }

/-- 'laws.FnLongest', WHERE WHAT IT READS IS OF BULK AT MOST 1048576: true; the input reads as it did. -/
def fnLongestUptoRow : OpenClaim := { program := "ytakhaknglhgimaa", sum := "8097c2c2dde3683c9ca21940660ec92b0ac8908cd0c8c51180e53bce81f2fb5e", func := "loop.example/g00983/laws.FnLongest", spec := "fnLongest", unfollowed := true, recurses := true, apart := false, narrowed := true }
def FnLongestUptoSaid : Prop := fnLongestUptoRow.holds Try.pinned (OpenSpec.upto fnLongestSpec)

/-- 'laws.FnRefTasks', WHERE WHAT IT READS IS OF BULK AT MOST 1048576: true; the input reads as it did. -/
def fnRefTasksUptoRow : OpenClaim := { program := "ytakhaknglhgimaa", sum := "8097c2c2dde3683c9ca21940660ec92b0ac8908cd0c8c51180e53bce81f2fb5e", func := "loop.example/g00983/laws.FnRefTasks", spec := "fnRefTasks", unfollowed := true, recurses := true, apart := false, narrowed := true }
def FnRefTasksUptoSaid : Prop := fnRefTasksUptoRow.holds Try.pinned (OpenSpec.upto fnRefTasksSpec)

/-- 'laws.FnSenses', WHERE WHAT IT READS IS OF BULK AT MOST 1048576: true; the input reads as it did. -/
def fnSensesUptoRow : OpenClaim := { program := "ytakhaknglhgimaa", sum := "8097c2c2dde3683c9ca21940660ec92b0ac8908cd0c8c51180e53bce81f2fb5e", func := "loop.example/g00983/laws.FnSenses", spec := "fnSenses", unfollowed := true, recurses := true, apart := false, narrowed := true }
def FnSensesUptoSaid : Prop := fnSensesUptoRow.holds Try.pinned (OpenSpec.upto fnSensesSpec)

/-- 'laws.FnRefParts', WHERE WHAT IT READS IS OF BULK AT MOST 1048576: true; the input reads as it did. -/
def fnRefPartsUptoRow : OpenClaim := { program := "ytakhaknglhgimaa", sum := "8097c2c2dde3683c9ca21940660ec92b0ac8908cd0c8c51180e53bce81f2fb5e", func := "loop.example/g00983/laws.FnRefParts", spec := "fnRefParts", unfollowed := true, recurses := true, apart := false, narrowed := true }
def FnRefPartsUptoSaid : Prop := fnRefPartsUptoRow.holds Try.pinned (OpenSpec.upto fnRefPartsSpec)

/-- 'laws.FnExactSensesOf', WHERE WHAT IT READS IS OF BULK AT MOST 1048576: true; the input reads as it did. -/
def fnExactSensesOfUptoRow : OpenClaim := { program := "ytakhaknglhgimaa", sum := "8097c2c2dde3683c9ca21940660ec92b0ac8908cd0c8c51180e53bce81f2fb5e", func := "loop.example/g00983/laws.FnExactSensesOf", spec := "fnExactSensesOf", unfollowed := true, recurses := true, apart := false, narrowed := true }
def FnExactSensesOfUptoSaid : Prop := fnExactSensesOfUptoRow.holds Try.pinned (OpenSpec.upto fnExactSensesOfSpec)

/-- 'laws.FnExactTaskEffect', WHERE WHAT IT READS IS OF BULK AT MOST 1048576: true; the input reads as it did. -/
def fnExactTaskEffectUptoRow : OpenClaim := { program := "ytakhaknglhgimaa", sum := "8097c2c2dde3683c9ca21940660ec92b0ac8908cd0c8c51180e53bce81f2fb5e", func := "loop.example/g00983/laws.FnExactTaskEffect", spec := "fnExactTaskEffect", unfollowed := true, recurses := true, apart := false, narrowed := true }
def FnExactTaskEffectUptoSaid : Prop := fnExactTaskEffectUptoRow.holds Try.pinned (OpenSpec.upto fnExactTaskEffectSpec)

/-- 'laws.FnExactRefTasks', WHERE WHAT IT READS IS OF BULK AT MOST 1048576: true; the input reads as it did. -/
def fnExactRefTasksUptoRow : OpenClaim := { program := "ytakhaknglhgimaa", sum := "8097c2c2dde3683c9ca21940660ec92b0ac8908cd0c8c51180e53bce81f2fb5e", func := "loop.example/g00983/laws.FnExactRefTasks", spec := "fnExactRefTasks", unfollowed := true, recurses := true, apart := false, narrowed := true }
def FnExactRefTasksUptoSaid : Prop := fnExactRefTasksUptoRow.holds Try.pinned (OpenSpec.upto fnExactRefTasksSpec)

/-- 'laws.FnWrites', WHERE WHAT IT READS IS OF BULK AT MOST 1048576: true; the input reads as it did. -/
def fnWritesUptoRow : OpenClaim := { program := "ytakhaknglhgimaa", sum := "8097c2c2dde3683c9ca21940660ec92b0ac8908cd0c8c51180e53bce81f2fb5e", func := "loop.example/g00983/laws.FnWrites", spec := "fnWrites", unfollowed := true, recurses := true, apart := false, narrowed := true }
def FnWritesUptoSaid : Prop := fnWritesUptoRow.holds Try.pinned (OpenSpec.upto fnWritesSpec)

/-- 'laws.FnReadsFirst', WHERE WHAT IT READS IS OF BULK AT MOST 1048576: true; the input reads as it did. -/
def fnReadsFirstUptoRow : OpenClaim := { program := "ytakhaknglhgimaa", sum := "8097c2c2dde3683c9ca21940660ec92b0ac8908cd0c8c51180e53bce81f2fb5e", func := "loop.example/g00983/laws.FnReadsFirst", spec := "fnReadsFirst", unfollowed := true, recurses := true, apart := false, narrowed := true }
def FnReadsFirstUptoSaid : Prop := fnReadsFirstUptoRow.holds Try.pinned (OpenSpec.upto fnReadsFirstSpec)

/-- 'laws.FnUnlogged', WHERE WHAT IT READS IS OF BULK AT MOST 1048576: true; the input reads as it did. -/
def fnUnloggedUptoRow : OpenClaim := { program := "ytakhaknglhgimaa", sum := "8097c2c2dde3683c9ca21940660ec92b0ac8908cd0c8c51180e53bce81f2fb5e", func := "loop.example/g00983/laws.FnUnlogged", spec := "fnUnlogged", unfollowed := true, recurses := true, apart := false, narrowed := true }
def FnUnloggedUptoSaid : Prop := fnUnloggedUptoRow.holds Try.pinned (OpenSpec.upto fnUnloggedSpec)

end Rows
end Go.Proofs.Ytakhaknglhgimaa
