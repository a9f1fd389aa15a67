/-
  No cell of these rows narrows 'for every input' (looked for: loops, veiled, ifaces, maps, wideKeys, modest, calm, conditions, laid).
  DERIVED. THE GIVEN ROWS OF THIS SEAT. 3 by the template 'for every input the law returns true; each argument reads behind the call as it read before'; 0 by the template 'total and deterministic' (their statements: YtccjlmpeogifkaaTotals.lean).
  GIVEN WITH THE SEED: the statements are not yours to turn. If you find one false, say at which input.
  Laid BY PROGRAM, IN A SANDBOX (cutbox-rows.mjs): the forced cells as the released guide's own fill.sh prints them over the translation d126a9d90538fe10… (all of the seat's roots in one cut). By AI agents, Wed Nov 11 2026. No macro, syntax, notation, axiom, sorry.
-/
import Derived.Test.YtccjlmpeogifkaaChecked
import GoSem.Claim
import GoSem.ClaimJoined
import GoSem.ClaimMapViews
import Derived.JoinedTies
import Derived.KernelRfl
namespace Go.Proofs.Ytccjlmpeogifkaa
/- THE CELL 'sum', in the pinned program and in every row, IS THE sha256 OF THE DUMP (.gsa) THAT YtccjlmpeogifkaaProg.lean LOADS. Nothing in Lean hashes anything: it is a label: what it is worth is what the hold of that sum in a sandbox is worth. -/
noncomputable def Try.pinned : Pinned := { name := "ytccjlmpeogifkaa", sum := "d126a9d90538fe104fce35ea09ed794a7f7469c0b8428914fe58223fd8df17f0", checked := Try.checked }
namespace Rows
def none {H : Type} : Left H := { results := [], args := [] }

/-- 'laws.FnExactWriteCount': WHATEVER THE INPUT: true; the input reads as it did. -/
def fnExactWriteCountSpec : ChangeSpec := { name := "fnExactWriteCount", fn := fun _ => fun
  | [d1, d2] => { results := [.lit (.bool true)], args := [d1, d2] }
  | _ => none }
def fnExactWriteCountRow : OpenClaim := { program := "ytccjlmpeogifkaa", sum := "d126a9d90538fe104fce35ea09ed794a7f7469c0b8428914fe58223fd8df17f0", func := "loop.example/g00983/laws.FnExactWriteCount", spec := "fnExactWriteCount", unfollowed := true, recurses := true, apart := false }
def FnExactWriteCountSaid : Prop := fnExactWriteCountRow.holds Try.pinned (OpenSpec.ofChange fnExactWriteCountSpec)

/-- ITS FALSE NEIGHBOUR: 'it returns false'. Refute it at one input. -/
def fnExactWriteCountWrong : ChangeSpec := { name := "fnExactWriteCount", fn := fun _ => fun
  | [d1, d2] => { results := [.lit (.bool false)], args := [d1, d2] }
  | _ => none }
def FnExactWriteCountWrongFalsely : Prop := fnExactWriteCountRow.holds Try.pinned (OpenSpec.ofChange fnExactWriteCountWrong)

/-- 'laws.FnExactTaskBound': WHATEVER THE INPUT: true; the input reads as it did. -/
def fnExactTaskBoundSpec : ChangeSpec := { name := "fnExactTaskBound", fn := fun _ => fun
  | [d] => { results := [.lit (.bool true)], args := [d] }
  | _ => none }
def fnExactTaskBoundRow : OpenClaim := { program := "ytccjlmpeogifkaa", sum := "d126a9d90538fe104fce35ea09ed794a7f7469c0b8428914fe58223fd8df17f0", func := "loop.example/g00983/laws.FnExactTaskBound", spec := "fnExactTaskBound", unfollowed := true, recurses := true, apart := false }
def FnExactTaskBoundSaid : Prop := fnExactTaskBoundRow.holds Try.pinned (OpenSpec.ofChange fnExactTaskBoundSpec)

/-- ITS FALSE NEIGHBOUR: 'it returns false'. Refute it at one input. -/
def fnExactTaskBoundWrong : ChangeSpec := { name := "fnExactTaskBound", fn := fun _ => fun
  | [d] => { results := [.lit (.bool false)], args := [d] }
  | _ => none }
def FnExactTaskBoundWrongFalsely : Prop := fnExactTaskBoundRow.holds Try.pinned (OpenSpec.ofChange fnExactTaskBoundWrong)

/-- 'laws.FnExactBootBound': WHATEVER THE INPUT: true; the input reads as it did. -/
def fnExactBootBoundSpec : ChangeSpec := { name := "fnExactBootBound", fn := fun _ => fun
  | [d] => { results := [.lit (.bool true)], args := [d] }
  | _ => none }
def fnExactBootBoundRow : OpenClaim := { program := "ytccjlmpeogifkaa", sum := "d126a9d90538fe104fce35ea09ed794a7f7469c0b8428914fe58223fd8df17f0", func := "loop.example/g00983/laws.FnExactBootBound", spec := "fnExactBootBound", unfollowed := true, recurses := true, apart := false }
def FnExactBootBoundSaid : Prop := fnExactBootBoundRow.holds Try.pinned (OpenSpec.ofChange fnExactBootBoundSpec)

/-- ITS FALSE NEIGHBOUR: 'it returns false'. Refute it at one input. -/
def fnExactBootBoundWrong : ChangeSpec := { name := "fnExactBootBound", fn := fun _ => fun
  | [d] => { results := [.lit (.bool false)], args := [d] }
  | _ => none }
def FnExactBootBoundWrongFalsely : Prop := fnExactBootBoundRow.holds Try.pinned (OpenSpec.ofChange fnExactBootBoundWrong)

/- THE SECOND FORM. 'bulk': how many values and letters a reading holds, each counted each time it is reached (what is shared counts as often as it is met; a slice's spare places count too). A statement '..UptoSaid' is the law's where the arguments, and the package variables that the reading takes, are together of bulk at most 1048576: NARROWER than '..Said'. Prove '..Said' where nothing that the law and all that it calls make is longer than what came in: it says more and counts as full. Else prove '..UptoSaid'. A law counts once. -/
mutual
def uptoBulk {H : Type} : DataW H → Nat
  | .lit (.string bytes) => bytes.length + 1
  | .lit _ => 1
  | .nil => 1
  | .ptr d => uptoBulk d + 1
  | .slice elems spare => uptoBulkAll elems + uptoBulkAll spare + 1
  | .agg parts => uptoBulkAll parts + 1
  | .iface _ d => uptoBulk d + 1
  | .map entries => uptoBulkEntries entries + 1
  | .held _ => 1
def uptoBulkAll {H : Type} : List (DataW H) → Nat
  | [] => 0
  | d :: r => uptoBulk d + uptoBulkAll r
def uptoBulkEntries {H : Type} : List (Lit × DataW H) → Nat
  | [] => 0
  | x :: r => uptoBulkEntry x + uptoBulkEntries r
def uptoBulkEntry {H : Type} : Lit × DataW H → Nat
  | (.string bytes, d) => bytes.length + uptoBulk d + 1
  | (_, d) => uptoBulk d + 1
 end
def uptoSmall : (H : Type) → List (DataW H) → Bool := fun _ ds => decide (uptoBulkAll ds ≤ 1048576)
def OpenSpec.upto (s : _root_.Go.ChangeSpec) : _root_.Go.OpenSpec := { _root_.Go.OpenSpec.ofChange s with cond := some uptoSmall }

/-- 'laws.FnExactWriteCount', WHERE WHAT IT READS IS OF BULK AT MOST 1048576: true; the input reads as it did. -/
def fnExactWriteCountUptoRow : OpenClaim := { program := "ytccjlmpeogifkaa", sum := "d126a9d90538fe104fce35ea09ed794a7f7469c0b8428914fe58223fd8df17f0", func := "loop.example/g00983/laws.FnExactWriteCount", spec := "fnExactWriteCount", unfollowed := true, recurses := true, apart := false, narrowed := true }
def FnExactWriteCountUptoSaid : Prop := fnExactWriteCountUptoRow.holds Try.pinned (OpenSpec.upto fnExactWriteCountSpec)

/-- 'laws.FnExactTaskBound', WHERE WHAT IT READS IS OF BULK AT MOST 1048576: true; the input reads as it did. -/
def fnExactTaskBoundUptoRow : OpenClaim := { program := "ytccjlmpeogifkaa", sum := "d126a9d90538fe104fce35ea09ed794a7f7469c0b8428914fe58223fd8df17f0", func := "loop.example/g00983/laws.FnExactTaskBound", spec := "fnExactTaskBound", unfollowed := true, recurses := true, apart := false, narrowed := true }
def FnExactTaskBoundUptoSaid : Prop := fnExactTaskBoundUptoRow.holds Try.pinned (OpenSpec.upto fnExactTaskBoundSpec)

/-- 'laws.FnExactBootBound', WHERE WHAT IT READS IS OF BULK AT MOST 1048576: true; the input reads as it did. -/
def fnExactBootBoundUptoRow : OpenClaim := { program := "ytccjlmpeogifkaa", sum := "d126a9d90538fe104fce35ea09ed794a7f7469c0b8428914fe58223fd8df17f0", func := "loop.example/g00983/laws.FnExactBootBound", spec := "fnExactBootBound", unfollowed := true, recurses := true, apart := false, narrowed := true }
def FnExactBootBoundUptoSaid : Prop := fnExactBootBoundUptoRow.holds Try.pinned (OpenSpec.upto fnExactBootBoundSpec)

end Rows
end Go.Proofs.Ytccjlmpeogifkaa
