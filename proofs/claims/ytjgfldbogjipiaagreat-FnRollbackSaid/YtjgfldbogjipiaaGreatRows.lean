/-
  No cell of these rows narrows 'for every input' (looked for: loops, veiled, ifaces, maps, wideKeys, modest, calm, conditions, laid).
  DERIVED. THE GIVEN ROWS OF THIS SEAT. 4 by the template 'for every input the law returns true; each argument reads behind the call as it read before'; 0 by the template 'total and deterministic' (their statements: YtjgfldbogjipiaaGreatTotals.lean).
  GIVEN WITH THE SEED: the statements are not yours to turn. If you find one false, say at which input.
  Laid BY PROGRAM, IN A SANDBOX (cutbox-rows.mjs): the forced cells as the released guide's own fill.sh prints them over the translation 7156b3d60d4f85ab… (all of the seat's roots in one cut). By AI agents, Wed Nov 11 2026. No macro, syntax, notation, axiom, sorry.
-/
import Derived.Test.YtjgfldbogjipiaaGreatChecked
import GoSem.Claim
import GoSem.ClaimJoined
import GoSem.ClaimMapViews
import Derived.JoinedTies
import Derived.KernelRfl
namespace Go.Proofs.YtjgfldbogjipiaaGreat
/- THE CELL 'sum', in the pinned program and in every row, IS THE sha256 OF THE DUMP (.gsa) THAT YtjgfldbogjipiaaGreatProg.lean LOADS. Nothing in Lean hashes anything: it is a label: what it is worth is what the hold of that sum in a sandbox is worth. -/
noncomputable def Tryz.pinned : Pinned := { name := "ytjgfldbogjipiaagreat", sum := "7156b3d60d4f85ab165fa8f03ab0e20118ed25614f60ae527f7aae4cc8eae719", checked := Tryz.checked }
namespace Rows
def none {H : Type} : Left H := { results := [], args := [] }

/-- 'laws.FnRecoverAgain': WHATEVER THE INPUT: true; the input reads as it did. -/
def fnRecoverAgainSpec : ChangeSpec := { name := "fnRecoverAgain", fn := fun _ => fun
  | [d] => { results := [.lit (.bool true)], args := [d] }
  | _ => none }
def fnRecoverAgainRow : OpenClaim := { program := "ytjgfldbogjipiaagreat", sum := "7156b3d60d4f85ab165fa8f03ab0e20118ed25614f60ae527f7aae4cc8eae719", func := "loop.example/g00983/laws.FnRecoverAgain", spec := "fnRecoverAgain", unfollowed := true, recurses := true, apart := false }
def FnRecoverAgainSaid : Prop := fnRecoverAgainRow.holds Tryz.pinned (OpenSpec.ofChange fnRecoverAgainSpec)

/-- ITS FALSE NEIGHBOUR: 'it returns false'. Refute it at one input. -/
def fnRecoverAgainWrong : ChangeSpec := { name := "fnRecoverAgain", fn := fun _ => fun
  | [d] => { results := [.lit (.bool false)], args := [d] }
  | _ => none }
def FnRecoverAgainWrongFalsely : Prop := fnRecoverAgainRow.holds Tryz.pinned (OpenSpec.ofChange fnRecoverAgainWrong)

/-- 'laws.FnRollback': WHATEVER THE INPUT: true; the input reads as it did. -/
def fnRollbackSpec : ChangeSpec := { name := "fnRollback", fn := fun _ => fun
  | [d] => { results := [.lit (.bool true)], args := [d] }
  | _ => none }
def fnRollbackRow : OpenClaim := { program := "ytjgfldbogjipiaagreat", sum := "7156b3d60d4f85ab165fa8f03ab0e20118ed25614f60ae527f7aae4cc8eae719", func := "loop.example/g00983/laws.FnRollback", spec := "fnRollback", unfollowed := true, recurses := true, apart := false }
def FnRollbackSaid : Prop := fnRollbackRow.holds Tryz.pinned (OpenSpec.ofChange fnRollbackSpec)

/-- ITS FALSE NEIGHBOUR: 'it returns false'. Refute it at one input. -/
def fnRollbackWrong : ChangeSpec := { name := "fnRollback", fn := fun _ => fun
  | [d] => { results := [.lit (.bool false)], args := [d] }
  | _ => none }
def FnRollbackWrongFalsely : Prop := fnRollbackRow.holds Tryz.pinned (OpenSpec.ofChange fnRollbackWrong)

/-- 'laws.FnCounted': WHATEVER THE INPUT: true; the input reads as it did. -/
def fnCountedSpec : ChangeSpec := { name := "fnCounted", fn := fun _ => fun
  | [d] => { results := [.lit (.bool true)], args := [d] }
  | _ => none }
def fnCountedRow : OpenClaim := { program := "ytjgfldbogjipiaagreat", sum := "7156b3d60d4f85ab165fa8f03ab0e20118ed25614f60ae527f7aae4cc8eae719", func := "loop.example/g00983/laws.FnCounted", spec := "fnCounted", unfollowed := true, recurses := true, apart := false }
def FnCountedSaid : Prop := fnCountedRow.holds Tryz.pinned (OpenSpec.ofChange fnCountedSpec)

/-- ITS FALSE NEIGHBOUR: 'it returns false'. Refute it at one input. -/
def fnCountedWrong : ChangeSpec := { name := "fnCounted", fn := fun _ => fun
  | [d] => { results := [.lit (.bool false)], args := [d] }
  | _ => none }
def FnCountedWrongFalsely : Prop := fnCountedRow.holds Tryz.pinned (OpenSpec.ofChange fnCountedWrong)

/-- 'laws.FnTraces': WHATEVER THE INPUT: true; the input reads as it did. -/
def fnTracesSpec : ChangeSpec := { name := "fnTraces", fn := fun _ => fun
  | [d] => { results := [.lit (.bool true)], args := [d] }
  | _ => none }
def fnTracesRow : OpenClaim := { program := "ytjgfldbogjipiaagreat", sum := "7156b3d60d4f85ab165fa8f03ab0e20118ed25614f60ae527f7aae4cc8eae719", func := "loop.example/g00983/laws.FnTraces", spec := "fnTraces", unfollowed := true, recurses := true, apart := false }
def FnTracesSaid : Prop := fnTracesRow.holds Tryz.pinned (OpenSpec.ofChange fnTracesSpec)

/-- ITS FALSE NEIGHBOUR: 'it returns false'. Refute it at one input. -/
def fnTracesWrong : ChangeSpec := { name := "fnTraces", fn := fun _ => fun
  | [d] => { results := [.lit (.bool false)], args := [d] }
  | _ => none }
def FnTracesWrongFalsely : Prop := fnTracesRow.holds Tryz.pinned (OpenSpec.ofChange fnTracesWrong)

/- THE SECOND FORM. 'bulk': how many values and letters a reading holds, each counted each time it is reached (what is shared counts as often as it is met; a slice's spare places count too). A statement '..UptoSaid' is the law's where the arguments, and the package variables that the reading takes, are together of bulk at most 1048576: NARROWER than '..Said'. Prove '..Said' where nothing that the law and all that it calls make is longer than what came in: it says more and counts as full. Else prove '..UptoSaid'. A law counts once. -/
mutual
def uptoBulk {H : Type} : DataW H → Nat
  | .lit (.string bytes) => bytes.length + 1
  | .lit _ => 1
  | .nil => 1
  | .ptr d => uptoBulk d + 1
  | .slice elems spare => uptoBulkAll elems + uptoBulkAll spare + 1
  | .agg parts => uptoBulkAll parts + 1
  | .iface _ d => uptoBulk d + 1
  | .map entries => uptoBulkEntries entries + 1
  | .held _ => 1
def uptoBulkAll {H : Type} : List (DataW H) → Nat
  | [] => 0
  | d :: r => uptoBulk d + uptoBulkAll r
def uptoBulkEntries {H : Type} : List (Lit × DataW H) → Nat
  | [] => 0
  | x :: r => uptoBulkEntry x + uptoBulkEntries r
def uptoBulkEntry {H : Type} : Lit × DataW H → Nat
  | (.string bytes, d) => bytes.length + uptoBulk d + 1
  | (_, d) => uptoBulk d + 1
 end
def uptoSmall : (H : Type) → List (DataW H) → Bool := fun _ ds => decide (uptoBulkAll ds ≤ 1048576)
def OpenSpec.upto (s : _root_.Go.ChangeSpec) : _root_.Go.OpenSpec := { _root_.Go.OpenSpec.ofChange s with cond := some uptoSmall }

/-- 'laws.FnRecoverAgain', WHERE WHAT IT READS IS OF BULK AT MOST 1048576: true; the input reads as it did. -/
def fnRecoverAgainUptoRow : OpenClaim := { program := "ytjgfldbogjipiaagreat", sum := "7156b3d60d4f85ab165fa8f03ab0e20118ed25614f60ae527f7aae4cc8eae719", func := "loop.example/g00983/laws.FnRecoverAgain", spec := "fnRecoverAgain", unfollowed := true, recurses := true, apart := false, narrowed := true }
def FnRecoverAgainUptoSaid : Prop := fnRecoverAgainUptoRow.holds Tryz.pinned (OpenSpec.upto fnRecoverAgainSpec)

/-- 'laws.FnRollback', WHERE WHAT IT READS IS OF BULK AT MOST 1048576: true; the input reads as it did. -/
def fnRollbackUptoRow : OpenClaim := { program := "ytjgfldbogjipiaagreat", sum := "7156b3d60d4f85ab165fa8f03ab0e20118ed25614f60ae527f7aae4cc8eae719", func := "loop.example/g00983/laws.FnRollback", spec := "fnRollback", unfollowed := true, recurses := true, apart := false, narrowed := true }
def FnRollbackUptoSaid : Prop := fnRollbackUptoRow.holds Tryz.pinned (OpenSpec.upto fnRollbackSpec)

/-- 'laws.FnCounted', WHERE WHAT IT READS IS OF BULK AT MOST 1048576: true; the input reads as it did. -/
def fnCountedUptoRow : OpenClaim := { program := "ytjgfldbogjipiaagreat", sum := "7156b3d60d4f85ab165fa8f03ab0e20118ed25614f60ae527f7aae4cc8eae719", func := "loop.example/g00983/laws.FnCounted", spec := "fnCounted", unfollowed := true, recurses := true, apart := false, narrowed := true }
def FnCountedUptoSaid : Prop := fnCountedUptoRow.holds Tryz.pinned (OpenSpec.upto fnCountedSpec)

/-- 'laws.FnTraces', WHERE WHAT IT READS IS OF BULK AT MOST 1048576: true; the input reads as it did. -/
def fnTracesUptoRow : OpenClaim := { program := "ytjgfldbogjipiaagreat", sum := "7156b3d60d4f85ab165fa8f03ab0e20118ed25614f60ae527f7aae4cc8eae719", func := "loop.example/g00983/laws.FnTraces", spec := "fnTraces", unfollowed := true, recurses := true, apart := false, narrowed := true }
def FnTracesUptoSaid : Prop := fnTracesUptoRow.holds Tryz.pinned (OpenSpec.upto fnTracesSpec)

end Rows
end Go.Proofs.YtjgfldbogjipiaaGreat
