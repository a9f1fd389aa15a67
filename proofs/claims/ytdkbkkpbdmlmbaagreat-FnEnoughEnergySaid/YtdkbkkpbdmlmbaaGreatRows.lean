/-
  No cell of these rows narrows 'for every input' (looked for: loops, veiled, ifaces, maps, wideKeys, modest, calm, conditions, laid).
  DERIVED. THE GIVEN ROWS OF THIS SEAT. 2 by the template 'for every input the law returns true; each argument reads behind the call as it read before'; 0 by the template 'total and deterministic' (their statements: YtdkbkkpbdmlmbaaGreatTotals.lean).
  GIVEN WITH THE SEED: the statements are not yours to turn. If you find one false, say at which input.
  Laid BY PROGRAM, IN A SANDBOX (cutbox-rows.mjs): the forced cells as the released guide's own fill.sh prints them over the translation 39e0c0d9aba84e44… (all of the seat's roots in one cut). By AI agents, Wed Nov 11 2026. No macro, syntax, notation, axiom, sorry.
-/
import Derived.Test.YtdkbkkpbdmlmbaaGreatChecked
import GoSem.Claim
import GoSem.ClaimJoined
import GoSem.ClaimMapViews
import Derived.JoinedTies
import Derived.KernelRfl
namespace Go.Proofs.YtdkbkkpbdmlmbaaGreat
/- THE CELL 'sum', in the pinned program and in every row, IS THE sha256 OF THE DUMP (.gsa) THAT YtdkbkkpbdmlmbaaGreatProg.lean LOADS. Nothing in Lean hashes anything: it is a label: what it is worth is what the hold of that sum in a sandbox is worth. -/
noncomputable def Tryz.pinned : Pinned := { name := "ytdkbkkpbdmlmbaagreat", sum := "39e0c0d9aba84e4435b1855dc0965225c56b0536dccdfa8f73f728c36d6286b2", checked := Tryz.checked }
namespace Rows
def none {H : Type} : Left H := { results := [], args := [] }

/-- 'laws.FnEnoughEnergy': WHATEVER THE INPUT: true; the input reads as it did. -/
def fnEnoughEnergySpec : ChangeSpec := { name := "fnEnoughEnergy", fn := fun _ => fun
  | [d] => { results := [.lit (.bool true)], args := [d] }
  | _ => none }
def fnEnoughEnergyRow : OpenClaim := { program := "ytdkbkkpbdmlmbaagreat", sum := "39e0c0d9aba84e4435b1855dc0965225c56b0536dccdfa8f73f728c36d6286b2", func := "loop.example/g00983/laws.FnEnoughEnergy", spec := "fnEnoughEnergy", unfollowed := true, recurses := true, apart := false }
def FnEnoughEnergySaid : Prop := fnEnoughEnergyRow.holds Tryz.pinned (OpenSpec.ofChange fnEnoughEnergySpec)

/-- ITS FALSE NEIGHBOUR: 'it returns false'. Refute it at one input. -/
def fnEnoughEnergyWrong : ChangeSpec := { name := "fnEnoughEnergy", fn := fun _ => fun
  | [d] => { results := [.lit (.bool false)], args := [d] }
  | _ => none }
def FnEnoughEnergyWrongFalsely : Prop := fnEnoughEnergyRow.holds Tryz.pinned (OpenSpec.ofChange fnEnoughEnergyWrong)

/-- 'laws.FnIdle': WHATEVER THE INPUT: true; the input reads as it did. -/
def fnIdleSpec : ChangeSpec := { name := "fnIdle", fn := fun _ => fun
  | [d] => { results := [.lit (.bool true)], args := [d] }
  | _ => none }
def fnIdleRow : OpenClaim := { program := "ytdkbkkpbdmlmbaagreat", sum := "39e0c0d9aba84e4435b1855dc0965225c56b0536dccdfa8f73f728c36d6286b2", func := "loop.example/g00983/laws.FnIdle", spec := "fnIdle", unfollowed := true, recurses := true, apart := false }
def FnIdleSaid : Prop := fnIdleRow.holds Tryz.pinned (OpenSpec.ofChange fnIdleSpec)

/-- ITS FALSE NEIGHBOUR: 'it returns false'. Refute it at one input. -/
def fnIdleWrong : ChangeSpec := { name := "fnIdle", fn := fun _ => fun
  | [d] => { results := [.lit (.bool false)], args := [d] }
  | _ => none }
def FnIdleWrongFalsely : Prop := fnIdleRow.holds Tryz.pinned (OpenSpec.ofChange fnIdleWrong)

/- THE SECOND FORM. 'bulk': how many values and letters a reading holds, each counted each time it is reached (what is shared counts as often as it is met; a slice's spare places count too). A statement '..UptoSaid' is the law's where the arguments, and the package variables that the reading takes, are together of bulk at most 1048576: NARROWER than '..Said'. Prove '..Said' where nothing that the law and all that it calls make is longer than what came in: it says more and counts as full. Else prove '..UptoSaid'. A law counts once. -/
mutual
def uptoBulk {H : Type} : DataW H → Nat
  | .lit (.string bytes) => bytes.length + 1
  | .lit _ => 1
  | .nil => 1
  | .ptr d => uptoBulk d + 1
  | .slice elems spare => uptoBulkAll elems + uptoBulkAll spare + 1
  | .agg parts => uptoBulkAll parts + 1
  | .iface _ d => uptoBulk d + 1
  | .map entries => uptoBulkEntries entries + 1
  | .held _ => 1
def uptoBulkAll {H : Type} : List (DataW H) → Nat
  | [] => 0
  | d :: r => uptoBulk d + uptoBulkAll r
def uptoBulkEntries {H : Type} : List (Lit × DataW H) → Nat
  | [] => 0
  | x :: r => uptoBulkEntry x + uptoBulkEntries r
def uptoBulkEntry {H : Type} : Lit × DataW H → Nat
  | (.string bytes, d) => bytes.length + uptoBulk d + 1
  | (_, d) => uptoBulk d + 1
 end
def uptoSmall : (H : Type) → List (DataW H) → Bool := fun _ ds => decide (uptoBulkAll ds ≤ 1048576)
def OpenSpec.upto (s : _root_.Go.ChangeSpec) : _root_.Go.OpenSpec := { _root_.Go.OpenSpec.ofChange s with cond := some uptoSmall }

/-- 'laws.FnEnoughEnergy', WHERE WHAT IT READS IS OF BULK AT MOST 1048576: true; the input reads as it did. -/
def fnEnoughEnergyUptoRow : OpenClaim := { program := "ytdkbkkpbdmlmbaagreat", sum := "39e0c0d9aba84e4435b1855dc0965225c56b0536dccdfa8f73f728c36d6286b2", func := "loop.example/g00983/laws.FnEnoughEnergy", spec := "fnEnoughEnergy", unfollowed := true, recurses := true, apart := false, narrowed := true }
def FnEnoughEnergyUptoSaid : Prop := fnEnoughEnergyUptoRow.holds Tryz.pinned (OpenSpec.upto fnEnoughEnergySpec)

/-- 'laws.FnIdle', WHERE WHAT IT READS IS OF BULK AT MOST 1048576: true; the input reads as it did. -/
def fnIdleUptoRow : OpenClaim := { program := "ytdkbkkpbdmlmbaagreat", sum := "39e0c0d9aba84e4435b1855dc0965225c56b0536dccdfa8f73f728c36d6286b2", func := "loop.example/g00983/laws.FnIdle", spec := "fnIdle", unfollowed := true, recurses := true, apart := false, narrowed := true }
def FnIdleUptoSaid : Prop := fnIdleUptoRow.holds Tryz.pinned (OpenSpec.upto fnIdleSpec)

end Rows
end Go.Proofs.YtdkbkkpbdmlmbaaGreat
