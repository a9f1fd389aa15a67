/- From what a row says of an argument (it reads as data of its type) to what a walk wants: its cells are those of a plain Lean value. No condition. -/
import Derived.Deep.Slices
import Derived.DataReads
import Derived.Test.YtjgfldbogjipiaaGreatW0
namespace Go.Proofs.YtjgfldbogjipiaaGreat.Opening
open Go.ChangeShapes Go.WideShapes Go.Proofs.YtjgfldbogjipiaaGreatW.PrintWords
end Go.Proofs.YtjgfldbogjipiaaGreat.Opening
namespace Go.Proofs.YtjgfldbogjipiaaGreat.G
theorem calls_len1 {P:Program} {f:Nat} {A:Option Addr} {n m c:Nat} {w:World} {Q:Ending→World→Prop} (e:n=m) (h:Calls P f #[.slice A m c] w Q):Calls P f #[.slice A n c] w Q:=by
  subst e
  exact h
end Go.Proofs.YtjgfldbogjipiaaGreat.G
