/- From what a row says of an argument (it reads as data of its type) to what a walk wants: its cells are those of a plain Lean value. No condition. -/
import Derived.Deep.Slices
import Derived.DataReads
import Derived.Test.YtdkbkkpbdmlmbaaGreatW0
namespace Go.Proofs.YtdkbkkpbdmlmbaaGreat.Opening
open Go.ChangeShapes Go.WideShapes Go.Proofs.YtdkbkkpbdmlmbaaGreatW.PrintWords
end Go.Proofs.YtdkbkkpbdmlmbaaGreat.Opening
namespace Go.Proofs.YtdkbkkpbdmlmbaaGreat.G
theorem calls_len1 {P:Program} {f:Nat} {A:Option Addr} {n m c:Nat} {w:World} {Q:Ending→World→Prop} (e:n=m) (h:Calls P f #[.slice A m c] w Q):Calls P f #[.slice A n c] w Q:=by
  subst e
  exact h
end Go.Proofs.YtdkbkkpbdmlmbaaGreat.G
