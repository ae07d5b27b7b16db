/- Words of the printed contracts, those that are named. No condition. -/
import Derived.Test.YtnafnpoflheonaaVWords
import Derived.Laws.StructEq
namespace Go.Proofs.YtnafnpoflheonaaW.PrintWords
open Go.RowKit
section
variable {P : Program} {d : Nat} {xs ys : Array Value} {f : Field} {fs : List Field} {a b : Value} {r s : Bool} {w : World}
end
end Go.Proofs.YtnafnpoflheonaaW.PrintWords
