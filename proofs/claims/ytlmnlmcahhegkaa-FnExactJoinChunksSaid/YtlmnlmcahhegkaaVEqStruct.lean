/- Words of the printed contracts, those that are named. No condition. -/
import Derived.Test.YtlmnlmcahhegkaaVWords
import Derived.Laws.StructEq
namespace Go.Proofs.YtlmnlmcahhegkaaW.PrintWords
open Go.RowKit
section
variable {P : Program} {d : Nat} {xs ys : Array Value} {f : Field} {fs : List Field} {a b : Value} {r s : Bool} {w : World}
end
end Go.Proofs.YtlmnlmcahhegkaaW.PrintWords
