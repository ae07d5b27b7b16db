/- Words of the printed contracts, those that are named. No condition. -/
import Derived.Test.YtnafnpoflheonaaVInv
import Derived.Test.YtnafnpoflheonaaVFootNe
namespace Go.Proofs.YtnafnpoflheonaaW.PrintWords
open Go.RowKit
end Go.Proofs.YtnafnpoflheonaaW.PrintWords
namespace Go.Proofs.YtnafnpoflheonaaW.PrintLast
section
variable {ops : Array Oper} {a : Act} {o og : Oper} {g : Nat} {t : Tmp} {u : Bool}
end
end Go.Proofs.YtnafnpoflheonaaW.PrintLast
