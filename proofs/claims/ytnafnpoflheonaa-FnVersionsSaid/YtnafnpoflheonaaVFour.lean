/- Words of the printed contracts, those that are named. No condition. -/
import Derived.Test.YtnafnpoflheonaaVTab
namespace Go.Proofs.YtnafnpoflheonaaW.PrintLast
section
variable {P : Program} {ops : Array Oper} {Q : Exit → Act → World → Prop} {md : Region.Mode} {S : World → Prop} {ds : List Nat} {T : Bool × List (List Nat × List Nat)}
end
end Go.Proofs.YtnafnpoflheonaaW.PrintLast
