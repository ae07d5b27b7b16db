/- Words of the printed contracts, those that are named. No condition. -/
import Derived.Test.YtnafnpoflheonaaVN
namespace Go.Proofs.YtnafnpoflheonaaW.PrintWords
open Go.RowKit
namespace Kd
section
variable {α : Type} {d : Kd α} {W : World} {g n : Nat} {S ok : Nat → Prop} {A : Option Addr} {ad : Addr} {xs : List α}
end
end Kd
end Go.Proofs.YtnafnpoflheonaaW.PrintWords
