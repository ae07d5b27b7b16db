/- Contracts of functions of the translation, written by a program of this repo (a changed copy of the printer). Not trusted: Lean checks it. -/
import Derived.Test.YtjlodcoeegpkaaaProg
import Derived.Below
import Derived.Deep.Draws
import Derived.Deep.AppendLies
import Derived.Maps.AppendAt
import Derived.OwnWalk
import Derived.Laws.BytesArg
import Derived.Laws.MakeOwn
import Derived.Laws.OwnMore
import Derived.Deep.OwnRows
import Derived.Tactics
import Derived.Lib.ConvBytes
import Derived.Laws.Slices
import Derived.WalkKit
import Derived.KernelRfl
import Derived.RowKit3
import Derived.Deep.LoopGhost
import Derived.Deep.QuietTactic
import Derived.BigQuiet
import Derived.WideLaws
import Derived.Deep.DeepCutAuto
import Derived.Deep.CutBlock
import Derived.Deep.RegionHeld3
import Derived.Laws.Rows
import Derived.Lib.AppendStr
import Derived.ArgAppend
import Derived.Laws.IdiomCopy
import Derived.OrdersHeld
import Derived.Laws.BitsLemmas
import Derived.RowKit
import Derived.Test.YtjlodcoeegpkaaaOpen
import Derived.Test.YtjlodcoeegpkaaaWWords
import Derived.Test.YtjlodcoeegpkaaaWLast
import Derived.Test.YtjlodcoeegpkaaaWTab
import Derived.Test.YtjlodcoeegpkaaaWFour
import Derived.Test.YtjlodcoeegpkaaaWQPut
import Derived.Test.YtjlodcoeegpkaaaWApart
import Derived.Test.YtjlodcoeegpkaaaWArr
import Derived.Test.YtjlodcoeegpkaaaWZeros
import Derived.Test.YtjlodcoeegpkaaaWFoot
import Derived.Test.YtjlodcoeegpkaaaWKept
import Derived.Test.YtjlodcoeegpkaaaWShare
import Derived.Test.YtjlodcoeegpkaaaWN
import Derived.Test.YtjlodcoeegpkaaaWFootNe
import Derived.Test.YtjlodcoeegpkaaaWAt
import Derived.Test.YtjlodcoeegpkaaaWEqStruct
import Derived.Test.YtjlodcoeegpkaaaWRepsOne
import Derived.Test.YtjlodcoeegpkaaaWInv
import Derived.Test.YtjlodcoeegpkaaaWInvWords
import Derived.Test.YtjlodcoeegpkaaaWGuard
import Derived.Test.YtjlodcoeegpkaaaWNEv
import Derived.Test.YtjlodcoeegpkaaaWMore
namespace Go.Proofs.Ytjlodcoeegpkaaa.PFnExactFitsStripe
open Go.RowKit Go.Proofs.YtjlodcoeegpkaaaW.PrintWords Go.Proofs.YtjlodcoeegpkaaaW.PrintLast Go.Proofs.YtjlodcoeegpkaaaW.PrintMore
attribute [local go_sem] max2_int min2_int max_two min_two max_three min_three max_four min_four   -- for this text's walks alone
set_option linter.unusedVariables false
set_option linter.unusedSimpArgs false



def errW : Option Int → Value
  | none => .nilIface
  | some c => .iface 0 (.int .i64 c)
theorem errW_none : errW none = .nilIface := rfl
theorem errW_some (c : Int) : errW (some c) = .iface 0 (.int .i64 c) := rfl

theorem info4 : (Try.prog.info? 4).map (fun i => (i.zero, i.size, i.bytes)) = some (some (.bool false), 1, 1) := by kernel_rfl
theorem info9 : (Try.prog.info? 9).map (fun i => (i.zero, i.size, i.bytes)) = some (some (.string ⟨#[]⟩), 1, 16) := by kernel_rfl
-- the values' own types

end Go.Proofs.Ytjlodcoeegpkaaa.PFnExactFitsStripe
