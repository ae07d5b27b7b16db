/- Contracts of functions of the translation, written by a program of this repo (a changed copy of the printer). Not trusted: Lean checks it. -/
-- squeezed
import Derived.Test.YtjlodcoeegpkaaaProg
import Derived.Below
import Derived.Deep.Draws
import Derived.Deep.AppendLies
import Derived.Maps.AppendAt
import Derived.OwnWalk
import Derived.Laws.BytesArg
import Derived.Laws.MakeOwn
import Derived.Laws.OwnMore
import Derived.Deep.OwnRows
import Derived.Tactics
import Derived.Lib.ConvBytes
import Derived.Laws.Slices
import Derived.WalkKit
import Derived.KernelRfl
import Derived.RowKit3
import Derived.Deep.LoopGhost
import Derived.Deep.QuietTactic
import Derived.BigQuiet
import Derived.WideLaws
import Derived.Deep.DeepCutAuto
import Derived.Deep.CutBlock
import Derived.Deep.RegionHeld3
import Derived.Laws.Rows
import Derived.Lib.AppendStr
import Derived.ArgAppend
import Derived.Laws.IdiomCopy
import Derived.OrdersHeld
import Derived.Laws.BitsLemmas
import Derived.RowKit
import Derived.Test.YtjlodcoeegpkaaaOpen
import Derived.Shelf.Abstract
import Derived.Test.YtjlodcoeegpkaaaMv
import Derived.Test.YtjlodcoeegpkaaaOpen
import Derived.Test.YtjlodcoeegpkaaaShelf
import Derived.Test.YtjlodcoeegpkaaaVWords
import Derived.Test.YtjlodcoeegpkaaaVLast
import Derived.Test.YtjlodcoeegpkaaaVTab
import Derived.Test.YtjlodcoeegpkaaaVFour
import Derived.Test.YtjlodcoeegpkaaaVQPut
import Derived.Test.YtjlodcoeegpkaaaVApart
import Derived.Test.YtjlodcoeegpkaaaVArr
import Derived.Test.YtjlodcoeegpkaaaVZeros
import Derived.Test.YtjlodcoeegpkaaaVFoot
import Derived.Test.YtjlodcoeegpkaaaVKept
import Derived.Test.YtjlodcoeegpkaaaVShare
import Derived.Test.YtjlodcoeegpkaaaVN
import Derived.Test.YtjlodcoeegpkaaaVFootNe
import Derived.Test.YtjlodcoeegpkaaaVAt
import Derived.Test.YtjlodcoeegpkaaaVEqStruct
import Derived.Test.YtjlodcoeegpkaaaVRepsOne
import Derived.Test.YtjlodcoeegpkaaaVInv
import Derived.Test.YtjlodcoeegpkaaaVInvWords
import Derived.Test.YtjlodcoeegpkaaaVGuard
import Derived.Test.YtjlodcoeegpkaaaVNEv
import Derived.Test.YtjlodcoeegpkaaaVMore
namespace Go.Proofs.Ytjlodcoeegpkaaa.PFnExactAfterCrash
open Go.RowKit Go.Proofs.YtjlodcoeegpkaaaW.PrintWords Go.Proofs.YtjlodcoeegpkaaaW.PrintLast Go.Proofs.YtjlodcoeegpkaaaW.PrintMore
attribute [local go_sem] max2_int min2_int max_two min_two max_three min_three max_four min_four   -- for this text's walks alone
set_option linter.unusedVariables false
set_option linter.unusedSimpArgs false



def errW : Option Int → Value
 | none => .nilIface
 | some c => .iface 0 (.int .i64 c)
theorem errW_none : errW none = .nilIface := rfl
theorem errW_some (c : Int) : errW (some c) = .iface 0 (.int .i64 c) := rfl

theorem info3 : (Try.prog.info? 3).map (fun i => (i.zero, i.size, i.bytes)) = some (some (.int .i64 0), 1, 8) := by kernel_rfl
theorem info4 : (Try.prog.info? 4).map (fun i => (i.zero, i.size, i.bytes)) = some (some (.bool false), 1, 1) := by kernel_rfl
theorem info5 : (Try.prog.info? 5).map (fun i => (i.zero, i.size, i.bytes)) = some (some (.int .u8 0), 1, 1) := by kernel_rfl
theorem info9 : (Try.prog.info? 9).map (fun i => (i.zero, i.size, i.bytes)) = some (some (.string ⟨#[]⟩), 1, 16) := by kernel_rfl
-- the values' own types

end Go.Proofs.Ytjlodcoeegpkaaa.PFnExactAfterCrash
