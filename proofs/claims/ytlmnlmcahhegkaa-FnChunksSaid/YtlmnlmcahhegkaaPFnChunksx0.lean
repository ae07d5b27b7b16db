/- Contracts of functions of the translation, written by a program of this repo (a changed copy of the printer). Not trusted: Lean checks it. -/
-- squeezed
import Derived.Test.YtlmnlmcahhegkaaProg
import Derived.Below
import Derived.Deep.Draws
import Derived.Deep.AppendLies
import Derived.Maps.AppendAt
import Derived.OwnWalk
import Derived.Laws.BytesArg
import Derived.Laws.MakeOwn
import Derived.Laws.OwnMore
import Derived.Deep.OwnRows
import Derived.Tactics
import Derived.Lib.ConvBytes
import Derived.Laws.Slices
import Derived.WalkKit
import Derived.KernelRfl
import Derived.RowKit3
import Derived.Deep.LoopGhost
import Derived.Deep.QuietTactic
import Derived.BigQuiet
import Derived.WideLaws
import Derived.Deep.DeepCutAuto
import Derived.Deep.CutBlock
import Derived.Deep.RegionHeld3
import Derived.Laws.Rows
import Derived.Lib.AppendStr
import Derived.ArgAppend
import Derived.Laws.IdiomCopy
import Derived.OrdersHeld
import Derived.Laws.BitsLemmas
import Derived.RowKit
import Derived.Test.YtlmnlmcahhegkaaOpen
import Derived.Test.YtlmnlmcahhegkaaShelf
import Derived.Test.YtlmnlmcahhegkaaWWords
import Derived.Test.YtlmnlmcahhegkaaWLast
import Derived.Test.YtlmnlmcahhegkaaWTab
import Derived.Test.YtlmnlmcahhegkaaWFour
import Derived.Test.YtlmnlmcahhegkaaWQPut
import Derived.Test.YtlmnlmcahhegkaaWApart
import Derived.Test.YtlmnlmcahhegkaaWArr
import Derived.Test.YtlmnlmcahhegkaaWZeros
import Derived.Test.YtlmnlmcahhegkaaWFoot
import Derived.Test.YtlmnlmcahhegkaaWKept
import Derived.Test.YtlmnlmcahhegkaaWShare
import Derived.Test.YtlmnlmcahhegkaaWN
import Derived.Test.YtlmnlmcahhegkaaWFootNe
import Derived.Test.YtlmnlmcahhegkaaWAt
import Derived.Test.YtlmnlmcahhegkaaWEqStruct
import Derived.Test.YtlmnlmcahhegkaaWRepsOne
import Derived.Test.YtlmnlmcahhegkaaWInv
import Derived.Test.YtlmnlmcahhegkaaWInvWords
import Derived.Test.YtlmnlmcahhegkaaWGuard
import Derived.Test.YtlmnlmcahhegkaaWNEv
import Derived.Test.YtlmnlmcahhegkaaWMore
namespace Go.Proofs.Ytlmnlmcahhegkaa.PFnChunks
open Go.RowKit Go.Proofs.YtlmnlmcahhegkaaW.PrintWords Go.Proofs.YtlmnlmcahhegkaaW.PrintLast Go.Proofs.YtlmnlmcahhegkaaW.PrintMore
attribute [local go_sem] max2_int min2_int max_two min_two max_three min_three max_four min_four   -- for this text's walks alone
set_option linter.unusedVariables false
set_option linter.unusedSimpArgs false



def errW : Option Int → Value
 | none => .nilIface
 | some c => .iface 0 (.int .i64 c)
theorem errW_none : errW none = .nilIface := rfl
theorem errW_some (c : Int) : errW (some c) = .iface 0 (.int .i64 c) := rfl

theorem info3 : (Try.prog.info? 3).map (fun i => (i.zero, i.size, i.bytes)) = some (some (.int .i64 0), 1, 8) := by kernel_rfl
theorem info5 : (Try.prog.info? 5).map (fun i => (i.zero, i.size, i.bytes)) = some (some (.int .u8 0), 1, 1) := by kernel_rfl
theorem info9 : (Try.prog.info? 9).map (fun i => (i.zero, i.size, i.bytes)) = some (some (.string ⟨#[]⟩), 1, 16) := by kernel_rfl
-- the values' own types

end Go.Proofs.Ytlmnlmcahhegkaa.PFnChunks
