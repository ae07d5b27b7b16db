/-
  No cell of these rows narrows 'for every input' (looked for: loops, veiled, ifaces, maps, wideKeys, modest, calm, conditions, laid).
  DERIVED. THE GIVEN ROWS OF THIS SEAT. 4 by the template 'for every input the law returns true; each argument reads behind the call as it read before'; 0 by the template 'total and deterministic' (their statements: YtplhecjngmkngaaTotals.lean).
  GIVEN WITH THE SEED: the statements are not yours to turn. If you find one false, say at which input.
  Laid BY PROGRAM, IN A SANDBOX (cutbox-rows.mjs): the forced cells as the released guide's own fill.sh prints them over the translation 5ec9ce8558d510e3… (all of the seat's roots in one cut). By AI agents, Wed Nov 11 2026. No macro, syntax, notation, axiom, sorry.
-/
import Derived.Test.YtplhecjngmkngaaChecked
import GoSem.Claim
import GoSem.ClaimJoined
import GoSem.ClaimMapViews
import Derived.JoinedTies
import Derived.KernelRfl
namespace Go.Proofs.Ytplhecjngmkngaa
/- THE CELL 'sum', in the pinned program and in every row, IS THE sha256 OF THE DUMP (.gsa) THAT YtplhecjngmkngaaProg.lean LOADS. Nothing in Lean hashes anything: it is a label: what it is worth is what the hold of that sum in a sandbox is worth. -/
noncomputable def Try.pinned : Pinned := { name := "ytplhecjngmkngaa", sum := "5ec9ce8558d510e33fcae38fe294333a7eab29132c28221528c7b7f5f28f99f0", checked := Try.checked }
namespace Rows
def none {H : Type} : Left H := { results := [], args := [] }

/-- 'laws.FnExactPiecesFor': WHATEVER THE INPUT: true; the input reads as it did. -/
def fnExactPiecesForSpec : ChangeSpec := { name := "fnExactPiecesFor", fn := fun _ => fun
  | [d] => { results := [.lit (.bool true)], args := [d] }
  | _ => none }
def fnExactPiecesForRow : OpenClaim := { program := "ytplhecjngmkngaa", sum := "5ec9ce8558d510e33fcae38fe294333a7eab29132c28221528c7b7f5f28f99f0", func := "loop.example/g00405/laws.FnExactPiecesFor", spec := "fnExactPiecesFor", inPlace := ["internal/abi.NoEscape", "internal/bytealg.MakeNoZero"], apart := false }
def FnExactPiecesForSaid : Prop := fnExactPiecesForRow.holds Try.pinned (OpenSpec.ofChange fnExactPiecesForSpec)

/-- ITS FALSE NEIGHBOUR: 'it returns false'. Refute it at one input. -/
def fnExactPiecesForWrong : ChangeSpec := { name := "fnExactPiecesFor", fn := fun _ => fun
  | [d] => { results := [.lit (.bool false)], args := [d] }
  | _ => none }
def FnExactPiecesForWrongFalsely : Prop := fnExactPiecesForRow.holds Try.pinned (OpenSpec.ofChange fnExactPiecesForWrong)

/-- 'laws.FnErasure': WHATEVER THE INPUT: true; the input reads as it did. -/
def fnErasureSpec : ChangeSpec := { name := "fnErasure", fn := fun _ => fun
  | [d1, d2] => { results := [.lit (.bool true)], args := [d1, d2] }
  | _ => none }
def fnErasureRow : OpenClaim := { program := "ytplhecjngmkngaa", sum := "5ec9ce8558d510e33fcae38fe294333a7eab29132c28221528c7b7f5f28f99f0", func := "loop.example/g00405/laws.FnErasure", spec := "fnErasure", unfollowed := true, recurses := true, apart := false }
def FnErasureSaid : Prop := fnErasureRow.holds Try.pinned (OpenSpec.ofChange fnErasureSpec)

/-- ITS FALSE NEIGHBOUR: 'it returns false'. Refute it at one input. -/
def fnErasureWrong : ChangeSpec := { name := "fnErasure", fn := fun _ => fun
  | [d1, d2] => { results := [.lit (.bool false)], args := [d1, d2] }
  | _ => none }
def FnErasureWrongFalsely : Prop := fnErasureRow.holds Try.pinned (OpenSpec.ofChange fnErasureWrong)

/-- 'laws.FnExactWriteStripe': WHATEVER THE INPUT: true; the input reads as it did. -/
def fnExactWriteStripeSpec : ChangeSpec := { name := "fnExactWriteStripe", fn := fun _ => fun
  | [d1, d2, d3, d4] => { results := [.lit (.bool true)], args := [d1, d2, d3, d4] }
  | _ => none }
def fnExactWriteStripeRow : OpenClaim := { program := "ytplhecjngmkngaa", sum := "5ec9ce8558d510e33fcae38fe294333a7eab29132c28221528c7b7f5f28f99f0", func := "loop.example/g00405/laws.FnExactWriteStripe", spec := "fnExactWriteStripe", inPlace := ["internal/abi.NoEscape", "internal/bytealg.MakeNoZero"], unfollowed := true, recurses := true, apart := false }
def FnExactWriteStripeSaid : Prop := fnExactWriteStripeRow.holds Try.pinned (OpenSpec.ofChange fnExactWriteStripeSpec)

/-- ITS FALSE NEIGHBOUR: 'it returns false'. Refute it at one input. -/
def fnExactWriteStripeWrong : ChangeSpec := { name := "fnExactWriteStripe", fn := fun _ => fun
  | [d1, d2, d3, d4] => { results := [.lit (.bool false)], args := [d1, d2, d3, d4] }
  | _ => none }
def FnExactWriteStripeWrongFalsely : Prop := fnExactWriteStripeRow.holds Try.pinned (OpenSpec.ofChange fnExactWriteStripeWrong)

/-- 'laws.FnExactHealthOf': WHATEVER THE INPUT: true; the input reads as it did. -/
def fnExactHealthOfSpec : ChangeSpec := { name := "fnExactHealthOf", fn := fun _ => fun
  | [d1, d2, d3] => { results := [.lit (.bool true)], args := [d1, d2, d3] }
  | _ => none }
def fnExactHealthOfRow : OpenClaim := { program := "ytplhecjngmkngaa", sum := "5ec9ce8558d510e33fcae38fe294333a7eab29132c28221528c7b7f5f28f99f0", func := "loop.example/g00405/laws.FnExactHealthOf", spec := "fnExactHealthOf", recurses := true, apart := false }
def FnExactHealthOfSaid : Prop := fnExactHealthOfRow.holds Try.pinned (OpenSpec.ofChange fnExactHealthOfSpec)

/-- ITS FALSE NEIGHBOUR: 'it returns false'. Refute it at one input. -/
def fnExactHealthOfWrong : ChangeSpec := { name := "fnExactHealthOf", fn := fun _ => fun
  | [d1, d2, d3] => { results := [.lit (.bool false)], args := [d1, d2, d3] }
  | _ => none }
def FnExactHealthOfWrongFalsely : Prop := fnExactHealthOfRow.holds Try.pinned (OpenSpec.ofChange fnExactHealthOfWrong)

/- THE SECOND FORM. 'bulk': how many values and letters a reading holds, each counted each time it is reached (what is shared counts as often as it is met; a slice's spare places count too). A statement '..UptoSaid' is the law's where the arguments, and the package variables that the reading takes, are together of bulk at most 1048576: NARROWER than '..Said'. Prove '..Said' where nothing that the law and all that it calls make is longer than what came in: it says more and counts as full. Else prove '..UptoSaid'. A law counts once. -/
mutual
def uptoBulk {H : Type} : DataW H → Nat
  | .lit (.string bytes) => bytes.length + 1
  | .lit _ => 1
  | .nil => 1
  | .ptr d => uptoBulk d + 1
  | .slice elems spare => uptoBulkAll elems + uptoBulkAll spare + 1
  | .agg parts => uptoBulkAll parts + 1
  | .iface _ d => uptoBulk d + 1
  | .map entries => uptoBulkEntries entries + 1
  | .held _ => 1
def uptoBulkAll {H : Type} : List (DataW H) → Nat
  | [] => 0
  | d :: r => uptoBulk d + uptoBulkAll r
def uptoBulkEntries {H : Type} : List (Lit × DataW H) → Nat
  | [] => 0
  | x :: r => uptoBulkEntry x + uptoBulkEntries r
def uptoBulkEntry {H : Type} : Lit × DataW H → Nat
  | (.string bytes, d) => bytes.length + uptoBulk d + 1
  | (_, d) => uptoBulk d + 1
 end
def uptoSmall : (H : Type) → List (DataW H) → Bool := fun _ ds => decide (uptoBulkAll ds ≤ 1048576)
def OpenSpec.upto (s : _root_.Go.ChangeSpec) : _root_.Go.OpenSpec := { _root_.Go.OpenSpec.ofChange s with cond := some uptoSmall }

/-- 'laws.FnExactPiecesFor', WHERE WHAT IT READS IS OF BULK AT MOST 1048576: true; the input reads as it did. -/
def fnExactPiecesForUptoRow : OpenClaim := { program := "ytplhecjngmkngaa", sum := "5ec9ce8558d510e33fcae38fe294333a7eab29132c28221528c7b7f5f28f99f0", func := "loop.example/g00405/laws.FnExactPiecesFor", spec := "fnExactPiecesFor", inPlace := ["internal/abi.NoEscape", "internal/bytealg.MakeNoZero"], apart := false, narrowed := true }
def FnExactPiecesForUptoSaid : Prop := fnExactPiecesForUptoRow.holds Try.pinned (OpenSpec.upto fnExactPiecesForSpec)

/-- 'laws.FnErasure', WHERE WHAT IT READS IS OF BULK AT MOST 1048576: true; the input reads as it did. -/
def fnErasureUptoRow : OpenClaim := { program := "ytplhecjngmkngaa", sum := "5ec9ce8558d510e33fcae38fe294333a7eab29132c28221528c7b7f5f28f99f0", func := "loop.example/g00405/laws.FnErasure", spec := "fnErasure", unfollowed := true, recurses := true, apart := false, narrowed := true }
def FnErasureUptoSaid : Prop := fnErasureUptoRow.holds Try.pinned (OpenSpec.upto fnErasureSpec)

/-- 'laws.FnExactWriteStripe', WHERE WHAT IT READS IS OF BULK AT MOST 1048576: true; the input reads as it did. -/
def fnExactWriteStripeUptoRow : OpenClaim := { program := "ytplhecjngmkngaa", sum := "5ec9ce8558d510e33fcae38fe294333a7eab29132c28221528c7b7f5f28f99f0", func := "loop.example/g00405/laws.FnExactWriteStripe", spec := "fnExactWriteStripe", inPlace := ["internal/abi.NoEscape", "internal/bytealg.MakeNoZero"], unfollowed := true, recurses := true, apart := false, narrowed := true }
def FnExactWriteStripeUptoSaid : Prop := fnExactWriteStripeUptoRow.holds Try.pinned (OpenSpec.upto fnExactWriteStripeSpec)

/-- 'laws.FnExactHealthOf', WHERE WHAT IT READS IS OF BULK AT MOST 1048576: true; the input reads as it did. -/
def fnExactHealthOfUptoRow : OpenClaim := { program := "ytplhecjngmkngaa", sum := "5ec9ce8558d510e33fcae38fe294333a7eab29132c28221528c7b7f5f28f99f0", func := "loop.example/g00405/laws.FnExactHealthOf", spec := "fnExactHealthOf", recurses := true, apart := false, narrowed := true }
def FnExactHealthOfUptoSaid : Prop := fnExactHealthOfUptoRow.holds Try.pinned (OpenSpec.upto fnExactHealthOfSpec)

end Rows
end Go.Proofs.Ytplhecjngmkngaa
