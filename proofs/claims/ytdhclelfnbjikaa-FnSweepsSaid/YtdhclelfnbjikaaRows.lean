/-
  No cell of these rows narrows 'for every input' (looked for: loops, veiled, ifaces, maps, wideKeys, modest, calm, conditions, laid).
  DERIVED. THE GIVEN ROWS OF THIS SEAT. 11 by the template 'for every input the law returns true; each argument reads behind the call as it read before'; 0 by the template 'total and deterministic' (their statements: YtdhclelfnbjikaaTotals.lean).
  GIVEN WITH THE SEED: the statements are not yours to turn. If you find one false, say at which input.
  Laid BY PROGRAM, IN A SANDBOX (cutbox-rows.mjs): the forced cells as the released guide's own fill.sh prints them over the translation 7294ee35a0f2f931… (all of the seat's roots in one cut). By AI agents, Wed Nov 11 2026. No macro, syntax, notation, axiom, sorry.
-/
import Derived.Test.YtdhclelfnbjikaaChecked
import GoSem.Claim
import GoSem.ClaimJoined
import GoSem.ClaimMapViews
import Derived.JoinedTies
import Derived.KernelRfl
namespace Go.Proofs.Ytdhclelfnbjikaa
/- THE CELL 'sum', in the pinned program and in every row, IS THE sha256 OF THE DUMP (.gsa) THAT YtdhclelfnbjikaaProg.lean LOADS. Nothing in Lean hashes anything: it is a label: what it is worth is what the hold of that sum in a sandbox is worth. -/
noncomputable def Try.pinned : Pinned := { name := "ytdhclelfnbjikaa", sum := "7294ee35a0f2f9310884e37723b2c7717c3fb34c84d14a80e3f817eb25be3975", checked := Try.checked }
namespace Rows
def none {H : Type} : Left H := { results := [], args := [] }

/-- 'laws.FnExactCountsOf': WHATEVER THE INPUT: true; the input reads as it did. -/
def fnExactCountsOfSpec : ChangeSpec := { name := "fnExactCountsOf", fn := fun _ => fun
  | [d1, d2] => { results := [.lit (.bool true)], args := [d1, d2] }
  | _ => none }
def fnExactCountsOfRow : OpenClaim := { program := "ytdhclelfnbjikaa", sum := "7294ee35a0f2f9310884e37723b2c7717c3fb34c84d14a80e3f817eb25be3975", func := "loop.example/g00405/laws.FnExactCountsOf", spec := "fnExactCountsOf", unfollowed := true, recurses := true, apart := false }
def FnExactCountsOfSaid : Prop := fnExactCountsOfRow.holds Try.pinned (OpenSpec.ofChange fnExactCountsOfSpec)

/-- ITS FALSE NEIGHBOUR: 'it returns false'. Refute it at one input. -/
def fnExactCountsOfWrong : ChangeSpec := { name := "fnExactCountsOf", fn := fun _ => fun
  | [d1, d2] => { results := [.lit (.bool false)], args := [d1, d2] }
  | _ => none }
def FnExactCountsOfWrongFalsely : Prop := fnExactCountsOfRow.holds Try.pinned (OpenSpec.ofChange fnExactCountsOfWrong)

/-- 'laws.FnExactGoodGraph': WHATEVER THE INPUT: true; the input reads as it did. -/
def fnExactGoodGraphSpec : ChangeSpec := { name := "fnExactGoodGraph", fn := fun _ => fun
  | [d] => { results := [.lit (.bool true)], args := [d] }
  | _ => none }
def fnExactGoodGraphRow : OpenClaim := { program := "ytdhclelfnbjikaa", sum := "7294ee35a0f2f9310884e37723b2c7717c3fb34c84d14a80e3f817eb25be3975", func := "loop.example/g00405/laws.FnExactGoodGraph", spec := "fnExactGoodGraph", unfollowed := true, recurses := true, apart := false }
def FnExactGoodGraphSaid : Prop := fnExactGoodGraphRow.holds Try.pinned (OpenSpec.ofChange fnExactGoodGraphSpec)

/-- ITS FALSE NEIGHBOUR: 'it returns false'. Refute it at one input. -/
def fnExactGoodGraphWrong : ChangeSpec := { name := "fnExactGoodGraph", fn := fun _ => fun
  | [d] => { results := [.lit (.bool false)], args := [d] }
  | _ => none }
def FnExactGoodGraphWrongFalsely : Prop := fnExactGoodGraphRow.holds Try.pinned (OpenSpec.ofChange fnExactGoodGraphWrong)

/-- 'laws.FnExactNewGraph': WHATEVER THE INPUT: true; the input reads as it did. -/
def fnExactNewGraphSpec : ChangeSpec := { name := "fnExactNewGraph", fn := fun _ => fun
  | [d1, d2] => { results := [.lit (.bool true)], args := [d1, d2] }
  | _ => none }
def fnExactNewGraphRow : OpenClaim := { program := "ytdhclelfnbjikaa", sum := "7294ee35a0f2f9310884e37723b2c7717c3fb34c84d14a80e3f817eb25be3975", func := "loop.example/g00405/laws.FnExactNewGraph", spec := "fnExactNewGraph", unfollowed := true, recurses := true, apart := false }
def FnExactNewGraphSaid : Prop := fnExactNewGraphRow.holds Try.pinned (OpenSpec.ofChange fnExactNewGraphSpec)

/-- ITS FALSE NEIGHBOUR: 'it returns false'. Refute it at one input. -/
def fnExactNewGraphWrong : ChangeSpec := { name := "fnExactNewGraph", fn := fun _ => fun
  | [d1, d2] => { results := [.lit (.bool false)], args := [d1, d2] }
  | _ => none }
def FnExactNewGraphWrongFalsely : Prop := fnExactNewGraphRow.holds Try.pinned (OpenSpec.ofChange fnExactNewGraphWrong)

/-- 'laws.FnExactReachedIn': WHATEVER THE INPUT: true; the input reads as it did. -/
def fnExactReachedInSpec : ChangeSpec := { name := "fnExactReachedIn", fn := fun _ => fun
  | [d] => { results := [.lit (.bool true)], args := [d] }
  | _ => none }
def fnExactReachedInRow : OpenClaim := { program := "ytdhclelfnbjikaa", sum := "7294ee35a0f2f9310884e37723b2c7717c3fb34c84d14a80e3f817eb25be3975", func := "loop.example/g00405/laws.FnExactReachedIn", spec := "fnExactReachedIn", unfollowed := true, recurses := true, apart := false }
def FnExactReachedInSaid : Prop := fnExactReachedInRow.holds Try.pinned (OpenSpec.ofChange fnExactReachedInSpec)

/-- ITS FALSE NEIGHBOUR: 'it returns false'. Refute it at one input. -/
def fnExactReachedInWrong : ChangeSpec := { name := "fnExactReachedIn", fn := fun _ => fun
  | [d] => { results := [.lit (.bool false)], args := [d] }
  | _ => none }
def FnExactReachedInWrongFalsely : Prop := fnExactReachedInRow.holds Try.pinned (OpenSpec.ofChange fnExactReachedInWrong)

/-- 'laws.FnExactHoldRoot': WHATEVER THE INPUT: true; the input reads as it did. -/
def fnExactHoldRootSpec : ChangeSpec := { name := "fnExactHoldRoot", fn := fun _ => fun
  | [d1, d2] => { results := [.lit (.bool true)], args := [d1, d2] }
  | _ => none }
def fnExactHoldRootRow : OpenClaim := { program := "ytdhclelfnbjikaa", sum := "7294ee35a0f2f9310884e37723b2c7717c3fb34c84d14a80e3f817eb25be3975", func := "loop.example/g00405/laws.FnExactHoldRoot", spec := "fnExactHoldRoot", unfollowed := true, recurses := true, apart := false }
def FnExactHoldRootSaid : Prop := fnExactHoldRootRow.holds Try.pinned (OpenSpec.ofChange fnExactHoldRootSpec)

/-- ITS FALSE NEIGHBOUR: 'it returns false'. Refute it at one input. -/
def fnExactHoldRootWrong : ChangeSpec := { name := "fnExactHoldRoot", fn := fun _ => fun
  | [d1, d2] => { results := [.lit (.bool false)], args := [d1, d2] }
  | _ => none }
def FnExactHoldRootWrongFalsely : Prop := fnExactHoldRootRow.holds Try.pinned (OpenSpec.ofChange fnExactHoldRootWrong)

/-- 'laws.FnExactLinkNode': WHATEVER THE INPUT: true; the input reads as it did. -/
def fnExactLinkNodeSpec : ChangeSpec := { name := "fnExactLinkNode", fn := fun _ => fun
  | [d1, d2, d3] => { results := [.lit (.bool true)], args := [d1, d2, d3] }
  | _ => none }
def fnExactLinkNodeRow : OpenClaim := { program := "ytdhclelfnbjikaa", sum := "7294ee35a0f2f9310884e37723b2c7717c3fb34c84d14a80e3f817eb25be3975", func := "loop.example/g00405/laws.FnExactLinkNode", spec := "fnExactLinkNode", unfollowed := true, recurses := true, apart := false }
def FnExactLinkNodeSaid : Prop := fnExactLinkNodeRow.holds Try.pinned (OpenSpec.ofChange fnExactLinkNodeSpec)

/-- ITS FALSE NEIGHBOUR: 'it returns false'. Refute it at one input. -/
def fnExactLinkNodeWrong : ChangeSpec := { name := "fnExactLinkNode", fn := fun _ => fun
  | [d1, d2, d3] => { results := [.lit (.bool false)], args := [d1, d2, d3] }
  | _ => none }
def FnExactLinkNodeWrongFalsely : Prop := fnExactLinkNodeRow.holds Try.pinned (OpenSpec.ofChange fnExactLinkNodeWrong)

/-- 'laws.FnExactSweepGraph': WHATEVER THE INPUT: true; the input reads as it did. -/
def fnExactSweepGraphSpec : ChangeSpec := { name := "fnExactSweepGraph", fn := fun _ => fun
  | [d] => { results := [.lit (.bool true)], args := [d] }
  | _ => none }
def fnExactSweepGraphRow : OpenClaim := { program := "ytdhclelfnbjikaa", sum := "7294ee35a0f2f9310884e37723b2c7717c3fb34c84d14a80e3f817eb25be3975", func := "loop.example/g00405/laws.FnExactSweepGraph", spec := "fnExactSweepGraph", unfollowed := true, recurses := true, apart := false }
def FnExactSweepGraphSaid : Prop := fnExactSweepGraphRow.holds Try.pinned (OpenSpec.ofChange fnExactSweepGraphSpec)

/-- ITS FALSE NEIGHBOUR: 'it returns false'. Refute it at one input. -/
def fnExactSweepGraphWrong : ChangeSpec := { name := "fnExactSweepGraph", fn := fun _ => fun
  | [d] => { results := [.lit (.bool false)], args := [d] }
  | _ => none }
def FnExactSweepGraphWrongFalsely : Prop := fnExactSweepGraphRow.holds Try.pinned (OpenSpec.ofChange fnExactSweepGraphWrong)

/-- 'laws.FnExactDropRoot': WHATEVER THE INPUT: true; the input reads as it did. -/
def fnExactDropRootSpec : ChangeSpec := { name := "fnExactDropRoot", fn := fun _ => fun
  | [d1, d2] => { results := [.lit (.bool true)], args := [d1, d2] }
  | _ => none }
def fnExactDropRootRow : OpenClaim := { program := "ytdhclelfnbjikaa", sum := "7294ee35a0f2f9310884e37723b2c7717c3fb34c84d14a80e3f817eb25be3975", func := "loop.example/g00405/laws.FnExactDropRoot", spec := "fnExactDropRoot", unfollowed := true, recurses := true, apart := false }
def FnExactDropRootSaid : Prop := fnExactDropRootRow.holds Try.pinned (OpenSpec.ofChange fnExactDropRootSpec)

/-- ITS FALSE NEIGHBOUR: 'it returns false'. Refute it at one input. -/
def fnExactDropRootWrong : ChangeSpec := { name := "fnExactDropRoot", fn := fun _ => fun
  | [d1, d2] => { results := [.lit (.bool false)], args := [d1, d2] }
  | _ => none }
def FnExactDropRootWrongFalsely : Prop := fnExactDropRootRow.holds Try.pinned (OpenSpec.ofChange fnExactDropRootWrong)

/-- 'laws.FnExactUnlinkNode': WHATEVER THE INPUT: true; the input reads as it did. -/
def fnExactUnlinkNodeSpec : ChangeSpec := { name := "fnExactUnlinkNode", fn := fun _ => fun
  | [d1, d2, d3] => { results := [.lit (.bool true)], args := [d1, d2, d3] }
  | _ => none }
def fnExactUnlinkNodeRow : OpenClaim := { program := "ytdhclelfnbjikaa", sum := "7294ee35a0f2f9310884e37723b2c7717c3fb34c84d14a80e3f817eb25be3975", func := "loop.example/g00405/laws.FnExactUnlinkNode", spec := "fnExactUnlinkNode", unfollowed := true, recurses := true, apart := false }
def FnExactUnlinkNodeSaid : Prop := fnExactUnlinkNodeRow.holds Try.pinned (OpenSpec.ofChange fnExactUnlinkNodeSpec)

/-- ITS FALSE NEIGHBOUR: 'it returns false'. Refute it at one input. -/
def fnExactUnlinkNodeWrong : ChangeSpec := { name := "fnExactUnlinkNode", fn := fun _ => fun
  | [d1, d2, d3] => { results := [.lit (.bool false)], args := [d1, d2, d3] }
  | _ => none }
def FnExactUnlinkNodeWrongFalsely : Prop := fnExactUnlinkNodeRow.holds Try.pinned (OpenSpec.ofChange fnExactUnlinkNodeWrong)

/-- 'laws.FnCounts': WHATEVER THE INPUT: true; the input reads as it did. -/
def fnCountsSpec : ChangeSpec := { name := "fnCounts", fn := fun _ => fun
  | [d1, d2] => { results := [.lit (.bool true)], args := [d1, d2] }
  | _ => none }
def fnCountsRow : OpenClaim := { program := "ytdhclelfnbjikaa", sum := "7294ee35a0f2f9310884e37723b2c7717c3fb34c84d14a80e3f817eb25be3975", func := "loop.example/g00405/laws.FnCounts", spec := "fnCounts", unfollowed := true, recurses := true, apart := false }
def FnCountsSaid : Prop := fnCountsRow.holds Try.pinned (OpenSpec.ofChange fnCountsSpec)

/-- ITS FALSE NEIGHBOUR: 'it returns false'. Refute it at one input. -/
def fnCountsWrong : ChangeSpec := { name := "fnCounts", fn := fun _ => fun
  | [d1, d2] => { results := [.lit (.bool false)], args := [d1, d2] }
  | _ => none }
def FnCountsWrongFalsely : Prop := fnCountsRow.holds Try.pinned (OpenSpec.ofChange fnCountsWrong)

/-- 'laws.FnSweeps': WHATEVER THE INPUT: true; the input reads as it did. -/
def fnSweepsSpec : ChangeSpec := { name := "fnSweeps", fn := fun _ => fun
  | [d1, d2] => { results := [.lit (.bool true)], args := [d1, d2] }
  | _ => none }
def fnSweepsRow : OpenClaim := { program := "ytdhclelfnbjikaa", sum := "7294ee35a0f2f9310884e37723b2c7717c3fb34c84d14a80e3f817eb25be3975", func := "loop.example/g00405/laws.FnSweeps", spec := "fnSweeps", unfollowed := true, recurses := true, apart := false }
def FnSweepsSaid : Prop := fnSweepsRow.holds Try.pinned (OpenSpec.ofChange fnSweepsSpec)

/-- ITS FALSE NEIGHBOUR: 'it returns false'. Refute it at one input. -/
def fnSweepsWrong : ChangeSpec := { name := "fnSweeps", fn := fun _ => fun
  | [d1, d2] => { results := [.lit (.bool false)], args := [d1, d2] }
  | _ => none }
def FnSweepsWrongFalsely : Prop := fnSweepsRow.holds Try.pinned (OpenSpec.ofChange fnSweepsWrong)

/- THE SECOND FORM. 'bulk': how many values and letters a reading holds, each counted each time it is reached (what is shared counts as often as it is met; a slice's spare places count too). A statement '..UptoSaid' is the law's where the arguments, and the package variables that the reading takes, are together of bulk at most 1048576: NARROWER than '..Said'. Prove '..Said' where nothing that the law and all that it calls make is longer than what came in: it says more and counts as full. Else prove '..UptoSaid'. A law counts once. -/
mutual
def uptoBulk {H : Type} : DataW H → Nat
  | .lit (.string bytes) => bytes.length + 1
  | .lit _ => 1
  | .nil => 1
  | .ptr d => uptoBulk d + 1
  | .slice elems spare => uptoBulkAll elems + uptoBulkAll spare + 1
  | .agg parts => uptoBulkAll parts + 1
  | .iface _ d => uptoBulk d + 1
  | .map entries => uptoBulkEntries entries + 1
  | .held _ => 1
def uptoBulkAll {H : Type} : List (DataW H) → Nat
  | [] => 0
  | d :: r => uptoBulk d + uptoBulkAll r
def uptoBulkEntries {H : Type} : List (Lit × DataW H) → Nat
  | [] => 0
  | x :: r => uptoBulkEntry x + uptoBulkEntries r
def uptoBulkEntry {H : Type} : Lit × DataW H → Nat
  | (.string bytes, d) => bytes.length + uptoBulk d + 1
  | (_, d) => uptoBulk d + 1
 end
def uptoSmall : (H : Type) → List (DataW H) → Bool := fun _ ds => decide (uptoBulkAll ds ≤ 1048576)
def OpenSpec.upto (s : _root_.Go.ChangeSpec) : _root_.Go.OpenSpec := { _root_.Go.OpenSpec.ofChange s with cond := some uptoSmall }

/-- 'laws.FnExactCountsOf', WHERE WHAT IT READS IS OF BULK AT MOST 1048576: true; the input reads as it did. -/
def fnExactCountsOfUptoRow : OpenClaim := { program := "ytdhclelfnbjikaa", sum := "7294ee35a0f2f9310884e37723b2c7717c3fb34c84d14a80e3f817eb25be3975", func := "loop.example/g00405/laws.FnExactCountsOf", spec := "fnExactCountsOf", unfollowed := true, recurses := true, apart := false, narrowed := true }
def FnExactCountsOfUptoSaid : Prop := fnExactCountsOfUptoRow.holds Try.pinned (OpenSpec.upto fnExactCountsOfSpec)

/-- 'laws.FnExactGoodGraph', WHERE WHAT IT READS IS OF BULK AT MOST 1048576: true; the input reads as it did. -/
def fnExactGoodGraphUptoRow : OpenClaim := { program := "ytdhclelfnbjikaa", sum := "7294ee35a0f2f9310884e37723b2c7717c3fb34c84d14a80e3f817eb25be3975", func := "loop.example/g00405/laws.FnExactGoodGraph", spec := "fnExactGoodGraph", unfollowed := true, recurses := true, apart := false, narrowed := true }
def FnExactGoodGraphUptoSaid : Prop := fnExactGoodGraphUptoRow.holds Try.pinned (OpenSpec.upto fnExactGoodGraphSpec)

/-- 'laws.FnExactNewGraph', WHERE WHAT IT READS IS OF BULK AT MOST 1048576: true; the input reads as it did. -/
def fnExactNewGraphUptoRow : OpenClaim := { program := "ytdhclelfnbjikaa", sum := "7294ee35a0f2f9310884e37723b2c7717c3fb34c84d14a80e3f817eb25be3975", func := "loop.example/g00405/laws.FnExactNewGraph", spec := "fnExactNewGraph", unfollowed := true, recurses := true, apart := false, narrowed := true }
def FnExactNewGraphUptoSaid : Prop := fnExactNewGraphUptoRow.holds Try.pinned (OpenSpec.upto fnExactNewGraphSpec)

/-- 'laws.FnExactReachedIn', WHERE WHAT IT READS IS OF BULK AT MOST 1048576: true; the input reads as it did. -/
def fnExactReachedInUptoRow : OpenClaim := { program := "ytdhclelfnbjikaa", sum := "7294ee35a0f2f9310884e37723b2c7717c3fb34c84d14a80e3f817eb25be3975", func := "loop.example/g00405/laws.FnExactReachedIn", spec := "fnExactReachedIn", unfollowed := true, recurses := true, apart := false, narrowed := true }
def FnExactReachedInUptoSaid : Prop := fnExactReachedInUptoRow.holds Try.pinned (OpenSpec.upto fnExactReachedInSpec)

/-- 'laws.FnExactHoldRoot', WHERE WHAT IT READS IS OF BULK AT MOST 1048576: true; the input reads as it did. -/
def fnExactHoldRootUptoRow : OpenClaim := { program := "ytdhclelfnbjikaa", sum := "7294ee35a0f2f9310884e37723b2c7717c3fb34c84d14a80e3f817eb25be3975", func := "loop.example/g00405/laws.FnExactHoldRoot", spec := "fnExactHoldRoot", unfollowed := true, recurses := true, apart := false, narrowed := true }
def FnExactHoldRootUptoSaid : Prop := fnExactHoldRootUptoRow.holds Try.pinned (OpenSpec.upto fnExactHoldRootSpec)

/-- 'laws.FnExactLinkNode', WHERE WHAT IT READS IS OF BULK AT MOST 1048576: true; the input reads as it did. -/
def fnExactLinkNodeUptoRow : OpenClaim := { program := "ytdhclelfnbjikaa", sum := "7294ee35a0f2f9310884e37723b2c7717c3fb34c84d14a80e3f817eb25be3975", func := "loop.example/g00405/laws.FnExactLinkNode", spec := "fnExactLinkNode", unfollowed := true, recurses := true, apart := false, narrowed := true }
def FnExactLinkNodeUptoSaid : Prop := fnExactLinkNodeUptoRow.holds Try.pinned (OpenSpec.upto fnExactLinkNodeSpec)

/-- 'laws.FnExactSweepGraph', WHERE WHAT IT READS IS OF BULK AT MOST 1048576: true; the input reads as it did. -/
def fnExactSweepGraphUptoRow : OpenClaim := { program := "ytdhclelfnbjikaa", sum := "7294ee35a0f2f9310884e37723b2c7717c3fb34c84d14a80e3f817eb25be3975", func := "loop.example/g00405/laws.FnExactSweepGraph", spec := "fnExactSweepGraph", unfollowed := true, recurses := true, apart := false, narrowed := true }
def FnExactSweepGraphUptoSaid : Prop := fnExactSweepGraphUptoRow.holds Try.pinned (OpenSpec.upto fnExactSweepGraphSpec)

/-- 'laws.FnExactDropRoot', WHERE WHAT IT READS IS OF BULK AT MOST 1048576: true; the input reads as it did. -/
def fnExactDropRootUptoRow : OpenClaim := { program := "ytdhclelfnbjikaa", sum := "7294ee35a0f2f9310884e37723b2c7717c3fb34c84d14a80e3f817eb25be3975", func := "loop.example/g00405/laws.FnExactDropRoot", spec := "fnExactDropRoot", unfollowed := true, recurses := true, apart := false, narrowed := true }
def FnExactDropRootUptoSaid : Prop := fnExactDropRootUptoRow.holds Try.pinned (OpenSpec.upto fnExactDropRootSpec)

/-- 'laws.FnExactUnlinkNode', WHERE WHAT IT READS IS OF BULK AT MOST 1048576: true; the input reads as it did. -/
def fnExactUnlinkNodeUptoRow : OpenClaim := { program := "ytdhclelfnbjikaa", sum := "7294ee35a0f2f9310884e37723b2c7717c3fb34c84d14a80e3f817eb25be3975", func := "loop.example/g00405/laws.FnExactUnlinkNode", spec := "fnExactUnlinkNode", unfollowed := true, recurses := true, apart := false, narrowed := true }
def FnExactUnlinkNodeUptoSaid : Prop := fnExactUnlinkNodeUptoRow.holds Try.pinned (OpenSpec.upto fnExactUnlinkNodeSpec)

/-- 'laws.FnCounts', WHERE WHAT IT READS IS OF BULK AT MOST 1048576: true; the input reads as it did. -/
def fnCountsUptoRow : OpenClaim := { program := "ytdhclelfnbjikaa", sum := "7294ee35a0f2f9310884e37723b2c7717c3fb34c84d14a80e3f817eb25be3975", func := "loop.example/g00405/laws.FnCounts", spec := "fnCounts", unfollowed := true, recurses := true, apart := false, narrowed := true }
def FnCountsUptoSaid : Prop := fnCountsUptoRow.holds Try.pinned (OpenSpec.upto fnCountsSpec)

/-- 'laws.FnSweeps', WHERE WHAT IT READS IS OF BULK AT MOST 1048576: true; the input reads as it did. -/
def fnSweepsUptoRow : OpenClaim := { program := "ytdhclelfnbjikaa", sum := "7294ee35a0f2f9310884e37723b2c7717c3fb34c84d14a80e3f817eb25be3975", func := "loop.example/g00405/laws.FnSweeps", spec := "fnSweeps", unfollowed := true, recurses := true, apart := false, narrowed := true }
def FnSweepsUptoSaid : Prop := fnSweepsUptoRow.holds Try.pinned (OpenSpec.upto fnSweepsSpec)

end Rows
end Go.Proofs.Ytdhclelfnbjikaa
