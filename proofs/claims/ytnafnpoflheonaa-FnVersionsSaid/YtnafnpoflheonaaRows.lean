/-
  No cell of these rows narrows 'for every input' (looked for: loops, veiled, ifaces, maps, wideKeys, modest, calm, conditions, laid).
  DERIVED. THE GIVEN ROWS OF THIS SEAT. 10 by the template 'for every input the law returns true; each argument reads behind the call as it read before'; 0 by the template 'total and deterministic' (their statements: YtnafnpoflheonaaTotals.lean).
  GIVEN WITH THE SEED: the statements are not yours to turn. If you find one false, say at which input.
  Laid BY PROGRAM, IN A SANDBOX (cutbox-rows.mjs): the forced cells as the released guide's own fill.sh prints them over the translation 8d26faa6df1f240c… (all of the seat's roots in one cut). By AI agents, Wed Nov 11 2026. No macro, syntax, notation, axiom, sorry.
-/
import Derived.Test.YtnafnpoflheonaaChecked
import GoSem.Claim
import GoSem.ClaimJoined
import GoSem.ClaimMapViews
import Derived.JoinedTies
import Derived.KernelRfl
namespace Go.Proofs.Ytnafnpoflheonaa
/- THE CELL 'sum', in the pinned program and in every row, IS THE sha256 OF THE DUMP (.gsa) THAT YtnafnpoflheonaaProg.lean LOADS. Nothing in Lean hashes anything: it is a label: what it is worth is what the hold of that sum in a sandbox is worth. -/
noncomputable def Try.pinned : Pinned := { name := "ytnafnpoflheonaa", sum := "8d26faa6df1f240c515d4c03275734f00f9540e9d777a5e44d67d4bf8edabeb7", checked := Try.checked }
namespace Rows
def none {H : Type} : Left H := { results := [], args := [] }

/-- 'laws.FnExactNewPool': WHATEVER THE INPUT: true; the input reads as it did. -/
def fnExactNewPoolSpec : ChangeSpec := { name := "fnExactNewPool", fn := fun _ => fun
  | [] => { results := [.lit (.bool true)], args := [] }
  | _ => none }
def fnExactNewPoolRow : OpenClaim := { program := "ytnafnpoflheonaa", sum := "8d26faa6df1f240c515d4c03275734f00f9540e9d777a5e44d67d4bf8edabeb7", func := "loop.example/g00405/laws.FnExactNewPool", spec := "fnExactNewPool", apart := false }
def FnExactNewPoolSaid : Prop := fnExactNewPoolRow.holds Try.pinned (OpenSpec.ofChange fnExactNewPoolSpec)

/-- ITS FALSE NEIGHBOUR: 'it returns false'. Refute it at one input. -/
def fnExactNewPoolWrong : ChangeSpec := { name := "fnExactNewPool", fn := fun _ => fun
  | [] => { results := [.lit (.bool false)], args := [] }
  | _ => none }
def FnExactNewPoolWrongFalsely : Prop := fnExactNewPoolRow.holds Try.pinned (OpenSpec.ofChange fnExactNewPoolWrong)

/-- 'laws.FnExactGoodPool': WHATEVER THE INPUT: true; the input reads as it did. -/
def fnExactGoodPoolSpec : ChangeSpec := { name := "fnExactGoodPool", fn := fun _ => fun
  | [d] => { results := [.lit (.bool true)], args := [d] }
  | _ => none }
def fnExactGoodPoolRow : OpenClaim := { program := "ytnafnpoflheonaa", sum := "8d26faa6df1f240c515d4c03275734f00f9540e9d777a5e44d67d4bf8edabeb7", func := "loop.example/g00405/laws.FnExactGoodPool", spec := "fnExactGoodPool", unfollowed := true, recurses := true, apart := false }
def FnExactGoodPoolSaid : Prop := fnExactGoodPoolRow.holds Try.pinned (OpenSpec.ofChange fnExactGoodPoolSpec)

/-- ITS FALSE NEIGHBOUR: 'it returns false'. Refute it at one input. -/
def fnExactGoodPoolWrong : ChangeSpec := { name := "fnExactGoodPool", fn := fun _ => fun
  | [d] => { results := [.lit (.bool false)], args := [d] }
  | _ => none }
def FnExactGoodPoolWrongFalsely : Prop := fnExactGoodPoolRow.holds Try.pinned (OpenSpec.ofChange fnExactGoodPoolWrong)

/-- 'laws.FnExactGetIn': WHATEVER THE INPUT: true; the input reads as it did. -/
def fnExactGetInSpec : ChangeSpec := { name := "fnExactGetIn", fn := fun _ => fun
  | [d1, d2, d3] => { results := [.lit (.bool true)], args := [d1, d2, d3] }
  | _ => none }
def fnExactGetInRow : OpenClaim := { program := "ytnafnpoflheonaa", sum := "8d26faa6df1f240c515d4c03275734f00f9540e9d777a5e44d67d4bf8edabeb7", func := "loop.example/g00405/laws.FnExactGetIn", spec := "fnExactGetIn", unfollowed := true, recurses := true, apart := false }
def FnExactGetInSaid : Prop := fnExactGetInRow.holds Try.pinned (OpenSpec.ofChange fnExactGetInSpec)

/-- ITS FALSE NEIGHBOUR: 'it returns false'. Refute it at one input. -/
def fnExactGetInWrong : ChangeSpec := { name := "fnExactGetIn", fn := fun _ => fun
  | [d1, d2, d3] => { results := [.lit (.bool false)], args := [d1, d2, d3] }
  | _ => none }
def FnExactGetInWrongFalsely : Prop := fnExactGetInRow.holds Try.pinned (OpenSpec.ofChange fnExactGetInWrong)

/-- 'laws.FnExactAllIn': WHATEVER THE INPUT: true; the input reads as it did. -/
def fnExactAllInSpec : ChangeSpec := { name := "fnExactAllIn", fn := fun _ => fun
  | [d1, d2] => { results := [.lit (.bool true)], args := [d1, d2] }
  | _ => none }
def fnExactAllInRow : OpenClaim := { program := "ytnafnpoflheonaa", sum := "8d26faa6df1f240c515d4c03275734f00f9540e9d777a5e44d67d4bf8edabeb7", func := "loop.example/g00405/laws.FnExactAllIn", spec := "fnExactAllIn", unfollowed := true, recurses := true, apart := false }
def FnExactAllInSaid : Prop := fnExactAllInRow.holds Try.pinned (OpenSpec.ofChange fnExactAllInSpec)

/-- ITS FALSE NEIGHBOUR: 'it returns false'. Refute it at one input. -/
def fnExactAllInWrong : ChangeSpec := { name := "fnExactAllIn", fn := fun _ => fun
  | [d1, d2] => { results := [.lit (.bool false)], args := [d1, d2] }
  | _ => none }
def FnExactAllInWrongFalsely : Prop := fnExactAllInRow.holds Try.pinned (OpenSpec.ofChange fnExactAllInWrong)

/-- 'laws.FnExactDiffIn': WHATEVER THE INPUT: true; the input reads as it did. -/
def fnExactDiffInSpec : ChangeSpec := { name := "fnExactDiffIn", fn := fun _ => fun
  | [d1, d2, d3] => { results := [.lit (.bool true)], args := [d1, d2, d3] }
  | _ => none }
def fnExactDiffInRow : OpenClaim := { program := "ytnafnpoflheonaa", sum := "8d26faa6df1f240c515d4c03275734f00f9540e9d777a5e44d67d4bf8edabeb7", func := "loop.example/g00405/laws.FnExactDiffIn", spec := "fnExactDiffIn", unfollowed := true, recurses := true, apart := false }
def FnExactDiffInSaid : Prop := fnExactDiffInRow.holds Try.pinned (OpenSpec.ofChange fnExactDiffInSpec)

/-- ITS FALSE NEIGHBOUR: 'it returns false'. Refute it at one input. -/
def fnExactDiffInWrong : ChangeSpec := { name := "fnExactDiffIn", fn := fun _ => fun
  | [d1, d2, d3] => { results := [.lit (.bool false)], args := [d1, d2, d3] }
  | _ => none }
def FnExactDiffInWrongFalsely : Prop := fnExactDiffInRow.holds Try.pinned (OpenSpec.ofChange fnExactDiffInWrong)

/-- 'laws.FnExactCloneOf': WHATEVER THE INPUT: true; the input reads as it did. -/
def fnExactCloneOfSpec : ChangeSpec := { name := "fnExactCloneOf", fn := fun _ => fun
  | [d1, d2] => { results := [.lit (.bool true)], args := [d1, d2] }
  | _ => none }
def fnExactCloneOfRow : OpenClaim := { program := "ytnafnpoflheonaa", sum := "8d26faa6df1f240c515d4c03275734f00f9540e9d777a5e44d67d4bf8edabeb7", func := "loop.example/g00405/laws.FnExactCloneOf", spec := "fnExactCloneOf", unfollowed := true, recurses := true, apart := false }
def FnExactCloneOfSaid : Prop := fnExactCloneOfRow.holds Try.pinned (OpenSpec.ofChange fnExactCloneOfSpec)

/-- ITS FALSE NEIGHBOUR: 'it returns false'. Refute it at one input. -/
def fnExactCloneOfWrong : ChangeSpec := { name := "fnExactCloneOf", fn := fun _ => fun
  | [d1, d2] => { results := [.lit (.bool false)], args := [d1, d2] }
  | _ => none }
def FnExactCloneOfWrongFalsely : Prop := fnExactCloneOfRow.holds Try.pinned (OpenSpec.ofChange fnExactCloneOfWrong)

/-- 'laws.FnExactPutIn': WHATEVER THE INPUT: true; the input reads as it did. -/
def fnExactPutInSpec : ChangeSpec := { name := "fnExactPutIn", fn := fun _ => fun
  | [d1, d2, d3, d4] => { results := [.lit (.bool true)], args := [d1, d2, d3, d4] }
  | _ => none }
def fnExactPutInRow : OpenClaim := { program := "ytnafnpoflheonaa", sum := "8d26faa6df1f240c515d4c03275734f00f9540e9d777a5e44d67d4bf8edabeb7", func := "loop.example/g00405/laws.FnExactPutIn", spec := "fnExactPutIn", unfollowed := true, recurses := true, apart := false }
def FnExactPutInSaid : Prop := fnExactPutInRow.holds Try.pinned (OpenSpec.ofChange fnExactPutInSpec)

/-- ITS FALSE NEIGHBOUR: 'it returns false'. Refute it at one input. -/
def fnExactPutInWrong : ChangeSpec := { name := "fnExactPutIn", fn := fun _ => fun
  | [d1, d2, d3, d4] => { results := [.lit (.bool false)], args := [d1, d2, d3, d4] }
  | _ => none }
def FnExactPutInWrongFalsely : Prop := fnExactPutInRow.holds Try.pinned (OpenSpec.ofChange fnExactPutInWrong)

/-- 'laws.FnVersions': WHATEVER THE INPUT: true; the input reads as it did. -/
def fnVersionsSpec : ChangeSpec := { name := "fnVersions", fn := fun _ => fun
  | [d1, d2] => { results := [.lit (.bool true)], args := [d1, d2] }
  | _ => none }
def fnVersionsRow : OpenClaim := { program := "ytnafnpoflheonaa", sum := "8d26faa6df1f240c515d4c03275734f00f9540e9d777a5e44d67d4bf8edabeb7", func := "loop.example/g00405/laws.FnVersions", spec := "fnVersions", unfollowed := true, recurses := true, apart := false }
def FnVersionsSaid : Prop := fnVersionsRow.holds Try.pinned (OpenSpec.ofChange fnVersionsSpec)

/-- ITS FALSE NEIGHBOUR: 'it returns false'. Refute it at one input. -/
def fnVersionsWrong : ChangeSpec := { name := "fnVersions", fn := fun _ => fun
  | [d1, d2] => { results := [.lit (.bool false)], args := [d1, d2] }
  | _ => none }
def FnVersionsWrongFalsely : Prop := fnVersionsRow.holds Try.pinned (OpenSpec.ofChange fnVersionsWrong)

/-- 'laws.FnExactTrimPool': WHATEVER THE INPUT: true; the input reads as it did. -/
def fnExactTrimPoolSpec : ChangeSpec := { name := "fnExactTrimPool", fn := fun _ => fun
  | [d] => { results := [.lit (.bool true)], args := [d] }
  | _ => none }
def fnExactTrimPoolRow : OpenClaim := { program := "ytnafnpoflheonaa", sum := "8d26faa6df1f240c515d4c03275734f00f9540e9d777a5e44d67d4bf8edabeb7", func := "loop.example/g00405/laws.FnExactTrimPool", spec := "fnExactTrimPool", unfollowed := true, recurses := true, apart := false }
def FnExactTrimPoolSaid : Prop := fnExactTrimPoolRow.holds Try.pinned (OpenSpec.ofChange fnExactTrimPoolSpec)

/-- ITS FALSE NEIGHBOUR: 'it returns false'. Refute it at one input. -/
def fnExactTrimPoolWrong : ChangeSpec := { name := "fnExactTrimPool", fn := fun _ => fun
  | [d] => { results := [.lit (.bool false)], args := [d] }
  | _ => none }
def FnExactTrimPoolWrongFalsely : Prop := fnExactTrimPoolRow.holds Try.pinned (OpenSpec.ofChange fnExactTrimPoolWrong)

/-- 'laws.FnPools': WHATEVER THE INPUT: true; the input reads as it did. -/
def fnPoolsSpec : ChangeSpec := { name := "fnPools", fn := fun _ => fun
  | [d1, d2] => { results := [.lit (.bool true)], args := [d1, d2] }
  | _ => none }
def fnPoolsRow : OpenClaim := { program := "ytnafnpoflheonaa", sum := "8d26faa6df1f240c515d4c03275734f00f9540e9d777a5e44d67d4bf8edabeb7", func := "loop.example/g00405/laws.FnPools", spec := "fnPools", unfollowed := true, recurses := true, apart := false }
def FnPoolsSaid : Prop := fnPoolsRow.holds Try.pinned (OpenSpec.ofChange fnPoolsSpec)

/-- ITS FALSE NEIGHBOUR: 'it returns false'. Refute it at one input. -/
def fnPoolsWrong : ChangeSpec := { name := "fnPools", fn := fun _ => fun
  | [d1, d2] => { results := [.lit (.bool false)], args := [d1, d2] }
  | _ => none }
def FnPoolsWrongFalsely : Prop := fnPoolsRow.holds Try.pinned (OpenSpec.ofChange fnPoolsWrong)

/- THE SECOND FORM. 'bulk': how many values and letters a reading holds, each counted each time it is reached (what is shared counts as often as it is met; a slice's spare places count too). A statement '..UptoSaid' is the law's where the arguments, and the package variables that the reading takes, are together of bulk at most 1048576: NARROWER than '..Said'. Prove '..Said' where nothing that the law and all that it calls make is longer than what came in: it says more and counts as full. Else prove '..UptoSaid'. A law counts once. -/
mutual
def uptoBulk {H : Type} : DataW H → Nat
  | .lit (.string bytes) => bytes.length + 1
  | .lit _ => 1
  | .nil => 1
  | .ptr d => uptoBulk d + 1
  | .slice elems spare => uptoBulkAll elems + uptoBulkAll spare + 1
  | .agg parts => uptoBulkAll parts + 1
  | .iface _ d => uptoBulk d + 1
  | .map entries => uptoBulkEntries entries + 1
  | .held _ => 1
def uptoBulkAll {H : Type} : List (DataW H) → Nat
  | [] => 0
  | d :: r => uptoBulk d + uptoBulkAll r
def uptoBulkEntries {H : Type} : List (Lit × DataW H) → Nat
  | [] => 0
  | x :: r => uptoBulkEntry x + uptoBulkEntries r
def uptoBulkEntry {H : Type} : Lit × DataW H → Nat
  | (.string bytes, d) => bytes.length + uptoBulk d + 1
  | (_, d) => uptoBulk d + 1
 end
def uptoSmall : (H : Type) → List (DataW H) → Bool := fun _ ds => decide (uptoBulkAll ds ≤ 1048576)
def OpenSpec.upto (s : _root_.Go.ChangeSpec) : _root_.Go.OpenSpec := { _root_.Go.OpenSpec.ofChange s with cond := some uptoSmall }

/-- 'laws.FnExactNewPool', WHERE WHAT IT READS IS OF BULK AT MOST 1048576: true; the input reads as it did. -/
def fnExactNewPoolUptoRow : OpenClaim := { program := "ytnafnpoflheonaa", sum := "8d26faa6df1f240c515d4c03275734f00f9540e9d777a5e44d67d4bf8edabeb7", func := "loop.example/g00405/laws.FnExactNewPool", spec := "fnExactNewPool", apart := false, narrowed := true }
def FnExactNewPoolUptoSaid : Prop := fnExactNewPoolUptoRow.holds Try.pinned (OpenSpec.upto fnExactNewPoolSpec)

/-- 'laws.FnExactGoodPool', WHERE WHAT IT READS IS OF BULK AT MOST 1048576: true; the input reads as it did. -/
def fnExactGoodPoolUptoRow : OpenClaim := { program := "ytnafnpoflheonaa", sum := "8d26faa6df1f240c515d4c03275734f00f9540e9d777a5e44d67d4bf8edabeb7", func := "loop.example/g00405/laws.FnExactGoodPool", spec := "fnExactGoodPool", unfollowed := true, recurses := true, apart := false, narrowed := true }
def FnExactGoodPoolUptoSaid : Prop := fnExactGoodPoolUptoRow.holds Try.pinned (OpenSpec.upto fnExactGoodPoolSpec)

/-- 'laws.FnExactGetIn', WHERE WHAT IT READS IS OF BULK AT MOST 1048576: true; the input reads as it did. -/
def fnExactGetInUptoRow : OpenClaim := { program := "ytnafnpoflheonaa", sum := "8d26faa6df1f240c515d4c03275734f00f9540e9d777a5e44d67d4bf8edabeb7", func := "loop.example/g00405/laws.FnExactGetIn", spec := "fnExactGetIn", unfollowed := true, recurses := true, apart := false, narrowed := true }
def FnExactGetInUptoSaid : Prop := fnExactGetInUptoRow.holds Try.pinned (OpenSpec.upto fnExactGetInSpec)

/-- 'laws.FnExactAllIn', WHERE WHAT IT READS IS OF BULK AT MOST 1048576: true; the input reads as it did. -/
def fnExactAllInUptoRow : OpenClaim := { program := "ytnafnpoflheonaa", sum := "8d26faa6df1f240c515d4c03275734f00f9540e9d777a5e44d67d4bf8edabeb7", func := "loop.example/g00405/laws.FnExactAllIn", spec := "fnExactAllIn", unfollowed := true, recurses := true, apart := false, narrowed := true }
def FnExactAllInUptoSaid : Prop := fnExactAllInUptoRow.holds Try.pinned (OpenSpec.upto fnExactAllInSpec)

/-- 'laws.FnExactDiffIn', WHERE WHAT IT READS IS OF BULK AT MOST 1048576: true; the input reads as it did. -/
def fnExactDiffInUptoRow : OpenClaim := { program := "ytnafnpoflheonaa", sum := "8d26faa6df1f240c515d4c03275734f00f9540e9d777a5e44d67d4bf8edabeb7", func := "loop.example/g00405/laws.FnExactDiffIn", spec := "fnExactDiffIn", unfollowed := true, recurses := true, apart := false, narrowed := true }
def FnExactDiffInUptoSaid : Prop := fnExactDiffInUptoRow.holds Try.pinned (OpenSpec.upto fnExactDiffInSpec)

/-- 'laws.FnExactCloneOf', WHERE WHAT IT READS IS OF BULK AT MOST 1048576: true; the input reads as it did. -/
def fnExactCloneOfUptoRow : OpenClaim := { program := "ytnafnpoflheonaa", sum := "8d26faa6df1f240c515d4c03275734f00f9540e9d777a5e44d67d4bf8edabeb7", func := "loop.example/g00405/laws.FnExactCloneOf", spec := "fnExactCloneOf", unfollowed := true, recurses := true, apart := false, narrowed := true }
def FnExactCloneOfUptoSaid : Prop := fnExactCloneOfUptoRow.holds Try.pinned (OpenSpec.upto fnExactCloneOfSpec)

/-- 'laws.FnExactPutIn', WHERE WHAT IT READS IS OF BULK AT MOST 1048576: true; the input reads as it did. -/
def fnExactPutInUptoRow : OpenClaim := { program := "ytnafnpoflheonaa", sum := "8d26faa6df1f240c515d4c03275734f00f9540e9d777a5e44d67d4bf8edabeb7", func := "loop.example/g00405/laws.FnExactPutIn", spec := "fnExactPutIn", unfollowed := true, recurses := true, apart := false, narrowed := true }
def FnExactPutInUptoSaid : Prop := fnExactPutInUptoRow.holds Try.pinned (OpenSpec.upto fnExactPutInSpec)

/-- 'laws.FnVersions', WHERE WHAT IT READS IS OF BULK AT MOST 1048576: true; the input reads as it did. -/
def fnVersionsUptoRow : OpenClaim := { program := "ytnafnpoflheonaa", sum := "8d26faa6df1f240c515d4c03275734f00f9540e9d777a5e44d67d4bf8edabeb7", func := "loop.example/g00405/laws.FnVersions", spec := "fnVersions", unfollowed := true, recurses := true, apart := false, narrowed := true }
def FnVersionsUptoSaid : Prop := fnVersionsUptoRow.holds Try.pinned (OpenSpec.upto fnVersionsSpec)

/-- 'laws.FnExactTrimPool', WHERE WHAT IT READS IS OF BULK AT MOST 1048576: true; the input reads as it did. -/
def fnExactTrimPoolUptoRow : OpenClaim := { program := "ytnafnpoflheonaa", sum := "8d26faa6df1f240c515d4c03275734f00f9540e9d777a5e44d67d4bf8edabeb7", func := "loop.example/g00405/laws.FnExactTrimPool", spec := "fnExactTrimPool", unfollowed := true, recurses := true, apart := false, narrowed := true }
def FnExactTrimPoolUptoSaid : Prop := fnExactTrimPoolUptoRow.holds Try.pinned (OpenSpec.upto fnExactTrimPoolSpec)

/-- 'laws.FnPools', WHERE WHAT IT READS IS OF BULK AT MOST 1048576: true; the input reads as it did. -/
def fnPoolsUptoRow : OpenClaim := { program := "ytnafnpoflheonaa", sum := "8d26faa6df1f240c515d4c03275734f00f9540e9d777a5e44d67d4bf8edabeb7", func := "loop.example/g00405/laws.FnPools", spec := "fnPools", unfollowed := true, recurses := true, apart := false, narrowed := true }
def FnPoolsUptoSaid : Prop := fnPoolsUptoRow.holds Try.pinned (OpenSpec.upto fnPoolsSpec)

end Rows
end Go.Proofs.Ytnafnpoflheonaa
