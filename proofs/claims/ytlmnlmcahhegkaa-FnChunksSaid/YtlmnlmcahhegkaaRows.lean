/-
  No cell of these rows narrows 'for every input' (looked for: loops, veiled, ifaces, maps, wideKeys, modest, calm, conditions, laid).
  DERIVED. THE GIVEN ROWS OF THIS SEAT. 12 by the template 'for every input the law returns true; each argument reads behind the call as it read before'; 0 by the template 'total and deterministic' (their statements: YtlmnlmcahhegkaaTotals.lean).
  GIVEN WITH THE SEED: the statements are not yours to turn. If you find one false, say at which input.
  Laid BY PROGRAM, IN A SANDBOX (cutbox-rows.mjs): the forced cells as the released guide's own fill.sh prints them over the translation c95570d638a933e2… (all of the seat's roots in one cut). By AI agents, Wed Nov 11 2026. No macro, syntax, notation, axiom, sorry.
-/
import Derived.Test.YtlmnlmcahhegkaaChecked
import GoSem.Claim
import GoSem.ClaimJoined
import GoSem.ClaimMapViews
import Derived.JoinedTies
import Derived.KernelRfl
namespace Go.Proofs.Ytlmnlmcahhegkaa
/- THE CELL 'sum', in the pinned program and in every row, IS THE sha256 OF THE DUMP (.gsa) THAT YtlmnlmcahhegkaaProg.lean LOADS. Nothing in Lean hashes anything: it is a label: what it is worth is what the hold of that sum in a sandbox is worth. -/
noncomputable def Try.pinned : Pinned := { name := "ytlmnlmcahhegkaa", sum := "c95570d638a933e29f3a83f28b12ab1cf59706a667917c85a6a5e9ee3fd34e00", checked := Try.checked }
namespace Rows
def none {H : Type} : Left H := { results := [], args := [] }

/-- 'laws.FnExactFingerOf': WHATEVER THE INPUT: true; the input reads as it did. -/
def fnExactFingerOfSpec : ChangeSpec := { name := "fnExactFingerOf", fn := fun _ => fun
  | [d] => { results := [.lit (.bool true)], args := [d] }
  | _ => none }
def fnExactFingerOfRow : OpenClaim := { program := "ytlmnlmcahhegkaa", sum := "c95570d638a933e29f3a83f28b12ab1cf59706a667917c85a6a5e9ee3fd34e00", func := "loop.example/g00405/laws.FnExactFingerOf", spec := "fnExactFingerOf", apart := false }
def FnExactFingerOfSaid : Prop := fnExactFingerOfRow.holds Try.pinned (OpenSpec.ofChange fnExactFingerOfSpec)

/-- ITS FALSE NEIGHBOUR: 'it returns false'. Refute it at one input. -/
def fnExactFingerOfWrong : ChangeSpec := { name := "fnExactFingerOf", fn := fun _ => fun
  | [d] => { results := [.lit (.bool false)], args := [d] }
  | _ => none }
def FnExactFingerOfWrongFalsely : Prop := fnExactFingerOfRow.holds Try.pinned (OpenSpec.ofChange fnExactFingerOfWrong)

/-- 'laws.FnExactRollOn': WHATEVER THE INPUT: true; the input reads as it did. -/
def fnExactRollOnSpec : ChangeSpec := { name := "fnExactRollOn", fn := fun _ => fun
  | [d1, d2, d3] => { results := [.lit (.bool true)], args := [d1, d2, d3] }
  | _ => none }
def fnExactRollOnRow : OpenClaim := { program := "ytlmnlmcahhegkaa", sum := "c95570d638a933e29f3a83f28b12ab1cf59706a667917c85a6a5e9ee3fd34e00", func := "loop.example/g00405/laws.FnExactRollOn", spec := "fnExactRollOn", apart := false }
def FnExactRollOnSaid : Prop := fnExactRollOnRow.holds Try.pinned (OpenSpec.ofChange fnExactRollOnSpec)

/-- ITS FALSE NEIGHBOUR: 'it returns false'. Refute it at one input. -/
def fnExactRollOnWrong : ChangeSpec := { name := "fnExactRollOn", fn := fun _ => fun
  | [d1, d2, d3] => { results := [.lit (.bool false)], args := [d1, d2, d3] }
  | _ => none }
def FnExactRollOnWrongFalsely : Prop := fnExactRollOnRow.holds Try.pinned (OpenSpec.ofChange fnExactRollOnWrong)

/-- 'laws.FnExactGoodFilter': WHATEVER THE INPUT: true; the input reads as it did. -/
def fnExactGoodFilterSpec : ChangeSpec := { name := "fnExactGoodFilter", fn := fun _ => fun
  | [d] => { results := [.lit (.bool true)], args := [d] }
  | _ => none }
def fnExactGoodFilterRow : OpenClaim := { program := "ytlmnlmcahhegkaa", sum := "c95570d638a933e29f3a83f28b12ab1cf59706a667917c85a6a5e9ee3fd34e00", func := "loop.example/g00405/laws.FnExactGoodFilter", spec := "fnExactGoodFilter", apart := false }
def FnExactGoodFilterSaid : Prop := fnExactGoodFilterRow.holds Try.pinned (OpenSpec.ofChange fnExactGoodFilterSpec)

/-- ITS FALSE NEIGHBOUR: 'it returns false'. Refute it at one input. -/
def fnExactGoodFilterWrong : ChangeSpec := { name := "fnExactGoodFilter", fn := fun _ => fun
  | [d] => { results := [.lit (.bool false)], args := [d] }
  | _ => none }
def FnExactGoodFilterWrongFalsely : Prop := fnExactGoodFilterRow.holds Try.pinned (OpenSpec.ofChange fnExactGoodFilterWrong)

/-- 'laws.FnExactNewFilter': WHATEVER THE INPUT: true; the input reads as it did. -/
def fnExactNewFilterSpec : ChangeSpec := { name := "fnExactNewFilter", fn := fun _ => fun
  | [] => { results := [.lit (.bool true)], args := [] }
  | _ => none }
def fnExactNewFilterRow : OpenClaim := { program := "ytlmnlmcahhegkaa", sum := "c95570d638a933e29f3a83f28b12ab1cf59706a667917c85a6a5e9ee3fd34e00", func := "loop.example/g00405/laws.FnExactNewFilter", spec := "fnExactNewFilter", apart := false }
def FnExactNewFilterSaid : Prop := fnExactNewFilterRow.holds Try.pinned (OpenSpec.ofChange fnExactNewFilterSpec)

/-- ITS FALSE NEIGHBOUR: 'it returns false'. Refute it at one input. -/
def fnExactNewFilterWrong : ChangeSpec := { name := "fnExactNewFilter", fn := fun _ => fun
  | [] => { results := [.lit (.bool false)], args := [] }
  | _ => none }
def FnExactNewFilterWrongFalsely : Prop := fnExactNewFilterRow.holds Try.pinned (OpenSpec.ofChange fnExactNewFilterWrong)

/-- 'laws.FnExactCutsOf': WHATEVER THE INPUT: true; the input reads as it did. -/
def fnExactCutsOfSpec : ChangeSpec := { name := "fnExactCutsOf", fn := fun _ => fun
  | [d] => { results := [.lit (.bool true)], args := [d] }
  | _ => none }
def fnExactCutsOfRow : OpenClaim := { program := "ytlmnlmcahhegkaa", sum := "c95570d638a933e29f3a83f28b12ab1cf59706a667917c85a6a5e9ee3fd34e00", func := "loop.example/g00405/laws.FnExactCutsOf", spec := "fnExactCutsOf", apart := false }
def FnExactCutsOfSaid : Prop := fnExactCutsOfRow.holds Try.pinned (OpenSpec.ofChange fnExactCutsOfSpec)

/-- ITS FALSE NEIGHBOUR: 'it returns false'. Refute it at one input. -/
def fnExactCutsOfWrong : ChangeSpec := { name := "fnExactCutsOf", fn := fun _ => fun
  | [d] => { results := [.lit (.bool false)], args := [d] }
  | _ => none }
def FnExactCutsOfWrongFalsely : Prop := fnExactCutsOfRow.holds Try.pinned (OpenSpec.ofChange fnExactCutsOfWrong)

/-- 'laws.FnExactChunksOf': WHATEVER THE INPUT: true; the input reads as it did. -/
def fnExactChunksOfSpec : ChangeSpec := { name := "fnExactChunksOf", fn := fun _ => fun
  | [d] => { results := [.lit (.bool true)], args := [d] }
  | _ => none }
def fnExactChunksOfRow : OpenClaim := { program := "ytlmnlmcahhegkaa", sum := "c95570d638a933e29f3a83f28b12ab1cf59706a667917c85a6a5e9ee3fd34e00", func := "loop.example/g00405/laws.FnExactChunksOf", spec := "fnExactChunksOf", apart := false }
def FnExactChunksOfSaid : Prop := fnExactChunksOfRow.holds Try.pinned (OpenSpec.ofChange fnExactChunksOfSpec)

/-- ITS FALSE NEIGHBOUR: 'it returns false'. Refute it at one input. -/
def fnExactChunksOfWrong : ChangeSpec := { name := "fnExactChunksOf", fn := fun _ => fun
  | [d] => { results := [.lit (.bool false)], args := [d] }
  | _ => none }
def FnExactChunksOfWrongFalsely : Prop := fnExactChunksOfRow.holds Try.pinned (OpenSpec.ofChange fnExactChunksOfWrong)

/-- 'laws.FnExactJoinChunks': WHATEVER THE INPUT: true; the input reads as it did. -/
def fnExactJoinChunksSpec : ChangeSpec := { name := "fnExactJoinChunks", fn := fun _ => fun
  | [d] => { results := [.lit (.bool true)], args := [d] }
  | _ => none }
def fnExactJoinChunksRow : OpenClaim := { program := "ytlmnlmcahhegkaa", sum := "c95570d638a933e29f3a83f28b12ab1cf59706a667917c85a6a5e9ee3fd34e00", func := "loop.example/g00405/laws.FnExactJoinChunks", spec := "fnExactJoinChunks", inPlace := ["internal/abi.NoEscape", "internal/bytealg.MakeNoZero"], apart := false }
def FnExactJoinChunksSaid : Prop := fnExactJoinChunksRow.holds Try.pinned (OpenSpec.ofChange fnExactJoinChunksSpec)

/-- ITS FALSE NEIGHBOUR: 'it returns false'. Refute it at one input. -/
def fnExactJoinChunksWrong : ChangeSpec := { name := "fnExactJoinChunks", fn := fun _ => fun
  | [d] => { results := [.lit (.bool false)], args := [d] }
  | _ => none }
def FnExactJoinChunksWrongFalsely : Prop := fnExactJoinChunksRow.holds Try.pinned (OpenSpec.ofChange fnExactJoinChunksWrong)

/-- 'laws.FnExactSavedBy': WHATEVER THE INPUT: true; the input reads as it did. -/
def fnExactSavedBySpec : ChangeSpec := { name := "fnExactSavedBy", fn := fun _ => fun
  | [d] => { results := [.lit (.bool true)], args := [d] }
  | _ => none }
def fnExactSavedByRow : OpenClaim := { program := "ytlmnlmcahhegkaa", sum := "c95570d638a933e29f3a83f28b12ab1cf59706a667917c85a6a5e9ee3fd34e00", func := "loop.example/g00405/laws.FnExactSavedBy", spec := "fnExactSavedBy", inPlace := ["internal/abi.NoEscape", "internal/bytealg.MakeNoZero"], apart := false }
def FnExactSavedBySaid : Prop := fnExactSavedByRow.holds Try.pinned (OpenSpec.ofChange fnExactSavedBySpec)

/-- ITS FALSE NEIGHBOUR: 'it returns false'. Refute it at one input. -/
def fnExactSavedByWrong : ChangeSpec := { name := "fnExactSavedBy", fn := fun _ => fun
  | [d] => { results := [.lit (.bool false)], args := [d] }
  | _ => none }
def FnExactSavedByWrongFalsely : Prop := fnExactSavedByRow.holds Try.pinned (OpenSpec.ofChange fnExactSavedByWrong)

/-- 'laws.FnExactDedupAll': WHATEVER THE INPUT: true; the input reads as it did. -/
def fnExactDedupAllSpec : ChangeSpec := { name := "fnExactDedupAll", fn := fun _ => fun
  | [d] => { results := [.lit (.bool true)], args := [d] }
  | _ => none }
def fnExactDedupAllRow : OpenClaim := { program := "ytlmnlmcahhegkaa", sum := "c95570d638a933e29f3a83f28b12ab1cf59706a667917c85a6a5e9ee3fd34e00", func := "loop.example/g00405/laws.FnExactDedupAll", spec := "fnExactDedupAll", apart := false }
def FnExactDedupAllSaid : Prop := fnExactDedupAllRow.holds Try.pinned (OpenSpec.ofChange fnExactDedupAllSpec)

/-- ITS FALSE NEIGHBOUR: 'it returns false'. Refute it at one input. -/
def fnExactDedupAllWrong : ChangeSpec := { name := "fnExactDedupAll", fn := fun _ => fun
  | [d] => { results := [.lit (.bool false)], args := [d] }
  | _ => none }
def FnExactDedupAllWrongFalsely : Prop := fnExactDedupAllRow.holds Try.pinned (OpenSpec.ofChange fnExactDedupAllWrong)

/-- 'laws.FnChunks': WHATEVER THE INPUT: true; the input reads as it did. -/
def fnChunksSpec : ChangeSpec := { name := "fnChunks", fn := fun _ => fun
  | [d1, d2] => { results := [.lit (.bool true)], args := [d1, d2] }
  | _ => none }
def fnChunksRow : OpenClaim := { program := "ytlmnlmcahhegkaa", sum := "c95570d638a933e29f3a83f28b12ab1cf59706a667917c85a6a5e9ee3fd34e00", func := "loop.example/g00405/laws.FnChunks", spec := "fnChunks", inPlace := ["internal/abi.NoEscape", "internal/bytealg.MakeNoZero"], apart := false }
def FnChunksSaid : Prop := fnChunksRow.holds Try.pinned (OpenSpec.ofChange fnChunksSpec)

/-- ITS FALSE NEIGHBOUR: 'it returns false'. Refute it at one input. -/
def fnChunksWrong : ChangeSpec := { name := "fnChunks", fn := fun _ => fun
  | [d1, d2] => { results := [.lit (.bool false)], args := [d1, d2] }
  | _ => none }
def FnChunksWrongFalsely : Prop := fnChunksRow.holds Try.pinned (OpenSpec.ofChange fnChunksWrong)

/-- 'laws.FnExactRebuildText': WHATEVER THE INPUT: true; the input reads as it did. -/
def fnExactRebuildTextSpec : ChangeSpec := { name := "fnExactRebuildText", fn := fun _ => fun
  | [d1, d2] => { results := [.lit (.bool true)], args := [d1, d2] }
  | _ => none }
def fnExactRebuildTextRow : OpenClaim := { program := "ytlmnlmcahhegkaa", sum := "c95570d638a933e29f3a83f28b12ab1cf59706a667917c85a6a5e9ee3fd34e00", func := "loop.example/g00405/laws.FnExactRebuildText", spec := "fnExactRebuildText", inPlace := ["internal/abi.NoEscape", "internal/bytealg.MakeNoZero"], unfollowed := true, recurses := true, apart := false }
def FnExactRebuildTextSaid : Prop := fnExactRebuildTextRow.holds Try.pinned (OpenSpec.ofChange fnExactRebuildTextSpec)

/-- ITS FALSE NEIGHBOUR: 'it returns false'. Refute it at one input. -/
def fnExactRebuildTextWrong : ChangeSpec := { name := "fnExactRebuildText", fn := fun _ => fun
  | [d1, d2] => { results := [.lit (.bool false)], args := [d1, d2] }
  | _ => none }
def FnExactRebuildTextWrongFalsely : Prop := fnExactRebuildTextRow.holds Try.pinned (OpenSpec.ofChange fnExactRebuildTextWrong)

/-- 'laws.FnDedup': WHATEVER THE INPUT: true; the input reads as it did. -/
def fnDedupSpec : ChangeSpec := { name := "fnDedup", fn := fun _ => fun
  | [d1, d2] => { results := [.lit (.bool true)], args := [d1, d2] }
  | _ => none }
def fnDedupRow : OpenClaim := { program := "ytlmnlmcahhegkaa", sum := "c95570d638a933e29f3a83f28b12ab1cf59706a667917c85a6a5e9ee3fd34e00", func := "loop.example/g00405/laws.FnDedup", spec := "fnDedup", inPlace := ["internal/abi.NoEscape", "internal/bytealg.MakeNoZero"], unfollowed := true, recurses := true, apart := false }
def FnDedupSaid : Prop := fnDedupRow.holds Try.pinned (OpenSpec.ofChange fnDedupSpec)

/-- ITS FALSE NEIGHBOUR: 'it returns false'. Refute it at one input. -/
def fnDedupWrong : ChangeSpec := { name := "fnDedup", fn := fun _ => fun
  | [d1, d2] => { results := [.lit (.bool false)], args := [d1, d2] }
  | _ => none }
def FnDedupWrongFalsely : Prop := fnDedupRow.holds Try.pinned (OpenSpec.ofChange fnDedupWrong)

/- THE SECOND FORM. 'bulk': how many values and letters a reading holds, each counted each time it is reached (what is shared counts as often as it is met; a slice's spare places count too). A statement '..UptoSaid' is the law's where the arguments, and the package variables that the reading takes, are together of bulk at most 1048576: NARROWER than '..Said'. Prove '..Said' where nothing that the law and all that it calls make is longer than what came in: it says more and counts as full. Else prove '..UptoSaid'. A law counts once. -/
mutual
def uptoBulk {H : Type} : DataW H → Nat
  | .lit (.string bytes) => bytes.length + 1
  | .lit _ => 1
  | .nil => 1
  | .ptr d => uptoBulk d + 1
  | .slice elems spare => uptoBulkAll elems + uptoBulkAll spare + 1
  | .agg parts => uptoBulkAll parts + 1
  | .iface _ d => uptoBulk d + 1
  | .map entries => uptoBulkEntries entries + 1
  | .held _ => 1
def uptoBulkAll {H : Type} : List (DataW H) → Nat
  | [] => 0
  | d :: r => uptoBulk d + uptoBulkAll r
def uptoBulkEntries {H : Type} : List (Lit × DataW H) → Nat
  | [] => 0
  | x :: r => uptoBulkEntry x + uptoBulkEntries r
def uptoBulkEntry {H : Type} : Lit × DataW H → Nat
  | (.string bytes, d) => bytes.length + uptoBulk d + 1
  | (_, d) => uptoBulk d + 1
 end
def uptoSmall : (H : Type) → List (DataW H) → Bool := fun _ ds => decide (uptoBulkAll ds ≤ 1048576)
def OpenSpec.upto (s : _root_.Go.ChangeSpec) : _root_.Go.OpenSpec := { _root_.Go.OpenSpec.ofChange s with cond := some uptoSmall }

/-- 'laws.FnExactFingerOf', WHERE WHAT IT READS IS OF BULK AT MOST 1048576: true; the input reads as it did. -/
def fnExactFingerOfUptoRow : OpenClaim := { program := "ytlmnlmcahhegkaa", sum := "c95570d638a933e29f3a83f28b12ab1cf59706a667917c85a6a5e9ee3fd34e00", func := "loop.example/g00405/laws.FnExactFingerOf", spec := "fnExactFingerOf", apart := false, narrowed := true }
def FnExactFingerOfUptoSaid : Prop := fnExactFingerOfUptoRow.holds Try.pinned (OpenSpec.upto fnExactFingerOfSpec)

/-- 'laws.FnExactRollOn', WHERE WHAT IT READS IS OF BULK AT MOST 1048576: true; the input reads as it did. -/
def fnExactRollOnUptoRow : OpenClaim := { program := "ytlmnlmcahhegkaa", sum := "c95570d638a933e29f3a83f28b12ab1cf59706a667917c85a6a5e9ee3fd34e00", func := "loop.example/g00405/laws.FnExactRollOn", spec := "fnExactRollOn", apart := false, narrowed := true }
def FnExactRollOnUptoSaid : Prop := fnExactRollOnUptoRow.holds Try.pinned (OpenSpec.upto fnExactRollOnSpec)

/-- 'laws.FnExactGoodFilter', WHERE WHAT IT READS IS OF BULK AT MOST 1048576: true; the input reads as it did. -/
def fnExactGoodFilterUptoRow : OpenClaim := { program := "ytlmnlmcahhegkaa", sum := "c95570d638a933e29f3a83f28b12ab1cf59706a667917c85a6a5e9ee3fd34e00", func := "loop.example/g00405/laws.FnExactGoodFilter", spec := "fnExactGoodFilter", apart := false, narrowed := true }
def FnExactGoodFilterUptoSaid : Prop := fnExactGoodFilterUptoRow.holds Try.pinned (OpenSpec.upto fnExactGoodFilterSpec)

/-- 'laws.FnExactNewFilter', WHERE WHAT IT READS IS OF BULK AT MOST 1048576: true; the input reads as it did. -/
def fnExactNewFilterUptoRow : OpenClaim := { program := "ytlmnlmcahhegkaa", sum := "c95570d638a933e29f3a83f28b12ab1cf59706a667917c85a6a5e9ee3fd34e00", func := "loop.example/g00405/laws.FnExactNewFilter", spec := "fnExactNewFilter", apart := false, narrowed := true }
def FnExactNewFilterUptoSaid : Prop := fnExactNewFilterUptoRow.holds Try.pinned (OpenSpec.upto fnExactNewFilterSpec)

/-- 'laws.FnExactCutsOf', WHERE WHAT IT READS IS OF BULK AT MOST 1048576: true; the input reads as it did. -/
def fnExactCutsOfUptoRow : OpenClaim := { program := "ytlmnlmcahhegkaa", sum := "c95570d638a933e29f3a83f28b12ab1cf59706a667917c85a6a5e9ee3fd34e00", func := "loop.example/g00405/laws.FnExactCutsOf", spec := "fnExactCutsOf", apart := false, narrowed := true }
def FnExactCutsOfUptoSaid : Prop := fnExactCutsOfUptoRow.holds Try.pinned (OpenSpec.upto fnExactCutsOfSpec)

/-- 'laws.FnExactChunksOf', WHERE WHAT IT READS IS OF BULK AT MOST 1048576: true; the input reads as it did. -/
def fnExactChunksOfUptoRow : OpenClaim := { program := "ytlmnlmcahhegkaa", sum := "c95570d638a933e29f3a83f28b12ab1cf59706a667917c85a6a5e9ee3fd34e00", func := "loop.example/g00405/laws.FnExactChunksOf", spec := "fnExactChunksOf", apart := false, narrowed := true }
def FnExactChunksOfUptoSaid : Prop := fnExactChunksOfUptoRow.holds Try.pinned (OpenSpec.upto fnExactChunksOfSpec)

/-- 'laws.FnExactJoinChunks', WHERE WHAT IT READS IS OF BULK AT MOST 1048576: true; the input reads as it did. -/
def fnExactJoinChunksUptoRow : OpenClaim := { program := "ytlmnlmcahhegkaa", sum := "c95570d638a933e29f3a83f28b12ab1cf59706a667917c85a6a5e9ee3fd34e00", func := "loop.example/g00405/laws.FnExactJoinChunks", spec := "fnExactJoinChunks", inPlace := ["internal/abi.NoEscape", "internal/bytealg.MakeNoZero"], apart := false, narrowed := true }
def FnExactJoinChunksUptoSaid : Prop := fnExactJoinChunksUptoRow.holds Try.pinned (OpenSpec.upto fnExactJoinChunksSpec)

/-- 'laws.FnExactSavedBy', WHERE WHAT IT READS IS OF BULK AT MOST 1048576: true; the input reads as it did. -/
def fnExactSavedByUptoRow : OpenClaim := { program := "ytlmnlmcahhegkaa", sum := "c95570d638a933e29f3a83f28b12ab1cf59706a667917c85a6a5e9ee3fd34e00", func := "loop.example/g00405/laws.FnExactSavedBy", spec := "fnExactSavedBy", inPlace := ["internal/abi.NoEscape", "internal/bytealg.MakeNoZero"], apart := false, narrowed := true }
def FnExactSavedByUptoSaid : Prop := fnExactSavedByUptoRow.holds Try.pinned (OpenSpec.upto fnExactSavedBySpec)

/-- 'laws.FnExactDedupAll', WHERE WHAT IT READS IS OF BULK AT MOST 1048576: true; the input reads as it did. -/
def fnExactDedupAllUptoRow : OpenClaim := { program := "ytlmnlmcahhegkaa", sum := "c95570d638a933e29f3a83f28b12ab1cf59706a667917c85a6a5e9ee3fd34e00", func := "loop.example/g00405/laws.FnExactDedupAll", spec := "fnExactDedupAll", apart := false, narrowed := true }
def FnExactDedupAllUptoSaid : Prop := fnExactDedupAllUptoRow.holds Try.pinned (OpenSpec.upto fnExactDedupAllSpec)

/-- 'laws.FnChunks', WHERE WHAT IT READS IS OF BULK AT MOST 1048576: true; the input reads as it did. -/
def fnChunksUptoRow : OpenClaim := { program := "ytlmnlmcahhegkaa", sum := "c95570d638a933e29f3a83f28b12ab1cf59706a667917c85a6a5e9ee3fd34e00", func := "loop.example/g00405/laws.FnChunks", spec := "fnChunks", inPlace := ["internal/abi.NoEscape", "internal/bytealg.MakeNoZero"], apart := false, narrowed := true }
def FnChunksUptoSaid : Prop := fnChunksUptoRow.holds Try.pinned (OpenSpec.upto fnChunksSpec)

/-- 'laws.FnExactRebuildText', WHERE WHAT IT READS IS OF BULK AT MOST 1048576: true; the input reads as it did. -/
def fnExactRebuildTextUptoRow : OpenClaim := { program := "ytlmnlmcahhegkaa", sum := "c95570d638a933e29f3a83f28b12ab1cf59706a667917c85a6a5e9ee3fd34e00", func := "loop.example/g00405/laws.FnExactRebuildText", spec := "fnExactRebuildText", inPlace := ["internal/abi.NoEscape", "internal/bytealg.MakeNoZero"], unfollowed := true, recurses := true, apart := false, narrowed := true }
def FnExactRebuildTextUptoSaid : Prop := fnExactRebuildTextUptoRow.holds Try.pinned (OpenSpec.upto fnExactRebuildTextSpec)

/-- 'laws.FnDedup', WHERE WHAT IT READS IS OF BULK AT MOST 1048576: true; the input reads as it did. -/
def fnDedupUptoRow : OpenClaim := { program := "ytlmnlmcahhegkaa", sum := "c95570d638a933e29f3a83f28b12ab1cf59706a667917c85a6a5e9ee3fd34e00", func := "loop.example/g00405/laws.FnDedup", spec := "fnDedup", inPlace := ["internal/abi.NoEscape", "internal/bytealg.MakeNoZero"], unfollowed := true, recurses := true, apart := false, narrowed := true }
def FnDedupUptoSaid : Prop := fnDedupUptoRow.holds Try.pinned (OpenSpec.upto fnDedupSpec)

end Rows
end Go.Proofs.Ytlmnlmcahhegkaa
