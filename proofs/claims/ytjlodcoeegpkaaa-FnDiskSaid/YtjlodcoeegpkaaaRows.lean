/-
  No cell of these rows narrows 'for every input' (looked for: loops, veiled, ifaces, maps, wideKeys, modest, calm, conditions, laid).
  DERIVED. THE GIVEN ROWS OF THIS SEAT. 10 by the template 'for every input the law returns true; each argument reads behind the call as it read before'; 0 by the template 'total and deterministic' (their statements: YtjlodcoeegpkaaaTotals.lean).
  GIVEN WITH THE SEED: the statements are not yours to turn. If you find one false, say at which input.
  Laid BY PROGRAM, IN A SANDBOX (cutbox-rows.mjs): the forced cells as the released guide's own fill.sh prints them over the translation 28135fb8274b2a0a… (all of the seat's roots in one cut). By AI agents, Wed Nov 11 2026. No macro, syntax, notation, axiom, sorry.
-/
import Derived.Test.YtjlodcoeegpkaaaChecked
import GoSem.Claim
import GoSem.ClaimJoined
import GoSem.ClaimMapViews
import Derived.JoinedTies
import Derived.KernelRfl
namespace Go.Proofs.Ytjlodcoeegpkaaa
/- THE CELL 'sum', in the pinned program and in every row, IS THE sha256 OF THE DUMP (.gsa) THAT YtjlodcoeegpkaaaProg.lean LOADS. Nothing in Lean hashes anything: it is a label: what it is worth is what the hold of that sum in a sandbox is worth. -/
noncomputable def Try.pinned : Pinned := { name := "ytjlodcoeegpkaaa", sum := "28135fb8274b2a0a5e32925aadfdb083171d49878e2eb15a1afbe4f478ac3d6a", checked := Try.checked }
namespace Rows
def none {H : Type} : Left H := { results := [], args := [] }

/-- 'laws.FnExactNewDisk': WHATEVER THE INPUT: true; the input reads as it did. -/
def fnExactNewDiskSpec : ChangeSpec := { name := "fnExactNewDisk", fn := fun _ => fun
  | [d] => { results := [.lit (.bool true)], args := [d] }
  | _ => none }
def fnExactNewDiskRow : OpenClaim := { program := "ytjlodcoeegpkaaa", sum := "28135fb8274b2a0a5e32925aadfdb083171d49878e2eb15a1afbe4f478ac3d6a", func := "loop.example/g00405/laws.FnExactNewDisk", spec := "fnExactNewDisk", apart := false }
def FnExactNewDiskSaid : Prop := fnExactNewDiskRow.holds Try.pinned (OpenSpec.ofChange fnExactNewDiskSpec)

/-- ITS FALSE NEIGHBOUR: 'it returns false'. Refute it at one input. -/
def fnExactNewDiskWrong : ChangeSpec := { name := "fnExactNewDisk", fn := fun _ => fun
  | [d] => { results := [.lit (.bool false)], args := [d] }
  | _ => none }
def FnExactNewDiskWrongFalsely : Prop := fnExactNewDiskRow.holds Try.pinned (OpenSpec.ofChange fnExactNewDiskWrong)

/-- 'laws.FnExactGoodDisk': WHATEVER THE INPUT: true; the input reads as it did. -/
def fnExactGoodDiskSpec : ChangeSpec := { name := "fnExactGoodDisk", fn := fun _ => fun
  | [d] => { results := [.lit (.bool true)], args := [d] }
  | _ => none }
def fnExactGoodDiskRow : OpenClaim := { program := "ytjlodcoeegpkaaa", sum := "28135fb8274b2a0a5e32925aadfdb083171d49878e2eb15a1afbe4f478ac3d6a", func := "loop.example/g00405/laws.FnExactGoodDisk", spec := "fnExactGoodDisk", apart := false }
def FnExactGoodDiskSaid : Prop := fnExactGoodDiskRow.holds Try.pinned (OpenSpec.ofChange fnExactGoodDiskSpec)

/-- ITS FALSE NEIGHBOUR: 'it returns false'. Refute it at one input. -/
def fnExactGoodDiskWrong : ChangeSpec := { name := "fnExactGoodDisk", fn := fun _ => fun
  | [d] => { results := [.lit (.bool false)], args := [d] }
  | _ => none }
def FnExactGoodDiskWrongFalsely : Prop := fnExactGoodDiskRow.holds Try.pinned (OpenSpec.ofChange fnExactGoodDiskWrong)

/-- 'laws.FnExactFitsStripe': WHATEVER THE INPUT: true; the input reads as it did. -/
def fnExactFitsStripeSpec : ChangeSpec := { name := "fnExactFitsStripe", fn := fun _ => fun
  | [d1, d2] => { results := [.lit (.bool true)], args := [d1, d2] }
  | _ => none }
def fnExactFitsStripeRow : OpenClaim := { program := "ytjlodcoeegpkaaa", sum := "28135fb8274b2a0a5e32925aadfdb083171d49878e2eb15a1afbe4f478ac3d6a", func := "loop.example/g00405/laws.FnExactFitsStripe", spec := "fnExactFitsStripe", apart := false }
def FnExactFitsStripeSaid : Prop := fnExactFitsStripeRow.holds Try.pinned (OpenSpec.ofChange fnExactFitsStripeSpec)

/-- ITS FALSE NEIGHBOUR: 'it returns false'. Refute it at one input. -/
def fnExactFitsStripeWrong : ChangeSpec := { name := "fnExactFitsStripe", fn := fun _ => fun
  | [d1, d2] => { results := [.lit (.bool false)], args := [d1, d2] }
  | _ => none }
def FnExactFitsStripeWrongFalsely : Prop := fnExactFitsStripeRow.holds Try.pinned (OpenSpec.ofChange fnExactFitsStripeWrong)

/-- 'laws.FnExactReadSector': WHATEVER THE INPUT: true; the input reads as it did. -/
def fnExactReadSectorSpec : ChangeSpec := { name := "fnExactReadSector", fn := fun _ => fun
  | [d1, d2] => { results := [.lit (.bool true)], args := [d1, d2] }
  | _ => none }
def fnExactReadSectorRow : OpenClaim := { program := "ytjlodcoeegpkaaa", sum := "28135fb8274b2a0a5e32925aadfdb083171d49878e2eb15a1afbe4f478ac3d6a", func := "loop.example/g00405/laws.FnExactReadSector", spec := "fnExactReadSector", apart := false }
def FnExactReadSectorSaid : Prop := fnExactReadSectorRow.holds Try.pinned (OpenSpec.ofChange fnExactReadSectorSpec)

/-- ITS FALSE NEIGHBOUR: 'it returns false'. Refute it at one input. -/
def fnExactReadSectorWrong : ChangeSpec := { name := "fnExactReadSector", fn := fun _ => fun
  | [d1, d2] => { results := [.lit (.bool false)], args := [d1, d2] }
  | _ => none }
def FnExactReadSectorWrongFalsely : Prop := fnExactReadSectorRow.holds Try.pinned (OpenSpec.ofChange fnExactReadSectorWrong)

/-- 'laws.FnExactHeldIn': WHATEVER THE INPUT: true; the input reads as it did. -/
def fnExactHeldInSpec : ChangeSpec := { name := "fnExactHeldIn", fn := fun _ => fun
  | [d] => { results := [.lit (.bool true)], args := [d] }
  | _ => none }
def fnExactHeldInRow : OpenClaim := { program := "ytjlodcoeegpkaaa", sum := "28135fb8274b2a0a5e32925aadfdb083171d49878e2eb15a1afbe4f478ac3d6a", func := "loop.example/g00405/laws.FnExactHeldIn", spec := "fnExactHeldIn", apart := false }
def FnExactHeldInSaid : Prop := fnExactHeldInRow.holds Try.pinned (OpenSpec.ofChange fnExactHeldInSpec)

/-- ITS FALSE NEIGHBOUR: 'it returns false'. Refute it at one input. -/
def fnExactHeldInWrong : ChangeSpec := { name := "fnExactHeldIn", fn := fun _ => fun
  | [d] => { results := [.lit (.bool false)], args := [d] }
  | _ => none }
def FnExactHeldInWrongFalsely : Prop := fnExactHeldInRow.holds Try.pinned (OpenSpec.ofChange fnExactHeldInWrong)

/-- 'laws.FnExactAfterCrash': WHATEVER THE INPUT: true; the input reads as it did. -/
def fnExactAfterCrashSpec : ChangeSpec := { name := "fnExactAfterCrash", fn := fun _ => fun
  | [d1, d2] => { results := [.lit (.bool true)], args := [d1, d2] }
  | _ => none }
def fnExactAfterCrashRow : OpenClaim := { program := "ytjlodcoeegpkaaa", sum := "28135fb8274b2a0a5e32925aadfdb083171d49878e2eb15a1afbe4f478ac3d6a", func := "loop.example/g00405/laws.FnExactAfterCrash", spec := "fnExactAfterCrash", unfollowed := true, recurses := true, apart := false }
def FnExactAfterCrashSaid : Prop := fnExactAfterCrashRow.holds Try.pinned (OpenSpec.ofChange fnExactAfterCrashSpec)

/-- ITS FALSE NEIGHBOUR: 'it returns false'. Refute it at one input. -/
def fnExactAfterCrashWrong : ChangeSpec := { name := "fnExactAfterCrash", fn := fun _ => fun
  | [d1, d2] => { results := [.lit (.bool false)], args := [d1, d2] }
  | _ => none }
def FnExactAfterCrashWrongFalsely : Prop := fnExactAfterCrashRow.holds Try.pinned (OpenSpec.ofChange fnExactAfterCrashWrong)

/-- 'laws.FnCrash': WHATEVER THE INPUT: true; the input reads as it did. -/
def fnCrashSpec : ChangeSpec := { name := "fnCrash", fn := fun _ => fun
  | [d1, d2] => { results := [.lit (.bool true)], args := [d1, d2] }
  | _ => none }
def fnCrashRow : OpenClaim := { program := "ytjlodcoeegpkaaa", sum := "28135fb8274b2a0a5e32925aadfdb083171d49878e2eb15a1afbe4f478ac3d6a", func := "loop.example/g00405/laws.FnCrash", spec := "fnCrash", unfollowed := true, recurses := true, apart := false }
def FnCrashSaid : Prop := fnCrashRow.holds Try.pinned (OpenSpec.ofChange fnCrashSpec)

/-- ITS FALSE NEIGHBOUR: 'it returns false'. Refute it at one input. -/
def fnCrashWrong : ChangeSpec := { name := "fnCrash", fn := fun _ => fun
  | [d1, d2] => { results := [.lit (.bool false)], args := [d1, d2] }
  | _ => none }
def FnCrashWrongFalsely : Prop := fnCrashRow.holds Try.pinned (OpenSpec.ofChange fnCrashWrong)

/-- 'laws.FnDisk': WHATEVER THE INPUT: true; the input reads as it did. -/
def fnDiskSpec : ChangeSpec := { name := "fnDisk", fn := fun _ => fun
  | [d1, d2] => { results := [.lit (.bool true)], args := [d1, d2] }
  | _ => none }
def fnDiskRow : OpenClaim := { program := "ytjlodcoeegpkaaa", sum := "28135fb8274b2a0a5e32925aadfdb083171d49878e2eb15a1afbe4f478ac3d6a", func := "loop.example/g00405/laws.FnDisk", spec := "fnDisk", unfollowed := true, recurses := true, apart := false }
def FnDiskSaid : Prop := fnDiskRow.holds Try.pinned (OpenSpec.ofChange fnDiskSpec)

/-- ITS FALSE NEIGHBOUR: 'it returns false'. Refute it at one input. -/
def fnDiskWrong : ChangeSpec := { name := "fnDisk", fn := fun _ => fun
  | [d1, d2] => { results := [.lit (.bool false)], args := [d1, d2] }
  | _ => none }
def FnDiskWrongFalsely : Prop := fnDiskRow.holds Try.pinned (OpenSpec.ofChange fnDiskWrong)

/-- 'laws.FnExactPlayDisk': WHATEVER THE INPUT: true; the input reads as it did. -/
def fnExactPlayDiskSpec : ChangeSpec := { name := "fnExactPlayDisk", fn := fun _ => fun
  | [d1, d2] => { results := [.lit (.bool true)], args := [d1, d2] }
  | _ => none }
def fnExactPlayDiskRow : OpenClaim := { program := "ytjlodcoeegpkaaa", sum := "28135fb8274b2a0a5e32925aadfdb083171d49878e2eb15a1afbe4f478ac3d6a", func := "loop.example/g00405/laws.FnExactPlayDisk", spec := "fnExactPlayDisk", unfollowed := true, recurses := true, apart := false }
def FnExactPlayDiskSaid : Prop := fnExactPlayDiskRow.holds Try.pinned (OpenSpec.ofChange fnExactPlayDiskSpec)

/-- ITS FALSE NEIGHBOUR: 'it returns false'. Refute it at one input. -/
def fnExactPlayDiskWrong : ChangeSpec := { name := "fnExactPlayDisk", fn := fun _ => fun
  | [d1, d2] => { results := [.lit (.bool false)], args := [d1, d2] }
  | _ => none }
def FnExactPlayDiskWrongFalsely : Prop := fnExactPlayDiskRow.holds Try.pinned (OpenSpec.ofChange fnExactPlayDiskWrong)

/-- 'laws.FnExactStepDisk': WHATEVER THE INPUT: true; the input reads as it did. -/
def fnExactStepDiskSpec : ChangeSpec := { name := "fnExactStepDisk", fn := fun _ => fun
  | [d1, d2] => { results := [.lit (.bool true)], args := [d1, d2] }
  | _ => none }
def fnExactStepDiskRow : OpenClaim := { program := "ytjlodcoeegpkaaa", sum := "28135fb8274b2a0a5e32925aadfdb083171d49878e2eb15a1afbe4f478ac3d6a", func := "loop.example/g00405/laws.FnExactStepDisk", spec := "fnExactStepDisk", unfollowed := true, recurses := true, apart := false }
def FnExactStepDiskSaid : Prop := fnExactStepDiskRow.holds Try.pinned (OpenSpec.ofChange fnExactStepDiskSpec)

/-- ITS FALSE NEIGHBOUR: 'it returns false'. Refute it at one input. -/
def fnExactStepDiskWrong : ChangeSpec := { name := "fnExactStepDisk", fn := fun _ => fun
  | [d1, d2] => { results := [.lit (.bool false)], args := [d1, d2] }
  | _ => none }
def FnExactStepDiskWrongFalsely : Prop := fnExactStepDiskRow.holds Try.pinned (OpenSpec.ofChange fnExactStepDiskWrong)

/- THE SECOND FORM. 'bulk': how many values and letters a reading holds, each counted each time it is reached (what is shared counts as often as it is met; a slice's spare places count too). A statement '..UptoSaid' is the law's where the arguments, and the package variables that the reading takes, are together of bulk at most 1048576: NARROWER than '..Said'. Prove '..Said' where nothing that the law and all that it calls make is longer than what came in: it says more and counts as full. Else prove '..UptoSaid'. A law counts once. -/
mutual
def uptoBulk {H : Type} : DataW H → Nat
  | .lit (.string bytes) => bytes.length + 1
  | .lit _ => 1
  | .nil => 1
  | .ptr d => uptoBulk d + 1
  | .slice elems spare => uptoBulkAll elems + uptoBulkAll spare + 1
  | .agg parts => uptoBulkAll parts + 1
  | .iface _ d => uptoBulk d + 1
  | .map entries => uptoBulkEntries entries + 1
  | .held _ => 1
def uptoBulkAll {H : Type} : List (DataW H) → Nat
  | [] => 0
  | d :: r => uptoBulk d + uptoBulkAll r
def uptoBulkEntries {H : Type} : List (Lit × DataW H) → Nat
  | [] => 0
  | x :: r => uptoBulkEntry x + uptoBulkEntries r
def uptoBulkEntry {H : Type} : Lit × DataW H → Nat
  | (.string bytes, d) => bytes.length + uptoBulk d + 1
  | (_, d) => uptoBulk d + 1
 end
def uptoSmall : (H : Type) → List (DataW H) → Bool := fun _ ds => decide (uptoBulkAll ds ≤ 1048576)
def OpenSpec.upto (s : _root_.Go.ChangeSpec) : _root_.Go.OpenSpec := { _root_.Go.OpenSpec.ofChange s with cond := some uptoSmall }

/-- 'laws.FnExactNewDisk', WHERE WHAT IT READS IS OF BULK AT MOST 1048576: true; the input reads as it did. -/
def fnExactNewDiskUptoRow : OpenClaim := { program := "ytjlodcoeegpkaaa", sum := "28135fb8274b2a0a5e32925aadfdb083171d49878e2eb15a1afbe4f478ac3d6a", func := "loop.example/g00405/laws.FnExactNewDisk", spec := "fnExactNewDisk", apart := false, narrowed := true }
def FnExactNewDiskUptoSaid : Prop := fnExactNewDiskUptoRow.holds Try.pinned (OpenSpec.upto fnExactNewDiskSpec)

/-- 'laws.FnExactGoodDisk', WHERE WHAT IT READS IS OF BULK AT MOST 1048576: true; the input reads as it did. -/
def fnExactGoodDiskUptoRow : OpenClaim := { program := "ytjlodcoeegpkaaa", sum := "28135fb8274b2a0a5e32925aadfdb083171d49878e2eb15a1afbe4f478ac3d6a", func := "loop.example/g00405/laws.FnExactGoodDisk", spec := "fnExactGoodDisk", apart := false, narrowed := true }
def FnExactGoodDiskUptoSaid : Prop := fnExactGoodDiskUptoRow.holds Try.pinned (OpenSpec.upto fnExactGoodDiskSpec)

/-- 'laws.FnExactFitsStripe', WHERE WHAT IT READS IS OF BULK AT MOST 1048576: true; the input reads as it did. -/
def fnExactFitsStripeUptoRow : OpenClaim := { program := "ytjlodcoeegpkaaa", sum := "28135fb8274b2a0a5e32925aadfdb083171d49878e2eb15a1afbe4f478ac3d6a", func := "loop.example/g00405/laws.FnExactFitsStripe", spec := "fnExactFitsStripe", apart := false, narrowed := true }
def FnExactFitsStripeUptoSaid : Prop := fnExactFitsStripeUptoRow.holds Try.pinned (OpenSpec.upto fnExactFitsStripeSpec)

/-- 'laws.FnExactReadSector', WHERE WHAT IT READS IS OF BULK AT MOST 1048576: true; the input reads as it did. -/
def fnExactReadSectorUptoRow : OpenClaim := { program := "ytjlodcoeegpkaaa", sum := "28135fb8274b2a0a5e32925aadfdb083171d49878e2eb15a1afbe4f478ac3d6a", func := "loop.example/g00405/laws.FnExactReadSector", spec := "fnExactReadSector", apart := false, narrowed := true }
def FnExactReadSectorUptoSaid : Prop := fnExactReadSectorUptoRow.holds Try.pinned (OpenSpec.upto fnExactReadSectorSpec)

/-- 'laws.FnExactHeldIn', WHERE WHAT IT READS IS OF BULK AT MOST 1048576: true; the input reads as it did. -/
def fnExactHeldInUptoRow : OpenClaim := { program := "ytjlodcoeegpkaaa", sum := "28135fb8274b2a0a5e32925aadfdb083171d49878e2eb15a1afbe4f478ac3d6a", func := "loop.example/g00405/laws.FnExactHeldIn", spec := "fnExactHeldIn", apart := false, narrowed := true }
def FnExactHeldInUptoSaid : Prop := fnExactHeldInUptoRow.holds Try.pinned (OpenSpec.upto fnExactHeldInSpec)

/-- 'laws.FnExactAfterCrash', WHERE WHAT IT READS IS OF BULK AT MOST 1048576: true; the input reads as it did. -/
def fnExactAfterCrashUptoRow : OpenClaim := { program := "ytjlodcoeegpkaaa", sum := "28135fb8274b2a0a5e32925aadfdb083171d49878e2eb15a1afbe4f478ac3d6a", func := "loop.example/g00405/laws.FnExactAfterCrash", spec := "fnExactAfterCrash", unfollowed := true, recurses := true, apart := false, narrowed := true }
def FnExactAfterCrashUptoSaid : Prop := fnExactAfterCrashUptoRow.holds Try.pinned (OpenSpec.upto fnExactAfterCrashSpec)

/-- 'laws.FnCrash', WHERE WHAT IT READS IS OF BULK AT MOST 1048576: true; the input reads as it did. -/
def fnCrashUptoRow : OpenClaim := { program := "ytjlodcoeegpkaaa", sum := "28135fb8274b2a0a5e32925aadfdb083171d49878e2eb15a1afbe4f478ac3d6a", func := "loop.example/g00405/laws.FnCrash", spec := "fnCrash", unfollowed := true, recurses := true, apart := false, narrowed := true }
def FnCrashUptoSaid : Prop := fnCrashUptoRow.holds Try.pinned (OpenSpec.upto fnCrashSpec)

/-- 'laws.FnDisk', WHERE WHAT IT READS IS OF BULK AT MOST 1048576: true; the input reads as it did. -/
def fnDiskUptoRow : OpenClaim := { program := "ytjlodcoeegpkaaa", sum := "28135fb8274b2a0a5e32925aadfdb083171d49878e2eb15a1afbe4f478ac3d6a", func := "loop.example/g00405/laws.FnDisk", spec := "fnDisk", unfollowed := true, recurses := true, apart := false, narrowed := true }
def FnDiskUptoSaid : Prop := fnDiskUptoRow.holds Try.pinned (OpenSpec.upto fnDiskSpec)

/-- 'laws.FnExactPlayDisk', WHERE WHAT IT READS IS OF BULK AT MOST 1048576: true; the input reads as it did. -/
def fnExactPlayDiskUptoRow : OpenClaim := { program := "ytjlodcoeegpkaaa", sum := "28135fb8274b2a0a5e32925aadfdb083171d49878e2eb15a1afbe4f478ac3d6a", func := "loop.example/g00405/laws.FnExactPlayDisk", spec := "fnExactPlayDisk", unfollowed := true, recurses := true, apart := false, narrowed := true }
def FnExactPlayDiskUptoSaid : Prop := fnExactPlayDiskUptoRow.holds Try.pinned (OpenSpec.upto fnExactPlayDiskSpec)

/-- 'laws.FnExactStepDisk', WHERE WHAT IT READS IS OF BULK AT MOST 1048576: true; the input reads as it did. -/
def fnExactStepDiskUptoRow : OpenClaim := { program := "ytjlodcoeegpkaaa", sum := "28135fb8274b2a0a5e32925aadfdb083171d49878e2eb15a1afbe4f478ac3d6a", func := "loop.example/g00405/laws.FnExactStepDisk", spec := "fnExactStepDisk", unfollowed := true, recurses := true, apart := false, narrowed := true }
def FnExactStepDiskUptoSaid : Prop := fnExactStepDiskUptoRow.holds Try.pinned (OpenSpec.upto fnExactStepDiskSpec)

end Rows
end Go.Proofs.Ytjlodcoeegpkaaa
