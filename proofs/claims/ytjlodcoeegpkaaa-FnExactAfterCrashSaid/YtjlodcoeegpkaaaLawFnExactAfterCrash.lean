-- the row of the law laws_FnExactAfterCrash, out of its Pure and its walk: written by a program of this repo
import Derived.Test.YtjlodcoeegpkaaaRows
import Derived.Test.YtjlodcoeegpkaaaPFnExactAfterCrashx8
import Derived.Test.YtjlodcoeegpkaaaPureFnExactAfterCrash
import Derived.Test.YtjlodcoeegpkaaaOpen
import Derived.WalkKit
import Derived.ProofKit
import Derived.OpenShut
import Derived.ShutString
import Derived.ChangeOld
import Derived.Below
import Derived.SizedLaws
import Derived.Carry
import Derived.Lib.SmallJoins
namespace Go.Proofs.Ytjlodcoeegpkaaa.fnExactAfterCrash
open Go.ChangeShapes Go.WideShapes Go.ChangeAt Go.RowKit Go.Joins
open Go.ChangeMaps (open_string shut_string)
open Go.Proofs.Ytjlodcoeegpkaaa.PFnExactAfterCrash
open Go.Proofs.YtjlodcoeegpkaaaW.PrintWords
set_option linter.unusedVariables false
theorem own : ownKnob Try.prog.godebug = none := by kernel_rfl
theorem laidOut : laidOutB Try.prog = true := by kernel_rfl
set_option maxRecDepth 100000 in
set_option maxHeartbeats 1000000 in
theorem lifted (os : Os) (started : os.Started) (H : Type) (enc : TypeId × Value → H) :
    ReturnsInHanded {} Try.checked os 8 .any (Rows.fnExactAfterCrashSpec.pre6 enc Try.prog Try.f8 Rows.fnExactAfterCrashRow.domain false) (Rows.fnExactAfterCrashSpec.post enc Try.prog Try.f8 false true false false) := by
  refine returnsInHanded_of_change_sized (C := Try.checked) own started (by kernel_rfl) Try.func8
    (ChangeSpec.witness6 (enc := enc) (C := Try.checked) false ⟨#[], #[.agg #[.slice none 0 0, .slice none 0 0, .slice none 0 0], .slice none 0 0], []⟩ 8 (by kernel_rfl) (by kernel_rfl) (by kernel_rfl) (by kernel_rfl)) ?_
  intro W base args ds gs before hval0 hW hcnd hsz0 _
  have hval : ∀ (j : Nat) t v, Try.f8.params[j]? = some t → args[j]? = some v → Value.okWide Try.prog W .any base t v := hval0
  have hW' := hW
  obtain ⟨p, q, hA0, hV, rfl, hfz, hnd⟩ := hW
  have hA : DataW.TrodAll enc Try.prog W 0 (fun _ => true) true Try.f8.params.toList args.toList ds p := hA0
  rw [Try.params8] at hA hval
  obtain ⟨v0, vs0, d0, ds0, p0, q0, hargs, rfl, rfl, h0, r0⟩ := trodAll_cons hA
  obtain ⟨v1, vs1, d1, ds1, p1, q1, rfl, rfl, rfl, h1, r1⟩ := trodAll_cons r0
  obtain ⟨rfl, rfl, rfl⟩ := trodAll_nil r1
  obtain rfl : args = #[v0, v1] := by cases args; simp_all
  obtain ⟨rfl, rfl⟩ := trodVars_none hV
  have k0 := h0
  have lt0 : ∀ x ∈ p0, x.block < W.heap.size := by obtain ⟨m, hm⟩ := k0; exact DataW.trod_lt m _ _ _ hm
  obtain ⟨cs0, rfl, hcz0⟩ := okWide_struct Try.underlying31 (hval 0 31 v0 rfl rfl)
  obtain ⟨fuel0, hf0⟩ := h0
  obtain ⟨hl0, n0, hF0⟩ := Op.trod_fields Try.underlying31 hf0
  have hcl0 : Try.prog.cellsOf 31 = 3 := by kernel_rfl
  rw [hcl0] at hcz0
  obtain ⟨c0_0, c0_1, c0_2, rfl⟩ := Op.array3 hcz0
  obtain ⟨z0_0, e0_0⟩ := hF0 0 _ rfl
  have o0_0 : Try.prog.cellsOf 22 = 1 := by kernel_rfl
  have g0_0 : DataW.trod enc Try.prog W 0 (fun _ => true) true n0 22 (([c0_0, c0_1, c0_2].drop 0).take (Try.prog.cellsOf 22)) = some z0_0 := e0_0
  rw [o0_0] at g0_0
  obtain ⟨z0_1, e0_1⟩ := hF0 1 _ rfl
  have o0_1 : Try.prog.cellsOf 22 = 1 := by kernel_rfl
  have g0_1 : DataW.trod enc Try.prog W 0 (fun _ => true) true n0 22 (([c0_0, c0_1, c0_2].drop 1).take (Try.prog.cellsOf 22)) = some z0_1 := e0_1
  rw [o0_1] at g0_1
  obtain ⟨z0_2, e0_2⟩ := hF0 2 _ rfl
  have o0_2 : Try.prog.cellsOf 23 = 1 := by kernel_rfl
  have g0_2 : DataW.trod enc Try.prog W 0 (fun _ => true) true n0 23 (([c0_0, c0_1, c0_2].drop 2).take (Try.prog.cellsOf 23)) = some z0_2 := e0_2
  rw [o0_2] at g0_2
  obtain ⟨A0_0, cc0_0, l0_0, hcs0_0, hc0_0, hr0_0, q0_0_⟩ := Op.row_of (Q := (fun z_ : ByteArray => z_.size ≤ maxLen)) (Op.tells_string Try.underlying9) (by kernel_rfl) Try.underlying22 g0_0
  injection hcs0_0 with hcs0_0 _
  subst hcs0_0
  obtain ⟨A0_1, cc0_1, l0_1, hcs0_1, hc0_1, hr0_1, q0_1_⟩ := Op.row_of (Q := (fun z_ : ByteArray => z_.size ≤ maxLen)) (Op.tells_string Try.underlying9) (by kernel_rfl) Try.underlying22 g0_1
  injection hcs0_1 with hcs0_1 _
  subst hcs0_1
  obtain ⟨A0_2, cc0_2, l0_2, hcs0_2, hc0_2, hr0_2, q0_2_⟩ := Op.row_of (Q := (fun z_ : Bool => True)) (Op.tells_bool Try.underlying4) (by kernel_rfl) Try.underlying23 g0_2
  injection hcs0_2 with hcs0_2 _
  subst hcs0_2
  have k1 := h1
  have lt1 : ∀ x ∈ p1, x.block < W.heap.size := by obtain ⟨m, hm⟩ := k1; exact DataW.trod_lt m _ _ _ hm
  obtain ⟨A1', n1', c1', rfl⟩ := okWide_slice Try.underlying41 (hval 1 41 v1 rfl rfl)
  obtain ⟨fuel1, hf1⟩ := h1
  obtain ⟨A1, c1, l1, hcs1, hc1, hr1, q1_⟩ := Op.row_of (Q := (fun z_ : Int => (Lit.int .i64 z_).wf = true)) (Op.tells_int Try.underlying3) (by kernel_rfl) Try.underlying41 hf1
  simp only [Value.cells] at hcs1
  injection hcs1 with hcs1 _
  injection hcs1 with e1_ e2_ e3_
  subst e1_ e2_ e3_
  clear hA0 hval0 hsz0
  refine (PFnExactAfterCrash.laws_FnExactAfterCrash.walk Pure.FnExactAfterCrash A0_0 cc0_0 l0_0 A0_1 cc0_1 l0_1 A0_2 cc0_2 l0_2 A1' c1' l1 W hr0_0 hc0_0 hr0_1 hc0_1 hr0_2 hc0_2 hr1 hc1 q0_0_ q0_1_ q0_2_ q1_).mono fun e W' ⟨he, bel⟩ => ?_
  subst he
  exact ⟨_, rfl, _, _, _, [], _, [], hW', trodAll_mk1 (shut_bool Try.underlying4 _), (trodAll_cons_mk (Below.trod laidOut (by kernel_rfl) (of_decide_eq_true (by kernel_rfl)) k0 bel lt0) (trodAll_cons_mk (Below.trod laidOut (by kernel_rfl) (of_decide_eq_true (by kernel_rfl)) k1 bel lt1) trodAll_mk0)), rfl, bel.frame _, fun h => by cases h⟩
theorem over : Rows.fnExactAfterCrashRow.holds Try.pinned (OpenSpec.ofChange Rows.fnExactAfterCrashSpec) :=
  OpenClaim.holds_of_wide 8 Try.f8 rfl rfl rfl rfl rfl rfl rfl ⟨rfl, rfl, rfl, rfl, rfl⟩ rfl rfl rfl rfl rfl (by kernel_rfl) Try.func8 (by kernel_rfl)
    (of_decide_eq_true (by kernel_rfl)) (by unfold Func.isWrapper; first | (rw [if_pos (by decide +kernel)]; kernel_rfl) | (rw [if_neg (by decide +kernel)]; exact ⟨rfl, rfl⟩))
    (fun os started H enc _ => lifted os started H enc)
theorem proved : Rows.FnExactAfterCrashSaid := over
#print axioms proved
end Go.Proofs.Ytjlodcoeegpkaaa.fnExactAfterCrash
namespace Go.Proofs.Ytjlodcoeegpkaaa
/-- The row, under a short name, for the claim. -/
theorem fnExactAfterCrash_holds : Rows.FnExactAfterCrashSaid := fnExactAfterCrash.proved
end Go.Proofs.Ytjlodcoeegpkaaa
