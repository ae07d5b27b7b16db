-- the row of the law laws_FnExactGoodFilter, out of its Pure and its walk: written by a program of this repo
import Derived.Test.YtlmnlmcahhegkaaRows
import Derived.Test.YtlmnlmcahhegkaaPFnExactGoodFilterx1
import Derived.Test.YtlmnlmcahhegkaaPureFnExactGoodFilter
import Derived.Test.YtlmnlmcahhegkaaOpen
import Derived.WalkKit
import Derived.ProofKit
import Derived.OpenShut
import Derived.ShutString
import Derived.ChangeOld
import Derived.Below
import Derived.SizedLaws
import Derived.Carry
import Derived.Lib.SmallJoins
namespace Go.Proofs.Ytlmnlmcahhegkaa.fnExactGoodFilter
open Go.ChangeShapes Go.WideShapes Go.ChangeAt Go.RowKit Go.Joins
open Go.ChangeMaps (open_string shut_string)
open Go.Proofs.Ytlmnlmcahhegkaa.PFnExactGoodFilter
open Go.Proofs.YtlmnlmcahhegkaaW.PrintWords
set_option linter.unusedVariables false
theorem own : ownKnob Try.prog.godebug = none := by kernel_rfl
theorem laidOut : laidOutB Try.prog = true := by kernel_rfl
set_option maxRecDepth 100000 in
set_option maxHeartbeats 1000000 in
theorem lifted (os : Os) (started : os.Started) (H : Type) (enc : TypeId × Value → H) :
    ReturnsInHanded {} Try.checked os 5 .any (Rows.fnExactGoodFilterSpec.pre6 enc Try.prog Try.f5 Rows.fnExactGoodFilterRow.domain false) (Rows.fnExactGoodFilterSpec.post enc Try.prog Try.f5 false true false false) := by
  refine returnsInHanded_of_change_sized (C := Try.checked) own started (by kernel_rfl) Try.func5
    (ChangeSpec.witness6 (enc := enc) (C := Try.checked) false ⟨#[], #[.agg #[.slice none 0 0]], []⟩ 8 (by kernel_rfl) (by kernel_rfl) (by kernel_rfl) (by kernel_rfl)) ?_
  intro W base args ds gs before hval0 hW hcnd hsz0 _
  have hval : ∀ (j : Nat) t v, Try.f5.params[j]? = some t → args[j]? = some v → Value.okWide Try.prog W .any base t v := hval0
  have hW' := hW
  obtain ⟨p, q, hA0, hV, rfl, hfz, hnd⟩ := hW
  have hA : DataW.TrodAll enc Try.prog W 0 (fun _ => true) true Try.f5.params.toList args.toList ds p := hA0
  rw [Try.params5] at hA hval
  obtain ⟨v0, vs0, d0, ds0, p0, q0, hargs, rfl, rfl, h0, r0⟩ := trodAll_cons hA
  obtain ⟨rfl, rfl, rfl⟩ := trodAll_nil r0
  obtain rfl : args = #[v0] := by cases args; simp_all
  obtain ⟨rfl, rfl⟩ := trodVars_none hV
  have k0 := h0
  have lt0 : ∀ x ∈ p0, x.block < W.heap.size := by obtain ⟨m, hm⟩ := k0; exact DataW.trod_lt m _ _ _ hm
  obtain ⟨cs0, rfl, hcz0⟩ := okWide_struct Try.underlying29 (hval 0 29 v0 rfl rfl)
  obtain ⟨fuel0, hf0⟩ := h0
  obtain ⟨hl0, n0, hF0⟩ := Op.trod_fields Try.underlying29 hf0
  have hcl0 : Try.prog.cellsOf 29 = 1 := by kernel_rfl
  rw [hcl0] at hcz0
  obtain ⟨c0_0, rfl⟩ := Op.array1 hcz0
  obtain ⟨z0_0, e0_0⟩ := hF0 0 _ rfl
  have o0_0 : Try.prog.cellsOf 27 = 1 := by kernel_rfl
  have g0_0 : DataW.trod enc Try.prog W 0 (fun _ => true) true n0 27 (([c0_0].drop 0).take (Try.prog.cellsOf 27)) = some z0_0 := e0_0
  rw [o0_0] at g0_0
  obtain ⟨A0_0, cc0_0, l0_0, hcs0_0, hc0_0, hr0_0, q0_0_⟩ := Op.row_of (Q := (fun z_ : Bool => True)) (Op.tells_bool Try.underlying4) (by kernel_rfl) Try.underlying27 g0_0
  injection hcs0_0 with hcs0_0 _
  subst hcs0_0
  clear hA0 hval0 hsz0
  refine (PFnExactGoodFilter.laws_FnExactGoodFilter.walk Pure.FnExactGoodFilter A0_0 cc0_0 l0_0 W hr0_0 hc0_0 q0_0_).mono fun e W' ⟨he, bel⟩ => ?_
  subst he
  exact ⟨_, rfl, _, _, _, [], _, [], hW', trodAll_mk1 (shut_bool Try.underlying4 _), (trodAll_cons_mk (Below.trod laidOut (by kernel_rfl) (of_decide_eq_true (by kernel_rfl)) k0 bel lt0) trodAll_mk0), rfl, bel.frame _, fun h => by cases h⟩
theorem over : Rows.fnExactGoodFilterRow.holds Try.pinned (OpenSpec.ofChange Rows.fnExactGoodFilterSpec) :=
  OpenClaim.holds_of_wide 5 Try.f5 rfl rfl rfl rfl rfl rfl rfl ⟨rfl, rfl, rfl, rfl, rfl⟩ rfl rfl rfl rfl rfl (by kernel_rfl) Try.func5 (by kernel_rfl)
    (of_decide_eq_true (by kernel_rfl)) (by unfold Func.isWrapper; first | (rw [if_pos (by decide +kernel)]; kernel_rfl) | (rw [if_neg (by decide +kernel)]; exact ⟨rfl, rfl⟩))
    (fun os started H enc _ => lifted os started H enc)
theorem proved : Rows.FnExactGoodFilterSaid := over
#print axioms proved
end Go.Proofs.Ytlmnlmcahhegkaa.fnExactGoodFilter
namespace Go.Proofs.Ytlmnlmcahhegkaa
/-- The row, under a short name, for the claim. -/
theorem fnExactGoodFilter_holds : Rows.FnExactGoodFilterSaid := fnExactGoodFilter.proved
end Go.Proofs.Ytlmnlmcahhegkaa
