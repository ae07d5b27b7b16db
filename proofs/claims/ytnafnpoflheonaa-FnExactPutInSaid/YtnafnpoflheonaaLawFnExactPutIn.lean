-- the row of the law laws_FnExactPutIn, out of its Pure and its walk: written by a program of this repo
import Derived.Test.YtnafnpoflheonaaRows
import Derived.Test.YtnafnpoflheonaaPFnExactPutInx9
import Derived.Test.YtnafnpoflheonaaPureFnExactPutIn
import Derived.Test.YtnafnpoflheonaaOpen
import Derived.WalkKit
import Derived.ProofKit
import Derived.OpenShut
import Derived.ShutString
import Derived.ChangeOld
import Derived.Below
import Derived.SizedLaws
import Derived.Carry
import Derived.Lib.SmallJoins
namespace Go.Proofs.Ytnafnpoflheonaa.fnExactPutIn
open Go.ChangeShapes Go.WideShapes Go.ChangeAt Go.RowKit Go.Joins
open Go.ChangeMaps (open_string shut_string)
open Go.Proofs.Ytnafnpoflheonaa.PFnExactPutIn
open Go.Proofs.YtnafnpoflheonaaW.PrintWords
set_option linter.unusedVariables false
theorem own : ownKnob Try.prog.godebug = none := by kernel_rfl
theorem laidOut : laidOutB Try.prog = true := by kernel_rfl
theorem tells_T88 : Op.Tells Try.prog 88 k88 (fun z_ : S88 => ((z_).f0.length ≤ maxLen ∧ ∀ y_ ∈ (z_).f0, (fun z_ : Int => (Lit.int .i64 z_).wf = true) y_) ∧ (True)) := by
  intro H enc w spare held fuel cs x h
  obtain ⟨hl, n, hf⟩ := Op.trod_fields Try.underlying88 h
  have hc : Try.prog.cellsOf 88 = 2 := by kernel_rfl
  rw [hc] at hl
  obtain ⟨c0, c1, rfl⟩ := Op.list2 hl
  obtain ⟨z0, e0⟩ := hf 0 _ rfl
  have o0 : Try.prog.cellsOf 23 = 1 := by kernel_rfl
  have g0 : DataW.trod enc Try.prog w 0 spare held n 23 (([c0, c1].drop 0).take (Try.prog.cellsOf 23)) = some z0 := e0
  rw [o0] at g0
  obtain ⟨y0, k0, q0⟩ := (Op.tells_slice (Q := (fun z_ : Int => (Lit.int .i64 z_).wf = true)) (Op.tells_int Try.underlying3) (by kernel_rfl) Try.underlying23) H enc w spare held n _ _ g0
  obtain ⟨z1, e1⟩ := hf 1 _ rfl
  have o1 : Try.prog.cellsOf 4 = 1 := by kernel_rfl
  have g1 : DataW.trod enc Try.prog w 0 spare held n 4 (([c0, c1].drop 1).take (Try.prog.cellsOf 4)) = some z1 := e1
  rw [o1] at g1
  obtain ⟨y1, k1, q1⟩ := (Op.tells_bool Try.underlying4) H enc w spare held n _ _ g1
  exact ⟨⟨y0, y1⟩, ⟨[c0], [c1], rfl, k0, k1⟩, ⟨q0, q1⟩⟩
set_option maxRecDepth 100000 in
set_option maxHeartbeats 1000000 in
theorem lifted (os : Os) (started : os.Started) (H : Type) (enc : TypeId × Value → H) :
    ReturnsInHanded {} Try.checked os 9 .any (Rows.fnExactPutInSpec.pre6 enc Try.prog Try.f9 Rows.fnExactPutInRow.domain false) (Rows.fnExactPutInSpec.post enc Try.prog Try.f9 false true false false) := by
  refine returnsInHanded_of_change_sized (C := Try.checked) own started (by kernel_rfl) Try.func9
    (ChangeSpec.witness6 (enc := enc) (C := Try.checked) false ⟨#[], #[.agg #[.slice none 0 0, .slice none 0 0], .int .i64 0, .int .i64 0, .int .i64 0], []⟩ 8 (by kernel_rfl) (by kernel_rfl) (by kernel_rfl) (by kernel_rfl)) ?_
  intro W base args ds gs before hval0 hW hcnd hsz0 _
  have hval : ∀ (j : Nat) t v, Try.f9.params[j]? = some t → args[j]? = some v → Value.okWide Try.prog W .any base t v := hval0
  have hW' := hW
  obtain ⟨p, q, hA0, hV, rfl, hfz, hnd⟩ := hW
  have hA : DataW.TrodAll enc Try.prog W 0 (fun _ => true) true Try.f9.params.toList args.toList ds p := hA0
  rw [Try.params9] at hA hval
  obtain ⟨v0, vs0, d0, ds0, p0, q0, hargs, rfl, rfl, h0, r0⟩ := trodAll_cons hA
  obtain ⟨v1, vs1, d1, ds1, p1, q1, rfl, rfl, rfl, h1, r1⟩ := trodAll_cons r0
  obtain ⟨v2, vs2, d2, ds2, p2, q2, rfl, rfl, rfl, h2, r2⟩ := trodAll_cons r1
  obtain ⟨v3, vs3, d3, ds3, p3, q3, rfl, rfl, rfl, h3, r3⟩ := trodAll_cons r2
  obtain ⟨rfl, rfl, rfl⟩ := trodAll_nil r3
  obtain rfl : args = #[v0, v1, v2, v3] := by cases args; simp_all
  obtain ⟨rfl, rfl⟩ := trodVars_none hV
  have k0 := h0
  have lt0 : ∀ x ∈ p0, x.block < W.heap.size := by obtain ⟨m, hm⟩ := k0; exact DataW.trod_lt m _ _ _ hm
  obtain ⟨cs0, rfl, hcz0⟩ := okWide_struct Try.underlying32 (hval 0 32 v0 rfl rfl)
  obtain ⟨fuel0, hf0⟩ := h0
  obtain ⟨hl0, n0, hF0⟩ := Op.trod_fields Try.underlying32 hf0
  have hcl0 : Try.prog.cellsOf 32 = 2 := by kernel_rfl
  rw [hcl0] at hcz0
  obtain ⟨c0_0, c0_1, rfl⟩ := Op.array2 hcz0
  obtain ⟨z0_0, e0_0⟩ := hF0 0 _ rfl
  have o0_0 : Try.prog.cellsOf 30 = 1 := by kernel_rfl
  have g0_0 : DataW.trod enc Try.prog W 0 (fun _ => true) true n0 30 (([c0_0, c0_1].drop 0).take (Try.prog.cellsOf 30)) = some z0_0 := e0_0
  rw [o0_0] at g0_0
  obtain ⟨z0_1, e0_1⟩ := hF0 1 _ rfl
  have o0_1 : Try.prog.cellsOf 23 = 1 := by kernel_rfl
  have g0_1 : DataW.trod enc Try.prog W 0 (fun _ => true) true n0 23 (([c0_0, c0_1].drop 1).take (Try.prog.cellsOf 23)) = some z0_1 := e0_1
  rw [o0_1] at g0_1
  obtain ⟨A0_0, cc0_0, l0_0, hcs0_0, hc0_0, hr0_0, q0_0_⟩ := Op.row_of (Q := (fun z_ : S88 => ((z_).f0.length ≤ maxLen ∧ ∀ y_ ∈ (z_).f0, (fun z_ : Int => (Lit.int .i64 z_).wf = true) y_) ∧ (True))) tells_T88 (by kernel_rfl) Try.underlying30 g0_0
  injection hcs0_0 with hcs0_0 _
  subst hcs0_0
  obtain ⟨A0_1, cc0_1, l0_1, hcs0_1, hc0_1, hr0_1, q0_1_⟩ := Op.row_of (Q := (fun z_ : Int => (Lit.int .i64 z_).wf = true)) (Op.tells_int Try.underlying3) (by kernel_rfl) Try.underlying23 g0_1
  injection hcs0_1 with hcs0_1 _
  subst hcs0_1
  have k1 := h1
  have lt1 : ∀ x ∈ p1, x.block < W.heap.size := by obtain ⟨m, hm⟩ := k1; exact DataW.trod_lt m _ _ _ hm
  obtain ⟨a1, rfl, _, _, q1_⟩ := open_int Try.underlying3 (hval 1 3 v1 rfl rfl) h1
  have k2 := h2
  have lt2 : ∀ x ∈ p2, x.block < W.heap.size := by obtain ⟨m, hm⟩ := k2; exact DataW.trod_lt m _ _ _ hm
  obtain ⟨a2, rfl, _, _, q2_⟩ := open_int Try.underlying3 (hval 2 3 v2 rfl rfl) h2
  have k3 := h3
  have lt3 : ∀ x ∈ p3, x.block < W.heap.size := by obtain ⟨m, hm⟩ := k3; exact DataW.trod_lt m _ _ _ hm
  obtain ⟨a3, rfl, _, _, q3_⟩ := open_int Try.underlying3 (hval 3 3 v3 rfl rfl) h3
  clear hA0 hval0 hsz0
  refine (PFnExactPutIn.laws_FnExactPutIn.walk Pure.FnExactPutIn A0_0 cc0_0 l0_0 A0_1 cc0_1 l0_1 a1 a2 a3 W hr0_0 hc0_0 hr0_1 hc0_1 q0_0_ q0_1_ q1_ q2_ q3_).mono fun e W' ⟨he, bel⟩ => ?_
  subst he
  exact ⟨_, rfl, _, _, _, [], _, [], hW', trodAll_mk1 (shut_bool Try.underlying4 _), (trodAll_cons_mk (Below.trod laidOut (by kernel_rfl) (of_decide_eq_true (by kernel_rfl)) k0 bel lt0) (trodAll_cons_mk (Below.trod laidOut (by kernel_rfl) (of_decide_eq_true (by kernel_rfl)) k1 bel lt1) (trodAll_cons_mk (Below.trod laidOut (by kernel_rfl) (of_decide_eq_true (by kernel_rfl)) k2 bel lt2) (trodAll_cons_mk (Below.trod laidOut (by kernel_rfl) (of_decide_eq_true (by kernel_rfl)) k3 bel lt3) trodAll_mk0)))), rfl, bel.frame _, fun h => by cases h⟩
theorem over : Rows.fnExactPutInRow.holds Try.pinned (OpenSpec.ofChange Rows.fnExactPutInSpec) :=
  OpenClaim.holds_of_wide 9 Try.f9 rfl rfl rfl rfl rfl rfl rfl ⟨rfl, rfl, rfl, rfl, rfl⟩ rfl rfl rfl rfl rfl (by kernel_rfl) Try.func9 (by kernel_rfl)
    (of_decide_eq_true (by kernel_rfl)) (by unfold Func.isWrapper; first | (rw [if_pos (by decide +kernel)]; kernel_rfl) | (rw [if_neg (by decide +kernel)]; exact ⟨rfl, rfl⟩))
    (fun os started H enc _ => lifted os started H enc)
theorem proved : Rows.FnExactPutInSaid := over
#print axioms proved
end Go.Proofs.Ytnafnpoflheonaa.fnExactPutIn
namespace Go.Proofs.Ytnafnpoflheonaa
/-- The row, under a short name, for the claim. -/
theorem fnExactPutIn_holds : Rows.FnExactPutInSaid := fnExactPutIn.proved
end Go.Proofs.Ytnafnpoflheonaa
