-- the row of the law laws_FnExactDropKey, out of its Pure and its walk: written by a program of this repo
import Derived.Test.YtnohankakmmnoaaRows
import Derived.Test.YtnohankakmmnoaaPFnExactDropKeyx11
import Derived.Test.YtnohankakmmnoaaPureFnExactDropKey
import Derived.Test.YtnohankakmmnoaaOpen
import Derived.WalkKit
import Derived.ProofKit
import Derived.OpenShut
import Derived.ShutString
import Derived.ChangeOld
import Derived.Below
import Derived.SizedLaws
import Derived.Carry
import Derived.Lib.SmallJoins
namespace Go.Proofs.Ytnohankakmmnoaa.fnExactDropKey
open Go.ChangeShapes Go.WideShapes Go.ChangeAt Go.RowKit Go.Joins
open Go.ChangeMaps (open_string shut_string)
open Go.Proofs.Ytnohankakmmnoaa.PFnExactDropKey
open Go.Proofs.YtnohankakmmnoaaW.PrintWords
set_option linter.unusedVariables false
theorem own : ownKnob Try.prog.godebug = none := by kernel_rfl
theorem laidOut : laidOutB Try.prog = true := by kernel_rfl
theorem tells_T71 : Op.Tells Try.prog 71 k71 (fun z_ : S71 => (True) ∧ ((Lit.int .i64 (z_).f1).wf = true) ∧ ((Lit.int .i64 (z_).f2).wf = true)) := by
  intro H enc w spare held fuel cs x h
  obtain ⟨hl, n, hf⟩ := Op.trod_fields Try.underlying71 h
  have hc : Try.prog.cellsOf 71 = 3 := by kernel_rfl
  rw [hc] at hl
  obtain ⟨c0, c1, c2, rfl⟩ := Op.list3 hl
  obtain ⟨z0, e0⟩ := hf 0 _ rfl
  have o0 : Try.prog.cellsOf 4 = 1 := by kernel_rfl
  have g0 : DataW.trod enc Try.prog w 0 spare held n 4 (([c0, c1, c2].drop 0).take (Try.prog.cellsOf 4)) = some z0 := e0
  rw [o0] at g0
  obtain ⟨y0, k0, q0⟩ := (Op.tells_bool Try.underlying4) H enc w spare held n _ _ g0
  obtain ⟨z1, e1⟩ := hf 1 _ rfl
  have o1 : Try.prog.cellsOf 3 = 1 := by kernel_rfl
  have g1 : DataW.trod enc Try.prog w 0 spare held n 3 (([c0, c1, c2].drop 1).take (Try.prog.cellsOf 3)) = some z1 := e1
  rw [o1] at g1
  obtain ⟨y1, k1, q1⟩ := (Op.tells_int Try.underlying3) H enc w spare held n _ _ g1
  obtain ⟨z2, e2⟩ := hf 2 _ rfl
  have o2 : Try.prog.cellsOf 3 = 1 := by kernel_rfl
  have g2 : DataW.trod enc Try.prog w 0 spare held n 3 (([c0, c1, c2].drop 2).take (Try.prog.cellsOf 3)) = some z2 := e2
  rw [o2] at g2
  obtain ⟨y2, k2, q2⟩ := (Op.tells_int Try.underlying3) H enc w spare held n _ _ g2
  exact ⟨⟨y0, y1, y2⟩, ⟨[c0], [c1, c2], rfl, k0, ⟨[c1], [c2], rfl, k1, k2⟩⟩, ⟨q0, q1, q2⟩⟩
set_option maxRecDepth 100000 in
set_option maxHeartbeats 1000000 in
theorem lifted (os : Os) (started : os.Started) (H : Type) (enc : TypeId × Value → H) :
    ReturnsInHanded {} Try.checked os 8 .any (Rows.fnExactDropKeySpec.pre6 enc Try.prog Try.f8 Rows.fnExactDropKeyRow.domain false) (Rows.fnExactDropKeySpec.post enc Try.prog Try.f8 false true false false) := by
  refine returnsInHanded_of_change_sized (C := Try.checked) own started (by kernel_rfl) Try.func8
    (ChangeSpec.witness6 (enc := enc) (C := Try.checked) false ⟨#[], #[.agg #[.int .i64 0, .slice none 0 0, .slice none 0 0, .int .i64 0], .int .i64 0], []⟩ 8 (by kernel_rfl) (by kernel_rfl) (by kernel_rfl) (by kernel_rfl)) ?_
  intro W base args ds gs before hval0 hW hcnd hsz0 _
  have hval : ∀ (j : Nat) t v, Try.f8.params[j]? = some t → args[j]? = some v → Value.okWide Try.prog W .any base t v := hval0
  have hW' := hW
  obtain ⟨p, q, hA0, hV, rfl, hfz, hnd⟩ := hW
  have hA : DataW.TrodAll enc Try.prog W 0 (fun _ => true) true Try.f8.params.toList args.toList ds p := hA0
  rw [Try.params8] at hA hval
  obtain ⟨v0, vs0, d0, ds0, p0, q0, hargs, rfl, rfl, h0, r0⟩ := trodAll_cons hA
  obtain ⟨v1, vs1, d1, ds1, p1, q1, rfl, rfl, rfl, h1, r1⟩ := trodAll_cons r0
  obtain ⟨rfl, rfl, rfl⟩ := trodAll_nil r1
  obtain rfl : args = #[v0, v1] := by cases args; simp_all
  obtain ⟨rfl, rfl⟩ := trodVars_none hV
  have k0 := h0
  have lt0 : ∀ x ∈ p0, x.block < W.heap.size := by obtain ⟨m, hm⟩ := k0; exact DataW.trod_lt m _ _ _ hm
  obtain ⟨cs0, rfl, hcz0⟩ := okWide_struct Try.underlying35 (hval 0 35 v0 rfl rfl)
  obtain ⟨fuel0, hf0⟩ := h0
  obtain ⟨hl0, n0, hF0⟩ := Op.trod_fields Try.underlying35 hf0
  have hcl0 : Try.prog.cellsOf 35 = 4 := by kernel_rfl
  rw [hcl0] at hcz0
  obtain ⟨c0_0, c0_1, c0_2, c0_3, rfl⟩ := Op.array4 hcz0
  obtain ⟨z0_0, e0_0⟩ := hF0 0 _ rfl
  have o0_0 : Try.prog.cellsOf 3 = 1 := by kernel_rfl
  have g0_0 : DataW.trod enc Try.prog W 0 (fun _ => true) true n0 3 (([c0_0, c0_1, c0_2, c0_3].drop 0).take (Try.prog.cellsOf 3)) = some z0_0 := e0_0
  rw [o0_0] at g0_0
  obtain ⟨z0_1, e0_1⟩ := hF0 1 _ rfl
  have o0_1 : Try.prog.cellsOf 33 = 1 := by kernel_rfl
  have g0_1 : DataW.trod enc Try.prog W 0 (fun _ => true) true n0 33 (([c0_0, c0_1, c0_2, c0_3].drop 1).take (Try.prog.cellsOf 33)) = some z0_1 := e0_1
  rw [o0_1] at g0_1
  obtain ⟨z0_2, e0_2⟩ := hF0 2 _ rfl
  have o0_2 : Try.prog.cellsOf 33 = 1 := by kernel_rfl
  have g0_2 : DataW.trod enc Try.prog W 0 (fun _ => true) true n0 33 (([c0_0, c0_1, c0_2, c0_3].drop 2).take (Try.prog.cellsOf 33)) = some z0_2 := e0_2
  rw [o0_2] at g0_2
  obtain ⟨z0_3, e0_3⟩ := hF0 3 _ rfl
  have o0_3 : Try.prog.cellsOf 3 = 1 := by kernel_rfl
  have g0_3 : DataW.trod enc Try.prog W 0 (fun _ => true) true n0 3 (([c0_0, c0_1, c0_2, c0_3].drop 3).take (Try.prog.cellsOf 3)) = some z0_3 := e0_3
  rw [o0_3] at g0_3
  obtain ⟨a0_0, hcs0_0, q0_0_⟩ := (Op.tells_int Try.underlying3) H enc W _ _ _ _ _ g0_0
  injection hcs0_0 with hcs0_0 _
  subst hcs0_0
  obtain ⟨A0_1, cc0_1, l0_1, hcs0_1, hc0_1, hr0_1, q0_1_⟩ := Op.row_of (Q := (fun z_ : S71 => (True) ∧ ((Lit.int .i64 (z_).f1).wf = true) ∧ ((Lit.int .i64 (z_).f2).wf = true))) tells_T71 (by kernel_rfl) Try.underlying33 g0_1
  injection hcs0_1 with hcs0_1 _
  subst hcs0_1
  obtain ⟨A0_2, cc0_2, l0_2, hcs0_2, hc0_2, hr0_2, q0_2_⟩ := Op.row_of (Q := (fun z_ : S71 => (True) ∧ ((Lit.int .i64 (z_).f1).wf = true) ∧ ((Lit.int .i64 (z_).f2).wf = true))) tells_T71 (by kernel_rfl) Try.underlying33 g0_2
  injection hcs0_2 with hcs0_2 _
  subst hcs0_2
  obtain ⟨a0_3, hcs0_3, q0_3_⟩ := (Op.tells_int Try.underlying3) H enc W _ _ _ _ _ g0_3
  injection hcs0_3 with hcs0_3 _
  subst hcs0_3
  have k1 := h1
  have lt1 : ∀ x ∈ p1, x.block < W.heap.size := by obtain ⟨m, hm⟩ := k1; exact DataW.trod_lt m _ _ _ hm
  obtain ⟨a1, rfl, _, _, q1_⟩ := open_int Try.underlying3 (hval 1 3 v1 rfl rfl) h1
  clear hA0 hval0 hsz0
  refine (PFnExactDropKey.laws_FnExactDropKey.walk Pure.FnExactDropKey a0_0 A0_1 cc0_1 l0_1 A0_2 cc0_2 l0_2 a0_3 a1 W hr0_1 hc0_1 hr0_2 hc0_2 q0_0_ q0_1_ q0_2_ q0_3_ q1_).mono fun e W' ⟨he, bel⟩ => ?_
  subst he
  exact ⟨_, rfl, _, _, _, [], _, [], hW', trodAll_mk1 (shut_bool Try.underlying4 _), (trodAll_cons_mk (Below.trod laidOut (by kernel_rfl) (of_decide_eq_true (by kernel_rfl)) k0 bel lt0) (trodAll_cons_mk (Below.trod laidOut (by kernel_rfl) (of_decide_eq_true (by kernel_rfl)) k1 bel lt1) trodAll_mk0)), rfl, bel.frame _, fun h => by cases h⟩
theorem over : Rows.fnExactDropKeyRow.holds Try.pinned (OpenSpec.ofChange Rows.fnExactDropKeySpec) :=
  OpenClaim.holds_of_wide 8 Try.f8 rfl rfl rfl rfl rfl rfl rfl ⟨rfl, rfl, rfl, rfl, rfl⟩ rfl rfl rfl rfl rfl (by kernel_rfl) Try.func8 (by kernel_rfl)
    (of_decide_eq_true (by kernel_rfl)) (by unfold Func.isWrapper; first | (rw [if_pos (by decide +kernel)]; kernel_rfl) | (rw [if_neg (by decide +kernel)]; exact ⟨rfl, rfl⟩))
    (fun os started H enc _ => lifted os started H enc)
theorem proved : Rows.FnExactDropKeySaid := over
#print axioms proved
end Go.Proofs.Ytnohankakmmnoaa.fnExactDropKey
namespace Go.Proofs.Ytnohankakmmnoaa
/-- The row, under a short name, for the claim. -/
theorem fnExactDropKey_holds : Rows.FnExactDropKeySaid := fnExactDropKey.proved
end Go.Proofs.Ytnohankakmmnoaa
