-- the row of the law laws_FnExactNewGraph, out of its Pure and its walk: written by a program of this repo
import Derived.Test.YtdhclelfnbjikaaRows
import Derived.Test.YtdhclelfnbjikaaPFnExactNewGraphx10
import Derived.Test.YtdhclelfnbjikaaPureFnExactNewGraph
import Derived.Test.YtdhclelfnbjikaaOpen
import Derived.WalkKit
import Derived.ProofKit
import Derived.OpenShut
import Derived.ShutString
import Derived.ChangeOld
import Derived.Below
import Derived.SizedLaws
import Derived.Carry
import Derived.Lib.SmallJoins
namespace Go.Proofs.Ytdhclelfnbjikaa.fnExactNewGraph
open Go.ChangeShapes Go.WideShapes Go.ChangeAt Go.RowKit Go.Joins
open Go.ChangeMaps (open_string shut_string)
open Go.Proofs.Ytdhclelfnbjikaa.PFnExactNewGraph
open Go.Proofs.YtdhclelfnbjikaaW.PrintWords
set_option linter.unusedVariables false
theorem own : ownKnob Try.prog.godebug = none := by kernel_rfl
theorem laidOut : laidOutB Try.prog = true := by kernel_rfl
theorem tells_T69 : Op.Tells Try.prog 69 k69 (fun z_ : S69 => ((z_).f0.length ≤ maxLen ∧ ∀ y_ ∈ (z_).f0, (fun z_ : Int => (Lit.int .i64 z_).wf = true) y_) ∧ (True)) := by
  intro H enc w spare held fuel cs x h
  obtain ⟨hl, n, hf⟩ := Op.trod_fields Try.underlying69 h
  have hc : Try.prog.cellsOf 69 = 2 := by kernel_rfl
  rw [hc] at hl
  obtain ⟨c0, c1, rfl⟩ := Op.list2 hl
  obtain ⟨z0, e0⟩ := hf 0 _ rfl
  have o0 : Try.prog.cellsOf 23 = 1 := by kernel_rfl
  have g0 : DataW.trod enc Try.prog w 0 spare held n 23 (([c0, c1].drop 0).take (Try.prog.cellsOf 23)) = some z0 := e0
  rw [o0] at g0
  obtain ⟨y0, k0, q0⟩ := (Op.tells_slice (Q := (fun z_ : Int => (Lit.int .i64 z_).wf = true)) (Op.tells_int Try.underlying3) (by kernel_rfl) Try.underlying23) H enc w spare held n _ _ g0
  obtain ⟨z1, e1⟩ := hf 1 _ rfl
  have o1 : Try.prog.cellsOf 4 = 1 := by kernel_rfl
  have g1 : DataW.trod enc Try.prog w 0 spare held n 4 (([c0, c1].drop 1).take (Try.prog.cellsOf 4)) = some z1 := e1
  rw [o1] at g1
  obtain ⟨y1, k1, q1⟩ := (Op.tells_bool Try.underlying4) H enc w spare held n _ _ g1
  exact ⟨⟨y0, y1⟩, ⟨[c0], [c1], rfl, k0, k1⟩, ⟨q0, q1⟩⟩
set_option maxRecDepth 100000 in
set_option maxHeartbeats 1000000 in
theorem lifted (os : Os) (started : os.Started) (H : Type) (enc : TypeId × Value → H) :
    ReturnsInHanded {} Try.checked os 5 .any (Rows.fnExactNewGraphSpec.pre6 enc Try.prog Try.f5 Rows.fnExactNewGraphRow.domain false) (Rows.fnExactNewGraphSpec.post enc Try.prog Try.f5 false true false false) := by
  refine returnsInHanded_of_change_sized (C := Try.checked) own started (by kernel_rfl) Try.func5
    (ChangeSpec.witness6 (enc := enc) (C := Try.checked) false ⟨#[], #[.slice none 0 0, .slice none 0 0], []⟩ 8 (by kernel_rfl) (by kernel_rfl) (by kernel_rfl) (by kernel_rfl)) ?_
  intro W base args ds gs before hval0 hW hcnd hsz0 _
  have hval : ∀ (j : Nat) t v, Try.f5.params[j]? = some t → args[j]? = some v → Value.okWide Try.prog W .any base t v := hval0
  have hW' := hW
  obtain ⟨p, q, hA0, hV, rfl, hfz, hnd⟩ := hW
  have hA : DataW.TrodAll enc Try.prog W 0 (fun _ => true) true Try.f5.params.toList args.toList ds p := hA0
  rw [Try.params5] at hA hval
  obtain ⟨v0, vs0, d0, ds0, p0, q0, hargs, rfl, rfl, h0, r0⟩ := trodAll_cons hA
  obtain ⟨v1, vs1, d1, ds1, p1, q1, rfl, rfl, rfl, h1, r1⟩ := trodAll_cons r0
  obtain ⟨rfl, rfl, rfl⟩ := trodAll_nil r1
  obtain rfl : args = #[v0, v1] := by cases args; simp_all
  obtain ⟨rfl, rfl⟩ := trodVars_none hV
  have k0 := h0
  have lt0 : ∀ x ∈ p0, x.block < W.heap.size := by obtain ⟨m, hm⟩ := k0; exact DataW.trod_lt m _ _ _ hm
  obtain ⟨A0', n0', c0', rfl⟩ := okWide_slice Try.underlying22 (hval 0 22 v0 rfl rfl)
  obtain ⟨fuel0, hf0⟩ := h0
  obtain ⟨A0, c0, l0, hcs0, hc0, hr0, q0_⟩ := Op.row_of (Q := (fun z_ : S69 => ((z_).f0.length ≤ maxLen ∧ ∀ y_ ∈ (z_).f0, (fun z_ : Int => (Lit.int .i64 z_).wf = true) y_) ∧ (True))) tells_T69 (by kernel_rfl) Try.underlying22 hf0
  simp only [Value.cells] at hcs0
  injection hcs0 with hcs0 _
  injection hcs0 with e1_ e2_ e3_
  subst e1_ e2_ e3_
  have k1 := h1
  have lt1 : ∀ x ∈ p1, x.block < W.heap.size := by obtain ⟨m, hm⟩ := k1; exact DataW.trod_lt m _ _ _ hm
  obtain ⟨A1', n1', c1', rfl⟩ := okWide_slice Try.underlying23 (hval 1 23 v1 rfl rfl)
  obtain ⟨fuel1, hf1⟩ := h1
  obtain ⟨A1, c1, l1, hcs1, hc1, hr1, q1_⟩ := Op.row_of (Q := (fun z_ : Int => (Lit.int .i64 z_).wf = true)) (Op.tells_int Try.underlying3) (by kernel_rfl) Try.underlying23 hf1
  simp only [Value.cells] at hcs1
  injection hcs1 with hcs1 _
  injection hcs1 with e1_ e2_ e3_
  subst e1_ e2_ e3_
  clear hA0 hval0 hsz0
  refine (PFnExactNewGraph.laws_FnExactNewGraph.walk Pure.FnExactNewGraph A0' c0' l0 A1' c1' l1 W hr0 hc0 hr1 hc1 q0_ q1_).mono fun e W' ⟨he, bel⟩ => ?_
  subst he
  exact ⟨_, rfl, _, _, _, [], _, [], hW', trodAll_mk1 (shut_bool Try.underlying4 _), (trodAll_cons_mk (Below.trod laidOut (by kernel_rfl) (of_decide_eq_true (by kernel_rfl)) k0 bel lt0) (trodAll_cons_mk (Below.trod laidOut (by kernel_rfl) (of_decide_eq_true (by kernel_rfl)) k1 bel lt1) trodAll_mk0)), rfl, bel.frame _, fun h => by cases h⟩
theorem over : Rows.fnExactNewGraphRow.holds Try.pinned (OpenSpec.ofChange Rows.fnExactNewGraphSpec) :=
  OpenClaim.holds_of_wide 5 Try.f5 rfl rfl rfl rfl rfl rfl rfl ⟨rfl, rfl, rfl, rfl, rfl⟩ rfl rfl rfl rfl rfl (by kernel_rfl) Try.func5 (by kernel_rfl)
    (of_decide_eq_true (by kernel_rfl)) (by unfold Func.isWrapper; first | (rw [if_pos (by decide +kernel)]; kernel_rfl) | (rw [if_neg (by decide +kernel)]; exact ⟨rfl, rfl⟩))
    (fun os started H enc _ => lifted os started H enc)
theorem proved : Rows.FnExactNewGraphSaid := over
#print axioms proved
end Go.Proofs.Ytdhclelfnbjikaa.fnExactNewGraph
namespace Go.Proofs.Ytdhclelfnbjikaa
/-- The row, under a short name, for the claim. -/
theorem fnExactNewGraph_holds : Rows.FnExactNewGraphSaid := fnExactNewGraph.proved
end Go.Proofs.Ytdhclelfnbjikaa
