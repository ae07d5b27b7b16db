/- Functions of the program, each with what it returns and leaves. No condition. -/
import Derived.Test.YtdhclelfnbjikaaFn1
import Derived.Test.YtdhclelfnbjikaaShelf
import Derived.WalkKit
import Derived.Deep.LoopGhost
import Derived.Deep.RegionLaw
import Derived.Lib.Walk
import Derived.Lib.SliceRun
import Derived.Test.YtdhclelfnbjikaaTree8
set_option linter.all false
set_option linter.unusedVariables false
set_option linter.unusedSimpArgs false
set_option linter.unusedSectionVars false
set_option linter.unnecessarySimpa false
set_option linter.deprecated false
/- Functions of the program as contracts: what is asked of a graph by the program. No condition. -/
set_option maxRecDepth 100000
set_option maxHeartbeats 8000000
set_option linter.unusedSimpArgs false
set_option linter.unusedVariables false
namespace Go.Proofs.YtdhclelfnbjikaaT
open Go Go.RowKit
theorem ndR_ro {l : List Nd} : (ndR l).map toRo = ndR l := by
  unfold ndR
  rw [rows2_ro]
  congr 1
  · funext x; simp
  · funext x; simp
noncomputable instance (n : List Nd) (i y : Int) : Decidable (HoldOk n i y) := Classical.propDecidable _
def g83_0 : List Gop := [⟨none, (some 4), (.mov (.k (.one (.bool .false))))⟩]
def g83_1 : List Gop := [⟨none, (some 5), (.mov (.t 0))⟩, ⟨none, (some 6), (.load none (.t 1))⟩, ⟨none, (some 7), (.bin .sub (.t 6) (.k (.one (.int .i64 1))))⟩, ⟨none, (some 8), (.call 75 [(.t 5), (.k (.one (.int .i64 0))), (.t 7)])⟩, ⟨none, (some 9), (.un .not (.t 8))⟩, ⟨none, (some 10), (.mov (.t 9))⟩, ⟨(some (10, .false)), (some 11), (.load none (.t 2))⟩, ⟨(some (10, .false)), (some 12), (.mov (.t 0))⟩, ⟨(some (10, .false)), (some 13), (.iaddr 2 (.t 11) (.t 12))⟩, ⟨(some (10, .false)), (some 14), (.faddr (.t 13) 1)⟩, ⟨(some (10, .false)), (some 15), (.load none (.t 14))⟩, ⟨none, (some 16), (.pick (.t 10) (.k (.one (.bool .true))) (.t 15))⟩, ⟨none, (some 4), (.mov (.t 16))⟩]
def i83 : Ir := (.seq (.region g83_0) (.seq (.region g83_1) .ret))
theorem unhold_ok (n : List Nd) (i : Nat) (x : Int) (hn : n.length ≤ 14) (hi : i < n.length) : Meets Try.prog 83 [.one (.int .i64 x), .one (.bx false [.int .i64 i]), .one (.bx false [.sl false 2 n.length (ndR n)])] (.w (.one (.bool (decide (¬ HoldOk n i x))))) [.one .hole, .one .hole, .one .hole] := by
  refine meets_go (ir := i83) (fn := Try.f83) (rx := [(.tmp 4)]) rfl rfl (by rfl) (by rfl) (by exact Nat.le_of_ble_eq_true rfl) ?_
  simp (maxSteps := 9000000) -implicitDefEqProofs -dsimp (disch := omega) only [go_sem, g83_0, g83_1, i83, Nat.reduceEqDiff, Nat.reduceAdd, Nat.reduceMul, Nat.reduceLeDiff, Nat.reduceBEq, Nat.reduceBNe, Int.reduceEq, ↓reduceIte, reduceCtorEq]
  refine call_go true (within_ok x 0 ((i : Int) - 1)) ?_
  by_cases h : 0 ≤ x ∧ x ≤ (i : Int) - 1
  · have a3 : x.toNat < n.length := by omega
    have a4 : (x.toNat : Int) = x := Int.toNat_of_nonneg (by omega)
    simp (maxSteps := 9000000) -implicitDefEqProofs -dsimp (disch := omega) only [go_sem, h, ndR_1 a3, Nat.reduceEqDiff, Nat.reduceAdd, Nat.reduceMul, Nat.reduceLeDiff, Nat.reduceBEq, Nat.reduceBNe, Int.reduceEq, ↓reduceIte, reduceCtorEq]
    cases hg : (n.getD x.toNat default).g with
    | true => exact need_i (res_T fun q => by rw [q.2.2] at hg; simp at hg) (by simp (maxSteps := 9000000) -implicitDefEqProofs -dsimp (disch := omega) only [go_sem, Nat.reduceEqDiff, Nat.reduceAdd, Nat.reduceMul, Nat.reduceLeDiff, Nat.reduceBEq, Nat.reduceBNe, Int.reduceEq, ↓reduceIte, reduceCtorEq])
    | false => exact need_i (res_F fun q => q ⟨by omega, by omega, hg⟩) (by simp (maxSteps := 9000000) -implicitDefEqProofs -dsimp (disch := omega) only [go_sem, Nat.reduceEqDiff, Nat.reduceAdd, Nat.reduceMul, Nat.reduceLeDiff, Nat.reduceBEq, Nat.reduceBNe, Int.reduceEq, ↓reduceIte, reduceCtorEq])
  · simp (maxSteps := 9000000) -implicitDefEqProofs -dsimp (disch := omega) only [go_sem, h, Nat.reduceEqDiff, Nat.reduceAdd, Nat.reduceMul, Nat.reduceLeDiff, Nat.reduceBEq, Nat.reduceBNe, Int.reduceEq, ↓reduceIte, reduceCtorEq]
    exact need_i (res_T fun q => h ⟨q.1, by have := q.2.1; omega⟩) (by simp (maxSteps := 9000000) -implicitDefEqProofs -dsimp (disch := omega) only [go_sem, Nat.reduceEqDiff, Nat.reduceAdd, Nat.reduceMul, Nat.reduceLeDiff, Nat.reduceBEq, Nat.reduceBNe, Int.reduceEq, ↓reduceIte, reduceCtorEq])
def g84_0 : List Gop := [⟨none, (some 3), (.mov (.k (.one (.bool .false))))⟩]
def g84_1 : List Gop := [⟨none, (some 4), (.mov (.t 0))⟩, ⟨none, (some 5), (.load none (.t 1))⟩, ⟨none, (some 6), (.len (.t 5))⟩, ⟨none, (some 7), (.bin .sub (.t 6) (.k (.one (.int .i64 1))))⟩, ⟨none, (some 8), (.call 75 [(.t 4), (.k (.one (.int .i64 0))), (.t 7)])⟩, ⟨none, (some 9), (.un .not (.t 8))⟩, ⟨none, (some 10), (.mov (.t 9))⟩, ⟨(some (10, .false)), (some 11), (.load none (.t 1))⟩, ⟨(some (10, .false)), (some 12), (.mov (.t 0))⟩, ⟨(some (10, .false)), (some 13), (.iaddr 2 (.t 11) (.t 12))⟩, ⟨(some (10, .false)), (some 14), (.faddr (.t 13) 1)⟩, ⟨(some (10, .false)), (some 15), (.load none (.t 14))⟩, ⟨none, (some 16), (.pick (.t 10) (.k (.one (.bool .true))) (.t 15))⟩, ⟨none, (some 3), (.mov (.t 16))⟩]
def i84 : Ir := (.seq (.region g84_0) (.seq (.region g84_1) .ret))
theorem unhold2_ok (n : List Nd) (x : Int) (hn : n.length ≤ 14) : Meets Try.prog 84 [.one (.int .i64 x), .one (.bx false [.sl false 2 n.length (ndR n)])] (.w (.one (.bool (decide (¬ HoldOk n n.length x))))) [.one .hole, .one .hole] := by
  refine meets_go (ir := i84) (fn := Try.f84) (rx := [(.tmp 3)]) rfl rfl (by rfl) (by rfl) (by exact Nat.le_of_ble_eq_true rfl) ?_
  simp (maxSteps := 9000000) -implicitDefEqProofs -dsimp (disch := omega) only [go_sem, g84_0, g84_1, i84, Nat.reduceEqDiff, Nat.reduceAdd, Nat.reduceMul, Nat.reduceLeDiff, Nat.reduceBEq, Nat.reduceBNe, Int.reduceEq, ↓reduceIte, reduceCtorEq]
  refine call_go true (within_ok x 0 ((n.length : Int) - 1)) ?_
  by_cases h : 0 ≤ x ∧ x ≤ (n.length : Int) - 1
  · have a3 : x.toNat < n.length := by omega
    have a4 : (x.toNat : Int) = x := Int.toNat_of_nonneg (by omega)
    simp (maxSteps := 9000000) -implicitDefEqProofs -dsimp (disch := omega) only [go_sem, h, ndR_1 a3, Nat.reduceEqDiff, Nat.reduceAdd, Nat.reduceMul, Nat.reduceLeDiff, Nat.reduceBEq, Nat.reduceBNe, Int.reduceEq, ↓reduceIte, reduceCtorEq]
    cases hg : (n.getD x.toNat default).g with
    | true => exact need_i (res_T fun q => by rw [q.2.2] at hg; simp at hg) (by simp (maxSteps := 9000000) -implicitDefEqProofs -dsimp (disch := omega) only [go_sem, Nat.reduceEqDiff, Nat.reduceAdd, Nat.reduceMul, Nat.reduceLeDiff, Nat.reduceBEq, Nat.reduceBNe, Int.reduceEq, ↓reduceIte, reduceCtorEq])
    | false => exact need_i (res_F fun q => q ⟨by omega, by omega, hg⟩) (by simp (maxSteps := 9000000) -implicitDefEqProofs -dsimp (disch := omega) only [go_sem, Nat.reduceEqDiff, Nat.reduceAdd, Nat.reduceMul, Nat.reduceLeDiff, Nat.reduceBEq, Nat.reduceBNe, Int.reduceEq, ↓reduceIte, reduceCtorEq])
  · simp (maxSteps := 9000000) -implicitDefEqProofs -dsimp (disch := omega) only [go_sem, h, Nat.reduceEqDiff, Nat.reduceAdd, Nat.reduceMul, Nat.reduceLeDiff, Nat.reduceBEq, Nat.reduceBNe, Int.reduceEq, ↓reduceIte, reduceCtorEq]
    exact need_i (res_T fun q => h ⟨q.1, by have := q.2.1; omega⟩) (by simp (maxSteps := 9000000) -implicitDefEqProofs -dsimp (disch := omega) only [go_sem, Nat.reduceEqDiff, Nat.reduceAdd, Nat.reduceMul, Nat.reduceLeDiff, Nat.reduceBEq, Nat.reduceBNe, Int.reduceEq, ↓reduceIte, reduceCtorEq])
theorem any_not {α : Type} {l : List α} {p : α → Prop} [∀ a, Decidable (¬ p a)] : (l.any fun x => decide (¬ p x)) = true ↔ ¬ ∀ x ∈ l, p x := by
  rw [List.any_eq_true]
  constructor
  · rintro ⟨x, hx, h⟩ q; exact of_decide_eq_true h (q x hx)
  · intro h
    apply Classical.byContradiction
    intro q
    exact h fun x hx => Classical.byContradiction fun w => q ⟨x, hx, decide_eq_true w⟩
def g59_0 : List Gop := [⟨none, (some 2), (.box (.t 0))⟩, ⟨none, (some 4), (.mov (.k (.one (.bool .false))))⟩]
def g59_1 : List Gop := [⟨none, (some 7), (.load none (.t 2))⟩, ⟨none, (some 8), (.len (.t 7))⟩, ⟨none, (some 9), (.bin .gtr (.t 8) (.k (.one (.int .i64 14))))⟩, ⟨none, (some 10), (.mov (.t 9))⟩, ⟨(some (10, .false)), (some 11), (.mov (.t 1))⟩, ⟨(some (10, .false)), (some 12), (.len (.t 11))⟩, ⟨(some (10, .false)), (some 13), (.bin .gtr (.t 12) (.k (.one (.int .i64 6))))⟩, ⟨none, (some 14), (.pick (.t 10) (.k (.one (.bool .true))) (.t 13))⟩]
def g59_2 : List Gop := [⟨none, (some 4), (.mov (.k (.one (.bool .false))))⟩]
def g59_3 : List Gop := [⟨none, (some 15), (.load none (.t 2))⟩, ⟨none, (some 16), (.len (.t 15))⟩, ⟨none, (some 17), (.mov (.k (.one (.int .i64 0))))⟩]
def g59_4 : List Gop := [⟨none, (some 18), (.bin .lss (.t 17) (.t 16))⟩]
def g59_5 : List Gop := [⟨none, (some 19), (.mov (.t 17))⟩, ⟨none, (some 20), (.iaddr 2 (.t 15) (.t 17))⟩, ⟨none, (some 21), (.load (some 2) (.t 20))⟩, ⟨none, (some 5), (.alloc [(.int .i64 0)])⟩, ⟨none, (some 6), (.alloc [.nil, (.bool .false)])⟩, ⟨none, none, (.store 1 (.t 5) (.t 19))⟩, ⟨none, none, (.store 2 (.t 6) (.t 21))⟩]
def g59_6 : List Gop := [⟨none, (some 22), (.faddr (.t 6) 0)⟩, ⟨none, (some 23), (.load none (.t 22))⟩, ⟨none, (some 24), (.len (.t 23))⟩, ⟨none, (some 25), (.bin .gtr (.t 24) (.k (.one (.int .i64 6))))⟩, ⟨none, (some 26), (.mov (.t 25))⟩, ⟨(some (26, .false)), (some 27), (.faddr (.t 6) 1)⟩, ⟨(some (26, .false)), (some 28), (.load none (.t 27))⟩, ⟨(some (26, .false)), (some 29), (.mov (.t 28))⟩, ⟨(some (29, .true)), (some 30), (.faddr (.t 6) 0)⟩, ⟨(some (29, .true)), (some 31), (.load none (.t 30))⟩, ⟨(some (29, .true)), (some 32), (.len (.t 31))⟩, ⟨(some (29, .true)), (some 33), (.bin .gtr (.t 32) (.k (.one (.int .i64 0))))⟩, ⟨(some (26, .false)), (some 34), (.pick (.t 29) (.t 33) (.k (.one (.bool .false))))⟩, ⟨none, (some 35), (.pick (.t 26) (.k (.one (.bool .true))) (.t 34))⟩, ⟨none, (some 36), (.mov (.t 35))⟩, ⟨(some (36, .false)), (some 37), (.faddr (.t 6) 0)⟩, ⟨(some (36, .false)), (some 38), (.load none (.t 37))⟩, ⟨(some (36, .false)), (some 39), (.mkf 83 [(.t 5), (.t 2)])⟩, ⟨(some (36, .false)), (some 40), (.call 82 [(.t 38), (.t 39)])⟩, ⟨none, (some 41), (.pick (.t 36) (.k (.one (.bool .true))) (.t 40))⟩]
def g59_7 : List Gop := [⟨none, (some 4), (.mov (.k (.one (.bool .false))))⟩]
def g59_8 : List Gop := [⟨none, (some 42), (.bin .add (.t 17) (.k (.one (.int .i64 1))))⟩, ⟨none, (some 17), (.mov (.t 42))⟩]
def g59_9 : List Gop := [⟨none, (some 43), (.mov (.t 1))⟩, ⟨none, (some 44), (.mkf 84 [(.t 2)])⟩, ⟨none, (some 45), (.call 82 [(.t 43), (.t 44)])⟩, ⟨none, (some 46), (.un .not (.t 45))⟩, ⟨none, (some 4), (.mov (.t 46))⟩]
def i59 : Ir := (.seq (.region g59_0) (.seq (.seq (.region g59_1) (.cond (.t 14) (.seq (.region g59_2) .ret) .skip)) (.seq (.seq (.region g59_3) (.block 0 (.loop (.seq (.region g59_4) (.seq (.cond (.t 18) .skip (.exit 0)) (.seq (.block 1 (.seq (.region g59_5) (.seq (.region g59_6) (.cond (.t 41) (.seq (.region g59_7) .ret) .skip)))) (.region g59_8))))))) (.seq (.region g59_9) .ret))))
theorem areNodes_ok (n : List Nd) (r : List Int) (hn : n.length ≤ 1048576) (hh : ∀ x ∈ n, x.h.length ≤ 1048576) (hr : r.length ≤ 1048576) : Meets Try.prog 59 [.one (.sl false 2 n.length (ndR n)), .one (.sl false 1 r.length (r.map (T.int .i64)))] (.w (.one (.bool (decide (NodesOk n r))))) [.one .hole, .one .hole] := by
  have q2 := ndR_cut (l := n)
  refine meets_go (ir := i59) (fn := Try.f59) (rx := [(.tmp 4)]) rfl rfl (by rfl) (by rfl) (by exact Nat.le_of_ble_eq_true rfl) ?_
  simp (maxSteps := 9000000) -implicitDefEqProofs -dsimp (disch := omega) only [go_sem, g59_0, g59_1, g59_2, g59_3, g59_4, g59_5, g59_6, g59_7, g59_8, g59_9, i59, Nat.reduceEqDiff, Nat.reduceAdd, Nat.reduceMul, Nat.reduceLeDiff, Nat.reduceBEq, Nat.reduceBNe, Int.reduceEq, ↓reduceIte, reduceCtorEq]
  by_cases c1 : 14 < (n.length : Int)
  · simp (maxSteps := 9000000) -implicitDefEqProofs -dsimp (disch := omega) only [go_sem, lt_T, lt_F, le_T, le_F, eq_T, eq_F, and_F, c1, Nat.reduceEqDiff, Nat.reduceAdd, Nat.reduceMul, Nat.reduceLeDiff, Nat.reduceBEq, Nat.reduceBNe, Int.reduceEq, ↓reduceIte, reduceCtorEq]
    exact need_i (res_F fun q => by have := q.2.2.1; omega) (by simp (maxSteps := 9000000) -implicitDefEqProofs -dsimp (disch := omega) only [go_sem, Nat.reduceEqDiff, Nat.reduceAdd, Nat.reduceMul, Nat.reduceLeDiff, Nat.reduceBEq, Nat.reduceBNe, Int.reduceEq, ↓reduceIte, reduceCtorEq])
  by_cases c2 : 6 < (r.length : Int)
  · simp (maxSteps := 9000000) -implicitDefEqProofs -dsimp (disch := omega) only [go_sem, lt_T, lt_F, le_T, le_F, eq_T, eq_F, and_F, c1, c2, Nat.reduceEqDiff, Nat.reduceAdd, Nat.reduceMul, Nat.reduceLeDiff, Nat.reduceBEq, Nat.reduceBNe, Int.reduceEq, ↓reduceIte, reduceCtorEq]
    exact need_i (res_F fun q => by have := q.2.2.2; omega) (by simp (maxSteps := 9000000) -implicitDefEqProofs -dsimp (disch := omega) only [go_sem, Nat.reduceEqDiff, Nat.reduceAdd, Nat.reduceMul, Nat.reduceLeDiff, Nat.reduceBEq, Nat.reduceBNe, Int.reduceEq, ↓reduceIte, reduceCtorEq])
  simp (maxSteps := 9000000) -implicitDefEqProofs -dsimp (disch := omega) only [go_sem, lt_T, lt_F, le_T, le_F, eq_T, eq_F, and_F, c1, c2, Nat.reduceEqDiff, Nat.reduceAdd, Nat.reduceMul, Nat.reduceLeDiff, Nat.reduceBEq, Nat.reduceBNe, Int.reduceEq, ↓reduceIte, reduceCtorEq]
  refine loop_n n.length (fun i => ⟨[(17, .w (.one (.int .i64 (i : Nat)))), (16, .w (.one (.int .i64 n.length))), (15, .w (.one (.hs 2 [0] 0 2 n.length))), (1, .w (.one (.hs 1 [] 0 1 r.length))), (2, .w (.one (.hp 2 [] 0)))], [(2, .bx true [.sl false 2 n.length (ndR n)]), (1, (.sl false 1 r.length (r.map (T.int .i64))))], [.one (.hs 0 [] 0 2 n.length), .one (.hs 1 [] 0 1 r.length)]⟩) (fun i => ∀ j, j < i → NodeOk n j) ?_ (by omega) ?_
  · exact (imp_sub (by simp (maxSteps := 9000000) -implicitDefEqProofs -dsimp (disch := omega) only [go_sem, q2, Nat.reduceEqDiff, Nat.reduceAdd, Nat.reduceMul, Nat.reduceLeDiff, Nat.reduceBEq, Nat.reduceBNe, Int.reduceEq, ↓reduceIte, reduceCtorEq]) (by simp (maxSteps := 9000000) -implicitDefEqProofs -dsimp (disch := omega) only [go_sem, q2, Nat.reduceEqDiff, Nat.reduceAdd, Nat.reduceMul, Nat.reduceLeDiff, Nat.reduceBEq, Nat.reduceBNe, Int.reduceEq, ↓reduceIte, reduceCtorEq]) rfl)
  · intro i hi hJ
    simp (maxSteps := 9000000) -implicitDefEqProofs -dsimp (disch := omega) only [go_sem, Nat.reduceEqDiff, Nat.reduceAdd, Nat.reduceMul, Nat.reduceLeDiff, Nat.reduceBEq, Nat.reduceBNe, Int.reduceEq, ↓reduceIte, reduceCtorEq]
    refine brP_i (fun h1 => ?_) (fun h1 => ?_)
    · have hlt : i < n.length := by omega
      have hh1 := hh _ (getD_mem hlt)
      simp (maxSteps := 9000000) -implicitDefEqProofs -dsimp (disch := omega) only [go_sem, ndR_0 hlt, ndR_1 hlt, Nat.reduceEqDiff, Nat.reduceAdd, Nat.reduceMul, Nat.reduceLeDiff, Nat.reduceBEq, Nat.reduceBNe, Int.reduceEq, ↓reduceIte, reduceCtorEq]
      by_cases b1 : 6 < ((n.getD i default).h.length : Int)
      · simp (maxSteps := 9000000) -implicitDefEqProofs -dsimp (disch := omega) only [go_sem, lt_T, lt_F, le_T, le_F, eq_T, eq_F, and_F, b1, Nat.reduceEqDiff, Nat.reduceAdd, Nat.reduceMul, Nat.reduceLeDiff, Nat.reduceBEq, Nat.reduceBNe, Int.reduceEq, ↓reduceIte, reduceCtorEq]
        exact need_i (res_F fun q => by have := (q.1 i hlt).2.1; omega) (by simp (maxSteps := 9000000) -implicitDefEqProofs -dsimp (disch := omega) only [go_sem, Nat.reduceEqDiff, Nat.reduceAdd, Nat.reduceMul, Nat.reduceLeDiff, Nat.reduceBEq, Nat.reduceBNe, Int.reduceEq, ↓reduceIte, reduceCtorEq])
      by_cases b2 : (n.getD i default).g = true ∧ 0 < ((n.getD i default).h.length : Int)
      · obtain ⟨b2, b3⟩ := b2
        simp (maxSteps := 9000000) -implicitDefEqProofs -dsimp (disch := omega) only [go_sem, lt_T, lt_F, le_T, le_F, eq_T, eq_F, and_F, b1, b2, b3, Nat.reduceEqDiff, Nat.reduceAdd, Nat.reduceMul, Nat.reduceLeDiff, Nat.reduceBEq, Nat.reduceBNe, Int.reduceEq, ↓reduceIte, reduceCtorEq]
        exact need_i (res_F fun q => by have := (q.1 i hlt).2.2 b2; omega) (by simp (maxSteps := 9000000) -implicitDefEqProofs -dsimp (disch := omega) only [go_sem, Nat.reduceEqDiff, Nat.reduceAdd, Nat.reduceMul, Nat.reduceLeDiff, Nat.reduceBEq, Nat.reduceBNe, Int.reduceEq, ↓reduceIte, reduceCtorEq])
      have C := containsFunc2_ok (n.getD i default).h 83 [.int .i64 i] [.sl false 2 n.length (ndR n)] (fun x => decide (¬ HoldOk n i x)) hh1 ⟨_, rfl, rfl, by decide⟩ (fun x hx => unhold_ok n i x (by omega) hlt)
      have hgo : (n.getD i default).g = true → (n.getD i default).h.length = 0 := fun q => by
        by_cases w : 0 < ((n.getD i default).h.length : Int)
        · exact absurd ⟨q, w⟩ b2
        · omega
      have fin : (∀ y ∈ (n.getD i default).h, HoldOk n i y) ↔ NodeOk n i := ⟨fun q => ⟨q, by omega, hgo⟩, fun q => q.1⟩
      have hA : (∀ y ∈ (n.getD i default).h, HoldOk n i y) → ((n.getD i default).h.any fun x => decide (¬ HoldOk n i x)) = false := fun q => by
        rw [← Bool.not_eq_true, any_not]; exact fun w => w q
      have hB : (¬ ∀ y ∈ (n.getD i default).h, HoldOk n i y) → ((n.getD i default).h.any fun x => decide (¬ HoldOk n i x)) = true := fun q => any_not.2 q
      have T1 : ∀ b, (n.getD i default).g = b → b = true → ¬ (0 < ((n.getD i default).h.length : Int)) := fun b e w q => b2 ⟨by rw [e, w], q⟩
      cases b3 : (n.getD i default).g with
      | true =>
        have b4 := T1 _ b3 rfl
        simp (maxSteps := 9000000) -implicitDefEqProofs -dsimp (disch := omega) only [go_sem, lt_T, lt_F, le_T, le_F, eq_T, eq_F, and_F, b1, b3, b4, Nat.reduceEqDiff, Nat.reduceAdd, Nat.reduceMul, Nat.reduceLeDiff, Nat.reduceBEq, Nat.reduceBNe, Int.reduceEq, ↓reduceIte, reduceCtorEq]
        by_cases q : ∀ y ∈ (n.getD i default).h, HoldOk n i y
        · rw [hA q] at C
          refine call_go true C ?_
          simp (maxSteps := 9000000) -implicitDefEqProofs -dsimp (disch := omega) only [go_sem, lt_T, lt_F, le_T, le_F, eq_T, eq_F, and_F, ndR_ro, Nat.reduceEqDiff, Nat.reduceAdd, Nat.reduceMul, Nat.reduceLeDiff, Nat.reduceBEq, Nat.reduceBNe, Int.reduceEq, ↓reduceIte, reduceCtorEq]
          refine ⟨⟨by omega, fun j hj => ?_⟩, (imp_sub (by simp (maxSteps := 9000000) -implicitDefEqProofs -dsimp (disch := omega) only [go_sem, q2, Nat.reduceEqDiff, Nat.reduceAdd, Nat.reduceMul, Nat.reduceLeDiff, Nat.reduceBEq, Nat.reduceBNe, Int.reduceEq, ↓reduceIte, reduceCtorEq]) (by simp (maxSteps := 9000000) -implicitDefEqProofs -dsimp (disch := omega) only [go_sem, q2, Nat.reduceEqDiff, Nat.reduceAdd, Nat.reduceMul, Nat.reduceLeDiff, Nat.reduceBEq, Nat.reduceBNe, Int.reduceEq, ↓reduceIte, reduceCtorEq]) rfl)⟩
          by_cases e : j = i
          · subst e; exact fin.1 q
          · exact hJ j (by omega)
        · rw [hB q] at C
          refine call_go true C ?_
          simp (maxSteps := 9000000) -implicitDefEqProofs -dsimp (disch := omega) only [go_sem, lt_T, lt_F, le_T, le_F, eq_T, eq_F, and_F, ndR_ro, Nat.reduceEqDiff, Nat.reduceAdd, Nat.reduceMul, Nat.reduceLeDiff, Nat.reduceBEq, Nat.reduceBNe, Int.reduceEq, ↓reduceIte, reduceCtorEq]
          exact need_i (res_F fun w => q (w.1 i hlt).1) (by simp (maxSteps := 9000000) -implicitDefEqProofs -dsimp (disch := omega) only [go_sem, Nat.reduceEqDiff, Nat.reduceAdd, Nat.reduceMul, Nat.reduceLeDiff, Nat.reduceBEq, Nat.reduceBNe, Int.reduceEq, ↓reduceIte, reduceCtorEq])
      | false =>
        simp (maxSteps := 9000000) -implicitDefEqProofs -dsimp (disch := omega) only [go_sem, lt_T, lt_F, le_T, le_F, eq_T, eq_F, and_F, b1, b3, Nat.reduceEqDiff, Nat.reduceAdd, Nat.reduceMul, Nat.reduceLeDiff, Nat.reduceBEq, Nat.reduceBNe, Int.reduceEq, ↓reduceIte, reduceCtorEq]
        by_cases q : ∀ y ∈ (n.getD i default).h, HoldOk n i y
        · rw [hA q] at C
          refine call_go true C ?_
          simp (maxSteps := 9000000) -implicitDefEqProofs -dsimp (disch := omega) only [go_sem, lt_T, lt_F, le_T, le_F, eq_T, eq_F, and_F, ndR_ro, Nat.reduceEqDiff, Nat.reduceAdd, Nat.reduceMul, Nat.reduceLeDiff, Nat.reduceBEq, Nat.reduceBNe, Int.reduceEq, ↓reduceIte, reduceCtorEq]
          refine ⟨⟨by omega, fun j hj => ?_⟩, (imp_sub (by simp (maxSteps := 9000000) -implicitDefEqProofs -dsimp (disch := omega) only [go_sem, q2, Nat.reduceEqDiff, Nat.reduceAdd, Nat.reduceMul, Nat.reduceLeDiff, Nat.reduceBEq, Nat.reduceBNe, Int.reduceEq, ↓reduceIte, reduceCtorEq]) (by simp (maxSteps := 9000000) -implicitDefEqProofs -dsimp (disch := omega) only [go_sem, q2, Nat.reduceEqDiff, Nat.reduceAdd, Nat.reduceMul, Nat.reduceLeDiff, Nat.reduceBEq, Nat.reduceBNe, Int.reduceEq, ↓reduceIte, reduceCtorEq]) rfl)⟩
          by_cases e : j = i
          · subst e; exact fin.1 q
          · exact hJ j (by omega)
        · rw [hB q] at C
          refine call_go true C ?_
          simp (maxSteps := 9000000) -implicitDefEqProofs -dsimp (disch := omega) only [go_sem, lt_T, lt_F, le_T, le_F, eq_T, eq_F, and_F, ndR_ro, Nat.reduceEqDiff, Nat.reduceAdd, Nat.reduceMul, Nat.reduceLeDiff, Nat.reduceBEq, Nat.reduceBNe, Int.reduceEq, ↓reduceIte, reduceCtorEq]
          exact need_i (res_F fun w => q (w.1 i hlt).1) (by simp (maxSteps := 9000000) -implicitDefEqProofs -dsimp (disch := omega) only [go_sem, Nat.reduceEqDiff, Nat.reduceAdd, Nat.reduceMul, Nat.reduceLeDiff, Nat.reduceBEq, Nat.reduceBNe, Int.reduceEq, ↓reduceIte, reduceCtorEq])
    · have hi2 : i = n.length := by omega
      subst hi2
      have C := containsFunc_ok r 84 [.sl false 2 n.length (ndR n)] (fun x => decide (¬ HoldOk n n.length x)) hr ⟨_, rfl, rfl, by decide⟩ (fun x hx => unhold2_ok n x (by omega))
      by_cases q : ∀ y ∈ r, HoldOk n n.length y
      · rw [show (r.any fun x => decide (¬ HoldOk n n.length x)) = false by rw [← Bool.not_eq_true, any_not]; exact fun w => w q] at C
        simp (maxSteps := 9000000) -implicitDefEqProofs -dsimp (disch := omega) only [go_sem, Nat.reduceEqDiff, Nat.reduceAdd, Nat.reduceMul, Nat.reduceLeDiff, Nat.reduceBEq, Nat.reduceBNe, Int.reduceEq, ↓reduceIte, reduceCtorEq]
        refine call_go true C ?_
        simp (maxSteps := 9000000) -implicitDefEqProofs -dsimp (disch := omega) only [go_sem, ndR_ro, Nat.reduceEqDiff, Nat.reduceAdd, Nat.reduceMul, Nat.reduceLeDiff, Nat.reduceBEq, Nat.reduceBNe, Int.reduceEq, ↓reduceIte, reduceCtorEq]
        exact need_i (res_T ⟨hJ, q, by omega, by omega⟩) (by simp (maxSteps := 9000000) -implicitDefEqProofs -dsimp (disch := omega) only [go_sem, Nat.reduceEqDiff, Nat.reduceAdd, Nat.reduceMul, Nat.reduceLeDiff, Nat.reduceBEq, Nat.reduceBNe, Int.reduceEq, ↓reduceIte, reduceCtorEq])
      · rw [show (r.any fun x => decide (¬ HoldOk n n.length x)) = true from any_not.2 q] at C
        simp (maxSteps := 9000000) -implicitDefEqProofs -dsimp (disch := omega) only [go_sem, Nat.reduceEqDiff, Nat.reduceAdd, Nat.reduceMul, Nat.reduceLeDiff, Nat.reduceBEq, Nat.reduceBNe, Int.reduceEq, ↓reduceIte, reduceCtorEq]
        refine call_go true C ?_
        simp (maxSteps := 9000000) -implicitDefEqProofs -dsimp (disch := omega) only [go_sem, ndR_ro, Nat.reduceEqDiff, Nat.reduceAdd, Nat.reduceMul, Nat.reduceLeDiff, Nat.reduceBEq, Nat.reduceBNe, Int.reduceEq, ↓reduceIte, reduceCtorEq]
        exact need_i (res_F fun w => q w.2.1) (by simp (maxSteps := 9000000) -implicitDefEqProofs -dsimp (disch := omega) only [go_sem, Nat.reduceEqDiff, Nat.reduceAdd, Nat.reduceMul, Nat.reduceLeDiff, Nat.reduceBEq, Nat.reduceBNe, Int.reduceEq, ↓reduceIte, reduceCtorEq])
def GoodG (g : Gr) : Prop := NodesOk g.n g.r ∧ g.c = countsF g.n g.r ∧ ∀ i, i < g.n.length → (g.n.getD i default).g = false → g.c.getD i default ≠ 0
noncomputable instance (g : Gr) : Decidable (GoodG g) := Classical.propDecidable _
theorem countsF_len {n : List Nd} {r : List Int} : (countsF n r).length = n.length := by unfold countsF cntR; rw [cntN_len, fold_len]; simp
def g25_0 : List Gop := [⟨none, (some 1), (.box (.t 0))⟩, ⟨none, (some 2), (.mov (.k (.one (.bool .false))))⟩]
def g25_1 : List Gop := [⟨none, (some 5), (.faddr (.t 1) 0)⟩, ⟨none, (some 6), (.load none (.t 5))⟩, ⟨none, (some 7), (.faddr (.t 1) 1)⟩, ⟨none, (some 8), (.load none (.t 7))⟩, ⟨none, (some 9), (.call 56 [(.t 6), (.t 8)])⟩, ⟨none, (some 10), (.un .not (.t 9))⟩, ⟨none, (some 11), (.mov (.t 10))⟩, ⟨(some (11, .false)), (some 12), (.faddr (.t 1) 2)⟩, ⟨(some (11, .false)), (some 13), (.load none (.t 12))⟩, ⟨(some (11, .false)), (some 14), (.faddr (.t 1) 0)⟩, ⟨(some (11, .false)), (some 15), (.load none (.t 14))⟩, ⟨(some (11, .false)), (some 16), (.faddr (.t 1) 1)⟩, ⟨(some (11, .false)), (some 17), (.load none (.t 16))⟩, ⟨(some (11, .false)), (some 18), (.call 57 [(.t 15), (.t 17)])⟩, ⟨(some (11, .false)), (some 19), (.call 63 [(.t 13), (.t 18)])⟩, ⟨(some (11, .false)), (some 20), (.un .not (.t 19))⟩, ⟨none, (some 21), (.pick (.t 11) (.k (.one (.bool .true))) (.t 20))⟩]
def a25_1 : List (List Nat) := [[], [0], [], [2], [0, 1, 2, 3], [0, 1, 2, 3, 4], [0, 1, 2, 3, 4, 5], [0, 1, 2, 3, 4, 5, 6], [0, 1, 2, 3, 4, 5, 6, 7], [0, 1, 2, 3, 4, 5, 6], [0, 1, 2, 3, 4, 5, 6, 9], [0, 1, 2, 3, 4, 5, 6], [0, 1, 2, 3, 4, 5, 6, 11], [0, 1, 2, 3, 4, 5, 6, 9, 10, 11, 12], [0, 1, 2, 3, 4, 5, 6, 7, 8, 9, 10, 11, 12, 13], [0, 1, 2, 3, 4, 5, 6, 7, 8, 9, 10, 11, 12, 13, 14], [0, 1, 2, 3, 4, 5, 6, 7, 8, 9, 10, 11, 12, 13, 14, 15]]
def n25_1 : Nat := 14 -- of 17
def g25_2 : List Gop := [⟨none, (some 2), (.mov (.k (.one (.bool .false))))⟩]
def g25_3 : List Gop := [⟨none, (some 22), (.faddr (.t 1) 0)⟩, ⟨none, (some 23), (.load none (.t 22))⟩, ⟨none, (some 24), (.len (.t 23))⟩, ⟨none, (some 25), (.mov (.k (.one (.int .i64 0))))⟩]
def g25_4 : List Gop := [⟨none, (some 26), (.bin .lss (.t 25) (.t 24))⟩]
def g25_5 : List Gop := [⟨none, (some 27), (.mov (.t 25))⟩, ⟨none, (some 28), (.iaddr 2 (.t 23) (.t 25))⟩, ⟨none, (some 29), (.load (some 2) (.t 28))⟩, ⟨none, (some 4), (.alloc [.nil, (.bool .false)])⟩, ⟨none, (some 3), (.mov (.t 27))⟩, ⟨none, none, (.store 2 (.t 4) (.t 29))⟩]
def g25_6 : List Gop := [⟨none, (some 30), (.faddr (.t 4) 1)⟩, ⟨none, (some 31), (.load none (.t 30))⟩, ⟨none, (some 32), (.un .not (.t 31))⟩, ⟨none, (some 33), (.mov (.t 32))⟩, ⟨(some (33, .true)), (some 34), (.faddr (.t 1) 2)⟩, ⟨(some (33, .true)), (some 35), (.load none (.t 34))⟩, ⟨(some (33, .true)), (some 36), (.mov (.t 3))⟩, ⟨(some (33, .true)), (some 37), (.iaddr 1 (.t 35) (.t 36))⟩, ⟨(some (33, .true)), (some 38), (.load none (.t 37))⟩, ⟨(some (33, .true)), (some 39), (.bin .eql (.t 38) (.k (.one (.int .i64 0))))⟩, ⟨none, (some 40), (.pick (.t 33) (.t 39) (.k (.one (.bool .false))))⟩]
def g25_7 : List Gop := [⟨none, (some 2), (.mov (.k (.one (.bool .false))))⟩]
def g25_8 : List Gop := [⟨none, (some 41), (.bin .add (.t 25) (.k (.one (.int .i64 1))))⟩, ⟨none, (some 25), (.mov (.t 41))⟩]
def g25_9 : List Gop := [⟨none, (some 2), (.mov (.k (.one (.bool .true))))⟩]
def i25 : Ir := (.seq (.region g25_0) (.seq (.seq (.draw [[], [0], [], [2], [1, 3], [4], [5, 4], [6], [7, 6], [6], [9, 6], [6], [11, 6], [10, 12, 6, 6], [8, 13, 13, 6], [14, 6], [6, 15]] g25_1) (.cond (.t 21) (.seq (.region g25_2) .ret) .skip)) (.seq (.seq (.region g25_3) (.block 0 (.loop (.seq (.region g25_4) (.seq (.cond (.t 26) .skip (.exit 0)) (.seq (.block 1 (.seq (.region g25_5) (.seq (.region g25_6) (.cond (.t 40) (.seq (.region g25_7) .ret) .skip)))) (.region g25_8))))))) (.seq (.region g25_9) .ret))))
theorem specGoodGraph_ok (g : Gr) (hn : g.n.length ≤ 1048576) (hh : ∀ x ∈ g.n, x.h.length ≤ 1048576) (hr : g.r.length ≤ 1048576) (hc : g.c.length ≤ 1048576) : Meets Try.prog 25 [.agg [.sl false 2 g.n.length (ndR g.n), (.sl false 1 g.r.length (g.r.map (T.int .i64))), (.sl false 1 g.c.length (g.c.map (T.int .i64)))]] (.w (.one (.bool (decide (GoodG g))))) [.agg [.hole, .hole, .hole]] := by
  have q2 := ndR_cut (l := g.n)
  have M1 := l10Nodes_ok g.n g.r hn hh hr
  have cl := countsF_len (n := g.n) (r := g.r)
  by_cases hN : NodesOk g.n g.r
  · rw [decide_eq_true hN] at M1
    have M2 := l10Counts_ok g.n g.r hN
    have M3 := l1Same_ok g.c (countsF g.n g.r) (by omega)
    rw [cl] at M3
    by_cases hC : g.c = countsF g.n g.r
    · rw [decide_eq_true hC] at M3
      have cl2 : g.c.length = g.n.length := by rw [hC, cl]
      refine meets_go (ir := i25) (fn := Try.f25) (rx := [(.tmp 2)]) rfl rfl (by rfl) (by rfl) (by exact Nat.le_of_ble_eq_true rfl) ?_
      simp (maxSteps := 9000000) -implicitDefEqProofs -dsimp (disch := omega) only [go_sem, g25_0, g25_1, a25_1, n25_1, g25_2, g25_3, g25_4, g25_5, g25_6, g25_7, g25_8, g25_9, i25, q2, Nat.reduceEqDiff, Nat.reduceAdd, Nat.reduceMul, Nat.reduceLeDiff, Nat.reduceBEq, Nat.reduceBNe, Int.reduceEq, ↓reduceIte, reduceCtorEq]
      refine draw_go n25_1 a25_1 (by decide +kernel) ?_
      simp (maxSteps := 9000000) -implicitDefEqProofs -dsimp (disch := omega) only [go_sem, n25_1, a25_1, q2, Nat.reduceEqDiff, Nat.reduceAdd, Nat.reduceMul, Nat.reduceLeDiff, Nat.reduceBEq, Nat.reduceBNe, Int.reduceEq, ↓reduceIte, reduceCtorEq]
      refine calla_go true M1 ?_
      simp (maxSteps := 9000000) -implicitDefEqProofs -dsimp (disch := omega) only [go_sem, n25_1, a25_1, q2, Nat.reduceEqDiff, Nat.reduceAdd, Nat.reduceMul, Nat.reduceLeDiff, Nat.reduceBEq, Nat.reduceBNe, Int.reduceEq, ↓reduceIte, reduceCtorEq]
      refine calla_go true M2 ?_
      simp (maxSteps := 9000000) -implicitDefEqProofs -dsimp (disch := omega) only [go_sem, n25_1, a25_1, q2, Nat.reduceEqDiff, Nat.reduceAdd, Nat.reduceMul, Nat.reduceLeDiff, Nat.reduceBEq, Nat.reduceBNe, Int.reduceEq, ↓reduceIte, reduceCtorEq]
      refine call_go true M3 ?_
      simp (maxSteps := 9000000) -implicitDefEqProofs -dsimp (disch := omega) only [go_sem, n25_1, a25_1, q2, Nat.reduceEqDiff, Nat.reduceAdd, Nat.reduceMul, Nat.reduceLeDiff, Nat.reduceBEq, Nat.reduceBNe, Int.reduceEq, ↓reduceIte, reduceCtorEq]
      refine loop_n g.n.length (fun i => ⟨[(25, .w (.one (.int .i64 (i : Nat)))), (24, .w (.one (.int .i64 g.n.length))), (23, .w (.one (.hs 3 [0] 0 2 g.n.length))), (1, .w (.one (.hp 3 [] 0))), (2, .w (.one (.bool false)))], [(3, .bx true [.sl false 2 g.n.length (ndR g.n), (.sl false 1 g.r.length (g.r.map (T.int .i64))), (.sl false 1 g.c.length (g.c.map (T.int .i64)))])], [.agg [.hs 0 [] 0 2 g.n.length, .hs 1 [] 0 1 g.r.length, .hs 2 [] 0 1 g.c.length]]⟩) (fun i => ∀ j, j < i → (g.n.getD j default).g = false → g.c.getD j default ≠ 0) ?_ (by omega) ?_
      · exact (imp_sub (by simp (maxSteps := 9000000) -implicitDefEqProofs -dsimp (disch := omega) only [go_sem, n25_1, a25_1, q2, Nat.reduceEqDiff, Nat.reduceAdd, Nat.reduceMul, Nat.reduceLeDiff, Nat.reduceBEq, Nat.reduceBNe, Int.reduceEq, ↓reduceIte, reduceCtorEq]) (by simp (maxSteps := 9000000) -implicitDefEqProofs -dsimp (disch := omega) only [go_sem, n25_1, a25_1, q2, Nat.reduceEqDiff, Nat.reduceAdd, Nat.reduceMul, Nat.reduceLeDiff, Nat.reduceBEq, Nat.reduceBNe, Int.reduceEq, ↓reduceIte, reduceCtorEq]) rfl)
      · intro i hi hJ
        simp (maxSteps := 9000000) -implicitDefEqProofs -dsimp (disch := omega) only [go_sem, n25_1, a25_1, Nat.reduceEqDiff, Nat.reduceAdd, Nat.reduceMul, Nat.reduceLeDiff, Nat.reduceBEq, Nat.reduceBNe, Int.reduceEq, ↓reduceIte, reduceCtorEq]
        refine brP_i (fun h1 => ?_) (fun h1 => ?_)
        · have hlt : i < g.n.length := by omega
          simp (maxSteps := 9000000) -implicitDefEqProofs -dsimp (disch := omega) only [go_sem, n25_1, a25_1, ndR_0 hlt, ndR_1 hlt, Nat.reduceEqDiff, Nat.reduceAdd, Nat.reduceMul, Nat.reduceLeDiff, Nat.reduceBEq, Nat.reduceBNe, Int.reduceEq, ↓reduceIte, reduceCtorEq]
          cases b2 : (g.n.getD i default).g with
          | true =>
            simp (maxSteps := 9000000) -implicitDefEqProofs -dsimp (disch := omega) only [go_sem, n25_1, a25_1, lt_T, lt_F, le_T, le_F, eq_T, eq_F, and_F, b2, Nat.reduceEqDiff, Nat.reduceAdd, Nat.reduceMul, Nat.reduceLeDiff, Nat.reduceBEq, Nat.reduceBNe, Int.reduceEq, ↓reduceIte, reduceCtorEq]
            refine ⟨⟨by omega, fun j hj => ?_⟩, (imp_sub (by simp (maxSteps := 9000000) -implicitDefEqProofs -dsimp (disch := omega) only [go_sem, n25_1, a25_1, q2, Nat.reduceEqDiff, Nat.reduceAdd, Nat.reduceMul, Nat.reduceLeDiff, Nat.reduceBEq, Nat.reduceBNe, Int.reduceEq, ↓reduceIte, reduceCtorEq]) (by simp (maxSteps := 9000000) -implicitDefEqProofs -dsimp (disch := omega) only [go_sem, n25_1, a25_1, q2, Nat.reduceEqDiff, Nat.reduceAdd, Nat.reduceMul, Nat.reduceLeDiff, Nat.reduceBEq, Nat.reduceBNe, Int.reduceEq, ↓reduceIte, reduceCtorEq]) rfl)⟩
            by_cases e : j = i
            · subst e; intro w; rw [b2] at w; simp at w
            · exact hJ j (by omega)
          | false =>
            by_cases b3 : g.c.getD i default = 0
            · simp (maxSteps := 9000000) -implicitDefEqProofs -dsimp (disch := omega) only [go_sem, n25_1, a25_1, lt_T, lt_F, le_T, le_F, eq_T, eq_F, and_F, b2, b3, Nat.reduceEqDiff, Nat.reduceAdd, Nat.reduceMul, Nat.reduceLeDiff, Nat.reduceBEq, Nat.reduceBNe, Int.reduceEq, ↓reduceIte, reduceCtorEq]
              exact need_i (res_F fun w => w.2.2 i hlt b2 b3) (by simp (maxSteps := 9000000) -implicitDefEqProofs -dsimp (disch := omega) only [go_sem, n25_1, a25_1, Nat.reduceEqDiff, Nat.reduceAdd, Nat.reduceMul, Nat.reduceLeDiff, Nat.reduceBEq, Nat.reduceBNe, Int.reduceEq, ↓reduceIte, reduceCtorEq])
            · simp (maxSteps := 9000000) -implicitDefEqProofs -dsimp (disch := omega) only [go_sem, n25_1, a25_1, lt_T, lt_F, le_T, le_F, eq_T, eq_F, and_F, b2, b3, Nat.reduceEqDiff, Nat.reduceAdd, Nat.reduceMul, Nat.reduceLeDiff, Nat.reduceBEq, Nat.reduceBNe, Int.reduceEq, ↓reduceIte, reduceCtorEq]
              refine ⟨⟨by omega, fun j hj => ?_⟩, (imp_sub (by simp (maxSteps := 9000000) -implicitDefEqProofs -dsimp (disch := omega) only [go_sem, n25_1, a25_1, q2, Nat.reduceEqDiff, Nat.reduceAdd, Nat.reduceMul, Nat.reduceLeDiff, Nat.reduceBEq, Nat.reduceBNe, Int.reduceEq, ↓reduceIte, reduceCtorEq]) (by simp (maxSteps := 9000000) -implicitDefEqProofs -dsimp (disch := omega) only [go_sem, n25_1, a25_1, q2, Nat.reduceEqDiff, Nat.reduceAdd, Nat.reduceMul, Nat.reduceLeDiff, Nat.reduceBEq, Nat.reduceBNe, Int.reduceEq, ↓reduceIte, reduceCtorEq]) rfl)⟩
              by_cases e : j = i
              · subst e; exact fun _ => b3
              · exact hJ j (by omega)
        · have hi2 : i = g.n.length := by omega
          subst hi2
          simp (maxSteps := 9000000) -implicitDefEqProofs -dsimp (disch := omega) only [go_sem, n25_1, a25_1, Nat.reduceEqDiff, Nat.reduceAdd, Nat.reduceMul, Nat.reduceLeDiff, Nat.reduceBEq, Nat.reduceBNe, Int.reduceEq, ↓reduceIte, reduceCtorEq]
          exact need_i (res_T ⟨hN, hC, hJ⟩) (by simp (maxSteps := 9000000) -implicitDefEqProofs -dsimp (disch := omega) only [go_sem, n25_1, a25_1, Nat.reduceEqDiff, Nat.reduceAdd, Nat.reduceMul, Nat.reduceLeDiff, Nat.reduceBEq, Nat.reduceBNe, Int.reduceEq, ↓reduceIte, reduceCtorEq])
    · rw [decide_eq_false hC] at M3
      refine meets_go (ir := i25) (fn := Try.f25) (rx := [(.tmp 2)]) rfl rfl (by rfl) (by rfl) (by exact Nat.le_of_ble_eq_true rfl) ?_
      simp (maxSteps := 9000000) -implicitDefEqProofs -dsimp (disch := omega) only [go_sem, g25_0, g25_1, a25_1, n25_1, g25_2, g25_3, g25_4, g25_5, g25_6, g25_7, g25_8, g25_9, i25, q2, Nat.reduceEqDiff, Nat.reduceAdd, Nat.reduceMul, Nat.reduceLeDiff, Nat.reduceBEq, Nat.reduceBNe, Int.reduceEq, ↓reduceIte, reduceCtorEq]
      refine draw_go n25_1 a25_1 (by decide +kernel) ?_
      simp (maxSteps := 9000000) -implicitDefEqProofs -dsimp (disch := omega) only [go_sem, n25_1, a25_1, q2, Nat.reduceEqDiff, Nat.reduceAdd, Nat.reduceMul, Nat.reduceLeDiff, Nat.reduceBEq, Nat.reduceBNe, Int.reduceEq, ↓reduceIte, reduceCtorEq]
      refine calla_go true M1 ?_
      simp (maxSteps := 9000000) -implicitDefEqProofs -dsimp (disch := omega) only [go_sem, n25_1, a25_1, q2, Nat.reduceEqDiff, Nat.reduceAdd, Nat.reduceMul, Nat.reduceLeDiff, Nat.reduceBEq, Nat.reduceBNe, Int.reduceEq, ↓reduceIte, reduceCtorEq]
      refine calla_go true M2 ?_
      simp (maxSteps := 9000000) -implicitDefEqProofs -dsimp (disch := omega) only [go_sem, n25_1, a25_1, q2, Nat.reduceEqDiff, Nat.reduceAdd, Nat.reduceMul, Nat.reduceLeDiff, Nat.reduceBEq, Nat.reduceBNe, Int.reduceEq, ↓reduceIte, reduceCtorEq]
      refine call_go true M3 ?_
      simp (maxSteps := 9000000) -implicitDefEqProofs -dsimp (disch := omega) only [go_sem, n25_1, a25_1, q2, Nat.reduceEqDiff, Nat.reduceAdd, Nat.reduceMul, Nat.reduceLeDiff, Nat.reduceBEq, Nat.reduceBNe, Int.reduceEq, ↓reduceIte, reduceCtorEq]
      exact need_i (res_F fun w => hC w.2.1) (by simp (maxSteps := 9000000) -implicitDefEqProofs -dsimp (disch := omega) only [go_sem, n25_1, a25_1, Nat.reduceEqDiff, Nat.reduceAdd, Nat.reduceMul, Nat.reduceLeDiff, Nat.reduceBEq, Nat.reduceBNe, Int.reduceEq, ↓reduceIte, reduceCtorEq])
  · rw [decide_eq_false hN] at M1
    refine meets_go (ir := i25) (fn := Try.f25) (rx := [(.tmp 2)]) rfl rfl (by rfl) (by rfl) (by exact Nat.le_of_ble_eq_true rfl) ?_
    simp (maxSteps := 9000000) -implicitDefEqProofs -dsimp (disch := omega) only [go_sem, g25_0, g25_1, a25_1, n25_1, g25_2, g25_3, g25_4, g25_5, g25_6, g25_7, g25_8, g25_9, i25, q2, Nat.reduceEqDiff, Nat.reduceAdd, Nat.reduceMul, Nat.reduceLeDiff, Nat.reduceBEq, Nat.reduceBNe, Int.reduceEq, ↓reduceIte, reduceCtorEq]
    refine draw_go n25_1 a25_1 (by decide +kernel) ?_
    simp (maxSteps := 9000000) -implicitDefEqProofs -dsimp (disch := omega) only [go_sem, n25_1, a25_1, q2, Nat.reduceEqDiff, Nat.reduceAdd, Nat.reduceMul, Nat.reduceLeDiff, Nat.reduceBEq, Nat.reduceBNe, Int.reduceEq, ↓reduceIte, reduceCtorEq]
    refine calla_go true M1 ?_
    simp (maxSteps := 9000000) -implicitDefEqProofs -dsimp (disch := omega) only [go_sem, n25_1, a25_1, q2, Nat.reduceEqDiff, Nat.reduceAdd, Nat.reduceMul, Nat.reduceLeDiff, Nat.reduceBEq, Nat.reduceBNe, Int.reduceEq, ↓reduceIte, reduceCtorEq]
    exact need_i (res_F fun w => hN w.1) (by simp (maxSteps := 9000000) -implicitDefEqProofs -dsimp (disch := omega) only [go_sem, n25_1, a25_1, Nat.reduceEqDiff, Nat.reduceAdd, Nat.reduceMul, Nat.reduceLeDiff, Nat.reduceBEq, Nat.reduceBNe, Int.reduceEq, ↓reduceIte, reduceCtorEq])
def g27_0 : List Gop := [⟨none, (some 1), (.box (.t 0))⟩, ⟨none, (some 2), (.mov (.k (.one (.bool .false))))⟩]
def g27_1 : List Gop := [⟨none, (some 5), (.faddr (.t 1) 0)⟩, ⟨none, (some 6), (.load none (.t 5))⟩, ⟨none, (some 7), (.faddr (.t 1) 1)⟩, ⟨none, (some 8), (.load none (.t 7))⟩, ⟨none, (some 9), (.call 59 [(.t 6), (.t 8)])⟩, ⟨none, (some 10), (.un .not (.t 9))⟩, ⟨none, (some 11), (.mov (.t 10))⟩, ⟨(some (11, .false)), (some 12), (.faddr (.t 1) 2)⟩, ⟨(some (11, .false)), (some 13), (.load none (.t 12))⟩, ⟨(some (11, .false)), (some 14), (.faddr (.t 1) 0)⟩, ⟨(some (11, .false)), (some 15), (.load none (.t 14))⟩, ⟨(some (11, .false)), (some 16), (.faddr (.t 1) 1)⟩, ⟨(some (11, .false)), (some 17), (.load none (.t 16))⟩, ⟨(some (11, .false)), (some 18), (.call 60 [(.t 15), (.t 17)])⟩, ⟨(some (11, .false)), (some 19), (.call 64 [(.t 13), (.t 18)])⟩, ⟨(some (11, .false)), (some 20), (.un .not (.t 19))⟩, ⟨none, (some 21), (.pick (.t 11) (.k (.one (.bool .true))) (.t 20))⟩]
def a27_1 : List (List Nat) := [[], [0], [], [2], [0, 1, 2, 3], [0, 1, 2, 3, 4], [0, 1, 2, 3, 4, 5], [0, 1, 2, 3, 4, 5, 6], [0, 1, 2, 3, 4, 5, 6, 7], [0, 1, 2, 3, 4, 5, 6], [0, 1, 2, 3, 4, 5, 6, 9], [0, 1, 2, 3, 4, 5, 6], [0, 1, 2, 3, 4, 5, 6, 11], [0, 1, 2, 3, 4, 5, 6, 9, 10, 11, 12], [0, 1, 2, 3, 4, 5, 6, 7, 8, 9, 10, 11, 12, 13], [0, 1, 2, 3, 4, 5, 6, 7, 8, 9, 10, 11, 12, 13, 14], [0, 1, 2, 3, 4, 5, 6, 7, 8, 9, 10, 11, 12, 13, 14, 15]]
def n27_1 : Nat := 14 -- of 17
def g27_2 : List Gop := [⟨none, (some 2), (.mov (.k (.one (.bool .false))))⟩]
def g27_3 : List Gop := [⟨none, (some 22), (.faddr (.t 1) 0)⟩, ⟨none, (some 23), (.load none (.t 22))⟩, ⟨none, (some 24), (.len (.t 23))⟩, ⟨none, (some 25), (.mov (.k (.one (.int .i64 0))))⟩]
def g27_4 : List Gop := [⟨none, (some 26), (.bin .lss (.t 25) (.t 24))⟩]
def g27_5 : List Gop := [⟨none, (some 27), (.mov (.t 25))⟩, ⟨none, (some 28), (.iaddr 2 (.t 23) (.t 25))⟩, ⟨none, (some 29), (.load (some 2) (.t 28))⟩, ⟨none, (some 4), (.alloc [.nil, (.bool .false)])⟩, ⟨none, (some 3), (.mov (.t 27))⟩, ⟨none, none, (.store 2 (.t 4) (.t 29))⟩]
def g27_6 : List Gop := [⟨none, (some 30), (.faddr (.t 4) 1)⟩, ⟨none, (some 31), (.load none (.t 30))⟩, ⟨none, (some 32), (.un .not (.t 31))⟩, ⟨none, (some 33), (.mov (.t 32))⟩, ⟨(some (33, .true)), (some 34), (.faddr (.t 1) 2)⟩, ⟨(some (33, .true)), (some 35), (.load none (.t 34))⟩, ⟨(some (33, .true)), (some 36), (.mov (.t 3))⟩, ⟨(some (33, .true)), (some 37), (.iaddr 1 (.t 35) (.t 36))⟩, ⟨(some (33, .true)), (some 38), (.load none (.t 37))⟩, ⟨(some (33, .true)), (some 39), (.bin .eql (.t 38) (.k (.one (.int .i64 0))))⟩, ⟨none, (some 40), (.pick (.t 33) (.t 39) (.k (.one (.bool .false))))⟩]
def g27_7 : List Gop := [⟨none, (some 2), (.mov (.k (.one (.bool .false))))⟩]
def g27_8 : List Gop := [⟨none, (some 41), (.bin .add (.t 25) (.k (.one (.int .i64 1))))⟩, ⟨none, (some 25), (.mov (.t 41))⟩]
def g27_9 : List Gop := [⟨none, (some 2), (.mov (.k (.one (.bool .true))))⟩]
def i27 : Ir := (.seq (.region g27_0) (.seq (.seq (.draw [[], [0], [], [2], [1, 3], [4], [5, 4], [6], [7, 6], [6], [9, 6], [6], [11, 6], [10, 12, 6, 6], [8, 13, 13, 6], [14, 6], [6, 15]] g27_1) (.cond (.t 21) (.seq (.region g27_2) .ret) .skip)) (.seq (.seq (.region g27_3) (.block 0 (.loop (.seq (.region g27_4) (.seq (.cond (.t 26) .skip (.exit 0)) (.seq (.block 1 (.seq (.region g27_5) (.seq (.region g27_6) (.cond (.t 40) (.seq (.region g27_7) .ret) .skip)))) (.region g27_8))))))) (.seq (.region g27_9) .ret))))
theorem implGoodGraph_ok (g : Gr) (hn : g.n.length ≤ 1048576) (hh : ∀ x ∈ g.n, x.h.length ≤ 1048576) (hr : g.r.length ≤ 1048576) (hc : g.c.length ≤ 1048576) : Meets Try.prog 27 [.agg [.sl false 2 g.n.length (ndR g.n), (.sl false 1 g.r.length (g.r.map (T.int .i64))), (.sl false 1 g.c.length (g.c.map (T.int .i64)))]] (.w (.one (.bool (decide (GoodG g))))) [.agg [.hole, .hole, .hole]] := by
  have q2 := ndR_cut (l := g.n)
  have M1 := areNodes_ok g.n g.r hn hh hr
  have cl := countsF_len (n := g.n) (r := g.r)
  by_cases hN : NodesOk g.n g.r
  · rw [decide_eq_true hN] at M1
    have M2 := countsOf_ok g.n g.r hN
    have M3 := sliceEq_ok g.c (countsF g.n g.r) (by omega)
    rw [cl] at M3
    by_cases hC : g.c = countsF g.n g.r
    · rw [decide_eq_true hC] at M3
      have cl2 : g.c.length = g.n.length := by rw [hC, cl]
      refine meets_go (ir := i27) (fn := Try.f27) (rx := [(.tmp 2)]) rfl rfl (by rfl) (by rfl) (by exact Nat.le_of_ble_eq_true rfl) ?_
      simp (maxSteps := 9000000) -implicitDefEqProofs -dsimp (disch := omega) only [go_sem, g27_0, g27_1, a27_1, n27_1, g27_2, g27_3, g27_4, g27_5, g27_6, g27_7, g27_8, g27_9, i27, q2, Nat.reduceEqDiff, Nat.reduceAdd, Nat.reduceMul, Nat.reduceLeDiff, Nat.reduceBEq, Nat.reduceBNe, Int.reduceEq, ↓reduceIte, reduceCtorEq]
      refine draw_go n27_1 a27_1 (by decide +kernel) ?_
      simp (maxSteps := 9000000) -implicitDefEqProofs -dsimp (disch := omega) only [go_sem, n27_1, a27_1, q2, Nat.reduceEqDiff, Nat.reduceAdd, Nat.reduceMul, Nat.reduceLeDiff, Nat.reduceBEq, Nat.reduceBNe, Int.reduceEq, ↓reduceIte, reduceCtorEq]
      refine calla_go true M1 ?_
      simp (maxSteps := 9000000) -implicitDefEqProofs -dsimp (disch := omega) only [go_sem, n27_1, a27_1, q2, Nat.reduceEqDiff, Nat.reduceAdd, Nat.reduceMul, Nat.reduceLeDiff, Nat.reduceBEq, Nat.reduceBNe, Int.reduceEq, ↓reduceIte, reduceCtorEq]
      refine calla_go true M2 ?_
      simp (maxSteps := 9000000) -implicitDefEqProofs -dsimp (disch := omega) only [go_sem, n27_1, a27_1, q2, Nat.reduceEqDiff, Nat.reduceAdd, Nat.reduceMul, Nat.reduceLeDiff, Nat.reduceBEq, Nat.reduceBNe, Int.reduceEq, ↓reduceIte, reduceCtorEq]
      refine call_go true M3 ?_
      simp (maxSteps := 9000000) -implicitDefEqProofs -dsimp (disch := omega) only [go_sem, n27_1, a27_1, q2, Nat.reduceEqDiff, Nat.reduceAdd, Nat.reduceMul, Nat.reduceLeDiff, Nat.reduceBEq, Nat.reduceBNe, Int.reduceEq, ↓reduceIte, reduceCtorEq]
      refine loop_n g.n.length (fun i => ⟨[(25, .w (.one (.int .i64 (i : Nat)))), (24, .w (.one (.int .i64 g.n.length))), (23, .w (.one (.hs 3 [0] 0 2 g.n.length))), (1, .w (.one (.hp 3 [] 0))), (2, .w (.one (.bool false)))], [(3, .bx true [.sl false 2 g.n.length (ndR g.n), (.sl false 1 g.r.length (g.r.map (T.int .i64))), (.sl false 1 g.c.length (g.c.map (T.int .i64)))])], [.agg [.hs 0 [] 0 2 g.n.length, .hs 1 [] 0 1 g.r.length, .hs 2 [] 0 1 g.c.length]]⟩) (fun i => ∀ j, j < i → (g.n.getD j default).g = false → g.c.getD j default ≠ 0) ?_ (by omega) ?_
      · exact (imp_sub (by simp (maxSteps := 9000000) -implicitDefEqProofs -dsimp (disch := omega) only [go_sem, n27_1, a27_1, q2, Nat.reduceEqDiff, Nat.reduceAdd, Nat.reduceMul, Nat.reduceLeDiff, Nat.reduceBEq, Nat.reduceBNe, Int.reduceEq, ↓reduceIte, reduceCtorEq]) (by simp (maxSteps := 9000000) -implicitDefEqProofs -dsimp (disch := omega) only [go_sem, n27_1, a27_1, q2, Nat.reduceEqDiff, Nat.reduceAdd, Nat.reduceMul, Nat.reduceLeDiff, Nat.reduceBEq, Nat.reduceBNe, Int.reduceEq, ↓reduceIte, reduceCtorEq]) rfl)
      · intro i hi hJ
        simp (maxSteps := 9000000) -implicitDefEqProofs -dsimp (disch := omega) only [go_sem, n27_1, a27_1, Nat.reduceEqDiff, Nat.reduceAdd, Nat.reduceMul, Nat.reduceLeDiff, Nat.reduceBEq, Nat.reduceBNe, Int.reduceEq, ↓reduceIte, reduceCtorEq]
        refine brP_i (fun h1 => ?_) (fun h1 => ?_)
        · have hlt : i < g.n.length := by omega
          simp (maxSteps := 9000000) -implicitDefEqProofs -dsimp (disch := omega) only [go_sem, n27_1, a27_1, ndR_0 hlt, ndR_1 hlt, Nat.reduceEqDiff, Nat.reduceAdd, Nat.reduceMul, Nat.reduceLeDiff, Nat.reduceBEq, Nat.reduceBNe, Int.reduceEq, ↓reduceIte, reduceCtorEq]
          cases b2 : (g.n.getD i default).g with
          | true =>
            simp (maxSteps := 9000000) -implicitDefEqProofs -dsimp (disch := omega) only [go_sem, n27_1, a27_1, lt_T, lt_F, le_T, le_F, eq_T, eq_F, and_F, b2, Nat.reduceEqDiff, Nat.reduceAdd, Nat.reduceMul, Nat.reduceLeDiff, Nat.reduceBEq, Nat.reduceBNe, Int.reduceEq, ↓reduceIte, reduceCtorEq]
            refine ⟨⟨by omega, fun j hj => ?_⟩, (imp_sub (by simp (maxSteps := 9000000) -implicitDefEqProofs -dsimp (disch := omega) only [go_sem, n27_1, a27_1, q2, Nat.reduceEqDiff, Nat.reduceAdd, Nat.reduceMul, Nat.reduceLeDiff, Nat.reduceBEq, Nat.reduceBNe, Int.reduceEq, ↓reduceIte, reduceCtorEq]) (by simp (maxSteps := 9000000) -implicitDefEqProofs -dsimp (disch := omega) only [go_sem, n27_1, a27_1, q2, Nat.reduceEqDiff, Nat.reduceAdd, Nat.reduceMul, Nat.reduceLeDiff, Nat.reduceBEq, Nat.reduceBNe, Int.reduceEq, ↓reduceIte, reduceCtorEq]) rfl)⟩
            by_cases e : j = i
            · subst e; intro w; rw [b2] at w; simp at w
            · exact hJ j (by omega)
          | false =>
            by_cases b3 : g.c.getD i default = 0
            · simp (maxSteps := 9000000) -implicitDefEqProofs -dsimp (disch := omega) only [go_sem, n27_1, a27_1, lt_T, lt_F, le_T, le_F, eq_T, eq_F, and_F, b2, b3, Nat.reduceEqDiff, Nat.reduceAdd, Nat.reduceMul, Nat.reduceLeDiff, Nat.reduceBEq, Nat.reduceBNe, Int.reduceEq, ↓reduceIte, reduceCtorEq]
              exact need_i (res_F fun w => w.2.2 i hlt b2 b3) (by simp (maxSteps := 9000000) -implicitDefEqProofs -dsimp (disch := omega) only [go_sem, n27_1, a27_1, Nat.reduceEqDiff, Nat.reduceAdd, Nat.reduceMul, Nat.reduceLeDiff, Nat.reduceBEq, Nat.reduceBNe, Int.reduceEq, ↓reduceIte, reduceCtorEq])
            · simp (maxSteps := 9000000) -implicitDefEqProofs -dsimp (disch := omega) only [go_sem, n27_1, a27_1, lt_T, lt_F, le_T, le_F, eq_T, eq_F, and_F, b2, b3, Nat.reduceEqDiff, Nat.reduceAdd, Nat.reduceMul, Nat.reduceLeDiff, Nat.reduceBEq, Nat.reduceBNe, Int.reduceEq, ↓reduceIte, reduceCtorEq]
              refine ⟨⟨by omega, fun j hj => ?_⟩, (imp_sub (by simp (maxSteps := 9000000) -implicitDefEqProofs -dsimp (disch := omega) only [go_sem, n27_1, a27_1, q2, Nat.reduceEqDiff, Nat.reduceAdd, Nat.reduceMul, Nat.reduceLeDiff, Nat.reduceBEq, Nat.reduceBNe, Int.reduceEq, ↓reduceIte, reduceCtorEq]) (by simp (maxSteps := 9000000) -implicitDefEqProofs -dsimp (disch := omega) only [go_sem, n27_1, a27_1, q2, Nat.reduceEqDiff, Nat.reduceAdd, Nat.reduceMul, Nat.reduceLeDiff, Nat.reduceBEq, Nat.reduceBNe, Int.reduceEq, ↓reduceIte, reduceCtorEq]) rfl)⟩
              by_cases e : j = i
              · subst e; exact fun _ => b3
              · exact hJ j (by omega)
        · have hi2 : i = g.n.length := by omega
          subst hi2
          simp (maxSteps := 9000000) -implicitDefEqProofs -dsimp (disch := omega) only [go_sem, n27_1, a27_1, Nat.reduceEqDiff, Nat.reduceAdd, Nat.reduceMul, Nat.reduceLeDiff, Nat.reduceBEq, Nat.reduceBNe, Int.reduceEq, ↓reduceIte, reduceCtorEq]
          exact need_i (res_T ⟨hN, hC, hJ⟩) (by simp (maxSteps := 9000000) -implicitDefEqProofs -dsimp (disch := omega) only [go_sem, n27_1, a27_1, Nat.reduceEqDiff, Nat.reduceAdd, Nat.reduceMul, Nat.reduceLeDiff, Nat.reduceBEq, Nat.reduceBNe, Int.reduceEq, ↓reduceIte, reduceCtorEq])
    · rw [decide_eq_false hC] at M3
      refine meets_go (ir := i27) (fn := Try.f27) (rx := [(.tmp 2)]) rfl rfl (by rfl) (by rfl) (by exact Nat.le_of_ble_eq_true rfl) ?_
      simp (maxSteps := 9000000) -implicitDefEqProofs -dsimp (disch := omega) only [go_sem, g27_0, g27_1, a27_1, n27_1, g27_2, g27_3, g27_4, g27_5, g27_6, g27_7, g27_8, g27_9, i27, q2, Nat.reduceEqDiff, Nat.reduceAdd, Nat.reduceMul, Nat.reduceLeDiff, Nat.reduceBEq, Nat.reduceBNe, Int.reduceEq, ↓reduceIte, reduceCtorEq]
      refine draw_go n27_1 a27_1 (by decide +kernel) ?_
      simp (maxSteps := 9000000) -implicitDefEqProofs -dsimp (disch := omega) only [go_sem, n27_1, a27_1, q2, Nat.reduceEqDiff, Nat.reduceAdd, Nat.reduceMul, Nat.reduceLeDiff, Nat.reduceBEq, Nat.reduceBNe, Int.reduceEq, ↓reduceIte, reduceCtorEq]
      refine calla_go true M1 ?_
      simp (maxSteps := 9000000) -implicitDefEqProofs -dsimp (disch := omega) only [go_sem, n27_1, a27_1, q2, Nat.reduceEqDiff, Nat.reduceAdd, Nat.reduceMul, Nat.reduceLeDiff, Nat.reduceBEq, Nat.reduceBNe, Int.reduceEq, ↓reduceIte, reduceCtorEq]
      refine calla_go true M2 ?_
      simp (maxSteps := 9000000) -implicitDefEqProofs -dsimp (disch := omega) only [go_sem, n27_1, a27_1, q2, Nat.reduceEqDiff, Nat.reduceAdd, Nat.reduceMul, Nat.reduceLeDiff, Nat.reduceBEq, Nat.reduceBNe, Int.reduceEq, ↓reduceIte, reduceCtorEq]
      refine call_go true M3 ?_
      simp (maxSteps := 9000000) -implicitDefEqProofs -dsimp (disch := omega) only [go_sem, n27_1, a27_1, q2, Nat.reduceEqDiff, Nat.reduceAdd, Nat.reduceMul, Nat.reduceLeDiff, Nat.reduceBEq, Nat.reduceBNe, Int.reduceEq, ↓reduceIte, reduceCtorEq]
      exact need_i (res_F fun w => hC w.2.1) (by simp (maxSteps := 9000000) -implicitDefEqProofs -dsimp (disch := omega) only [go_sem, n27_1, a27_1, Nat.reduceEqDiff, Nat.reduceAdd, Nat.reduceMul, Nat.reduceLeDiff, Nat.reduceBEq, Nat.reduceBNe, Int.reduceEq, ↓reduceIte, reduceCtorEq])
  · rw [decide_eq_false hN] at M1
    refine meets_go (ir := i27) (fn := Try.f27) (rx := [(.tmp 2)]) rfl rfl (by rfl) (by rfl) (by exact Nat.le_of_ble_eq_true rfl) ?_
    simp (maxSteps := 9000000) -implicitDefEqProofs -dsimp (disch := omega) only [go_sem, g27_0, g27_1, a27_1, n27_1, g27_2, g27_3, g27_4, g27_5, g27_6, g27_7, g27_8, g27_9, i27, q2, Nat.reduceEqDiff, Nat.reduceAdd, Nat.reduceMul, Nat.reduceLeDiff, Nat.reduceBEq, Nat.reduceBNe, Int.reduceEq, ↓reduceIte, reduceCtorEq]
    refine draw_go n27_1 a27_1 (by decide +kernel) ?_
    simp (maxSteps := 9000000) -implicitDefEqProofs -dsimp (disch := omega) only [go_sem, n27_1, a27_1, q2, Nat.reduceEqDiff, Nat.reduceAdd, Nat.reduceMul, Nat.reduceLeDiff, Nat.reduceBEq, Nat.reduceBNe, Int.reduceEq, ↓reduceIte, reduceCtorEq]
    refine calla_go true M1 ?_
    simp (maxSteps := 9000000) -implicitDefEqProofs -dsimp (disch := omega) only [go_sem, n27_1, a27_1, q2, Nat.reduceEqDiff, Nat.reduceAdd, Nat.reduceMul, Nat.reduceLeDiff, Nat.reduceBEq, Nat.reduceBNe, Int.reduceEq, ↓reduceIte, reduceCtorEq]
    exact need_i (res_F fun w => hN w.1) (by simp (maxSteps := 9000000) -implicitDefEqProofs -dsimp (disch := omega) only [go_sem, n27_1, a27_1, Nat.reduceEqDiff, Nat.reduceAdd, Nat.reduceMul, Nat.reduceLeDiff, Nat.reduceBEq, Nat.reduceBNe, Int.reduceEq, ↓reduceIte, reduceCtorEq])
end Go.Proofs.YtdhclelfnbjikaaT

/- Functions of the program as contracts: nodes that are there. No condition. -/
set_option maxRecDepth 100000
set_option maxHeartbeats 8000000
set_option linter.unusedSimpArgs false
set_option linter.unusedVariables false
namespace Go.Proofs.YtdhclelfnbjikaaT
open Go Go.RowKit
def ThereG (g : Gr) (k : Int) : Prop := GoodG g ∧ HoldOk g.n g.n.length k
noncomputable instance (g : Gr) (k : Int) : Decidable (ThereG g k) := Classical.propDecidable _
def g70_0 : List Gop := [⟨none, (some 2), (.box (.t 0))⟩, ⟨none, (some 4), (.mov (.k (.one (.bool .false))))⟩]
def g70_1 : List Gop := [⟨none, (some 5), (.load (some 3) (.t 2))⟩, ⟨none, (some 6), (.call 25 [(.t 5)])⟩, ⟨none, (some 7), (.mov (.t 6))⟩, ⟨(some (7, .true)), (some 8), (.mov (.t 1))⟩, ⟨(some (7, .true)), (some 9), (.bin .geq (.t 8) (.k (.one (.int .i64 0))))⟩, ⟨none, (some 10), (.pick (.t 7) (.t 9) (.k (.one (.bool .false))))⟩, ⟨none, (some 11), (.mov (.t 10))⟩, ⟨(some (11, .true)), (some 12), (.mov (.t 1))⟩, ⟨(some (11, .true)), (some 13), (.faddr (.t 2) 0)⟩, ⟨(some (11, .true)), (some 14), (.load none (.t 13))⟩, ⟨(some (11, .true)), (some 15), (.len (.t 14))⟩, ⟨(some (11, .true)), (some 16), (.bin .lss (.t 12) (.t 15))⟩, ⟨none, (some 17), (.pick (.t 11) (.t 16) (.k (.one (.bool .false))))⟩, ⟨none, (some 18), (.mov (.t 17))⟩, ⟨(some (18, .true)), (some 19), (.faddr (.t 2) 0)⟩, ⟨(some (18, .true)), (some 20), (.load none (.t 19))⟩, ⟨(some (18, .true)), (some 21), (.mov (.t 1))⟩, ⟨(some (18, .true)), (some 22), (.iaddr 2 (.t 20) (.t 21))⟩, ⟨(some (18, .true)), (some 23), (.faddr (.t 22) 1)⟩, ⟨(some (18, .true)), (some 24), (.load none (.t 23))⟩, ⟨(some (18, .true)), (some 25), (.un .not (.t 24))⟩, ⟨none, (some 26), (.pick (.t 18) (.t 25) (.k (.one (.bool .false))))⟩, ⟨none, (some 4), (.mov (.t 26))⟩]
def i70 : Ir := (.seq (.region g70_0) (.seq (.region g70_1) .ret))
theorem l10There_ok (g : Gr) (k : Int) (hn : g.n.length ≤ 1048576) (hh : ∀ x ∈ g.n, x.h.length ≤ 1048576) (hr : g.r.length ≤ 1048576) (hc : g.c.length ≤ 1048576) : Meets Try.prog 70 [.agg [.sl false 2 g.n.length (ndR g.n), (.sl false 1 g.r.length (g.r.map (T.int .i64))), (.sl false 1 g.c.length (g.c.map (T.int .i64)))], .one (.int .i64 k)] (.w (.one (.bool (decide (ThereG g k))))) [.agg [.hole, .hole, .hole], .one .hole] := by
  have q2 := ndR_cut (l := g.n)
  have M1 := specGoodGraph_ok g hn hh hr hc
  by_cases hG : GoodG g
  · rw [decide_eq_true hG] at M1
    refine meets_go (ir := i70) (fn := Try.f70) (rx := [(.tmp 4)]) rfl rfl (by rfl) (by rfl) (by exact Nat.le_of_ble_eq_true rfl) ?_
    simp (maxSteps := 9000000) -implicitDefEqProofs -dsimp (disch := omega) only [go_sem, g70_0, g70_1, i70, q2, Nat.reduceEqDiff, Nat.reduceAdd, Nat.reduceMul, Nat.reduceLeDiff, Nat.reduceBEq, Nat.reduceBNe, Int.reduceEq, ↓reduceIte, reduceCtorEq]
    refine call_go true M1 ?_
    by_cases h1 : 0 ≤ k
    · by_cases h2 : k < g.n.length
      · have a3 : k.toNat < g.n.length := by omega
        have a4 : (k.toNat : Int) = k := Int.toNat_of_nonneg (by omega)
        cases hg : (g.n.getD k.toNat default).g with
        | true =>
          simp (maxSteps := 9000000) -implicitDefEqProofs -dsimp (disch := omega) only [go_sem, lt_T, lt_F, le_T, le_F, eq_T, eq_F, and_F, q2, h1, h2, ndR_1 a3, hg, Nat.reduceEqDiff, Nat.reduceAdd, Nat.reduceMul, Nat.reduceLeDiff, Nat.reduceBEq, Nat.reduceBNe, Int.reduceEq, ↓reduceIte, reduceCtorEq]
          exact need_i (res_F fun w => by have := w.2.2.2; rw [hg] at this; simp at this) (by simp (maxSteps := 9000000) -implicitDefEqProofs -dsimp (disch := omega) only [go_sem, Nat.reduceEqDiff, Nat.reduceAdd, Nat.reduceMul, Nat.reduceLeDiff, Nat.reduceBEq, Nat.reduceBNe, Int.reduceEq, ↓reduceIte, reduceCtorEq])
        | false =>
          simp (maxSteps := 9000000) -implicitDefEqProofs -dsimp (disch := omega) only [go_sem, lt_T, lt_F, le_T, le_F, eq_T, eq_F, and_F, q2, h1, h2, ndR_1 a3, hg, Nat.reduceEqDiff, Nat.reduceAdd, Nat.reduceMul, Nat.reduceLeDiff, Nat.reduceBEq, Nat.reduceBNe, Int.reduceEq, ↓reduceIte, reduceCtorEq]
          exact need_i (res_T ⟨hG, h1, h2, hg⟩) (by simp (maxSteps := 9000000) -implicitDefEqProofs -dsimp (disch := omega) only [go_sem, Nat.reduceEqDiff, Nat.reduceAdd, Nat.reduceMul, Nat.reduceLeDiff, Nat.reduceBEq, Nat.reduceBNe, Int.reduceEq, ↓reduceIte, reduceCtorEq])
      · simp (maxSteps := 9000000) -implicitDefEqProofs -dsimp (disch := omega) only [go_sem, lt_T, lt_F, le_T, le_F, eq_T, eq_F, and_F, q2, h1, h2, Nat.reduceEqDiff, Nat.reduceAdd, Nat.reduceMul, Nat.reduceLeDiff, Nat.reduceBEq, Nat.reduceBNe, Int.reduceEq, ↓reduceIte, reduceCtorEq]
        exact need_i (res_F fun w => h2 w.2.2.1) (by simp (maxSteps := 9000000) -implicitDefEqProofs -dsimp (disch := omega) only [go_sem, Nat.reduceEqDiff, Nat.reduceAdd, Nat.reduceMul, Nat.reduceLeDiff, Nat.reduceBEq, Nat.reduceBNe, Int.reduceEq, ↓reduceIte, reduceCtorEq])
    · simp (maxSteps := 9000000) -implicitDefEqProofs -dsimp (disch := omega) only [go_sem, lt_T, lt_F, le_T, le_F, eq_T, eq_F, and_F, q2, h1, Nat.reduceEqDiff, Nat.reduceAdd, Nat.reduceMul, Nat.reduceLeDiff, Nat.reduceBEq, Nat.reduceBNe, Int.reduceEq, ↓reduceIte, reduceCtorEq]
      exact need_i (res_F fun w => h1 w.2.1) (by simp (maxSteps := 9000000) -implicitDefEqProofs -dsimp (disch := omega) only [go_sem, Nat.reduceEqDiff, Nat.reduceAdd, Nat.reduceMul, Nat.reduceLeDiff, Nat.reduceBEq, Nat.reduceBNe, Int.reduceEq, ↓reduceIte, reduceCtorEq])
  · rw [decide_eq_false hG] at M1
    refine meets_go (ir := i70) (fn := Try.f70) (rx := [(.tmp 4)]) rfl rfl (by rfl) (by rfl) (by exact Nat.le_of_ble_eq_true rfl) ?_
    simp (maxSteps := 9000000) -implicitDefEqProofs -dsimp (disch := omega) only [go_sem, g70_0, g70_1, i70, q2, Nat.reduceEqDiff, Nat.reduceAdd, Nat.reduceMul, Nat.reduceLeDiff, Nat.reduceBEq, Nat.reduceBNe, Int.reduceEq, ↓reduceIte, reduceCtorEq]
    refine call_go true M1 ?_
    simp (maxSteps := 9000000) -implicitDefEqProofs -dsimp (disch := omega) only [go_sem, q2, Nat.reduceEqDiff, Nat.reduceAdd, Nat.reduceMul, Nat.reduceLeDiff, Nat.reduceBEq, Nat.reduceBNe, Int.reduceEq, ↓reduceIte, reduceCtorEq]
    exact need_i (res_F fun w => hG w.1) (by simp (maxSteps := 9000000) -implicitDefEqProofs -dsimp (disch := omega) only [go_sem, Nat.reduceEqDiff, Nat.reduceAdd, Nat.reduceMul, Nat.reduceLeDiff, Nat.reduceBEq, Nat.reduceBNe, Int.reduceEq, ↓reduceIte, reduceCtorEq])
def g88_0 : List Gop := [⟨none, (some 3), (.mov (.k (.one (.bool .false))))⟩]
def g88_1 : List Gop := [⟨none, (some 4), (.mov (.t 0))⟩, ⟨none, (some 5), (.faddr (.t 1) 0)⟩, ⟨none, (some 6), (.load none (.t 5))⟩, ⟨none, (some 7), (.len (.t 6))⟩, ⟨none, (some 8), (.bin .sub (.t 7) (.k (.one (.int .i64 1))))⟩, ⟨none, (some 9), (.call 75 [(.t 4), (.k (.one (.int .i64 0))), (.t 8)])⟩, ⟨none, (some 10), (.un .not (.t 9))⟩, ⟨none, (some 11), (.mov (.t 10))⟩, ⟨(some (11, .false)), (some 12), (.faddr (.t 1) 0)⟩, ⟨(some (11, .false)), (some 13), (.load none (.t 12))⟩, ⟨(some (11, .false)), (some 14), (.mov (.t 0))⟩, ⟨(some (11, .false)), (some 15), (.iaddr 2 (.t 13) (.t 14))⟩, ⟨(some (11, .false)), (some 16), (.faddr (.t 15) 1)⟩, ⟨(some (11, .false)), (some 17), (.load none (.t 16))⟩, ⟨none, (some 18), (.pick (.t 11) (.k (.one (.bool .true))) (.t 17))⟩, ⟨none, (some 3), (.mov (.t 18))⟩]
def i88 : Ir := (.seq (.region g88_0) (.seq (.region g88_1) .ret))
theorem unthere_ok (g : Gr) (x : Int) (hn : g.n.length ≤ 1048576) : Meets Try.prog 88 [.one (.int .i64 x), .one (.bx false [.sl false 2 g.n.length (ndR g.n), (.sl false 1 g.r.length (g.r.map (T.int .i64))), (.sl false 1 g.c.length (g.c.map (T.int .i64)))])] (.w (.one (.bool (decide (¬ HoldOk g.n g.n.length x))))) [.one .hole, .one .hole] := by
  refine meets_go (ir := i88) (fn := Try.f88) (rx := [(.tmp 3)]) rfl rfl (by rfl) (by rfl) (by exact Nat.le_of_ble_eq_true rfl) ?_
  simp (maxSteps := 9000000) -implicitDefEqProofs -dsimp (disch := omega) only [go_sem, g88_0, g88_1, i88, Nat.reduceEqDiff, Nat.reduceAdd, Nat.reduceMul, Nat.reduceLeDiff, Nat.reduceBEq, Nat.reduceBNe, Int.reduceEq, ↓reduceIte, reduceCtorEq]
  refine call_go true (within_ok x 0 ((g.n.length : Int) - 1)) ?_
  by_cases h : 0 ≤ x ∧ x ≤ (g.n.length : Int) - 1
  · have a3 : x.toNat < g.n.length := by omega
    have a4 : (x.toNat : Int) = x := Int.toNat_of_nonneg (by omega)
    simp (maxSteps := 9000000) -implicitDefEqProofs -dsimp (disch := omega) only [go_sem, h, ndR_1 a3, Nat.reduceEqDiff, Nat.reduceAdd, Nat.reduceMul, Nat.reduceLeDiff, Nat.reduceBEq, Nat.reduceBNe, Int.reduceEq, ↓reduceIte, reduceCtorEq]
    cases hg : (g.n.getD x.toNat default).g with
    | true => exact need_i (res_T fun q => by rw [q.2.2] at hg; simp at hg) (by simp (maxSteps := 9000000) -implicitDefEqProofs -dsimp (disch := omega) only [go_sem, Nat.reduceEqDiff, Nat.reduceAdd, Nat.reduceMul, Nat.reduceLeDiff, Nat.reduceBEq, Nat.reduceBNe, Int.reduceEq, ↓reduceIte, reduceCtorEq])
    | false => exact need_i (res_F fun q => q ⟨by omega, by omega, hg⟩) (by simp (maxSteps := 9000000) -implicitDefEqProofs -dsimp (disch := omega) only [go_sem, Nat.reduceEqDiff, Nat.reduceAdd, Nat.reduceMul, Nat.reduceLeDiff, Nat.reduceBEq, Nat.reduceBNe, Int.reduceEq, ↓reduceIte, reduceCtorEq])
  · simp (maxSteps := 9000000) -implicitDefEqProofs -dsimp (disch := omega) only [go_sem, h, Nat.reduceEqDiff, Nat.reduceAdd, Nat.reduceMul, Nat.reduceLeDiff, Nat.reduceBEq, Nat.reduceBNe, Int.reduceEq, ↓reduceIte, reduceCtorEq]
    exact need_i (res_T fun q => h ⟨q.1, by have := q.2.1; omega⟩) (by simp (maxSteps := 9000000) -implicitDefEqProofs -dsimp (disch := omega) only [go_sem, Nat.reduceEqDiff, Nat.reduceAdd, Nat.reduceMul, Nat.reduceLeDiff, Nat.reduceBEq, Nat.reduceBNe, Int.reduceEq, ↓reduceIte, reduceCtorEq])
def TheresG (g : Gr) (l : List Int) : Prop := GoodG g ∧ ∀ y ∈ l, HoldOk g.n g.n.length y
noncomputable instance (g : Gr) (l : List Int) : Decidable (TheresG g l) := Classical.propDecidable _
def g71_0 : List Gop := [⟨none, (some 2), (.box (.t 0))⟩, ⟨none, (some 4), (.mov (.k (.one (.bool .false))))⟩]
def g71_1 : List Gop := [⟨none, (some 5), (.load (some 3) (.t 2))⟩, ⟨none, (some 6), (.call 27 [(.t 5)])⟩, ⟨none, (some 7), (.mov (.t 6))⟩, ⟨(some (7, .true)), (some 8), (.mov (.t 1))⟩, ⟨(some (7, .true)), (some 9), (.mkf 88 [(.t 2)])⟩, ⟨(some (7, .true)), (some 10), (.call 82 [(.t 8), (.t 9)])⟩, ⟨(some (7, .true)), (some 11), (.un .not (.t 10))⟩, ⟨none, (some 12), (.pick (.t 7) (.t 11) (.k (.one (.bool .false))))⟩, ⟨none, (some 4), (.mov (.t 12))⟩]
def i71 : Ir := (.seq (.region g71_0) (.seq (.region g71_1) .ret))
theorem isThere_ok (g : Gr) (l : List Int) (hl : l.length ≤ 1048576) (hn : g.n.length ≤ 1048576) (hh : ∀ x ∈ g.n, x.h.length ≤ 1048576) (hr : g.r.length ≤ 1048576) (hc : g.c.length ≤ 1048576) : Meets Try.prog 71 [.agg [.sl false 2 g.n.length (ndR g.n), (.sl false 1 g.r.length (g.r.map (T.int .i64))), (.sl false 1 g.c.length (g.c.map (T.int .i64)))], .one (.sl false 1 l.length (l.map (T.int .i64)))] (.w (.one (.bool (decide (TheresG g l))))) [.agg [.hole, .hole, .hole], .one .hole] := by
  have q2 := ndR_cut (l := g.n)
  have M1 := implGoodGraph_ok g hn hh hr hc
  by_cases hG : GoodG g
  · rw [decide_eq_true hG] at M1
    have C := containsFunc_ok l 88 [.sl false 2 g.n.length (ndR g.n), (.sl false 1 g.r.length (g.r.map (T.int .i64))), (.sl false 1 g.c.length (g.c.map (T.int .i64)))] (fun x => decide (¬ HoldOk g.n g.n.length x)) hl ⟨_, rfl, rfl, by decide⟩ (fun x hx => unthere_ok g x hn)
    by_cases q : ∀ y ∈ l, HoldOk g.n g.n.length y
    · rw [show (l.any fun x => decide (¬ HoldOk g.n g.n.length x)) = false by rw [← Bool.not_eq_true, any_not]; exact fun w => w q] at C
      refine meets_go (ir := i71) (fn := Try.f71) (rx := [(.tmp 4)]) rfl rfl (by rfl) (by rfl) (by exact Nat.le_of_ble_eq_true rfl) ?_
      simp (maxSteps := 9000000) -implicitDefEqProofs -dsimp (disch := omega) only [go_sem, g71_0, g71_1, i71, q2, Nat.reduceEqDiff, Nat.reduceAdd, Nat.reduceMul, Nat.reduceLeDiff, Nat.reduceBEq, Nat.reduceBNe, Int.reduceEq, ↓reduceIte, reduceCtorEq]
      refine call_go true M1 ?_
      simp (maxSteps := 9000000) -implicitDefEqProofs -dsimp (disch := omega) only [go_sem, q2, ndR_ro, Nat.reduceEqDiff, Nat.reduceAdd, Nat.reduceMul, Nat.reduceLeDiff, Nat.reduceBEq, Nat.reduceBNe, Int.reduceEq, ↓reduceIte, reduceCtorEq]
      refine call_go true C ?_
      simp (maxSteps := 9000000) -implicitDefEqProofs -dsimp (disch := omega) only [go_sem, q2, ndR_ro, Nat.reduceEqDiff, Nat.reduceAdd, Nat.reduceMul, Nat.reduceLeDiff, Nat.reduceBEq, Nat.reduceBNe, Int.reduceEq, ↓reduceIte, reduceCtorEq]
      exact need_i (res_T ⟨hG, q⟩) (by simp (maxSteps := 9000000) -implicitDefEqProofs -dsimp (disch := omega) only [go_sem, Nat.reduceEqDiff, Nat.reduceAdd, Nat.reduceMul, Nat.reduceLeDiff, Nat.reduceBEq, Nat.reduceBNe, Int.reduceEq, ↓reduceIte, reduceCtorEq])
    · rw [show (l.any fun x => decide (¬ HoldOk g.n g.n.length x)) = true from any_not.2 q] at C
      refine meets_go (ir := i71) (fn := Try.f71) (rx := [(.tmp 4)]) rfl rfl (by rfl) (by rfl) (by exact Nat.le_of_ble_eq_true rfl) ?_
      simp (maxSteps := 9000000) -implicitDefEqProofs -dsimp (disch := omega) only [go_sem, g71_0, g71_1, i71, q2, Nat.reduceEqDiff, Nat.reduceAdd, Nat.reduceMul, Nat.reduceLeDiff, Nat.reduceBEq, Nat.reduceBNe, Int.reduceEq, ↓reduceIte, reduceCtorEq]
      refine call_go true M1 ?_
      simp (maxSteps := 9000000) -implicitDefEqProofs -dsimp (disch := omega) only [go_sem, q2, ndR_ro, Nat.reduceEqDiff, Nat.reduceAdd, Nat.reduceMul, Nat.reduceLeDiff, Nat.reduceBEq, Nat.reduceBNe, Int.reduceEq, ↓reduceIte, reduceCtorEq]
      refine call_go true C ?_
      simp (maxSteps := 9000000) -implicitDefEqProofs -dsimp (disch := omega) only [go_sem, q2, ndR_ro, Nat.reduceEqDiff, Nat.reduceAdd, Nat.reduceMul, Nat.reduceLeDiff, Nat.reduceBEq, Nat.reduceBNe, Int.reduceEq, ↓reduceIte, reduceCtorEq]
      exact need_i (res_F fun w => q w.2) (by simp (maxSteps := 9000000) -implicitDefEqProofs -dsimp (disch := omega) only [go_sem, Nat.reduceEqDiff, Nat.reduceAdd, Nat.reduceMul, Nat.reduceLeDiff, Nat.reduceBEq, Nat.reduceBNe, Int.reduceEq, ↓reduceIte, reduceCtorEq])
  · rw [decide_eq_false hG] at M1
    refine meets_go (ir := i71) (fn := Try.f71) (rx := [(.tmp 4)]) rfl rfl (by rfl) (by rfl) (by exact Nat.le_of_ble_eq_true rfl) ?_
    simp (maxSteps := 9000000) -implicitDefEqProofs -dsimp (disch := omega) only [go_sem, g71_0, g71_1, i71, q2, Nat.reduceEqDiff, Nat.reduceAdd, Nat.reduceMul, Nat.reduceLeDiff, Nat.reduceBEq, Nat.reduceBNe, Int.reduceEq, ↓reduceIte, reduceCtorEq]
    refine call_go true M1 ?_
    simp (maxSteps := 9000000) -implicitDefEqProofs -dsimp (disch := omega) only [go_sem, q2, Nat.reduceEqDiff, Nat.reduceAdd, Nat.reduceMul, Nat.reduceLeDiff, Nat.reduceBEq, Nat.reduceBNe, Int.reduceEq, ↓reduceIte, reduceCtorEq]
    exact need_i (res_F fun w => hG w.1) (by simp (maxSteps := 9000000) -implicitDefEqProofs -dsimp (disch := omega) only [go_sem, Nat.reduceEqDiff, Nat.reduceAdd, Nat.reduceMul, Nat.reduceLeDiff, Nat.reduceBEq, Nat.reduceBNe, Int.reduceEq, ↓reduceIte, reduceCtorEq])
end Go.Proofs.YtdhclelfnbjikaaT

/- slices.Delete at []int: a walk of its own at this program, for one element and any room, and its contract. No condition. -/
set_option maxRecDepth 1000000
set_option maxHeartbeats 8000000
set_option linter.unusedSimpArgs false
set_option linter.unusedVariables false
namespace Go.Proofs.YtdhclelfnbjikaaT
open Go Go.RowKit Go.Lib
/-- the row's tail, as it is moved -/
def tailV (l : List Int) (i : Nat) : List Value := (l.drop (i + 1)).map (Value.int .i64)
theorem tailV_len {l : List Int} {i : Nat} : (tailV l i).length = l.length - (i + 1) := by simp [tailV]
theorem tailV_get {l : List Int} {i t : Nat} : (tailV l i)[t]? = (l[i + 1 + t]?).map (Value.int .i64) := by simp [tailV]
theorem del_calls (b o cap i j : Nat) (l : List Int) (w : World) (hj : j = i + 1) (hi : i < l.length) (hl : l.length ≤ 1048576) (hcap : l.length ≤ cap)
    (hc : ∀ j x, l[j]? = some x → w.cell? ⟨b, o + j, none⟩ = some (.int .i64 x)) (hf : ∀ j, j < l.length → w.frozen? ⟨b, o + j, none⟩ = false) :
    Calls Try.prog 76 #[.slice (some ⟨b, o, none⟩) l.length cap, .int .i64 i, .int .i64 (j : Nat)] w fun e w' =>
      e = .returned (.slice (some ⟨b, o, none⟩) (l.length - 1) cap) ∧ w' = (w.drew.setCells b (o + i * 1) (tailV l i)).setCells b (o + (i + (l.length - j))) [.int .i64 0] := by
  obtain ⟨i0, hi0, hz0, hz1, hz2⟩ := info_parts Try.laysNm223.i3
  obtain ⟨A, hA, hsrc⟩ : ∃ A : Addr, (if cap = j then some (⟨b, o, none⟩ : Addr) else some ⟨b, o + j, none⟩) = some A ∧ Hid (∀ t u, (tailV l i)[t]? = some u → w.drew.cell? (A.add t) = some u) := by
    subst hj
    by_cases h : cap = i + 1
    · refine ⟨⟨b, o, none⟩, by simp [h], fun t u hu => ?_⟩
      have := (List.getElem?_eq_some_iff.1 hu).1
      rw [tailV_len] at this; omega
    · refine ⟨⟨b, o + (i + 1), none⟩, by simp [h], fun t u hu => ?_⟩
      rw [tailV_get, Option.map_eq_some_iff] at hu
      obtain ⟨x, hx, rfl⟩ := hu
      rw [Addr.add_lit, show o + (i + 1) + t = o + (i + 1 + t) by omega]
      exact hc _ x hx
  have s1 : Hid ((tailV l i).length = (l.length - j) * 1) := by rw [Nat.mul_one, hj]; exact tailV_len
  have s2 : Hid (∀ u ∈ tailV l i, u.oneCell' = true) := by
    intro u hu
    obtain ⟨x, _, rfl⟩ := List.mem_map.1 hu
    rfl
  have hsome : ∀ j, j < l.length → w.cell? ⟨b, o + j, none⟩ = some (.int .i64 (l.getD j 0)) := fun j hj => hc j _ (by simp [List.getD_eq_getElem?_getD, hj])
  have s3 : Hid (∀ t, t < (tailV l i).length → (w.drew.cell? ⟨b, o + i * 1 + t, none⟩).isSome = true ∧ w.drew.frozen? ⟨b, o + i * 1 + t, none⟩ = false) := by
    intro t ht
    rw [tailV_len] at ht
    rw [Nat.mul_one, Nat.add_assoc]
    exact ⟨by show (w.cell? _).isSome = true; rw [hsome _ (by omega)]; rfl, hf _ (by omega)⟩
  obtain ⟨W1, hW1⟩ : ∃ W1, W1 = w.drew.setCells b (o + i * 1) (tailV l i) := ⟨_, rfl⟩
  have hlast : (W1.cell? ⟨b, o + (i + (l.length - j)), none⟩).isSome = true := by
    rw [hW1, World.cell?_setCells_out b _ _ _ _ (fun _ _ => .inr (by rw [tailV_len]; simp only; omega))]
    show (w.cell? _).isSome = true
    rw [hsome _ (by omega)]; rfl
  have hlastf : W1.frozen? ⟨b, o + (i + (l.length - j)), none⟩ = false := by
    rw [hW1]
    exact (World.frozen?_setCells b _ _ _ _).trans (hf _ (by omega))
  have hcl : ∀ ty, (Builtin.clear_ #[23] ty #[.slice (some ⟨b, o + (i + (l.length - j)), none⟩) (l.length - (i + (l.length - j))) (cap - (i + (l.length - j)))]).run Try.prog W1 = .ok (.tuple #[]) (W1.setCells b (o + (i + (l.length - j))) [.int .i64 0]) := by
    intro ty
    have e1 : l.length - (i + (l.length - j)) = 1 := by omega
    rw [e1]
    exact Lib.run_clear_slice W1 _ _ ty _ Try.underlying23 Try.zeroValue3 rfl rfl b (o + (i + (l.length - j))) 1 _ (by omega) (fun t ht => by rw [show t = 0 by omega]; exact hlast) (fun t ht => by rw [show t = 0 by omega]; exact hlastf)
  have hW : Hid (W1 = w.drew.setCells b (o + i * 1) (tailV l i)) := hW1
  have hic : i ≤ cap := by omega
  have hjc : j ≤ cap := by omega
  have hjl : j ≤ l.length := by omega
  have hij : i ≤ j := by omega
  have hlt : i < j := by omega
  have heq : ¬ i = j := by omega
  have mixed := Try.laysNm223.mixed
  have hj2 : Hid (j = i + 1) := hj
  clear hW1 hc hf hsome hlast hlastf hj
  go_enter Try.func76, Try.ntmps76
  go_wp2_with fail
  go_region_law_o (refine step_append_room rfl (.tmp 22) (.tmp 25) 23 rfl 3 i0 1 Try.underlying23 hi0 hz1 b o i cap (by simp [Act.eval, Act.put]) A (l.length - j) (cap - j) (tailV l i) (by simp [Act.eval, Act.put]) s1.out hsrc.out s2.out (by omega) s3.out ?_; rw [← hW.out])
  go_wp2
  go_ret
  have hj3 := hj2.out
  exact ⟨by rw [show i + (l.length - j) = l.length - 1 by omega]; rfl, by rw [hW.out]⟩
/-- a row without the one at a place -/
def delF (l : List Int) (i : Nat) : List Int := l.take i ++ l.drop (i + 1)
theorem delF_len {l : List Int} {i : Nat} (h : i < l.length) : (delF l i).length = l.length - 1 := by simp only [delF, List.length_append, List.length_take, List.length_drop]; omega
theorem delF_get {l : List Int} {i : Nat} (hi : i < l.length) (j : Nat) : (delF l i)[j]? = if j < i then l[j]? else l[j + 1]? := by
  unfold delF
  have hm : min i l.length = i := by omega
  by_cases h : j < i
  · rw [if_pos h, List.getElem?_append_left (by rw [List.length_take]; omega), List.getElem?_take_of_lt h]
  · rw [if_neg h, List.getElem?_append_right (by rw [List.length_take]; omega), List.getElem?_drop, List.length_take, hm, show i + 1 + (j - i) = j + 1 by omega]
theorem delInt_ok (l : List Int) (i : Nat) (hi : i < l.length) (hl : l.length ≤ 1048576) : Meets Try.prog 76 [.one (.sl true 1 l.length (l.map (T.int .i64))), .one (.int .i64 i), .one (.int .i64 ((i : Int) + 1))] (.w (.one (.sl true 1 (delF l i).length ((delF l i).map (T.int .i64))))) [.one .hole, .one .hole, .one .hole] := by
  intro w ro args F hargs hnd hnro hlt
  simp only [RTWL, RTW] at hargs
  obtain ⟨v, vs', F1, F2, rfl, hr, ⟨v2, vs2, F3, F4, rfl, hr2, ⟨v3, vs3, F5, F6, rfl, hr3, ⟨rfl, rfl⟩, rfl⟩, rfl⟩, rfl⟩ := hargs
  simp only [Rep] at hr2 hr3
  obtain ⟨rfl, rfl⟩ := hr2
  obtain ⟨rfl, rfl⟩ := hr3
  simp only [Rep] at hr
  rcases hr with ⟨h2, _⟩ | ⟨b, o, cap, F', rfl, h2, h3, h4, h5⟩
  · omega
  obtain ⟨rfl, hc⟩ := repL_out (fInt .i64) h5
  have h4' := h4
  obtain ⟨hb, h6⟩ := h4
  simp only [if_true] at h6
  obtain ⟨rfl, arr, e, fr, hh, ha, hfr⟩ := h6
  have hf : ∀ j, j < l.length → w.frozen? ⟨b, o + j, none⟩ = false := fun j hj => hfr _ (by omega)
  simp only [List.append_nil] at *
  have := del_calls b o cap i (i + 1) l w rfl hi hl h2.1 (fun j x hj => hc j x hj) hf
  rw [show ((i + 1 : Nat) : Int) = (i : Int) + 1 by omega] at this
  refine this.mono ?_
  rintro e' w' ⟨rfl, rfl⟩
  generalize hW1 : w.drew.setCells b (o + i * 1) (tailV l i) = W1
  have S0 : Since w [b] w.drew := ⟨rfl, rfl, rfl, Nat.le_refl _, fun _ _ _ => rfl, fun _ _ => rfl⟩
  have S1 : Since w [b] W1 := hW1 ▸ S0.trans (since_setCells b _ _ _) (fun x hx => .inl hx)
  have S : Since w [b] (W1.setCells b (o + (i + (l.length - (i + 1)))) [.int .i64 0]) := S1.trans (since_setCells b _ _ _) (fun x hx => .inl hx)
  have B1 : Blk W1 ro true b o (cap * 1) [b] [] := by
    rw [← hW1]
    refine Blk.setCells b _ _ _ ?_
    exact h4'
  have B : Blk (W1.setCells b (o + (i + (l.length - (i + 1)))) [.int .i64 0]) ro true b o (cap * 1) [b] [] := Blk.setCells b _ _ _ B1
  have hsome : ∀ j, j < l.length → w.cell? ⟨b, o + j, none⟩ = some (.int .i64 (l.getD j 0)) := fun j hj => hc j _ (by simp [List.getD_eq_getElem?_getD, hj])
  have hcells : ∀ j x, (delF l i)[j]? = some x → (W1.setCells b (o + (i + (l.length - (i + 1)))) [.int .i64 0]).cell? ⟨b, o + j, none⟩ = some (.int .i64 x) := by
    intro j x hj
    have hjl : j < l.length - 1 := by have := (List.getElem?_eq_some_iff.1 hj).1; rwa [delF_len hi] at this
    rw [World.cell?_setCells_out b _ _ _ _ (fun _ _ => .inl (by simp only; omega)), ← hW1]
    rw [delF_get hi] at hj
    split at hj
    · rw [World.cell?_setCells_out b _ _ _ _ (fun _ _ => .inl (by simp only; omega))]
      exact hc j x hj
    · have hlt : j - i < (tailV l i).length := by rw [tailV_len]; omega
      have := World.cell?_setCells_in b (tailV l i) (o + i * 1) w.drew (fun t ht => by
        rw [tailV_len] at ht
        rw [show o + i * 1 + t = o + (i + t) by omega]
        show (w.cell? _).isSome = true
        rw [hsome _ (by omega)]; rfl) (j - i) hlt
      rw [show o + i * 1 + (j - i) = o + j by omega] at this
      rw [this]
      have e2 := tailV_get (l := l) (i := i) (t := j - i)
      rw [show i + 1 + (j - i) = j + 1 by omega, hj, List.getElem?_eq_getElem hlt] at e2
      exact e2
  refine ⟨_, ro, [b], [], rfl, ?_, ?_, by simp, by simpa using hnro, fun x hx => .inl (by simpa using hx), fun _ h => h, fun _ h => .inl h, fun x hx => Nat.lt_of_lt_of_le (hlt x hx) S.size, by simpa using S⟩
  · simp only [RTV, RTW, Rep]
    refine .inr ⟨b, o, cap, [], ?_, ⟨by rw [delF_len hi]; omega, by omega⟩, by simp, B, repL_in (fInt .i64) hcells⟩
    rw [delF_len hi]
  · simp only [RTWL, RTW]
    exact ⟨_, _, [], [], rfl, by simp only [Rep], ⟨_, _, [], [], rfl, by simp only [Rep], ⟨_, _, [], [], rfl, by simp only [Rep], ⟨rfl, rfl⟩, rfl⟩, rfl⟩, rfl⟩
end Go.Proofs.YtdhclelfnbjikaaT

/- Functions of the program as contracts: graphs in new memory. No condition. -/
set_option maxRecDepth 100000
set_option maxHeartbeats 8000000
set_option linter.unusedSimpArgs false
set_option linter.unusedVariables false
namespace Go.Proofs.YtdhclelfnbjikaaT
open Go Go.RowKit
theorem cloneInt_ok (l : List Int) (hl : l.length ≤ 1048576) : Meets Try.prog 86 [.one (.sl false 1 l.length (l.map (T.int .i64)))] (.w (.one (.sl true 1 l.length (l.map (T.int .i64))))) [.one .hole] := by
  refine clone_meets (fInt .i64) (e := 3) (fun hz b o c w hc => ?_) (fun hz a c w => ?_)
  · refine (Try.slices_Clone_int b o l.length c l w (Nat.le_refl _) (by omega) (fun j hj => ?_)).mono ?_
    · have := hc j (l.getD j 0) (by simp [List.getD_eq_getElem?_getD, hj])
      exact this
    · rintro e w' ⟨v, rfl, ho, _, hb⟩
      rw [List.take_length] at ho
      exact ⟨v, rfl, ho, hb⟩
  · cases a with
    | none =>
      refine (Try.slices_Clone_int_nil _ _ _).mono ?_
      rintro e w' ⟨rfl, rfl⟩
      exact ⟨_, rfl, ⟨rfl, .inl ⟨rfl, rfl⟩⟩, .refl _ _⟩
    | some a =>
      refine (Try.slices_Clone_int_zero a c w).mono ?_
      rintro e w' ⟨v, rfl, ho, _, hb⟩
      exact ⟨v, rfl, ho, hb⟩
theorem take_snoc_nd {l : List Nd} {i : Nat} (h : i < l.length) : l.take (i + 1) = l.take i ++ [l.getD i default] := by
  rw [List.take_add_one, List.getElem?_eq_getElem h]; simp [List.getD_eq_getElem?_getD, h]
theorem ndO_snoc {l : List Nd} {i : Nat} (h : i < l.length) : ndO (l.take (i + 1)) = ndO (l.take i) ++ [(.sl true 1 ((l.getD i default).h).length (((l.getD i default).h).map (T.int .i64))), .bool (l.getD i default).g] := by
  rw [take_snoc_nd h]; unfold ndO; rw [rows2_app]; rfl
def g85_0 : List Gop := [⟨none, (some 2), (.mov (.k (.one .nil)))⟩]
def g85_1 : List Gop := [⟨none, (some 6), (.lit 2 0 [.nil, (.bool .false)] [])⟩, ⟨none, (some 3), (.mov (.t 6))⟩]
def g85_2 : List Gop := [⟨none, (some 7), (.mov (.t 0))⟩, ⟨none, (some 8), (.len (.t 7))⟩, ⟨none, (some 9), (.mov (.k (.one (.int .i64 0))))⟩]
def g85_3 : List Gop := [⟨none, (some 10), (.bin .lss (.t 9) (.t 8))⟩]
def g85_4 : List Gop := [⟨none, (some 11), (.iaddr 2 (.t 7) (.t 9))⟩, ⟨none, (some 12), (.load (some 2) (.t 11))⟩, ⟨none, (some 5), (.alloc [.nil, (.bool .false)])⟩, ⟨none, none, (.store 2 (.t 5) (.t 12))⟩]
def g85_5 : List Gop := [⟨none, (some 13), (.mov (.t 3))⟩, ⟨none, (some 14), (.faddr (.t 5) 0)⟩, ⟨none, (some 15), (.load none (.t 14))⟩, ⟨none, (some 16), (.call 86 [(.t 15)])⟩, ⟨none, (some 17), (.faddr (.t 5) 1)⟩, ⟨none, (some 18), (.load none (.t 17))⟩, ⟨none, (some 19), (.build [.nil, (.bool .false)] [(0, (1, (.t 16))), (1, (1, (.t 18)))])⟩, ⟨none, (some 20), (.lit 2 1 [.nil, (.bool .false)] [(0, (.t 19))])⟩, ⟨none, (some 21), (.app 2 32 [.nil, (.bool .false)] (.t 13) (.t 20))⟩, ⟨none, (some 3), (.mov (.t 21))⟩]
def a85_5 : List (List Nat) := [[], [], [1], [1, 2], [], [4], [1, 2, 3, 4, 5], [1, 2, 3, 4, 5, 6], [0, 1, 2, 3, 4, 5, 6, 7], [0, 1, 2, 3, 4, 5, 6, 7, 8]]
def n85_5 : Nat := 8 -- of 10
def g85_6 : List Gop := [⟨none, (some 22), (.bin .add (.t 9) (.k (.one (.int .i64 1))))⟩, ⟨none, (some 9), (.mov (.t 22))⟩]
def g85_7 : List Gop := [⟨none, (some 23), (.mov (.t 3))⟩, ⟨none, (some 2), (.mov (.t 23))⟩]
def i85 : Ir := (.seq (.region g85_0) (.seq (.region g85_1) (.seq (.seq (.region g85_2) (.block 0 (.loop (.seq (.region g85_3) (.seq (.cond (.t 10) .skip (.exit 0)) (.seq (.block 1 (.seq (.region g85_4) (.draw [[], [], [1], [2], [], [4], [3, 5], [6], [0, 7, 3], [8, 8, 0, 1, 2, 3, 4, 5, 6, 7, 8]] g85_5))) (.region g85_6))))))) (.seq (.region g85_7) .ret))))
theorem ownNodes_ok (l : List Nd) (hl : l.length ≤ 1048576) (hk : ∀ x ∈ l, x.h.length ≤ 1048576) : Meets Try.prog 85 [.one (.sl false 2 l.length (ndR l))] (.w (.one (.sl true 2 l.length (ndO l)))) [.one .hole] := by
  refine meets_go (ir := i85) (fn := Try.f85) (rx := [(.tmp 2)]) rfl rfl (by rfl) (by rfl) (by exact Nat.le_of_ble_eq_true rfl) ?_
  simp (maxSteps := 9000000) -implicitDefEqProofs -dsimp (disch := omega) only [go_sem, g85_0, g85_1, g85_2, g85_3, g85_4, g85_5, a85_5, n85_5, g85_6, g85_7, i85, Nat.reduceEqDiff, Nat.reduceAdd, Nat.reduceMul, Nat.reduceLeDiff, Nat.reduceBEq, Nat.reduceBNe, Int.reduceEq, ↓reduceIte, reduceCtorEq]
  refine loop_n l.length (fun i => ⟨[(9, .w (.one (.int .i64 (i : Nat)))), (8, .w (.one (.int .i64 l.length))), (7, .w (.one (.hs 0 [] 0 2 l.length))), (3, .w (.one (.hs 4 [] 0 2 i)))], [(4, .sl true 2 i (ndO (l.take i))), (0, .sl false 2 l.length (ndR l))], [.one (.hs 0 [] 0 2 l.length)]⟩) (fun i => True) ?_ trivial ?_
  · exact (imp_adopt 3 4 2 rfl rfl).trans (imp_sub (by simp (maxSteps := 9000000) -implicitDefEqProofs -dsimp (disch := omega) only [go_sem, List.take_zero, show ndO [] = [] from rfl, Nat.reduceEqDiff, Nat.reduceAdd, Nat.reduceMul, Nat.reduceLeDiff, Nat.reduceBEq, Nat.reduceBNe, Int.reduceEq, ↓reduceIte, reduceCtorEq]) (by simp (maxSteps := 9000000) -implicitDefEqProofs -dsimp (disch := omega) only [go_sem, List.take_zero, show ndO [] = [] from rfl, Nat.reduceEqDiff, Nat.reduceAdd, Nat.reduceMul, Nat.reduceLeDiff, Nat.reduceBEq, Nat.reduceBNe, Int.reduceEq, ↓reduceIte, reduceCtorEq]) rfl)
  · intro i hi hJ
    have q5 : (ndO (l.take i)).length = i * 2 := by rw [show (ndO (l.take i)).length = (l.take i).length * 2 from rows2_len, List.length_take]; omega
    simp (maxSteps := 9000000) -implicitDefEqProofs -dsimp (disch := omega) only [go_sem, Nat.reduceEqDiff, Nat.reduceAdd, Nat.reduceMul, Nat.reduceLeDiff, Nat.reduceBEq, Nat.reduceBNe, Int.reduceEq, ↓reduceIte, reduceCtorEq]
    refine brP_i (fun h1 => ?_) (fun h1 => ?_)
    · have hlt : i < l.length := by omega
      have hk1 := hk _ (getD_mem hlt)
      simp (maxSteps := 9000000) -implicitDefEqProofs -dsimp (disch := omega) only [go_sem, ndR_0 hlt, ndR_1 hlt, Nat.reduceEqDiff, Nat.reduceAdd, Nat.reduceMul, Nat.reduceLeDiff, Nat.reduceBEq, Nat.reduceBNe, Int.reduceEq, ↓reduceIte, reduceCtorEq]
      refine drawm_go n85_5 a85_5 [(7, .framed [4])] (by decide +kernel) ?_
      simp (maxSteps := 9000000) -implicitDefEqProofs -dsimp (disch := omega) only [go_sem, n85_5, a85_5, ndR_0 hlt, ndR_1 hlt, Nat.reduceEqDiff, Nat.reduceAdd, Nat.reduceMul, Nat.reduceLeDiff, Nat.reduceBEq, Nat.reduceBNe, Int.reduceEq, ↓reduceIte, reduceCtorEq]
      refine calla_go true (cloneInt_ok (l.getD i default).h hk1) ?_
      simp (maxSteps := 9000000) -implicitDefEqProofs -dsimp (disch := omega) only [go_sem, n85_5, a85_5, ndR_0 hlt, ndR_1 hlt, Nat.reduceEqDiff, Nat.reduceAdd, Nat.reduceMul, Nat.reduceLeDiff, Nat.reduceBEq, Nat.reduceBNe, Int.reduceEq, ↓reduceIte, reduceCtorEq]
      have q6 : cut (ndO (l.take i)) 0 (i * 2) = ndO (l.take i) := cut_all (by omega)
      exact ⟨hlt, (imp_ren 8 4 rfl rfl).trans (imp_sub (by simp (maxSteps := 9000000) -implicitDefEqProofs -dsimp (disch := omega) only [go_sem, n85_5, a85_5, ndO_snoc hlt, q6, Nat.reduceEqDiff, Nat.reduceAdd, Nat.reduceMul, Nat.reduceLeDiff, Nat.reduceBEq, Nat.reduceBNe, Int.reduceEq, ↓reduceIte, reduceCtorEq]) (by simp (maxSteps := 9000000) -implicitDefEqProofs -dsimp (disch := omega) only [go_sem, n85_5, a85_5, ndO_snoc hlt, q6, Nat.reduceEqDiff, Nat.reduceAdd, Nat.reduceMul, Nat.reduceLeDiff, Nat.reduceBEq, Nat.reduceBNe, Int.reduceEq, ↓reduceIte, reduceCtorEq]) rfl)⟩
    · obtain rfl : i = l.length := by omega
      simp (maxSteps := 9000000) -implicitDefEqProofs -dsimp (disch := omega) only [go_sem, n85_5, a85_5, List.take_length, ndO_cut, Nat.reduceEqDiff, Nat.reduceAdd, Nat.reduceMul, Nat.reduceLeDiff, Nat.reduceBEq, Nat.reduceBNe, Int.reduceEq, ↓reduceIte, reduceCtorEq]
structure Small (g : Gr) : Prop where
  n : g.n.length ≤ 1048576
  h : ∀ x ∈ g.n, x.h.length ≤ 1048576
  r : g.r.length ≤ 1048576
  c : g.c.length ≤ 1048576
def g66_0 : List Gop := [⟨none, (some 1), (.box (.t 0))⟩, ⟨none, (some 2), (.alloc [.nil, .nil, .nil])⟩]
def g66_1 : List Gop := [⟨none, (some 3), (.faddr (.t 1) 0)⟩, ⟨none, (some 4), (.load none (.t 3))⟩, ⟨none, (some 5), (.call 85 [(.t 4)])⟩, ⟨none, (some 6), (.faddr (.t 1) 1)⟩, ⟨none, (some 7), (.load none (.t 6))⟩, ⟨none, (some 8), (.call 86 [(.t 7)])⟩, ⟨none, (some 9), (.faddr (.t 1) 2)⟩, ⟨none, (some 10), (.load none (.t 9))⟩, ⟨none, (some 11), (.call 86 [(.t 10)])⟩, ⟨none, (some 12), (.build [.nil, .nil, .nil] [(0, (1, (.t 5))), (1, (1, (.t 8))), (2, (1, (.t 11)))])⟩, ⟨none, none, (.store 3 (.t 2) (.t 12))⟩]
def a66_1 : List (List Nat) := [[], [0], [0, 1], [], [3], [0, 1, 2, 3, 4], [], [6], [0, 1, 2, 3, 4, 5, 6, 7], [0, 1, 2, 3, 4, 5, 6, 7, 8], [0, 1, 2, 3, 4, 5, 6, 7, 8, 9]]
def n66_1 : Nat := 8 -- of 11
def i66 : Ir := (.seq (.region g66_0) (.seq (.draw [[], [0], [1], [], [3], [4, 2], [], [6], [7, 5], [2, 5, 8], [9, 8, 0, 1, 2, 3, 4, 5, 6, 7, 8, 9]] g66_1) .ret))
theorem ownGraph_ok (g : Gr) (s : Small g) : Meets Try.prog 66 [.agg [.sl false 2 g.n.length (ndR g.n), (.sl false 1 g.r.length (g.r.map (T.int .i64))), (.sl false 1 g.c.length (g.c.map (T.int .i64)))]] (.w (.agg [.sl true 2 g.n.length (ndO g.n), (.sl true 1 g.r.length (g.r.map (T.int .i64))), (.sl true 1 g.c.length (g.c.map (T.int .i64)))])) [.agg [.hole, .hole, .hole]] := by
  have q1 := ndO_cut (l := g.n)
  have q2 := ndR_cut (l := g.n)
  have q3 := ndO_noRo (l := g.n)
  refine meets_go (ir := i66) (fn := Try.f66) (rx := [(.cell 2 (some 3))]) rfl rfl (by rfl) (by rfl) (by exact Nat.le_of_ble_eq_true rfl) ?_
  simp (maxSteps := 9000000) -implicitDefEqProofs -dsimp (disch := omega) only [go_sem, g66_0, g66_1, a66_1, n66_1, i66, q2, Nat.reduceEqDiff, Nat.reduceAdd, Nat.reduceMul, Nat.reduceLeDiff, Nat.reduceBEq, Nat.reduceBNe, Int.reduceEq, ↓reduceIte, reduceCtorEq]
  refine draw_go n66_1 a66_1 (by decide +kernel) ?_
  simp (maxSteps := 9000000) -implicitDefEqProofs -dsimp (disch := omega) only [go_sem, n66_1, a66_1, q2, Nat.reduceEqDiff, Nat.reduceAdd, Nat.reduceMul, Nat.reduceLeDiff, Nat.reduceBEq, Nat.reduceBNe, Int.reduceEq, ↓reduceIte, reduceCtorEq]
  refine calla_go true (ownNodes_ok g.n s.n s.h) ?_
  simp (maxSteps := 9000000) -implicitDefEqProofs -dsimp (disch := omega) only [go_sem, n66_1, a66_1, q2, q3, Nat.reduceEqDiff, Nat.reduceAdd, Nat.reduceMul, Nat.reduceLeDiff, Nat.reduceBEq, Nat.reduceBNe, Int.reduceEq, ↓reduceIte, reduceCtorEq]
  refine calla_go true (cloneInt_ok g.r s.r) ?_
  simp (maxSteps := 9000000) -implicitDefEqProofs -dsimp (disch := omega) only [go_sem, n66_1, a66_1, q2, q3, Nat.reduceEqDiff, Nat.reduceAdd, Nat.reduceMul, Nat.reduceLeDiff, Nat.reduceBEq, Nat.reduceBNe, Int.reduceEq, ↓reduceIte, reduceCtorEq]
  refine call_go true (cloneInt_ok g.c s.c) ?_
  simp (maxSteps := 9000000) -implicitDefEqProofs -dsimp (disch := omega) only [go_sem, n66_1, a66_1, q1, q2, q3, Nat.reduceEqDiff, Nat.reduceAdd, Nat.reduceMul, Nat.reduceLeDiff, Nat.reduceBEq, Nat.reduceBNe, Int.reduceEq, ↓reduceIte, reduceCtorEq]
def g65_0 : List Gop := [⟨none, (some 1), (.box (.t 0))⟩, ⟨none, (some 2), (.alloc [.nil, .nil, .nil])⟩]
def g65_1 : List Gop := [⟨none, (some 6), (.lit 1 0 [(.int .i64 0)] [])⟩, ⟨none, (some 7), (.faddr (.t 1) 1)⟩, ⟨none, (some 8), (.load none (.t 7))⟩, ⟨none, (some 9), (.app 1 8 [(.int .i64 0)] (.t 6) (.t 8))⟩, ⟨none, (some 10), (.lit 1 0 [(.int .i64 0)] [])⟩, ⟨none, (some 11), (.faddr (.t 1) 2)⟩, ⟨none, (some 12), (.load none (.t 11))⟩, ⟨none, (some 13), (.app 1 8 [(.int .i64 0)] (.t 10) (.t 12))⟩, ⟨none, (some 14), (.build [.nil, .nil, .nil] [(1, (1, (.t 9))), (2, (1, (.t 13)))])⟩, ⟨none, (some 3), (.alloc [.nil, .nil, .nil])⟩, ⟨none, none, (.store 3 (.t 3) (.t 14))⟩]
def a65_1 : List (List Nat) := [[], [], [1], [0, 1, 2], [], [], [5], [0, 1, 2, 3, 4, 5, 6], [0, 1, 2, 3, 4, 5, 6, 7], [], [0, 1, 2, 3, 4, 5, 6, 7, 8, 9]]
def n65_1 : Nat := 10 -- of 11
def g65_2 : List Gop := [⟨none, (some 15), (.faddr (.t 1) 0)⟩, ⟨none, (some 16), (.load none (.t 15))⟩, ⟨none, (some 17), (.len (.t 16))⟩, ⟨none, (some 18), (.mov (.k (.one (.int .i64 0))))⟩]
def g65_3 : List Gop := [⟨none, (some 19), (.bin .lss (.t 18) (.t 17))⟩]
def g65_4 : List Gop := [⟨none, (some 20), (.iaddr 2 (.t 16) (.t 18))⟩, ⟨none, (some 21), (.load (some 2) (.t 20))⟩, ⟨none, (some 5), (.alloc [.nil, (.bool .false)])⟩, ⟨none, none, (.store 2 (.t 5) (.t 21))⟩]
def g65_5 : List Gop := [⟨none, (some 22), (.lit 1 0 [(.int .i64 0)] [])⟩, ⟨none, (some 23), (.faddr (.t 5) 0)⟩, ⟨none, (some 24), (.load none (.t 23))⟩, ⟨none, (some 25), (.app 1 8 [(.int .i64 0)] (.t 22) (.t 24))⟩, ⟨none, (some 26), (.faddr (.t 5) 0)⟩, ⟨none, none, (.store 1 (.t 26) (.t 25))⟩]
def g65_6 : List Gop := [⟨none, (some 27), (.faddr (.t 3) 0)⟩, ⟨none, (some 28), (.load none (.t 27))⟩, ⟨none, (some 29), (.load (some 2) (.t 5))⟩, ⟨none, (some 30), (.lit 2 1 [.nil, (.bool .false)] [(0, (.t 29))])⟩, ⟨none, (some 31), (.app 2 32 [.nil, (.bool .false)] (.t 28) (.t 30))⟩, ⟨none, (some 32), (.faddr (.t 3) 0)⟩, ⟨none, none, (.store 1 (.t 32) (.t 31))⟩]
def g65_7 : List Gop := [⟨none, (some 33), (.bin .add (.t 18) (.k (.one (.int .i64 1))))⟩, ⟨none, (some 18), (.mov (.t 33))⟩]
def g65_8 : List Gop := [⟨none, (some 34), (.load (some 3) (.t 3))⟩, ⟨none, none, (.store 3 (.t 2) (.t 34))⟩]
def i65 : Ir := (.seq (.region g65_0) (.seq (.draw [[], [], [1], [0, 2], [], [], [5], [4, 6, 3], [3, 7], [], [9, 8, 7, 0, 1, 2, 3, 4, 5, 6, 7, 8, 9]] g65_1) (.seq (.seq (.region g65_2) (.block 0 (.loop (.seq (.region g65_3) (.seq (.cond (.t 19) .skip (.exit 0)) (.seq (.block 1 (.seq (.region g65_4) (.seq (.region g65_5) (.region g65_6)))) (.region g65_7))))))) (.seq (.region g65_8) .ret))))
theorem l10Own_ok (g : Gr) (s : Small g) : Meets Try.prog 65 [.agg [.sl false 2 g.n.length (ndR g.n), (.sl false 1 g.r.length (g.r.map (T.int .i64))), (.sl false 1 g.c.length (g.c.map (T.int .i64)))]] (.w (.agg [.sl true 2 g.n.length (ndO g.n), (.sl true 1 g.r.length (g.r.map (T.int .i64))), (.sl true 1 g.c.length (g.c.map (T.int .i64)))])) [.agg [.hole, .hole, .hole]] := by
  have q1 := ndO_cut (l := g.n)
  have q2 := ndR_cut (l := g.n)
  have q3 := ndO_noRo (l := g.n)
  have s1 := s.r
  have s2 := s.c
  have s3 := s.n
  refine meets_go (ir := i65) (fn := Try.f65) (rx := [(.cell 2 (some 3))]) rfl rfl (by rfl) (by rfl) (by exact Nat.le_of_ble_eq_true rfl) ?_
  simp (maxSteps := 9000000) -implicitDefEqProofs -dsimp (disch := omega) only [go_sem, g65_0, g65_1, a65_1, n65_1, g65_2, g65_3, g65_4, g65_5, g65_6, g65_7, g65_8, i65, q2, Nat.reduceEqDiff, Nat.reduceAdd, Nat.reduceMul, Nat.reduceLeDiff, Nat.reduceBEq, Nat.reduceBNe, Int.reduceEq, ↓reduceIte, reduceCtorEq]
  refine draw_go n65_1 a65_1 (by decide +kernel) ?_
  simp (maxSteps := 9000000) -implicitDefEqProofs -dsimp (disch := omega) only [go_sem, n65_1, a65_1, q2, Nat.reduceEqDiff, Nat.reduceAdd, Nat.reduceMul, Nat.reduceLeDiff, Nat.reduceBEq, Nat.reduceBNe, Int.reduceEq, ↓reduceIte, reduceCtorEq]
  refine loop_n g.n.length (fun i => ⟨[(18, .w (.one (.int .i64 (i : Nat)))), (17, .w (.one (.int .i64 g.n.length))), (16, .w (.one (.hs 3 [0] 0 2 g.n.length))), (3, .w (.one (.hp 7 [] 0))), (2, .w (.one (.hp 4 [] 0)))], [(7, .bx true [.sl true 2 i (ndO (g.n.take i)), (.sl true 1 g.r.length (g.r.map (T.int .i64))), (.sl true 1 g.c.length (g.c.map (T.int .i64)))]), (4, .bx true [.sl true 0 0 [], .sl true 0 0 [], .sl true 0 0 []]), (3, .bx true [.sl false 2 g.n.length (ndR g.n), (.sl false 1 g.r.length (g.r.map (T.int .i64))), (.sl false 1 g.c.length (g.c.map (T.int .i64)))])], [.agg [.hs 0 [] 0 2 g.n.length, .hs 1 [] 0 1 g.r.length, .hs 2 [] 0 1 g.c.length]]⟩) (fun i => True) ?_ trivial ?_
  · exact (imp_fix 7 [] 0 2 rfl rfl rfl).trans (imp_sub (by simp (maxSteps := 9000000) -implicitDefEqProofs -dsimp (disch := omega) only [go_sem, n65_1, a65_1, List.take_zero, show ndO [] = [] from rfl, q2, Nat.reduceEqDiff, Nat.reduceAdd, Nat.reduceMul, Nat.reduceLeDiff, Nat.reduceBEq, Nat.reduceBNe, Int.reduceEq, ↓reduceIte, reduceCtorEq]) (by simp (maxSteps := 9000000) -implicitDefEqProofs -dsimp (disch := omega) only [go_sem, n65_1, a65_1, List.take_zero, show ndO [] = [] from rfl, q2, Nat.reduceEqDiff, Nat.reduceAdd, Nat.reduceMul, Nat.reduceLeDiff, Nat.reduceBEq, Nat.reduceBNe, Int.reduceEq, ↓reduceIte, reduceCtorEq]) rfl)
  · intro i hi hJ
    have q5 : (ndO (g.n.take i)).length = i * 2 := by rw [show (ndO (g.n.take i)).length = (g.n.take i).length * 2 from rows2_len, List.length_take]; omega
    have q6 : cut (ndO (g.n.take i)) 0 (i * 2) = ndO (g.n.take i) := cut_all (by omega)
    simp (maxSteps := 9000000) -implicitDefEqProofs -dsimp (disch := omega) only [go_sem, n65_1, a65_1, Nat.reduceEqDiff, Nat.reduceAdd, Nat.reduceMul, Nat.reduceLeDiff, Nat.reduceBEq, Nat.reduceBNe, Int.reduceEq, ↓reduceIte, reduceCtorEq]
    refine brP_i (fun h1 => ?_) (fun h1 => ?_)
    · have hlt : i < g.n.length := by omega
      have hk1 := s.h _ (getD_mem hlt)
      simp (maxSteps := 9000000) -implicitDefEqProofs -dsimp (disch := omega) only [go_sem, n65_1, a65_1, ndR_0 hlt, ndR_1 hlt, Nat.reduceEqDiff, Nat.reduceAdd, Nat.reduceMul, Nat.reduceLeDiff, Nat.reduceBEq, Nat.reduceBNe, Int.reduceEq, ↓reduceIte, reduceCtorEq]
      have q7 : cut (ndO (g.n.take (i + 1))) 0 ((i + 1) * 2) = ndO (g.n.take (i + 1)) := cut_all (by rw [show (ndO (g.n.take (i + 1))).length = (g.n.take (i + 1)).length * 2 from rows2_len, List.length_take]; omega)
      exact ⟨hlt, (imp_sub (by simp (maxSteps := 9000000) -implicitDefEqProofs -dsimp (disch := omega) only [go_sem, n65_1, a65_1, q6, ← ndO_snoc hlt, q7, Nat.reduceEqDiff, Nat.reduceAdd, Nat.reduceMul, Nat.reduceLeDiff, Nat.reduceBEq, Nat.reduceBNe, Int.reduceEq, ↓reduceIte, reduceCtorEq]) (by simp (maxSteps := 9000000) -implicitDefEqProofs -dsimp (disch := omega) only [go_sem, n65_1, a65_1, q6, ← ndO_snoc hlt, q7, Nat.reduceEqDiff, Nat.reduceAdd, Nat.reduceMul, Nat.reduceLeDiff, Nat.reduceBEq, Nat.reduceBNe, Int.reduceEq, ↓reduceIte, reduceCtorEq]) rfl)⟩
    · have hi2 : i = g.n.length := by omega
      subst hi2
      simp (maxSteps := 9000000) -implicitDefEqProofs -dsimp (disch := omega) only [go_sem, n65_1, a65_1, List.take_length, ndO_cut, q1, Nat.reduceEqDiff, Nat.reduceAdd, Nat.reduceMul, Nat.reduceLeDiff, Nat.reduceBEq, Nat.reduceBNe, Int.reduceEq, ↓reduceIte, reduceCtorEq]
theorem cut_pre {α β : Type} {f : α → T} {l : List α} {i : Nat} : cut (l.map f) 0 (i - 0) = (l.take i).map f := by simp [cut]
theorem cut_suf {α : Type} {f : α → T} {l : List α} {i k : Nat} (hk : k = l.length - i) : cut (l.map f) i k = (l.drop i).map f := by subst hk; unfold cut; rw [← List.map_drop, List.take_of_length_le (by simp)]
def g73_0 : List Gop := [⟨none, (some 4), (.mov (.k (.one .nil)))⟩]
def g73_1 : List Gop := [⟨none, (some 6), (.lit 1 0 [(.int .i64 0)] [])⟩, ⟨none, (some 7), (.mov (.t 0))⟩, ⟨none, (some 8), (.mov (.t 1))⟩, ⟨none, (some 9), (.slice 1 (.t 7) none (some (.t 8)) none)⟩, ⟨none, (some 10), (.app 1 8 [(.int .i64 0)] (.t 6) (.t 9))⟩, ⟨none, (some 5), (.mov (.t 10))⟩]
def g73_2 : List Gop := [⟨none, (some 11), (.mov (.t 5))⟩, ⟨none, (some 12), (.mov (.t 0))⟩, ⟨none, (some 13), (.mov (.t 1))⟩, ⟨none, (some 14), (.bin .add (.t 13) (.k (.one (.int .i64 1))))⟩, ⟨none, (some 15), (.slice 1 (.t 12) (some (.t 14)) none none)⟩, ⟨none, (some 16), (.app 1 8 [(.int .i64 0)] (.t 11) (.t 15))⟩, ⟨none, (some 4), (.mov (.t 16))⟩]
def i73 : Ir := (.seq (.region g73_0) (.seq (.region g73_1) (.seq (.region g73_2) .ret)))
theorem l10Without_ok (l : List Int) (i : Nat) (hi : i < l.length) (hl : l.length ≤ 1048576) : Meets Try.prog 73 [.one (.sl false 1 l.length (l.map (T.int .i64))), .one (.int .i64 i)] (.w (.one (.sl true 1 (delF l i).length ((delF l i).map (T.int .i64))))) [.one .hole, .one .hole] := by
  have c1 : cut (l.map (T.int .i64)) 0 (i - 0) = (l.take i).map (T.int .i64) := cut_pre (β := Nat)
  have c2 : cut (l.map (T.int .i64)) (i + 1) (l.length - (i + 1)) = (l.drop (i + 1)).map (T.int .i64) := cut_suf rfl
  have c4 := delF_len hi
  have c5 : (l.take i).length = i := by rw [List.length_take]; omega
  have c6 : (l.drop (i + 1)).length = l.length - (i + 1) := by rw [List.length_drop]
  have c3 : ((i : Int) + 1).toNat = i + 1 := by omega
  refine meets_go (ir := i73) (fn := Try.f73) (rx := [(.tmp 4)]) rfl rfl (by rfl) (by rfl) (by exact Nat.le_of_ble_eq_true rfl) ?_
  simp (maxSteps := 9000000) -implicitDefEqProofs -dsimp (disch := omega) only [go_sem, g73_0, g73_1, g73_2, i73, c1, c2, c3, Nat.reduceEqDiff, Nat.reduceAdd, Nat.reduceMul, Nat.reduceLeDiff, Nat.reduceBEq, Nat.reduceBNe, Int.reduceEq, ↓reduceIte, reduceCtorEq]
  refine need_i ?_ (by simp (maxSteps := 9000000) -implicitDefEqProofs -dsimp (disch := omega) only [go_sem, Nat.reduceEqDiff, Nat.reduceAdd, Nat.reduceMul, Nat.reduceLeDiff, Nat.reduceBEq, Nat.reduceBNe, Int.reduceEq, ↓reduceIte, reduceCtorEq])
  rw [show i - 0 + (l.length - (i + 1)) = (delF l i).length by omega, ← List.map_append, show l.take i ++ l.drop (i + 1) = delF l i from rfl, cut_all (by simp)]
end Go.Proofs.YtdhclelfnbjikaaT
