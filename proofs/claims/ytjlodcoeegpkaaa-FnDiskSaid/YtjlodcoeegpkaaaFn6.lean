/- Functions of the program, each with what it returns and leaves. No condition. -/
import Derived.Test.YtjlodcoeegpkaaaFn5
import Derived.Test.YtjlodcoeegpkaaaFn2
import Derived.Test.YtjlodcoeegpkaaaTree8
import Derived.Test.YtjlodcoeegpkaaaFn3
import Derived.KernelRfl
set_option linter.all false
set_option linter.unusedVariables false
set_option linter.unusedSimpArgs false
set_option linter.unusedSectionVars false
set_option linter.unnecessarySimpa false
set_option linter.deprecated false
/- Functions of the program as contracts: what the laws of disks ask. No condition. -/
set_option maxRecDepth 100000
set_option maxHeartbeats 8000000
set_option linter.unusedSimpArgs false
set_option linter.unusedVariables false
namespace Go.Proofs.YtjlodcoeegpkaaaT
open Go Go.RowKit
def g43_0 : List Gop := [⟨none, (some 4), (.mov (.k (.one (.bool .false))))⟩]
def g43_1 : List Gop := [⟨none, (some 6), (.mov (.t 0))⟩, ⟨none, (some 7), (.len (.t 6))⟩, ⟨none, (some 8), (.mov (.t 1))⟩, ⟨none, (some 9), (.len (.t 8))⟩, ⟨none, (some 10), (.bin .neq (.t 7) (.t 9))⟩]
def g43_2 : List Gop := [⟨none, (some 4), (.mov (.k (.one (.bool .false))))⟩]
def g43_3 : List Gop := [⟨none, (some 11), (.mov (.t 0))⟩, ⟨none, (some 12), (.len (.t 11))⟩, ⟨none, (some 13), (.mov (.k (.one (.int .i64 0))))⟩]
def g43_4 : List Gop := [⟨none, (some 14), (.bin .lss (.t 13) (.t 12))⟩]
def g43_5 : List Gop := [⟨none, (some 15), (.mov (.t 13))⟩, ⟨none, (some 5), (.mov (.t 15))⟩]
def g43_6 : List Gop := [⟨none, (some 16), (.mov (.t 0))⟩, ⟨none, (some 17), (.mov (.t 5))⟩, ⟨none, (some 18), (.iaddr 1 (.t 16) (.t 17))⟩, ⟨none, (some 19), (.load none (.t 18))⟩, ⟨none, (some 20), (.mov (.t 1))⟩, ⟨none, (some 21), (.mov (.t 5))⟩, ⟨none, (some 22), (.iaddr 1 (.t 20) (.t 21))⟩, ⟨none, (some 23), (.load none (.t 22))⟩, ⟨none, (some 24), (.beq .true (.t 19) (.t 23))⟩]
def a43_6 : List (List Nat) := [[], [], [0, 1], [0, 1, 2], [], [], [4, 5], [4, 5, 6], [0, 1, 2, 3, 4, 5, 6, 7]]
def n43_6 : Nat := 8 -- of 9
def g43_7 : List Gop := [⟨none, (some 4), (.mov (.k (.one (.bool .false))))⟩]
def g43_8 : List Gop := [⟨none, (some 25), (.bin .add (.t 13) (.k (.one (.int .i64 1))))⟩, ⟨none, (some 13), (.mov (.t 25))⟩]
def g43_9 : List Gop := [⟨none, (some 4), (.mov (.k (.one (.bool .true))))⟩]
def i43 : Ir := (.seq (.region g43_0) (.seq (.seq (.region g43_1) (.cond (.t 10) (.seq (.region g43_2) .ret) .skip)) (.seq (.seq (.region g43_3) (.block 0 (.loop (.seq (.region g43_4) (.seq (.cond (.t 14) .skip (.exit 0)) (.seq (.block 1 (.seq (.region g43_5) (.seq (.draw [[], [], [0, 1], [2], [], [], [4, 5], [6], [3, 7]] g43_6) (.cond (.t 24) (.seq (.region g43_7) .ret) .skip)))) (.region g43_8))))))) (.seq (.region g43_9) .ret))))
theorem sameBools_ok (l : List Bool) (hl : l.length ≤ 9223372036854775807) : Meets Try.prog 43 [.one (.sl false 1 l.length (l.map T.bool)), .one (.sl false 1 l.length (l.map T.bool))] (.w (.one (.bool true))) [.one .hole, .one .hole] := by
  refine meets_go (ir := i43) (fn := Try.f43) (rx := [(.tmp 4)]) rfl rfl (by rfl) (by rfl) (by exact Nat.le_of_ble_eq_true rfl) ?_
  simp (maxSteps := 9000000) -implicitDefEqProofs -dsimp (disch := omega) only [go_sem, g43_0, g43_1, g43_2, g43_3, g43_4, g43_5, g43_6, a43_6, n43_6, g43_7, g43_8, g43_9, i43, lt_T, lt_F, le_T, le_F, eq_T, eq_F, and_F, Nat.reduceEqDiff, Nat.reduceAdd, Nat.reduceMul, Nat.reduceLeDiff, Nat.reduceBEq, Nat.reduceBNe, Int.reduceEq, ↓reduceIte, reduceCtorEq]
  refine loop_n l.length (fun i => ⟨[(13, .w (.one (.int .i64 (i : Nat)))), (12, .w (.one (.int .i64 l.length))), (1, .w (.one (.hs 1 [] 0 1 l.length))), (0, .w (.one (.hs 0 [] 0 1 l.length)))], [(1, (.sl false 1 l.length (l.map T.bool))), (0, (.sl false 1 l.length (l.map T.bool)))], [.one (.hs 0 [] 0 1 l.length), .one (.hs 1 [] 0 1 l.length)]⟩) (fun i => True) ?_ trivial ?_
  · exact (imp_sub (by simp (maxSteps := 9000000) -implicitDefEqProofs -dsimp (disch := omega) only [go_sem, g43_0, g43_1, g43_2, g43_3, g43_4, g43_5, g43_6, a43_6, n43_6, g43_7, g43_8, g43_9, i43, Nat.reduceEqDiff, Nat.reduceAdd, Nat.reduceMul, Nat.reduceLeDiff, Nat.reduceBEq, Nat.reduceBNe, Int.reduceEq, ↓reduceIte, reduceCtorEq]) (by simp (maxSteps := 9000000) -implicitDefEqProofs -dsimp (disch := omega) only [go_sem, g43_0, g43_1, g43_2, g43_3, g43_4, g43_5, g43_6, a43_6, n43_6, g43_7, g43_8, g43_9, i43, Nat.reduceEqDiff, Nat.reduceAdd, Nat.reduceMul, Nat.reduceLeDiff, Nat.reduceBEq, Nat.reduceBNe, Int.reduceEq, ↓reduceIte, reduceCtorEq]) rfl)
  · intro i hi hJ
    simp (maxSteps := 9000000) -implicitDefEqProofs -dsimp (disch := omega) only [go_sem, g43_0, g43_1, g43_2, g43_3, g43_4, g43_5, g43_6, a43_6, n43_6, g43_7, g43_8, g43_9, i43, Nat.reduceEqDiff, Nat.reduceAdd, Nat.reduceMul, Nat.reduceLeDiff, Nat.reduceBEq, Nat.reduceBNe, Int.reduceEq, ↓reduceIte, reduceCtorEq]
    refine brP_i (fun h2 => ?_) (fun h2 => ?_)
    · simp (maxSteps := 9000000) -implicitDefEqProofs -dsimp (disch := omega) only [go_sem, g43_0, g43_1, g43_2, g43_3, g43_4, g43_5, g43_6, a43_6, n43_6, g43_7, g43_8, g43_9, i43, Nat.reduceEqDiff, Nat.reduceAdd, Nat.reduceMul, Nat.reduceLeDiff, Nat.reduceBEq, Nat.reduceBNe, Int.reduceEq, ↓reduceIte, reduceCtorEq]
      refine draw_go n43_6 a43_6 (by decide +kernel) ?_
      simp (maxSteps := 9000000) -implicitDefEqProofs -dsimp (disch := omega) only [go_sem, g43_0, g43_1, g43_2, g43_3, g43_4, g43_5, g43_6, a43_6, n43_6, g43_7, g43_8, g43_9, i43, not_true_eq_false, bne_self_eq_false, Nat.reduceEqDiff, Nat.reduceAdd, Nat.reduceMul, Nat.reduceLeDiff, Nat.reduceBEq, Nat.reduceBNe, Int.reduceEq, ↓reduceIte, reduceCtorEq]
      exact ⟨by omega, (imp_sub (by simp (maxSteps := 9000000) -implicitDefEqProofs -dsimp (disch := omega) only [go_sem, g43_0, g43_1, g43_2, g43_3, g43_4, g43_5, g43_6, a43_6, n43_6, g43_7, g43_8, g43_9, i43, Nat.reduceEqDiff, Nat.reduceAdd, Nat.reduceMul, Nat.reduceLeDiff, Nat.reduceBEq, Nat.reduceBNe, Int.reduceEq, ↓reduceIte, reduceCtorEq]) (by simp (maxSteps := 9000000) -implicitDefEqProofs -dsimp (disch := omega) only [go_sem, g43_0, g43_1, g43_2, g43_3, g43_4, g43_5, g43_6, a43_6, n43_6, g43_7, g43_8, g43_9, i43, Nat.reduceEqDiff, Nat.reduceAdd, Nat.reduceMul, Nat.reduceLeDiff, Nat.reduceBEq, Nat.reduceBNe, Int.reduceEq, ↓reduceIte, reduceCtorEq]) rfl)⟩
    · simp (maxSteps := 9000000) -implicitDefEqProofs -dsimp (disch := omega) only [go_sem, g43_0, g43_1, g43_2, g43_3, g43_4, g43_5, g43_6, a43_6, n43_6, g43_7, g43_8, g43_9, i43, Nat.reduceEqDiff, Nat.reduceAdd, Nat.reduceMul, Nat.reduceLeDiff, Nat.reduceBEq, Nat.reduceBNe, Int.reduceEq, ↓reduceIte, reduceCtorEq]
def g82_0 : List Gop := [⟨none, (some 4), (.mov (.k (.one (.bool .false))))⟩]
def g82_1 : List Gop := [⟨none, (some 6), (.mov (.t 0))⟩, ⟨none, (some 7), (.len (.t 6))⟩, ⟨none, (some 8), (.mov (.t 1))⟩, ⟨none, (some 9), (.len (.t 8))⟩, ⟨none, (some 10), (.bin .neq (.t 7) (.t 9))⟩]
def g82_2 : List Gop := [⟨none, (some 4), (.mov (.k (.one (.bool .false))))⟩]
def g82_3 : List Gop := [⟨none, (some 11), (.mov (.t 0))⟩, ⟨none, (some 12), (.len (.t 11))⟩, ⟨none, (some 13), (.mov (.k (.one (.int .i64 0))))⟩]
def g82_4 : List Gop := [⟨none, (some 14), (.bin .lss (.t 13) (.t 12))⟩]
def g82_5 : List Gop := [⟨none, (some 15), (.mov (.t 13))⟩, ⟨none, (some 5), (.mov (.t 15))⟩]
def g82_6 : List Gop := [⟨none, (some 16), (.mov (.t 0))⟩, ⟨none, (some 17), (.mov (.t 5))⟩, ⟨none, (some 18), (.iaddr 1 (.t 16) (.t 17))⟩, ⟨none, (some 19), (.load none (.t 18))⟩, ⟨none, (some 20), (.mov (.t 1))⟩, ⟨none, (some 21), (.mov (.t 5))⟩, ⟨none, (some 22), (.iaddr 1 (.t 20) (.t 21))⟩, ⟨none, (some 23), (.load none (.t 22))⟩, ⟨none, (some 24), (.bin .neq (.t 19) (.t 23))⟩]
def a82_6 : List (List Nat) := [[], [], [0, 1], [0, 1, 2], [], [], [4, 5], [4, 5, 6], [0, 1, 2, 3, 4, 5, 6, 7]]
def n82_6 : Nat := 8 -- of 9
def g82_7 : List Gop := [⟨none, (some 4), (.mov (.k (.one (.bool .false))))⟩]
def g82_8 : List Gop := [⟨none, (some 25), (.bin .add (.t 13) (.k (.one (.int .i64 1))))⟩, ⟨none, (some 13), (.mov (.t 25))⟩]
def g82_9 : List Gop := [⟨none, (some 4), (.mov (.k (.one (.bool .true))))⟩]
def i82 : Ir := (.seq (.region g82_0) (.seq (.seq (.region g82_1) (.cond (.t 10) (.seq (.region g82_2) .ret) .skip)) (.seq (.seq (.region g82_3) (.block 0 (.loop (.seq (.region g82_4) (.seq (.cond (.t 14) .skip (.exit 0)) (.seq (.block 1 (.seq (.region g82_5) (.seq (.draw [[], [], [0, 1], [2], [], [], [4, 5], [6], [3, 7]] g82_6) (.cond (.t 24) (.seq (.region g82_7) .ret) .skip)))) (.region g82_8))))))) (.seq (.region g82_9) .ret))))
theorem sameTexts_ok (l : List ByteArray) (hl : l.length ≤ 9223372036854775807) : Meets Try.prog 82 [.one (.sl false 1 l.length (l.map T.str)), .one (.sl false 1 l.length (l.map T.str))] (.w (.one (.bool true))) [.one .hole, .one .hole] := by
  refine meets_go (ir := i82) (fn := Try.f82) (rx := [(.tmp 4)]) rfl rfl (by rfl) (by rfl) (by exact Nat.le_of_ble_eq_true rfl) ?_
  simp (maxSteps := 9000000) -implicitDefEqProofs -dsimp (disch := omega) only [go_sem, g82_0, g82_1, g82_2, g82_3, g82_4, g82_5, g82_6, a82_6, n82_6, g82_7, g82_8, g82_9, i82, lt_T, lt_F, le_T, le_F, eq_T, eq_F, and_F, Nat.reduceEqDiff, Nat.reduceAdd, Nat.reduceMul, Nat.reduceLeDiff, Nat.reduceBEq, Nat.reduceBNe, Int.reduceEq, ↓reduceIte, reduceCtorEq]
  refine loop_n l.length (fun i => ⟨[(13, .w (.one (.int .i64 (i : Nat)))), (12, .w (.one (.int .i64 l.length))), (1, .w (.one (.hs 1 [] 0 1 l.length))), (0, .w (.one (.hs 0 [] 0 1 l.length)))], [(1, (.sl false 1 l.length (l.map T.str))), (0, (.sl false 1 l.length (l.map T.str)))], [.one (.hs 0 [] 0 1 l.length), .one (.hs 1 [] 0 1 l.length)]⟩) (fun i => True) ?_ trivial ?_
  · exact (imp_sub (by simp (maxSteps := 9000000) -implicitDefEqProofs -dsimp (disch := omega) only [go_sem, g82_0, g82_1, g82_2, g82_3, g82_4, g82_5, g82_6, a82_6, n82_6, g82_7, g82_8, g82_9, i82, Nat.reduceEqDiff, Nat.reduceAdd, Nat.reduceMul, Nat.reduceLeDiff, Nat.reduceBEq, Nat.reduceBNe, Int.reduceEq, ↓reduceIte, reduceCtorEq]) (by simp (maxSteps := 9000000) -implicitDefEqProofs -dsimp (disch := omega) only [go_sem, g82_0, g82_1, g82_2, g82_3, g82_4, g82_5, g82_6, a82_6, n82_6, g82_7, g82_8, g82_9, i82, Nat.reduceEqDiff, Nat.reduceAdd, Nat.reduceMul, Nat.reduceLeDiff, Nat.reduceBEq, Nat.reduceBNe, Int.reduceEq, ↓reduceIte, reduceCtorEq]) rfl)
  · intro i hi hJ
    simp (maxSteps := 9000000) -implicitDefEqProofs -dsimp (disch := omega) only [go_sem, g82_0, g82_1, g82_2, g82_3, g82_4, g82_5, g82_6, a82_6, n82_6, g82_7, g82_8, g82_9, i82, Nat.reduceEqDiff, Nat.reduceAdd, Nat.reduceMul, Nat.reduceLeDiff, Nat.reduceBEq, Nat.reduceBNe, Int.reduceEq, ↓reduceIte, reduceCtorEq]
    refine brP_i (fun h2 => ?_) (fun h2 => ?_)
    · simp (maxSteps := 9000000) -implicitDefEqProofs -dsimp (disch := omega) only [go_sem, g82_0, g82_1, g82_2, g82_3, g82_4, g82_5, g82_6, a82_6, n82_6, g82_7, g82_8, g82_9, i82, Nat.reduceEqDiff, Nat.reduceAdd, Nat.reduceMul, Nat.reduceLeDiff, Nat.reduceBEq, Nat.reduceBNe, Int.reduceEq, ↓reduceIte, reduceCtorEq]
      refine draw_go n82_6 a82_6 (by decide +kernel) ?_
      simp (maxSteps := 9000000) -implicitDefEqProofs -dsimp (disch := omega) only [go_sem, g82_0, g82_1, g82_2, g82_3, g82_4, g82_5, g82_6, a82_6, n82_6, g82_7, g82_8, g82_9, i82, not_true_eq_false, bne_self_eq_false, Nat.reduceEqDiff, Nat.reduceAdd, Nat.reduceMul, Nat.reduceLeDiff, Nat.reduceBEq, Nat.reduceBNe, Int.reduceEq, ↓reduceIte, reduceCtorEq]
      exact ⟨by omega, (imp_sub (by simp (maxSteps := 9000000) -implicitDefEqProofs -dsimp (disch := omega) only [go_sem, g82_0, g82_1, g82_2, g82_3, g82_4, g82_5, g82_6, a82_6, n82_6, g82_7, g82_8, g82_9, i82, Nat.reduceEqDiff, Nat.reduceAdd, Nat.reduceMul, Nat.reduceLeDiff, Nat.reduceBEq, Nat.reduceBNe, Int.reduceEq, ↓reduceIte, reduceCtorEq]) (by simp (maxSteps := 9000000) -implicitDefEqProofs -dsimp (disch := omega) only [go_sem, g82_0, g82_1, g82_2, g82_3, g82_4, g82_5, g82_6, a82_6, n82_6, g82_7, g82_8, g82_9, i82, Nat.reduceEqDiff, Nat.reduceAdd, Nat.reduceMul, Nat.reduceLeDiff, Nat.reduceBEq, Nat.reduceBNe, Int.reduceEq, ↓reduceIte, reduceCtorEq]) rfl)⟩
    · simp (maxSteps := 9000000) -implicitDefEqProofs -dsimp (disch := omega) only [go_sem, g82_0, g82_1, g82_2, g82_3, g82_4, g82_5, g82_6, a82_6, n82_6, g82_7, g82_8, g82_9, i82, Nat.reduceEqDiff, Nat.reduceAdd, Nat.reduceMul, Nat.reduceLeDiff, Nat.reduceBEq, Nat.reduceBNe, Int.reduceEq, ↓reduceIte, reduceCtorEq]
def g35_0 : List Gop := [⟨none, (some 2), (.box (.t 0))⟩, ⟨none, (some 3), (.box (.t 1))⟩, ⟨none, (some 4), (.mov (.k (.one (.bool .false))))⟩]
def g35_1 : List Gop := [⟨none, (some 5), (.faddr (.t 2) 0)⟩, ⟨none, (some 6), (.load none (.t 5))⟩, ⟨none, (some 7), (.faddr (.t 3) 0)⟩, ⟨none, (some 8), (.load none (.t 7))⟩, ⟨none, (some 9), (.call 82 [(.t 6), (.t 8)])⟩, ⟨none, (some 10), (.mov (.t 9))⟩, ⟨(some (10, .true)), (some 11), (.faddr (.t 2) 1)⟩, ⟨(some (10, .true)), (some 12), (.load none (.t 11))⟩, ⟨(some (10, .true)), (some 13), (.faddr (.t 3) 1)⟩, ⟨(some (10, .true)), (some 14), (.load none (.t 13))⟩, ⟨(some (10, .true)), (some 15), (.call 82 [(.t 12), (.t 14)])⟩, ⟨none, (some 16), (.pick (.t 10) (.t 15) (.k (.one (.bool .false))))⟩, ⟨none, (some 17), (.mov (.t 16))⟩, ⟨(some (17, .true)), (some 18), (.faddr (.t 2) 2)⟩, ⟨(some (17, .true)), (some 19), (.load none (.t 18))⟩, ⟨(some (17, .true)), (some 20), (.faddr (.t 3) 2)⟩, ⟨(some (17, .true)), (some 21), (.load none (.t 20))⟩, ⟨(some (17, .true)), (some 22), (.call 43 [(.t 19), (.t 21)])⟩, ⟨none, (some 23), (.pick (.t 17) (.t 22) (.k (.one (.bool .false))))⟩, ⟨none, (some 4), (.mov (.t 23))⟩]
def i35 : Ir := (.seq (.region g35_0) (.seq (.region g35_1) .ret))
theorem sameDisks_ok (p h : List ByteArray) (b : List Bool) (hp : p.length ≤ 9223372036854775807) (hh : h.length ≤ 9223372036854775807) (hb : b.length ≤ 9223372036854775807) : Meets Try.prog 35 [.agg [(.sl false 1 p.length (p.map T.str)), (.sl false 1 h.length (h.map T.str)), (.sl false 1 b.length (b.map T.bool))], .agg [(.sl false 1 p.length (p.map T.str)), (.sl false 1 h.length (h.map T.str)), (.sl false 1 b.length (b.map T.bool))]] (.w (.one (.bool true))) [.agg [.hole, .hole, .hole], .agg [.hole, .hole, .hole]] := by
  refine meets_go (ir := i35) (fn := Try.f35) (rx := [(.tmp 4)]) rfl rfl (by rfl) (by rfl) (by exact Nat.le_of_ble_eq_true rfl) ?_
  simp (maxSteps := 9000000) -implicitDefEqProofs -dsimp (disch := omega) only [go_sem, g35_0, g35_1, i35, Nat.reduceEqDiff, Nat.reduceAdd, Nat.reduceMul, Nat.reduceLeDiff, Nat.reduceBEq, Nat.reduceBNe, Int.reduceEq, ↓reduceIte, reduceCtorEq]
  refine call_go true (sameTexts_ok p hp) ?_
  simp (maxSteps := 9000000) -implicitDefEqProofs -dsimp (disch := omega) only [go_sem, g35_0, g35_1, i35, Nat.reduceEqDiff, Nat.reduceAdd, Nat.reduceMul, Nat.reduceLeDiff, Nat.reduceBEq, Nat.reduceBNe, Int.reduceEq, ↓reduceIte, reduceCtorEq]
  refine call_go true (sameTexts_ok h hh) ?_
  simp (maxSteps := 9000000) -implicitDefEqProofs -dsimp (disch := omega) only [go_sem, g35_0, g35_1, i35, Nat.reduceEqDiff, Nat.reduceAdd, Nat.reduceMul, Nat.reduceLeDiff, Nat.reduceBEq, Nat.reduceBNe, Int.reduceEq, ↓reduceIte, reduceCtorEq]
  refine call_go true (sameBools_ok b hb) ?_
  simp (maxSteps := 9000000) -implicitDefEqProofs -dsimp (disch := omega) only [go_sem, g35_0, g35_1, i35, Nat.reduceEqDiff, Nat.reduceAdd, Nat.reduceMul, Nat.reduceLeDiff, Nat.reduceBEq, Nat.reduceBNe, Int.reduceEq, ↓reduceIte, reduceCtorEq]
/-- what is held in a disk -/
noncomputable def HeldRes (p h : List ByteArray) (b : List Bool) : TV := open Classical in if GoodD p h b then .tup [.one (.sl true 1 (heldN h h.length).length ((heldN h h.length).map (T.int .i64))), .one (.bool true)] else .tup [.one (.sl true 0 0 []), .one (.bool false)]
/-- a disk behind a crash -/
noncomputable def CrashRes (p h : List ByteArray) (b : List Bool) (kept : List Int) : TV := open Classical in if GoodD p h b ∧ KeptOk h kept then .tup [.agg [(.sl true 1 (crashP p h kept).length ((crashP p h kept).map T.str)), (.sl true 1 (crashH h).length ((crashH h).map T.str)), (.sl true 1 b.length (b.map T.bool))], .one (.bool true)] else .tup [.agg [.sl true 0 0 [], .sl true 0 0 [], .sl true 0 0 []], .one (.bool false)]
noncomputable def readF (p h : List ByteArray) (b : List Bool) (x : Int) : ByteArray × Bool := open Classical in if GoodD p h b ∧ (0 ≤ x ∧ x < p.length) ∧ b.getD x.toNat default = false then (if h.getD x.toNat default = e0 then p.getD x.toNat default else h.getD x.toNat default, true) else (e0, false)
def g27_0 : List Gop := [⟨none, (some 1), (.box (.t 0))⟩, ⟨none, (some 2), (.mov (.k (.one .nil)))⟩, ⟨none, (some 3), (.mov (.k (.one (.bool .false))))⟩]
def g27_1 : List Gop := [⟨none, (some 4), (.load (some 3) (.t 1))⟩, ⟨none, (some 5), (.call 21 [(.t 4)])⟩, ⟨none, (some 6), (.un .not (.t 5))⟩]
def g27_2 : List Gop := [⟨none, (some 2), (.mov (.k (.one .nil)))⟩, ⟨none, (some 3), (.mov (.k (.one (.bool .false))))⟩]
def g27_3 : List Gop := [⟨none, (some 7), (.load (some 3) (.t 1))⟩, ⟨none, (some 8), (.call 73 [(.t 7)])⟩, ⟨none, (some 2), (.mov (.t 8))⟩, ⟨none, (some 3), (.mov (.k (.one (.bool .true))))⟩]
def i27 : Ir := (.seq (.region g27_0) (.seq (.seq (.region g27_1) (.cond (.t 6) (.seq (.region g27_2) .ret) .skip)) (.seq (.region g27_3) .ret)))
theorem implHeldIn_ok (p h : List ByteArray) (b : List Bool) (hp : p.length ≤ 1048576) (hh : h.length ≤ 1048576) (hb : b.length ≤ 1048576) : Meets Try.prog 27 [.agg [(.sl false 1 p.length (p.map T.str)), (.sl false 1 h.length (h.map T.str)), (.sl false 1 b.length (b.map T.bool))]] (HeldRes p h b) [.agg [.hole, .hole, .hole]] := by
  by_cases hg : GoodD p h b
  · rw [HeldRes, if_pos hg]
    refine meets_go (ir := i27) (fn := Try.f27) (rx := [(.tmp 2), (.tmp 3)]) rfl rfl (by rfl) (by rfl) (by exact Nat.le_of_ble_eq_true rfl) ?_
    simp (maxSteps := 9000000) -implicitDefEqProofs -dsimp (disch := omega) only [go_sem, g27_0, g27_1, g27_2, g27_3, i27, Nat.reduceEqDiff, Nat.reduceAdd, Nat.reduceMul, Nat.reduceLeDiff, Nat.reduceBEq, Nat.reduceBNe, Int.reduceEq, ↓reduceIte, reduceCtorEq]
    refine call_go true (implGoodDisk_ok p h b (by omega) (by omega) (by omega)) ?_
    simp (maxSteps := 9000000) -implicitDefEqProofs -dsimp (disch := omega) only [go_sem, g27_0, g27_1, g27_2, g27_3, i27, hg, Nat.reduceEqDiff, Nat.reduceAdd, Nat.reduceMul, Nat.reduceLeDiff, Nat.reduceBEq, Nat.reduceBNe, Int.reduceEq, ↓reduceIte, reduceCtorEq]
    refine call_go true (heldIn_ok p h b hh) ?_
    simp (maxSteps := 9000000) -implicitDefEqProofs -dsimp (disch := omega) only [go_sem, g27_0, g27_1, g27_2, g27_3, i27, Nat.reduceEqDiff, Nat.reduceAdd, Nat.reduceMul, Nat.reduceLeDiff, Nat.reduceBEq, Nat.reduceBNe, Int.reduceEq, ↓reduceIte, reduceCtorEq]
  · rw [HeldRes, if_neg hg]
    refine meets_go (ir := i27) (fn := Try.f27) (rx := [(.tmp 2), (.tmp 3)]) rfl rfl (by rfl) (by rfl) (by exact Nat.le_of_ble_eq_true rfl) ?_
    simp (maxSteps := 9000000) -implicitDefEqProofs -dsimp (disch := omega) only [go_sem, g27_0, g27_1, g27_2, g27_3, i27, Nat.reduceEqDiff, Nat.reduceAdd, Nat.reduceMul, Nat.reduceLeDiff, Nat.reduceBEq, Nat.reduceBNe, Int.reduceEq, ↓reduceIte, reduceCtorEq]
    refine call_go true (implGoodDisk_ok p h b (by omega) (by omega) (by omega)) ?_
    simp (maxSteps := 9000000) -implicitDefEqProofs -dsimp (disch := omega) only [go_sem, g27_0, g27_1, g27_2, g27_3, i27, hg, Nat.reduceEqDiff, Nat.reduceAdd, Nat.reduceMul, Nat.reduceLeDiff, Nat.reduceBEq, Nat.reduceBNe, Int.reduceEq, ↓reduceIte, reduceCtorEq]
def g33_0 : List Gop := [⟨none, (some 2), (.box (.t 0))⟩, ⟨none, (some 4), (.alloc [.nil, .nil, .nil])⟩, ⟨none, (some 5), (.mov (.k (.one (.bool .false))))⟩]
def g33_1 : List Gop := [⟨none, (some 6), (.load (some 3) (.t 2))⟩, ⟨none, (some 7), (.call 21 [(.t 6)])⟩, ⟨none, (some 8), (.un .not (.t 7))⟩, ⟨none, (some 9), (.mov (.t 8))⟩, ⟨(some (9, .false)), (some 10), (.load (some 3) (.t 2))⟩, ⟨(some (9, .false)), (some 11), (.mov (.t 1))⟩, ⟨(some (9, .false)), (some 12), (.call 77 [(.t 10), (.t 11)])⟩, ⟨(some (9, .false)), (some 13), (.un .not (.t 12))⟩, ⟨none, (some 14), (.pick (.t 9) (.k (.one (.bool .true))) (.t 13))⟩]
def g33_2 : List Gop := [⟨none, (some 15), (.build [.nil, .nil, .nil] [])⟩, ⟨none, none, (.store 3 (.t 4) (.t 15))⟩, ⟨none, (some 5), (.mov (.k (.one (.bool .false))))⟩]
def g33_3 : List Gop := [⟨none, (some 16), (.load (some 3) (.t 2))⟩, ⟨none, (some 17), (.mov (.t 1))⟩, ⟨none, (some 18), (.call 78 [(.t 16), (.t 17)])⟩, ⟨none, none, (.store 3 (.t 4) (.t 18))⟩, ⟨none, (some 5), (.mov (.k (.one (.bool .true))))⟩]
def i33 : Ir := (.seq (.region g33_0) (.seq (.seq (.region g33_1) (.cond (.t 14) (.seq (.region g33_2) .ret) .skip)) (.seq (.region g33_3) .ret)))
theorem implAfterCrash_ok (p h : List ByteArray) (b : List Bool) (kept : List Int) (hp : p.length ≤ 1048576) (hh : h.length ≤ 1048576) (hb : b.length ≤ 1048576) (hk : kept.length ≤ 1048576) : Meets Try.prog 33 [.agg [(.sl false 1 p.length (p.map T.str)), (.sl false 1 h.length (h.map T.str)), (.sl false 1 b.length (b.map T.bool))], .one (.sl false 1 kept.length (kept.map (T.int .i64)))] (CrashRes p h b kept) [.agg [.hole, .hole, .hole], .one .hole] := by
  by_cases hg : GoodD p h b
  · by_cases hq : KeptOk h kept
    · have hz : b ≠ [] := fun e => by have := hg.2.2.1; rw [e] at this; have := hg.1; simp only [List.length_nil] at *; omega
      rw [CrashRes, if_pos ⟨hg, hq⟩]
      refine meets_go (ir := i33) (fn := Try.f33) (rx := [(.cell 4 (some 3)), (.tmp 5)]) rfl rfl (by rfl) (by rfl) (by exact Nat.le_of_ble_eq_true rfl) ?_
      simp (maxSteps := 9000000) -implicitDefEqProofs -dsimp (disch := omega) only [go_sem, g33_0, g33_1, g33_2, g33_3, i33, Nat.reduceEqDiff, Nat.reduceAdd, Nat.reduceMul, Nat.reduceLeDiff, Nat.reduceBEq, Nat.reduceBNe, Int.reduceEq, ↓reduceIte, reduceCtorEq]
      refine call_go true (implGoodDisk_ok p h b (by omega) (by omega) (by omega)) ?_
      simp (maxSteps := 9000000) -implicitDefEqProofs -dsimp (disch := omega) only [go_sem, g33_0, g33_1, g33_2, g33_3, i33, hg, Nat.reduceEqDiff, Nat.reduceAdd, Nat.reduceMul, Nat.reduceLeDiff, Nat.reduceBEq, Nat.reduceBNe, Int.reduceEq, ↓reduceIte, reduceCtorEq]
      refine call_go true (areHeld_ok p h b kept hp (hg.2.1) hk) ?_
      simp (maxSteps := 9000000) -implicitDefEqProofs -dsimp (disch := omega) only [go_sem, g33_0, g33_1, g33_2, g33_3, i33, hq, Nat.reduceEqDiff, Nat.reduceAdd, Nat.reduceMul, Nat.reduceLeDiff, Nat.reduceBEq, Nat.reduceBNe, Int.reduceEq, ↓reduceIte, reduceCtorEq]
      refine call_go true (crashed_ok p h b kept hz hb hp hg.2.1 hk) ?_
      simp (maxSteps := 9000000) -implicitDefEqProofs -dsimp (disch := omega) only [go_sem, g33_0, g33_1, g33_2, g33_3, i33, Nat.reduceEqDiff, Nat.reduceAdd, Nat.reduceMul, Nat.reduceLeDiff, Nat.reduceBEq, Nat.reduceBNe, Int.reduceEq, ↓reduceIte, reduceCtorEq]
    · rw [CrashRes, if_neg (fun q => hq q.2)]
      refine meets_go (ir := i33) (fn := Try.f33) (rx := [(.cell 4 (some 3)), (.tmp 5)]) rfl rfl (by rfl) (by rfl) (by exact Nat.le_of_ble_eq_true rfl) ?_
      simp (maxSteps := 9000000) -implicitDefEqProofs -dsimp (disch := omega) only [go_sem, g33_0, g33_1, g33_2, g33_3, i33, Nat.reduceEqDiff, Nat.reduceAdd, Nat.reduceMul, Nat.reduceLeDiff, Nat.reduceBEq, Nat.reduceBNe, Int.reduceEq, ↓reduceIte, reduceCtorEq]
      refine call_go true (implGoodDisk_ok p h b (by omega) (by omega) (by omega)) ?_
      simp (maxSteps := 9000000) -implicitDefEqProofs -dsimp (disch := omega) only [go_sem, g33_0, g33_1, g33_2, g33_3, i33, hg, Nat.reduceEqDiff, Nat.reduceAdd, Nat.reduceMul, Nat.reduceLeDiff, Nat.reduceBEq, Nat.reduceBNe, Int.reduceEq, ↓reduceIte, reduceCtorEq]
      refine call_go true (areHeld_ok p h b kept hp (hg.2.1) hk) ?_
      simp (maxSteps := 9000000) -implicitDefEqProofs -dsimp (disch := omega) only [go_sem, g33_0, g33_1, g33_2, g33_3, i33, hq, Nat.reduceEqDiff, Nat.reduceAdd, Nat.reduceMul, Nat.reduceLeDiff, Nat.reduceBEq, Nat.reduceBNe, Int.reduceEq, ↓reduceIte, reduceCtorEq]
  · rw [CrashRes, if_neg (fun q => hg q.1)]
    refine meets_go (ir := i33) (fn := Try.f33) (rx := [(.cell 4 (some 3)), (.tmp 5)]) rfl rfl (by rfl) (by rfl) (by exact Nat.le_of_ble_eq_true rfl) ?_
    simp (maxSteps := 9000000) -implicitDefEqProofs -dsimp (disch := omega) only [go_sem, g33_0, g33_1, g33_2, g33_3, i33, Nat.reduceEqDiff, Nat.reduceAdd, Nat.reduceMul, Nat.reduceLeDiff, Nat.reduceBEq, Nat.reduceBNe, Int.reduceEq, ↓reduceIte, reduceCtorEq]
    refine call_go true (implGoodDisk_ok p h b (by omega) (by omega) (by omega)) ?_
    simp (maxSteps := 9000000) -implicitDefEqProofs -dsimp (disch := omega) only [go_sem, g33_0, g33_1, g33_2, g33_3, i33, hg, Nat.reduceEqDiff, Nat.reduceAdd, Nat.reduceMul, Nat.reduceLeDiff, Nat.reduceBEq, Nat.reduceBNe, Int.reduceEq, ↓reduceIte, reduceCtorEq]
def g25_0 : List Gop := [⟨none, (some 2), (.box (.t 0))⟩, ⟨none, (some 4), (.mov (.k (.one (.str ⟨#[]⟩))))⟩, ⟨none, (some 5), (.mov (.k (.one (.bool .false))))⟩]
def g25_1 : List Gop := [⟨none, (some 7), (.load (some 3) (.t 2))⟩, ⟨none, (some 8), (.call 21 [(.t 7)])⟩, ⟨none, (some 9), (.un .not (.t 8))⟩, ⟨none, (some 10), (.mov (.t 9))⟩, ⟨(some (10, .false)), (some 11), (.load (some 3) (.t 2))⟩, ⟨(some (10, .false)), (some 12), (.mov (.t 1))⟩, ⟨(some (10, .false)), (some 13), (.call 71 [(.t 11), (.t 12)])⟩, ⟨(some (10, .false)), (some 14), (.un .not (.t 13))⟩, ⟨none, (some 15), (.pick (.t 10) (.k (.one (.bool .true))) (.t 14))⟩, ⟨none, (some 16), (.mov (.t 15))⟩, ⟨(some (16, .false)), (some 17), (.faddr (.t 2) 2)⟩, ⟨(some (16, .false)), (some 18), (.load none (.t 17))⟩, ⟨(some (16, .false)), (some 19), (.mov (.t 1))⟩, ⟨(some (16, .false)), (some 20), (.iaddr 1 (.t 18) (.t 19))⟩, ⟨(some (16, .false)), (some 21), (.load none (.t 20))⟩, ⟨none, (some 22), (.pick (.t 16) (.k (.one (.bool .true))) (.t 21))⟩, ⟨none, (some 6), (.mov (.t 22))⟩]
def g25_2 : List Gop := [⟨none, (some 4), (.mov (.k (.one (.str ⟨#[]⟩))))⟩, ⟨none, (some 5), (.mov (.k (.one (.bool .false))))⟩]
def g25_3 : List Gop := [⟨none, (some 24), (.faddr (.t 2) 1)⟩, ⟨none, (some 25), (.load none (.t 24))⟩, ⟨none, (some 26), (.mov (.t 1))⟩, ⟨none, (some 27), (.iaddr 1 (.t 25) (.t 26))⟩, ⟨none, (some 28), (.load none (.t 27))⟩, ⟨none, (some 29), (.bin .neq (.t 28) (.k (.one (.str ⟨#[]⟩))))⟩, ⟨none, (some 23), (.mov (.t 29))⟩]
def g25_4 : List Gop := [⟨none, (some 30), (.faddr (.t 2) 1)⟩, ⟨none, (some 31), (.load none (.t 30))⟩, ⟨none, (some 32), (.mov (.t 1))⟩, ⟨none, (some 33), (.iaddr 1 (.t 31) (.t 32))⟩, ⟨none, (some 34), (.load none (.t 33))⟩, ⟨none, (some 4), (.mov (.t 34))⟩, ⟨none, (some 5), (.mov (.k (.one (.bool .true))))⟩]
def g25_5 : List Gop := [⟨none, (some 35), (.faddr (.t 2) 0)⟩, ⟨none, (some 36), (.load none (.t 35))⟩, ⟨none, (some 37), (.mov (.t 1))⟩, ⟨none, (some 38), (.iaddr 1 (.t 36) (.t 37))⟩, ⟨none, (some 39), (.load none (.t 38))⟩, ⟨none, (some 4), (.mov (.t 39))⟩, ⟨none, (some 5), (.mov (.k (.one (.bool .true))))⟩]
def i25 : Ir := (.seq (.region g25_0) (.seq (.block 0 (.seq (.region g25_1) (.cond (.t 6) (.seq (.region g25_2) .ret) (.seq (.region g25_3) (.cond (.t 23) (.seq (.region g25_4) .ret) .skip))))) (.seq (.region g25_5) .ret)))
theorem implReadSector_ok (p h : List ByteArray) (b : List Bool) (x : Int) (hp : p.length ≤ 1048576) (hh : h.length ≤ 1048576) (hb : b.length ≤ 1048576) : Meets Try.prog 25 [.agg [(.sl false 1 p.length (p.map T.str)), (.sl false 1 h.length (h.map T.str)), (.sl false 1 b.length (b.map T.bool))], .one (.int .i64 x)] (.tup [.one (.str (readF p h b x).1), .one (.bool (readF p h b x).2)]) [.agg [.hole, .hole, .hole], .one .hole] := by
  by_cases hg : GoodD p h b
  · by_cases hx : 0 ≤ x ∧ x < p.length
    · have e1 : (x.toNat : Int) = x := Int.toNat_of_nonneg hx.1
      have l1 : x.toNat < p.length := by omega
      have l2 : x.toNat < h.length := by have := hg.2.1; omega
      have l3 : x.toNat < b.length := by have := hg.2.2.1; omega
      by_cases hb0 : b.getD x.toNat default = false
      · rw [readF, if_pos ⟨hg, hx, hb0⟩]
        by_cases hh0 : h.getD x.toNat default = e0
        · have hh1 := hh0
          unfold e0 at hh1
          refine meets_go (ir := i25) (fn := Try.f25) (rx := [(.tmp 4), (.tmp 5)]) rfl rfl (by rfl) (by rfl) (by exact Nat.le_of_ble_eq_true rfl) ?_
          simp (maxSteps := 9000000) -implicitDefEqProofs -dsimp (disch := omega) only [go_sem, g25_0, g25_1, g25_2, g25_3, g25_4, g25_5, i25, Nat.reduceEqDiff, Nat.reduceAdd, Nat.reduceMul, Nat.reduceLeDiff, Nat.reduceBEq, Nat.reduceBNe, Int.reduceEq, ↓reduceIte, reduceCtorEq]
          refine call_go true (implGoodDisk_ok p h b (by omega) (by omega) (by omega)) ?_
          simp (maxSteps := 9000000) -implicitDefEqProofs -dsimp (disch := omega) only [go_sem, g25_0, g25_1, g25_2, g25_3, g25_4, g25_5, i25, hg, Nat.reduceEqDiff, Nat.reduceAdd, Nat.reduceMul, Nat.reduceLeDiff, Nat.reduceBEq, Nat.reduceBNe, Int.reduceEq, ↓reduceIte, reduceCtorEq]
          refine call_go true (has_ok p h b x hp hh hb) ?_
          simp (maxSteps := 9000000) -implicitDefEqProofs -dsimp (disch := omega) only [go_sem, g25_0, g25_1, g25_2, g25_3, g25_4, g25_5, i25, hx, hb0, hh0, hh1, Nat.reduceEqDiff, Nat.reduceAdd, Nat.reduceMul, Nat.reduceLeDiff, Nat.reduceBEq, Nat.reduceBNe, Int.reduceEq, ↓reduceIte, reduceCtorEq]
        · have hh1 := hh0
          unfold e0 at hh1
          refine meets_go (ir := i25) (fn := Try.f25) (rx := [(.tmp 4), (.tmp 5)]) rfl rfl (by rfl) (by rfl) (by exact Nat.le_of_ble_eq_true rfl) ?_
          simp (maxSteps := 9000000) -implicitDefEqProofs -dsimp (disch := omega) only [go_sem, g25_0, g25_1, g25_2, g25_3, g25_4, g25_5, i25, Nat.reduceEqDiff, Nat.reduceAdd, Nat.reduceMul, Nat.reduceLeDiff, Nat.reduceBEq, Nat.reduceBNe, Int.reduceEq, ↓reduceIte, reduceCtorEq]
          refine call_go true (implGoodDisk_ok p h b (by omega) (by omega) (by omega)) ?_
          simp (maxSteps := 9000000) -implicitDefEqProofs -dsimp (disch := omega) only [go_sem, g25_0, g25_1, g25_2, g25_3, g25_4, g25_5, i25, hg, Nat.reduceEqDiff, Nat.reduceAdd, Nat.reduceMul, Nat.reduceLeDiff, Nat.reduceBEq, Nat.reduceBNe, Int.reduceEq, ↓reduceIte, reduceCtorEq]
          refine call_go true (has_ok p h b x hp hh hb) ?_
          simp (maxSteps := 9000000) -implicitDefEqProofs -dsimp (disch := omega) only [go_sem, g25_0, g25_1, g25_2, g25_3, g25_4, g25_5, i25, hx, hb0, hh0, hh1, Nat.reduceEqDiff, Nat.reduceAdd, Nat.reduceMul, Nat.reduceLeDiff, Nat.reduceBEq, Nat.reduceBNe, Int.reduceEq, ↓reduceIte, reduceCtorEq]
      · have hb1 : b.getD x.toNat default = true := by simpa using hb0
        rw [readF, if_neg (fun q => hb0 q.2.2)]
        unfold e0
        refine meets_go (ir := i25) (fn := Try.f25) (rx := [(.tmp 4), (.tmp 5)]) rfl rfl (by rfl) (by rfl) (by exact Nat.le_of_ble_eq_true rfl) ?_
        simp (maxSteps := 9000000) -implicitDefEqProofs -dsimp (disch := omega) only [go_sem, g25_0, g25_1, g25_2, g25_3, g25_4, g25_5, i25, Nat.reduceEqDiff, Nat.reduceAdd, Nat.reduceMul, Nat.reduceLeDiff, Nat.reduceBEq, Nat.reduceBNe, Int.reduceEq, ↓reduceIte, reduceCtorEq]
        refine call_go true (implGoodDisk_ok p h b (by omega) (by omega) (by omega)) ?_
        simp (maxSteps := 9000000) -implicitDefEqProofs -dsimp (disch := omega) only [go_sem, g25_0, g25_1, g25_2, g25_3, g25_4, g25_5, i25, hg, Nat.reduceEqDiff, Nat.reduceAdd, Nat.reduceMul, Nat.reduceLeDiff, Nat.reduceBEq, Nat.reduceBNe, Int.reduceEq, ↓reduceIte, reduceCtorEq]
        refine call_go true (has_ok p h b x hp hh hb) ?_
        simp (maxSteps := 9000000) -implicitDefEqProofs -dsimp (disch := omega) only [go_sem, g25_0, g25_1, g25_2, g25_3, g25_4, g25_5, i25, hx, hb1, Nat.reduceEqDiff, Nat.reduceAdd, Nat.reduceMul, Nat.reduceLeDiff, Nat.reduceBEq, Nat.reduceBNe, Int.reduceEq, ↓reduceIte, reduceCtorEq]
    · rw [readF, if_neg (fun q => hx q.2.1)]
      unfold e0
      refine meets_go (ir := i25) (fn := Try.f25) (rx := [(.tmp 4), (.tmp 5)]) rfl rfl (by rfl) (by rfl) (by exact Nat.le_of_ble_eq_true rfl) ?_
      simp (maxSteps := 9000000) -implicitDefEqProofs -dsimp (disch := omega) only [go_sem, g25_0, g25_1, g25_2, g25_3, g25_4, g25_5, i25, Nat.reduceEqDiff, Nat.reduceAdd, Nat.reduceMul, Nat.reduceLeDiff, Nat.reduceBEq, Nat.reduceBNe, Int.reduceEq, ↓reduceIte, reduceCtorEq]
      refine call_go true (implGoodDisk_ok p h b (by omega) (by omega) (by omega)) ?_
      simp (maxSteps := 9000000) -implicitDefEqProofs -dsimp (disch := omega) only [go_sem, g25_0, g25_1, g25_2, g25_3, g25_4, g25_5, i25, hg, Nat.reduceEqDiff, Nat.reduceAdd, Nat.reduceMul, Nat.reduceLeDiff, Nat.reduceBEq, Nat.reduceBNe, Int.reduceEq, ↓reduceIte, reduceCtorEq]
      refine call_go true (has_ok p h b x hp hh hb) ?_
      simp (maxSteps := 9000000) -implicitDefEqProofs -dsimp (disch := omega) only [go_sem, g25_0, g25_1, g25_2, g25_3, g25_4, g25_5, i25, hx, Nat.reduceEqDiff, Nat.reduceAdd, Nat.reduceMul, Nat.reduceLeDiff, Nat.reduceBEq, Nat.reduceBNe, Int.reduceEq, ↓reduceIte, reduceCtorEq]
  · rw [readF, if_neg (fun q => hg q.1)]
    unfold e0
    refine meets_go (ir := i25) (fn := Try.f25) (rx := [(.tmp 4), (.tmp 5)]) rfl rfl (by rfl) (by rfl) (by exact Nat.le_of_ble_eq_true rfl) ?_
    simp (maxSteps := 9000000) -implicitDefEqProofs -dsimp (disch := omega) only [go_sem, g25_0, g25_1, g25_2, g25_3, g25_4, g25_5, i25, Nat.reduceEqDiff, Nat.reduceAdd, Nat.reduceMul, Nat.reduceLeDiff, Nat.reduceBEq, Nat.reduceBNe, Int.reduceEq, ↓reduceIte, reduceCtorEq]
    refine call_go true (implGoodDisk_ok p h b (by omega) (by omega) (by omega)) ?_
    simp (maxSteps := 9000000) -implicitDefEqProofs -dsimp (disch := omega) only [go_sem, g25_0, g25_1, g25_2, g25_3, g25_4, g25_5, i25, hg, Nat.reduceEqDiff, Nat.reduceAdd, Nat.reduceMul, Nat.reduceLeDiff, Nat.reduceBEq, Nat.reduceBNe, Int.reduceEq, ↓reduceIte, reduceCtorEq]
end Go.Proofs.YtjlodcoeegpkaaaT

/- Functions of the program as contracts: disks drawn for a law. No condition. -/
set_option maxRecDepth 100000
set_option maxHeartbeats 8000000
set_option linter.unusedSimpArgs false
set_option linter.unusedVariables false
namespace Go.Proofs.YtjlodcoeegpkaaaT
open Go Go.RowKit
def Bytes (l : List Int) : Prop := (∀ x ∈ l, 0 ≤ x ∧ x ≤ 255) ∧ (l.length : Int) ≤ 9223372036854775807
theorem Bytes.cu {l : List Int} (h : Bytes l) : (⟨l, 0, 0⟩ : Cu).ok 0 := ⟨h.1, h.2, by simp, by simp, by simp, by simp⟩
end Go.Proofs.YtjlodcoeegpkaaaT

/- What a code reads as. No condition. -/
set_option maxRecDepth 100000
set_option maxHeartbeats 8000000
set_option linter.unusedSimpArgs false
set_option linter.unusedVariables false
namespace Go.Proofs.YtjlodcoeegpkaaaT
open Go Go.RowKit
theorem told_Bytes : Told Try.prog 49 (fun l : List Int => [(.sl false 1 l.length (l.map (T.int .u8)))]) Bytes :=
  told_iso (told_slice (k := 1) (told_int (k := .u8) Try.underlying5) (by kernel_rfl) (fun _ => rfl) (by decide) Try.underlying49) fun l h => ⟨l, by rw [flat_one], fun x hx => by
    have := h.2 x hx
    simp only [Lit.wf, Bool.and_eq_true, decide_eq_true_eq] at this
    have e1 : IntKind.u8.min = 0 := by decide
    have e2 : IntKind.u8.max = 255 := by decide
    rw [e1, e2] at this
    exact this, by have := h.1; unfold maxLen at this; omega⟩
end Go.Proofs.YtjlodcoeegpkaaaT

/- Functions of the program as contracts: steps drawn for a law; what a step leaves. No condition. -/
set_option maxRecDepth 100000
set_option maxHeartbeats 8000000
set_option linter.unusedSimpArgs false
set_option linter.unusedVariables false
namespace Go.Proofs.YtjlodcoeegpkaaaT
open Go Go.RowKit
/-- nothing is held where a disk is bad -/
def BadE (d : Dk) : Prop := ∀ k, d.b.getD k default = true → d.h.getD k default = e0
theorem getD_set {α : Type} [Inhabited α] {l : List α} {i k : Nat} {y : α} : (l.set i y).getD k default = if i = k ∧ k < l.length then y else l.getD k default := by
  simp only [List.getD_eq_getElem?_getD, List.getElem?_set]
  by_cases h : i = k
  · subst h
    by_cases h2 : i < l.length
    · simp [h2]
    · simp [h2]
  · simp [h]
theorem crashH_get {h : List ByteArray} {k : Nat} : (crashH h).getD k default = e0 := by
  by_cases hk : k < h.length
  · simp [crashH, List.getD_eq_getElem?_getD, hk]
  · simp [crashH, List.getD_eq_getElem?_getD, hk]; rfl
theorem stepF_bad {p h : List ByteArray} {b : List Bool} {k a : Int} {text : ByteArray} {kept : List Int} {o : Bool} (hl : h.length = p.length ∧ b.length = p.length) (hi : BadE ⟨p, h, b, o⟩) : BadE (stepF p h b k a text kept) := by
  intro j hj
  simp only [BadE] at hi
  generalize hD : stepF p h b k a text kept = D at *
  unfold stepF at hD
  repeat' split at hD
  all_goals subst hD
  all_goals simp only at hj ⊢
  all_goals first
    | exact hi j hj
    | exact crashH_get
    | (rename_i c1 c2 c3
       rw [getD_set]
       split
       · rename_i e; rw [← e.1] at hj; rw [c3.2.1] at hj; simp at hj
       · exact hi j hj)
    | (rw [getD_set]
       split
       · rfl
       · rename_i e
         rw [getD_set] at hj
         split at hj
         · rename_i e2; exact absurd ⟨e2.1, by omega⟩ e
         · exact hi j hj)
    | (rw [getD_set] at hj
       split at hj
       · simp at hj
       · exact hi j hj)
theorem playS_bad {n : Nat} {l : List Stp} : ∀ {i : Nat}, BadE (playS n l i)
  | 0 => by
    intro k hk
    simp only [playS, List.getD_eq_getElem?_getD, List.getElem?_replicate] at hk ⊢
    split at hk
    · simp at hk
    · simp at hk
  | i + 1 => by
    obtain ⟨h1, h2, h3, _⟩ := playS_inv (n := n) (l := l) (i := i)
    exact stepF_bad (o := (playS n l i).ok) ⟨by omega, by omega⟩ (playS_bad (i := i))
theorem playS_good {n : Nat} {l : List Stp} {i : Nat} (hn : 1 ≤ n ∧ n ≤ 24) : GoodD (playS n l i).p (playS n l i).h (playS n l i).b := by
  obtain ⟨h1, h2, h3, h4, h5⟩ := playS_inv (n := n) (l := l) (i := i)
  exact ⟨by omega, by omega, by omega, fun k hk => ⟨sz_get h4, sz_get h5, playS_bad k⟩⟩
theorem keptOk_nil {h : List ByteArray} : KeptOk h [] := fun i hi => by simp at hi
/-- a synced disk -/
theorem sync_F {p h : List ByteArray} {b : List Bool} : stepF p h b 2 0 ⟨#[]⟩ [] = ⟨crashP p h (heldN h h.length), crashH h, b, true⟩ := by
  unfold stepF
  rw [if_pos (.inl rfl), if_pos ⟨rfl, rfl, fun _ => rfl, keptOk_nil⟩]
  simp
theorem sync_good {p h : List ByteArray} {b : List Bool} {kept : List Int} (hg : GoodD p h b) : GoodD (crashP p h kept) (crashH h) b := by
  obtain ⟨h1, h2, h3, h4⟩ := hg
  have lp : (crashP p h kept).length = p.length := by simp [crashP]
  have lh : (crashH h).length = h.length := by simp [crashH]
  refine ⟨by omega, by omega, by omega, fun k hk => ⟨?_, ?_, fun _ => crashH_get⟩⟩
  · rw [lp] at hk
    have e : (crashP p h kept).getD k default = crashF p h kept k := by simp [crashP, List.getD_eq_getElem?_getD, hk]
    rw [e, crashF]
    split
    · exact (h4 k hk).2.1
    · exact (h4 k hk).1
  · rw [crashH_get]; decide
theorem crashP_nil {p h : List ByteArray} : crashP p h [] = p := by
  apply List.ext_getElem
  · simp [crashP]
  · intro i h1 h2
    simp [crashP, crashF, List.getD_eq_getElem?_getD, h2]
theorem crashH_H {h : List ByteArray} : crashH (crashH h) = crashH h := by simp [crashH]
theorem mem_heldJ {h : List ByteArray} {i : Nat} (hi : i < h.length) : (i : Int) ∈ heldN h h.length ↔ ¬ h.getD i default = e0 := by
  unfold heldN
  simp only [List.mem_map, List.mem_filter, List.mem_range, decide_eq_true_eq]
  constructor
  · rintro ⟨j, ⟨h1, h2⟩, h3⟩
    obtain rfl : j = i := by omega
    exact h2
  · intro h2
    exact ⟨i, ⟨hi, h2⟩, rfl⟩
theorem heldN_H {h : List ByteArray} {n : Nat} : heldN (crashH h) n = [] := by
  unfold heldN
  rw [List.map_eq_nil_iff, List.filter_eq_nil_iff]
  intro k _
  simp only [crashH_get, not_true_eq_false, decide_false]
  simp
theorem readF_pos {p h : List ByteArray} {b : List Bool} {x : Int} (hg : GoodD p h b) (hx : 0 ≤ x ∧ x < p.length) (hb : b.getD x.toNat default = false) : readF p h b x = (if h.getD x.toNat default = e0 then p.getD x.toNat default else h.getD x.toNat default, true) := by
  unfold readF; exact if_pos ⟨hg, hx, hb⟩
theorem readF_neg {p h : List ByteArray} {b : List Bool} {x : Int} (hb : b.getD x.toNat default = true) : readF p h b x = (e0, false) := by
  unfold readF; exact if_neg fun q => Bool.noConfusion (hb.symm.trans q.2.2)
theorem readF_ok {p h : List ByteArray} {b : List Bool} {k : Nat} (hg : GoodD p h b) (hk : k < p.length) : (readF p h b (k : Int)).2 = !(b.getD k default) := by
  cases hb : b.getD k default with
  | false => rw [readF_pos (x := (k : Int)) hg (by omega) hb]; rfl
  | true => rw [readF_neg (x := (k : Int)) hb]; rfl
theorem sync_read {p h : List ByteArray} {b : List Bool} {k : Nat} (hg : GoodD p h b) (hk : k < p.length) : readF (crashP p h (heldN h h.length)) (crashH h) b (k : Int) = readF p h b (k : Int) := by
  have lp : (crashP p h (heldN h h.length)).length = p.length := by simp [crashP]
  have e : (crashP p h (heldN h h.length)).getD k default = crashF p h (heldN h h.length) k := by simp [crashP, List.getD_eq_getElem?_getD, hk]
  cases hb : b.getD k default with
  | false =>
    rw [readF_pos (x := (k : Int)) (sync_good hg) (by omega) hb, readF_pos (x := (k : Int)) hg (by omega) hb]
    have hl : k < h.length := by have := hg.2.1; omega
    simp only [toNat_nat, crashH_get, if_true, e, crashF]
    by_cases hh : h.getD k default = e0
    · rw [if_pos hh, if_neg (fun hm => (mem_heldJ hl).1 hm hh)]
    · rw [if_neg hh, if_pos ((mem_heldJ hl).2 hh)]
  | true => rw [readF_neg (x := (k : Int)) hb, readF_neg (x := (k : Int)) hb]
/-- what was written is read -/
theorem write_read {p h : List ByteArray} {b : List Bool} {a : Int} {text : ByteArray} {kept : List Int} (hg : GoodD p h b) (ho : (stepF p h b 1 a text kept).ok = true) : readF (stepF p h b 1 a text kept).p (stepF p h b 1 a text kept).h (stepF p h b 1 a text kept).b a = (text, true) := by
  generalize hD : stepF p h b 1 a text kept = D at *
  unfold stepF at hD
  rw [if_neg (by omega)] at hD
  split at hD
  · rename_i hr
    split at hD
    · rename_i hw
      subst hD
      simp only
      have e1 : (a.toNat : Int) = a := Int.toNat_of_nonneg hr.1.1
      have hl : a.toNat < h.length := by have := hg.2.1; omega
      have hset : (h.set a.toNat text).getD a.toNat default = text := by rw [getD_set, if_pos ⟨rfl, hl⟩]
      have hgood : GoodD p (h.set a.toNat text) b := by
        obtain ⟨g1, g2, g3, g4⟩ := hg
        refine ⟨g1, by rw [List.length_set]; exact g2, g3, fun k hk => ⟨(g4 k hk).1, ?_, fun hb => ?_⟩⟩
        · rw [getD_set]; split
          · exact hw.2.2.2
          · exact (g4 k hk).2.1
        · rw [getD_set]; split
          · rename_i e; rw [← e.1] at hb; rw [hw.2.1] at hb; simp at hb
          · exact (g4 k hk).2.2 hb
      rw [readF_pos hgood hr.1 hw.2.1, hset, if_neg]
      intro e
      have h1 := hw.2.2.1
      rw [e] at h1
      exact absurd h1 (by decide)
    · rw [if_neg (by omega), if_neg (by omega), if_neg (by omega)] at hD
      subst hD; simp at ho
  · subst hD; simp at ho
def g40_0 : List Gop := [⟨none, (some 2), (.mov (.k (.one (.int .i64 0))))⟩, ⟨none, (some 3), (.mov (.k (.one .nil)))⟩]
def g40_1 : List Gop := [⟨none, (some 6), (.mov (.t 0))⟩, ⟨none, (some 7), (.build [.nil, (.int .i64 0), (.int .u64 0)] [(0, (1, (.t 6)))])⟩, ⟨none, (some 8), (.box (.t 7))⟩, ⟨none, (some 4), (.mov (.t 8))⟩]
def g40_2 : List Gop := [⟨none, (some 9), (.mov (.t 4))⟩, ⟨none, (some 10), (.call 81 [(.t 9), (.k (.one (.int .i64 5)))])⟩, ⟨none, (some 11), (.bin .add (.k (.one (.int .i64 1))) (.t 10))⟩, ⟨none, (some 5), (.mov (.t 11))⟩]
def g40_3 : List Gop := [⟨none, (some 12), (.mov (.t 5))⟩, ⟨none, (some 13), (.mov (.t 4))⟩, ⟨none, (some 14), (.mov (.t 5))⟩, ⟨none, (some 15), (.call 84 [(.t 13), (.t 14)])⟩, ⟨none, (some 2), (.mov (.t 12))⟩, ⟨none, (some 3), (.mov (.t 15))⟩]
def i40 : Ir := (.seq (.region g40_0) (.seq (.region g40_1) (.seq (.region g40_2) (.seq (.region g40_3) .ret))))
theorem drawPlayDisk_ok (code : List Int) (hc : Bytes code) : ∃ (m : Nat) (l : List Stp), (1 ≤ m ∧ m ≤ 5) ∧ l.length ≤ 81 ∧ (∀ x ∈ l, x.t.size ≤ 31 ∧ x.h.length ≤ 24) ∧ Meets Try.prog 40 [.one (.sl false 1 code.length (code.map (T.int .u8)))] (.tup [.one (.int .i64 (m : Nat)), .one (OL l)]) [.one .hole] := by
  obtain ⟨x, c1, k1, r1, M1⟩ := pick_ok ⟨code, 0, 0⟩ 0 5 hc.cu (by omega) (by omega) (by omega)
  obtain ⟨l, c2, k2, hl, hs, M2⟩ := diskSteps_ok c1 (0 + 1) (1 + x) k1 (by omega) (by omega)
  obtain ⟨m, hm⟩ : ∃ m : Nat, 1 + x = (m : Int) := ⟨(1 + x).toNat, by omega⟩
  refine ⟨m, l, by omega, hl, hs, ?_⟩
  have co := stO_cut (l := l)
  unfold cuT OL at *
  refine meets_go (ir := i40) (fn := Try.f40) (rx := [(.tmp 2), (.tmp 3)]) rfl rfl (by rfl) (by rfl) (by exact Nat.le_of_ble_eq_true rfl) ?_
  simp (maxSteps := 9000000) -implicitDefEqProofs -dsimp (disch := omega) only [go_sem, g40_0, g40_1, g40_2, g40_3, i40, lt_T, lt_F, le_T, le_F, eq_T, eq_F, and_F, Nat.reduceEqDiff, Nat.reduceAdd, Nat.reduceMul, Nat.reduceLeDiff, Nat.reduceBEq, Nat.reduceBNe, Int.reduceEq, ↓reduceIte, reduceCtorEq]
  refine call_go false M1 ?_
  simp (maxSteps := 9000000) -implicitDefEqProofs -dsimp (disch := omega) only [go_sem, g40_0, g40_1, g40_2, g40_3, i40, lt_T, lt_F, le_T, le_F, eq_T, eq_F, and_F, hm, Nat.reduceEqDiff, Nat.reduceAdd, Nat.reduceMul, Nat.reduceLeDiff, Nat.reduceBEq, Nat.reduceBNe, Int.reduceEq, ↓reduceIte, reduceCtorEq]
  rw [hm] at M2
  refine call_go false M2 ?_
  simp (maxSteps := 9000000) -implicitDefEqProofs -dsimp (disch := omega) only [go_sem, g40_0, g40_1, g40_2, g40_3, i40, lt_T, lt_F, le_T, le_F, eq_T, eq_F, and_F, co, Nat.reduceEqDiff, Nat.reduceAdd, Nat.reduceMul, Nat.reduceLeDiff, Nat.reduceBEq, Nat.reduceBNe, Int.reduceEq, ↓reduceIte, reduceCtorEq]
def g45_0 : List Gop := [⟨none, (some 2), (.alloc [.nil, .nil, .nil])⟩, ⟨none, (some 3), (.alloc [(.int .i64 0), (.int .i64 0), (.str ⟨#[]⟩), .nil])⟩]
def g45_1 : List Gop := [⟨none, (some 7), (.mov (.t 0))⟩, ⟨none, (some 8), (.build [.nil, (.int .i64 0), (.int .u64 0)] [(0, (1, (.t 7)))])⟩, ⟨none, (some 9), (.box (.t 8))⟩, ⟨none, (some 4), (.mov (.t 9))⟩]
def g45_2 : List Gop := [⟨none, (some 10), (.mov (.t 4))⟩, ⟨none, (some 11), (.call 79 [(.t 10)])⟩, ⟨none, (some 5), (.alloc [.nil, .nil, .nil])⟩, ⟨none, none, (.store 3 (.t 5) (.t 11))⟩]
def g45_3 : List Gop := [⟨none, (some 12), (.mov (.t 4))⟩, ⟨none, (some 13), (.faddr (.t 5) 0)⟩, ⟨none, (some 14), (.load none (.t 13))⟩, ⟨none, (some 15), (.len (.t 14))⟩, ⟨none, (some 16), (.call 84 [(.t 12), (.t 15)])⟩, ⟨none, (some 6), (.mov (.t 16))⟩]
def g45_4 : List Gop := [⟨none, (some 17), (.mov (.t 6))⟩, ⟨none, (some 18), (.len (.t 17))⟩, ⟨none, (some 19), (.bin .eql (.t 18) (.k (.one (.int .i64 0))))⟩]
def g45_5 : List Gop := [⟨none, (some 20), (.load (some 3) (.t 5))⟩, ⟨none, (some 21), (.build [(.int .i64 0), (.int .i64 0), (.str ⟨#[]⟩), .nil] [(0, (1, (.k (.one (.int .i64 2)))))])⟩, ⟨none, none, (.store 3 (.t 2) (.t 20))⟩, ⟨none, none, (.store 4 (.t 3) (.t 21))⟩]
def g45_6 : List Gop := [⟨none, (some 22), (.load (some 3) (.t 5))⟩, ⟨none, (some 23), (.mov (.t 6))⟩, ⟨none, (some 24), (.iaddr 4 (.t 23) (.k (.one (.int .i64 0))))⟩, ⟨none, (some 25), (.load (some 4) (.t 24))⟩, ⟨none, none, (.store 3 (.t 2) (.t 22))⟩, ⟨none, none, (.store 4 (.t 3) (.t 25))⟩]
def a45_6 : List (List Nat) := [[], [], [1], [1, 2], [0], [0, 1, 2, 3, 4]]
def n45_6 : Nat := 5 -- of 6
def i45 : Ir := (.seq (.region g45_0) (.seq (.region g45_1) (.seq (.region g45_2) (.seq (.region g45_3) (.seq (.seq (.region g45_4) (.cond (.t 19) (.seq (.region g45_5) .ret) .skip)) (.seq (.draw [[], [], [1], [2], [0, 0], [3, 4, 0, 1, 2, 3, 4]] g45_6) .ret))))))
def iStep : Ir := (.seq (.region g45_0) (.seq (.region g45_1) (.seq (.region g45_2) (.seq (.region g45_3) (.seq (.seq (.region g45_4) (.cond (.t 19) (.seq (.region g45_5) (.mark .ret)) .skip)) (.seq (.draw [[], [], [1], [2], [0, 0], [3, 4, 0, 1, 2, 3, 4]] g45_6) .ret))))))
theorem drawStepDisk_ok (code : List Int) (hc : Bytes code) : ∃ (p h : List ByteArray) (b : List Bool) (x : Stp), DrOk p h b ∧ (x.t.size ≤ 31 ∧ x.h.length ≤ 24) ∧ Meets Try.prog 45 [.one (.sl false 1 code.length (code.map (T.int .u8)))] (.tup [.agg [(.sl true 1 p.length (p.map T.str)), (.sl true 1 h.length (h.map T.str)), (.sl true 1 b.length (b.map T.bool))], .agg [.int .i64 x.k, .int .i64 x.a, .str x.t, (.sl true 1 x.h.length (x.h.map (T.int .i64)))]]) [.one .hole] := by
  obtain ⟨p, h, b, c1, k1, hd, M1⟩ := disk_ok ⟨code, 0, 0⟩ 0 hc.cu (by omega)
  have d1 := hd.1
  have d2 := hd.2.1
  have d3 := hd.2.2.1
  obtain ⟨l, c2, k2, hl, hs, M2⟩ := diskSteps_ok c1 (0 + 40000) p.length k1 (by omega) (by omega)
  have co := stO_cut (l := l)
  by_cases h0 : l.length = 0
  · refine ⟨p, h, b, ⟨2, 0, ⟨#[]⟩, []⟩, hd, ⟨by decide, by decide⟩, ?_⟩
    unfold cuT OL at *
    refine meets_go (ir := iStep) (fn := Try.f45) (rx := [(.cell 2 (some 3)), (.cell 3 (some 4))]) rfl rfl (by rfl) (by rfl) (by exact Nat.le_of_ble_eq_true rfl) ?_
    simp (maxSteps := 9000000) -implicitDefEqProofs -dsimp (disch := omega) only [go_sem, g45_0, g45_1, g45_2, g45_3, g45_4, g45_5, g45_6, a45_6, n45_6, i45, lt_T, lt_F, le_T, le_F, eq_T, eq_F, and_F, iStep, Nat.reduceEqDiff, Nat.reduceAdd, Nat.reduceMul, Nat.reduceLeDiff, Nat.reduceBEq, Nat.reduceBNe, Int.reduceEq, ↓reduceIte, reduceCtorEq]
    refine call_go false M1 ?_
    simp (maxSteps := 9000000) -implicitDefEqProofs -dsimp (disch := omega) only [go_sem, g45_0, g45_1, g45_2, g45_3, g45_4, g45_5, g45_6, a45_6, n45_6, i45, lt_T, lt_F, le_T, le_F, eq_T, eq_F, and_F, Nat.reduceEqDiff, Nat.reduceAdd, Nat.reduceMul, Nat.reduceLeDiff, Nat.reduceBEq, Nat.reduceBNe, Int.reduceEq, ↓reduceIte, reduceCtorEq]
    refine call_go false M2 ?_
    simp (maxSteps := 9000000) -implicitDefEqProofs -dsimp (disch := omega) only [go_sem, g45_0, g45_1, g45_2, g45_3, g45_4, g45_5, g45_6, a45_6, n45_6, i45, lt_T, lt_F, le_T, le_F, eq_T, eq_F, and_F, co, h0, Nat.reduceEqDiff, Nat.reduceAdd, Nat.reduceMul, Nat.reduceLeDiff, Nat.reduceBEq, Nat.reduceBNe, Int.reduceEq, ↓reduceIte, reduceCtorEq]
    refine mark_imp _ (imp_fix 2 [] 3 1 rfl rfl rfl) ?_
    simp (maxSteps := 9000000) -implicitDefEqProofs -dsimp (disch := omega) only [go_sem, g45_0, g45_1, g45_2, g45_3, g45_4, g45_5, g45_6, a45_6, n45_6, i45, lt_T, lt_F, le_T, le_F, eq_T, eq_F, and_F, Nat.reduceEqDiff, Nat.reduceAdd, Nat.reduceMul, Nat.reduceLeDiff, Nat.reduceBEq, Nat.reduceBNe, Int.reduceEq, ↓reduceIte, reduceCtorEq]
  · have hlt : 0 < l.length := by omega
    have hx := hs _ (getD_mem hlt)
    refine ⟨p, h, b, l.getD 0 default, hd, hx, ?_⟩
    have q1 : (stO l)[Int.toNat 0 * 4]? = some (.int .i64 (l.getD 0 default).k) := stO_0 hlt
    have q2 : (stO l)[Int.toNat 0 * 4 + 1]? = some (.int .i64 (l.getD 0 default).a) := stO_1 hlt
    have q3 : (stO l)[Int.toNat 0 * 4 + 1 + 1]? = some (.str (l.getD 0 default).t) := stO_2 hlt
    have q4 : (stO l)[Int.toNat 0 * 4 + 1 + 1 + 1]? = some (.sl true 1 ((l.getD 0 default).h).length (((l.getD 0 default).h).map (T.int .i64))) := stO_3 hlt
    unfold cuT OL at *
    refine meets_go (ir := iStep) (fn := Try.f45) (rx := [(.cell 2 (some 3)), (.cell 3 (some 4))]) rfl rfl (by rfl) (by rfl) (by exact Nat.le_of_ble_eq_true rfl) ?_
    simp (maxSteps := 9000000) -implicitDefEqProofs -dsimp (disch := omega) only [go_sem, g45_0, g45_1, g45_2, g45_3, g45_4, g45_5, g45_6, a45_6, n45_6, i45, lt_T, lt_F, le_T, le_F, eq_T, eq_F, and_F, iStep, Nat.reduceEqDiff, Nat.reduceAdd, Nat.reduceMul, Nat.reduceLeDiff, Nat.reduceBEq, Nat.reduceBNe, Int.reduceEq, ↓reduceIte, reduceCtorEq]
    refine call_go false M1 ?_
    simp (maxSteps := 9000000) -implicitDefEqProofs -dsimp (disch := omega) only [go_sem, g45_0, g45_1, g45_2, g45_3, g45_4, g45_5, g45_6, a45_6, n45_6, i45, lt_T, lt_F, le_T, le_F, eq_T, eq_F, and_F, Nat.reduceEqDiff, Nat.reduceAdd, Nat.reduceMul, Nat.reduceLeDiff, Nat.reduceBEq, Nat.reduceBNe, Int.reduceEq, ↓reduceIte, reduceCtorEq]
    refine call_go false M2 ?_
    simp (maxSteps := 9000000) -implicitDefEqProofs -dsimp (disch := omega) only [go_sem, g45_0, g45_1, g45_2, g45_3, g45_4, g45_5, g45_6, a45_6, n45_6, i45, lt_T, lt_F, le_T, le_F, eq_T, eq_F, and_F, co, h0, Nat.reduceEqDiff, Nat.reduceAdd, Nat.reduceMul, Nat.reduceLeDiff, Nat.reduceBEq, Nat.reduceBNe, Int.reduceEq, ↓reduceIte, reduceCtorEq]
    refine drawm_go n45_6 a45_6 [(4, .framed [8])] (by decide +kernel) ?_
    simp (maxSteps := 9000000) -implicitDefEqProofs -dsimp (disch := omega) only [go_sem, g45_0, g45_1, g45_2, g45_3, g45_4, g45_5, g45_6, a45_6, n45_6, i45, lt_T, lt_F, le_T, le_F, eq_T, eq_F, and_F, q1, q2, q3, q4, co, Nat.reduceEqDiff, Nat.reduceAdd, Nat.reduceMul, Nat.reduceLeDiff, Nat.reduceBEq, Nat.reduceBNe, Int.reduceEq, ↓reduceIte, reduceCtorEq]
end Go.Proofs.YtjlodcoeegpkaaaT
