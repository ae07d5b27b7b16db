/- Functions of the program, each with what it returns and leaves. No condition. -/
import Derived.Test.YtjlodcoeegpkaaaTree7
import Derived.Test.YtjlodcoeegpkaaaProg
set_option linter.all false
set_option linter.unusedVariables false
set_option linter.unusedSimpArgs false
set_option linter.unusedSectionVars false
set_option linter.unnecessarySimpa false
set_option linter.deprecated false
/- Functions of the program as contracts: comparisons of numbers and rows. No condition. -/
set_option maxRecDepth 100000
set_option maxHeartbeats 4000000
set_option linter.unusedSimpArgs false
set_option linter.unusedVariables false
namespace Go.Proofs.YtjlodcoeegpkaaaT
open Go
def g58_0 : List Gop := [⟨none, (some 6), (.mov (.k (.one (.bool .false))))⟩]
def g58_1 : List Gop := [⟨none, (some 7), (.mov (.t 0))⟩, ⟨none, (some 8), (.mov (.t 1))⟩, ⟨none, (some 9), (.bin .geq (.t 7) (.t 8))⟩, ⟨none, (some 10), (.mov (.t 9))⟩, ⟨(some (10, .true)), (some 11), (.mov (.t 0))⟩, ⟨(some (10, .true)), (some 12), (.mov (.t 2))⟩, ⟨(some (10, .true)), (some 13), (.bin .leq (.t 11) (.t 12))⟩, ⟨none, (some 14), (.pick (.t 10) (.t 13) (.k (.one (.bool .false))))⟩, ⟨none, (some 6), (.mov (.t 14))⟩]
def i58 : Ir := (.seq (.region g58_0) (.seq (.region g58_1) .ret))
def r58 : List Rx := [(.tmp 6)]
theorem l1In_ok (x lo hi : Int) : Meets Try.prog 58 [.one (.int .i64 x), .one (.int .i64 lo), .one (.int .i64 hi)] (.w (.one (.bool (decide (lo ≤ x ∧ x ≤ hi))))) [.one .hole, .one .hole, .one .hole] := by
  refine meets_go (ir := i58) (fn := Try.f58) (rx := [(.tmp 6)]) rfl rfl (by rfl) (by rfl) (by exact Nat.le_of_ble_eq_true rfl) ?_
  by_cases h : lo ≤ x <;> simp (maxSteps := 9000000) -implicitDefEqProofs -dsimp (disch := omega) only [go_sem, g58_0, g58_1, i58, h, Nat.reduceEqDiff, Nat.reduceAdd, Nat.reduceMul, Nat.reduceLeDiff, Nat.reduceBEq, Nat.reduceBNe, Int.reduceEq, ↓reduceIte, reduceCtorEq]
def g59_0 : List Gop := [⟨none, (some 6), (.mov (.k (.one (.bool .false))))⟩]
def g59_1 : List Gop := [⟨none, (some 7), (.mov (.t 0))⟩, ⟨none, (some 8), (.mov (.t 1))⟩, ⟨none, (some 9), (.bin .geq (.t 7) (.t 8))⟩, ⟨none, (some 10), (.mov (.t 9))⟩, ⟨(some (10, .true)), (some 11), (.mov (.t 0))⟩, ⟨(some (10, .true)), (some 12), (.mov (.t 2))⟩, ⟨(some (10, .true)), (some 13), (.bin .leq (.t 11) (.t 12))⟩, ⟨none, (some 14), (.pick (.t 10) (.t 13) (.k (.one (.bool .false))))⟩, ⟨none, (some 6), (.mov (.t 14))⟩]
def i59 : Ir := (.seq (.region g59_0) (.seq (.region g59_1) .ret))
def r59 : List Rx := [(.tmp 6)]
theorem within_ok (x lo hi : Int) : Meets Try.prog 59 [.one (.int .i64 x), .one (.int .i64 lo), .one (.int .i64 hi)] (.w (.one (.bool (decide (lo ≤ x ∧ x ≤ hi))))) [.one .hole, .one .hole, .one .hole] := by
  refine meets_go (ir := i59) (fn := Try.f59) (rx := [(.tmp 6)]) rfl rfl (by rfl) (by rfl) (by exact Nat.le_of_ble_eq_true rfl) ?_
  by_cases h : lo ≤ x <;> simp (maxSteps := 9000000) -implicitDefEqProofs -dsimp (disch := omega) only [go_sem, g59_0, g59_1, i59, h, Nat.reduceEqDiff, Nat.reduceAdd, Nat.reduceMul, Nat.reduceLeDiff, Nat.reduceBEq, Nat.reduceBNe, Int.reduceEq, ↓reduceIte, reduceCtorEq]
def g60_0 : List Gop := [⟨none, (some 4), (.mov (.k (.one (.bool .false))))⟩]
def g60_1 : List Gop := [⟨none, (some 6), (.mov (.t 0))⟩, ⟨none, (some 7), (.len (.t 6))⟩, ⟨none, (some 8), (.mov (.t 1))⟩, ⟨none, (some 9), (.len (.t 8))⟩, ⟨none, (some 10), (.bin .neq (.t 7) (.t 9))⟩]
def g60_2 : List Gop := [⟨none, (some 4), (.mov (.k (.one (.bool .false))))⟩]
def g60_3 : List Gop := [⟨none, (some 5), (.mov (.k (.one (.int .i64 0))))⟩]
def g60_4 : List Gop := [⟨none, (some 11), (.mov (.t 5))⟩, ⟨none, (some 12), (.mov (.t 0))⟩, ⟨none, (some 13), (.len (.t 12))⟩, ⟨none, (some 14), (.bin .lss (.t 11) (.t 13))⟩]
def g60_5 : List Gop := [⟨none, (some 17), (.mov (.t 0))⟩, ⟨none, (some 18), (.mov (.t 5))⟩, ⟨none, (some 19), (.iaddr 1 (.t 17) (.t 18))⟩, ⟨none, (some 20), (.load none (.t 19))⟩, ⟨none, (some 21), (.mov (.t 1))⟩, ⟨none, (some 22), (.mov (.t 5))⟩, ⟨none, (some 23), (.iaddr 1 (.t 21) (.t 22))⟩, ⟨none, (some 24), (.load none (.t 23))⟩, ⟨none, (some 25), (.bin .neq (.t 20) (.t 24))⟩]
def a60_5 : List (List Nat) := [[], [], [0, 1], [0, 1, 2], [], [], [4, 5], [4, 5, 6], [0, 1, 2, 3, 4, 5, 6, 7]]
def n60_5 : Nat := 8 -- of 9
def g60_6 : List Gop := [⟨none, (some 4), (.mov (.k (.one (.bool .false))))⟩]
def g60_7 : List Gop := [⟨none, (some 15), (.mov (.t 5))⟩, ⟨none, (some 16), (.bin .add (.t 15) (.k (.one (.int .i64 1))))⟩, ⟨none, (some 5), (.mov (.t 16))⟩]
def g60_8 : List Gop := [⟨none, (some 4), (.mov (.k (.one (.bool .true))))⟩]
def i60 : Ir := (.seq (.region g60_0) (.seq (.seq (.region g60_1) (.cond (.t 10) (.seq (.region g60_2) .ret) .skip)) (.seq (.seq (.region g60_3) (.block 0 (.loop (.seq (.seq (.region g60_4) (.cond (.t 14) .skip (.exit 0))) (.seq (.block 1 (.seq (.draw [[], [], [0, 1], [2], [], [], [4, 5], [6], [3, 7]] g60_5) (.cond (.t 25) (.seq (.region g60_6) .ret) .skip))) (.region g60_7)))))) (.seq (.region g60_8) .ret))))
def r60 : List Rx := [(.tmp 4)]
theorem eqStringS_ok (a b : List ByteArray) (ha : a.length ≤ 9223372036854775807) : Meets Try.prog 60 [.one (.sl false 1 a.length (a.map T.str)), .one (.sl false 1 b.length (b.map T.str))] (.w (.one (.bool (decide (a = b))))) [.one .hole, .one .hole] := by
  refine meets_go (ir := i60) (fn := Try.f60) (rx := [(.tmp 4)]) rfl rfl (by rfl) (by rfl) (by exact Nat.le_of_ble_eq_true rfl) ?_
  simp (maxSteps := 9000000) -implicitDefEqProofs -dsimp (disch := omega) only [go_sem, g60_0, g60_1, g60_2, g60_3, g60_4, g60_5, a60_5, n60_5, g60_6, g60_7, g60_8, i60, Nat.reduceEqDiff, Nat.reduceAdd, Nat.reduceMul, Nat.reduceLeDiff, Nat.reduceBEq, Nat.reduceBNe, Int.reduceEq, ↓reduceIte, reduceCtorEq]
  refine brP_i (fun h => ?_) (fun h => ?_)
  · have h' : b.length = a.length := by omega
    simp (maxSteps := 9000000) -implicitDefEqProofs -dsimp (disch := omega) only [go_sem, g60_0, g60_1, g60_2, g60_3, g60_4, g60_5, a60_5, n60_5, g60_6, g60_7, g60_8, i60, Nat.reduceEqDiff, Nat.reduceAdd, Nat.reduceMul, Nat.reduceLeDiff, Nat.reduceBEq, Nat.reduceBNe, Int.reduceEq, ↓reduceIte, reduceCtorEq]
    refine loop_n a.length (fun i => ⟨[(5, .w (.one (.int .i64 (i : Nat)))), (1, .w (.one (.hs 1 [] 0 1 b.length))), (0, .w (.one (.hs 0 [] 0 1 a.length)))], [(1, (.sl false 1 b.length (b.map T.str))), (0, (.sl false 1 a.length (a.map T.str)))], [.one (.hs 0 [] 0 1 a.length), .one (.hs 1 [] 0 1 b.length)]⟩) (fun i => a.take i = b.take i) ?_ ?_ ?_
    · exact (imp_sub (by simp (maxSteps := 9000000) -implicitDefEqProofs -dsimp (disch := omega) only [go_sem, g60_0, g60_1, g60_2, g60_3, g60_4, g60_5, a60_5, n60_5, g60_6, g60_7, g60_8, i60, Nat.reduceEqDiff, Nat.reduceAdd, Nat.reduceMul, Nat.reduceLeDiff, Nat.reduceBEq, Nat.reduceBNe, Int.reduceEq, ↓reduceIte, reduceCtorEq]) (by simp (maxSteps := 9000000) -implicitDefEqProofs -dsimp (disch := omega) only [go_sem, g60_0, g60_1, g60_2, g60_3, g60_4, g60_5, a60_5, n60_5, g60_6, g60_7, g60_8, i60, Nat.reduceEqDiff, Nat.reduceAdd, Nat.reduceMul, Nat.reduceLeDiff, Nat.reduceBEq, Nat.reduceBNe, Int.reduceEq, ↓reduceIte, reduceCtorEq]) rfl)
    · simp
    · intro i hi hJ
      simp (maxSteps := 9000000) -implicitDefEqProofs -dsimp (disch := omega) only [go_sem, g60_0, g60_1, g60_2, g60_3, g60_4, g60_5, a60_5, n60_5, g60_6, g60_7, g60_8, i60, Nat.reduceEqDiff, Nat.reduceAdd, Nat.reduceMul, Nat.reduceLeDiff, Nat.reduceBEq, Nat.reduceBNe, Int.reduceEq, ↓reduceIte, reduceCtorEq]
      refine brP_i (fun h2 => ?_) (fun h2 => ?_)
      · refine draw_go n60_5 a60_5 (by decide +kernel) ?_
        simp (maxSteps := 9000000) -implicitDefEqProofs -dsimp (disch := omega) only [go_sem, g60_0, g60_1, g60_2, g60_3, g60_4, g60_5, a60_5, n60_5, g60_6, g60_7, g60_8, i60, Nat.reduceEqDiff, Nat.reduceAdd, Nat.reduceMul, Nat.reduceLeDiff, Nat.reduceBEq, Nat.reduceBNe, Int.reduceEq, ↓reduceIte, reduceCtorEq]
        refine brP_i (fun h3 => ?_) (fun h3 => ?_)
        · simp (maxSteps := 9000000) -implicitDefEqProofs -dsimp (disch := omega) only [go_sem, g60_0, g60_1, g60_2, g60_3, g60_4, g60_5, a60_5, n60_5, g60_6, g60_7, g60_8, i60, Nat.reduceEqDiff, Nat.reduceAdd, Nat.reduceMul, Nat.reduceLeDiff, Nat.reduceBEq, Nat.reduceBNe, Int.reduceEq, ↓reduceIte, reduceCtorEq]
          exact ⟨⟨by omega, take_eq_succ (by omega) (by omega) hJ h3⟩, (imp_sub (by simp (maxSteps := 9000000) -implicitDefEqProofs -dsimp (disch := omega) only [go_sem, g60_0, g60_1, g60_2, g60_3, g60_4, g60_5, a60_5, n60_5, g60_6, g60_7, g60_8, i60, Nat.reduceEqDiff, Nat.reduceAdd, Nat.reduceMul, Nat.reduceLeDiff, Nat.reduceBEq, Nat.reduceBNe, Int.reduceEq, ↓reduceIte, reduceCtorEq]) (by simp (maxSteps := 9000000) -implicitDefEqProofs -dsimp (disch := omega) only [go_sem, g60_0, g60_1, g60_2, g60_3, g60_4, g60_5, a60_5, n60_5, g60_6, g60_7, g60_8, i60, Nat.reduceEqDiff, Nat.reduceAdd, Nat.reduceMul, Nat.reduceLeDiff, Nat.reduceBEq, Nat.reduceBNe, Int.reduceEq, ↓reduceIte, reduceCtorEq]) rfl)⟩
        · simp (maxSteps := 9000000) -implicitDefEqProofs -dsimp (disch := omega) only [go_sem, g60_0, g60_1, g60_2, g60_3, g60_4, g60_5, a60_5, n60_5, g60_6, g60_7, g60_8, i60, Nat.reduceEqDiff, Nat.reduceAdd, Nat.reduceMul, Nat.reduceLeDiff, Nat.reduceBEq, Nat.reduceBNe, Int.reduceEq, ↓reduceIte, reduceCtorEq]
          exact need_i (by simp [show a ≠ b from fun e => h3 (by rw [e])]) (by simp (maxSteps := 9000000) -implicitDefEqProofs -dsimp (disch := omega) only [go_sem, g60_0, g60_1, g60_2, g60_3, g60_4, g60_5, a60_5, n60_5, g60_6, g60_7, g60_8, i60, Nat.reduceEqDiff, Nat.reduceAdd, Nat.reduceMul, Nat.reduceLeDiff, Nat.reduceBEq, Nat.reduceBNe, Int.reduceEq, ↓reduceIte, reduceCtorEq])
      · simp (maxSteps := 9000000) -implicitDefEqProofs -dsimp (disch := omega) only [go_sem, g60_0, g60_1, g60_2, g60_3, g60_4, g60_5, a60_5, n60_5, g60_6, g60_7, g60_8, i60, Nat.reduceEqDiff, Nat.reduceAdd, Nat.reduceMul, Nat.reduceLeDiff, Nat.reduceBEq, Nat.reduceBNe, Int.reduceEq, ↓reduceIte, reduceCtorEq]
        exact need_i (by simp [eq_of_take hJ (by omega) (by omega)]) (by simp (maxSteps := 9000000) -implicitDefEqProofs -dsimp (disch := omega) only [go_sem, g60_0, g60_1, g60_2, g60_3, g60_4, g60_5, a60_5, n60_5, g60_6, g60_7, g60_8, i60, Nat.reduceEqDiff, Nat.reduceAdd, Nat.reduceMul, Nat.reduceLeDiff, Nat.reduceBEq, Nat.reduceBNe, Int.reduceEq, ↓reduceIte, reduceCtorEq])
  · simp (maxSteps := 9000000) -implicitDefEqProofs -dsimp (disch := omega) only [go_sem, g60_0, g60_1, g60_2, g60_3, g60_4, g60_5, a60_5, n60_5, g60_6, g60_7, g60_8, i60, Nat.reduceEqDiff, Nat.reduceAdd, Nat.reduceMul, Nat.reduceLeDiff, Nat.reduceBEq, Nat.reduceBNe, Int.reduceEq, ↓reduceIte, reduceCtorEq]
    exact need_i (by simp [show a ≠ b from fun e => h (by rw [e])]) (by simp (maxSteps := 9000000) -implicitDefEqProofs -dsimp (disch := omega) only [go_sem, g60_0, g60_1, g60_2, g60_3, g60_4, g60_5, a60_5, n60_5, g60_6, g60_7, g60_8, i60, Nat.reduceEqDiff, Nat.reduceAdd, Nat.reduceMul, Nat.reduceLeDiff, Nat.reduceBEq, Nat.reduceBNe, Int.reduceEq, ↓reduceIte, reduceCtorEq])
def g28_0 : List Gop := [⟨none, (some 4), (.mov (.k (.one (.bool .false))))⟩]
def g28_1 : List Gop := [⟨none, (some 6), (.mov (.t 0))⟩, ⟨none, (some 7), (.len (.t 6))⟩, ⟨none, (some 8), (.mov (.t 1))⟩, ⟨none, (some 9), (.len (.t 8))⟩, ⟨none, (some 10), (.bin .neq (.t 7) (.t 9))⟩]
def g28_2 : List Gop := [⟨none, (some 4), (.mov (.k (.one (.bool .false))))⟩]
def g28_3 : List Gop := [⟨none, (some 5), (.mov (.k (.one (.int .i64 0))))⟩]
def g28_4 : List Gop := [⟨none, (some 11), (.mov (.t 5))⟩, ⟨none, (some 12), (.mov (.t 0))⟩, ⟨none, (some 13), (.len (.t 12))⟩, ⟨none, (some 14), (.bin .lss (.t 11) (.t 13))⟩]
def g28_5 : List Gop := [⟨none, (some 17), (.mov (.t 0))⟩, ⟨none, (some 18), (.mov (.t 5))⟩, ⟨none, (some 19), (.iaddr 1 (.t 17) (.t 18))⟩, ⟨none, (some 20), (.load none (.t 19))⟩, ⟨none, (some 21), (.mov (.t 1))⟩, ⟨none, (some 22), (.mov (.t 5))⟩, ⟨none, (some 23), (.iaddr 1 (.t 21) (.t 22))⟩, ⟨none, (some 24), (.load none (.t 23))⟩, ⟨none, (some 25), (.bin .neq (.t 20) (.t 24))⟩]
def a28_5 : List (List Nat) := [[], [], [0, 1], [0, 1, 2], [], [], [4, 5], [4, 5, 6], [0, 1, 2, 3, 4, 5, 6, 7]]
def n28_5 : Nat := 8 -- of 9
def g28_6 : List Gop := [⟨none, (some 4), (.mov (.k (.one (.bool .false))))⟩]
def g28_7 : List Gop := [⟨none, (some 15), (.mov (.t 5))⟩, ⟨none, (some 16), (.bin .add (.t 15) (.k (.one (.int .i64 1))))⟩, ⟨none, (some 5), (.mov (.t 16))⟩]
def g28_8 : List Gop := [⟨none, (some 4), (.mov (.k (.one (.bool .true))))⟩]
def i28 : Ir := (.seq (.region g28_0) (.seq (.seq (.region g28_1) (.cond (.t 10) (.seq (.region g28_2) .ret) .skip)) (.seq (.seq (.region g28_3) (.block 0 (.loop (.seq (.seq (.region g28_4) (.cond (.t 14) .skip (.exit 0))) (.seq (.block 1 (.seq (.draw [[], [], [0, 1], [2], [], [], [4, 5], [6], [3, 7]] g28_5) (.cond (.t 25) (.seq (.region g28_6) .ret) .skip))) (.region g28_7)))))) (.seq (.region g28_8) .ret))))
def r28 : List Rx := [(.tmp 4)]
theorem eqIntS_ok (a b : List Int) (ha : a.length ≤ 9223372036854775807) : Meets Try.prog 28 [.one (.sl false 1 a.length (a.map (T.int .i64))), .one (.sl false 1 b.length (b.map (T.int .i64)))] (.w (.one (.bool (decide (a = b))))) [.one .hole, .one .hole] := by
  refine meets_go (ir := i28) (fn := Try.f28) (rx := [(.tmp 4)]) rfl rfl (by rfl) (by rfl) (by exact Nat.le_of_ble_eq_true rfl) ?_
  simp (maxSteps := 9000000) -implicitDefEqProofs -dsimp (disch := omega) only [go_sem, g28_0, g28_1, g28_2, g28_3, g28_4, g28_5, a28_5, n28_5, g28_6, g28_7, g28_8, i28, Nat.reduceEqDiff, Nat.reduceAdd, Nat.reduceMul, Nat.reduceLeDiff, Nat.reduceBEq, Nat.reduceBNe, Int.reduceEq, ↓reduceIte, reduceCtorEq]
  refine brP_i (fun h => ?_) (fun h => ?_)
  · have h' : b.length = a.length := by omega
    simp (maxSteps := 9000000) -implicitDefEqProofs -dsimp (disch := omega) only [go_sem, g28_0, g28_1, g28_2, g28_3, g28_4, g28_5, a28_5, n28_5, g28_6, g28_7, g28_8, i28, Nat.reduceEqDiff, Nat.reduceAdd, Nat.reduceMul, Nat.reduceLeDiff, Nat.reduceBEq, Nat.reduceBNe, Int.reduceEq, ↓reduceIte, reduceCtorEq]
    refine loop_n a.length (fun i => ⟨[(5, .w (.one (.int .i64 (i : Nat)))), (1, .w (.one (.hs 1 [] 0 1 b.length))), (0, .w (.one (.hs 0 [] 0 1 a.length)))], [(1, (.sl false 1 b.length (b.map (T.int .i64)))), (0, (.sl false 1 a.length (a.map (T.int .i64))))], [.one (.hs 0 [] 0 1 a.length), .one (.hs 1 [] 0 1 b.length)]⟩) (fun i => a.take i = b.take i) ?_ ?_ ?_
    · exact (imp_sub (by simp (maxSteps := 9000000) -implicitDefEqProofs -dsimp (disch := omega) only [go_sem, g28_0, g28_1, g28_2, g28_3, g28_4, g28_5, a28_5, n28_5, g28_6, g28_7, g28_8, i28, Nat.reduceEqDiff, Nat.reduceAdd, Nat.reduceMul, Nat.reduceLeDiff, Nat.reduceBEq, Nat.reduceBNe, Int.reduceEq, ↓reduceIte, reduceCtorEq]) (by simp (maxSteps := 9000000) -implicitDefEqProofs -dsimp (disch := omega) only [go_sem, g28_0, g28_1, g28_2, g28_3, g28_4, g28_5, a28_5, n28_5, g28_6, g28_7, g28_8, i28, Nat.reduceEqDiff, Nat.reduceAdd, Nat.reduceMul, Nat.reduceLeDiff, Nat.reduceBEq, Nat.reduceBNe, Int.reduceEq, ↓reduceIte, reduceCtorEq]) rfl)
    · simp
    · intro i hi hJ
      simp (maxSteps := 9000000) -implicitDefEqProofs -dsimp (disch := omega) only [go_sem, g28_0, g28_1, g28_2, g28_3, g28_4, g28_5, a28_5, n28_5, g28_6, g28_7, g28_8, i28, Nat.reduceEqDiff, Nat.reduceAdd, Nat.reduceMul, Nat.reduceLeDiff, Nat.reduceBEq, Nat.reduceBNe, Int.reduceEq, ↓reduceIte, reduceCtorEq]
      refine brP_i (fun h2 => ?_) (fun h2 => ?_)
      · refine draw_go n28_5 a28_5 (by decide +kernel) ?_
        simp (maxSteps := 9000000) -implicitDefEqProofs -dsimp (disch := omega) only [go_sem, g28_0, g28_1, g28_2, g28_3, g28_4, g28_5, a28_5, n28_5, g28_6, g28_7, g28_8, i28, Nat.reduceEqDiff, Nat.reduceAdd, Nat.reduceMul, Nat.reduceLeDiff, Nat.reduceBEq, Nat.reduceBNe, Int.reduceEq, ↓reduceIte, reduceCtorEq]
        refine brP_i (fun h3 => ?_) (fun h3 => ?_)
        · simp (maxSteps := 9000000) -implicitDefEqProofs -dsimp (disch := omega) only [go_sem, g28_0, g28_1, g28_2, g28_3, g28_4, g28_5, a28_5, n28_5, g28_6, g28_7, g28_8, i28, Nat.reduceEqDiff, Nat.reduceAdd, Nat.reduceMul, Nat.reduceLeDiff, Nat.reduceBEq, Nat.reduceBNe, Int.reduceEq, ↓reduceIte, reduceCtorEq]
          exact ⟨⟨by omega, take_eq_succ (by omega) (by omega) hJ h3⟩, (imp_sub (by simp (maxSteps := 9000000) -implicitDefEqProofs -dsimp (disch := omega) only [go_sem, g28_0, g28_1, g28_2, g28_3, g28_4, g28_5, a28_5, n28_5, g28_6, g28_7, g28_8, i28, Nat.reduceEqDiff, Nat.reduceAdd, Nat.reduceMul, Nat.reduceLeDiff, Nat.reduceBEq, Nat.reduceBNe, Int.reduceEq, ↓reduceIte, reduceCtorEq]) (by simp (maxSteps := 9000000) -implicitDefEqProofs -dsimp (disch := omega) only [go_sem, g28_0, g28_1, g28_2, g28_3, g28_4, g28_5, a28_5, n28_5, g28_6, g28_7, g28_8, i28, Nat.reduceEqDiff, Nat.reduceAdd, Nat.reduceMul, Nat.reduceLeDiff, Nat.reduceBEq, Nat.reduceBNe, Int.reduceEq, ↓reduceIte, reduceCtorEq]) rfl)⟩
        · simp (maxSteps := 9000000) -implicitDefEqProofs -dsimp (disch := omega) only [go_sem, g28_0, g28_1, g28_2, g28_3, g28_4, g28_5, a28_5, n28_5, g28_6, g28_7, g28_8, i28, Nat.reduceEqDiff, Nat.reduceAdd, Nat.reduceMul, Nat.reduceLeDiff, Nat.reduceBEq, Nat.reduceBNe, Int.reduceEq, ↓reduceIte, reduceCtorEq]
          exact need_i (by simp [show a ≠ b from fun e => h3 (by rw [e])]) (by simp (maxSteps := 9000000) -implicitDefEqProofs -dsimp (disch := omega) only [go_sem, g28_0, g28_1, g28_2, g28_3, g28_4, g28_5, a28_5, n28_5, g28_6, g28_7, g28_8, i28, Nat.reduceEqDiff, Nat.reduceAdd, Nat.reduceMul, Nat.reduceLeDiff, Nat.reduceBEq, Nat.reduceBNe, Int.reduceEq, ↓reduceIte, reduceCtorEq])
      · simp (maxSteps := 9000000) -implicitDefEqProofs -dsimp (disch := omega) only [go_sem, g28_0, g28_1, g28_2, g28_3, g28_4, g28_5, a28_5, n28_5, g28_6, g28_7, g28_8, i28, Nat.reduceEqDiff, Nat.reduceAdd, Nat.reduceMul, Nat.reduceLeDiff, Nat.reduceBEq, Nat.reduceBNe, Int.reduceEq, ↓reduceIte, reduceCtorEq]
        exact need_i (by simp [eq_of_take hJ (by omega) (by omega)]) (by simp (maxSteps := 9000000) -implicitDefEqProofs -dsimp (disch := omega) only [go_sem, g28_0, g28_1, g28_2, g28_3, g28_4, g28_5, a28_5, n28_5, g28_6, g28_7, g28_8, i28, Nat.reduceEqDiff, Nat.reduceAdd, Nat.reduceMul, Nat.reduceLeDiff, Nat.reduceBEq, Nat.reduceBNe, Int.reduceEq, ↓reduceIte, reduceCtorEq])
  · simp (maxSteps := 9000000) -implicitDefEqProofs -dsimp (disch := omega) only [go_sem, g28_0, g28_1, g28_2, g28_3, g28_4, g28_5, a28_5, n28_5, g28_6, g28_7, g28_8, i28, Nat.reduceEqDiff, Nat.reduceAdd, Nat.reduceMul, Nat.reduceLeDiff, Nat.reduceBEq, Nat.reduceBNe, Int.reduceEq, ↓reduceIte, reduceCtorEq]
    exact need_i (by simp [show a ≠ b from fun e => h (by rw [e])]) (by simp (maxSteps := 9000000) -implicitDefEqProofs -dsimp (disch := omega) only [go_sem, g28_0, g28_1, g28_2, g28_3, g28_4, g28_5, a28_5, n28_5, g28_6, g28_7, g28_8, i28, Nat.reduceEqDiff, Nat.reduceAdd, Nat.reduceMul, Nat.reduceLeDiff, Nat.reduceBEq, Nat.reduceBNe, Int.reduceEq, ↓reduceIte, reduceCtorEq])
def g49_0 : List Gop := [⟨none, (some 4), (.mov (.k (.one (.bool .false))))⟩]
def g49_1 : List Gop := [⟨none, (some 6), (.mov (.t 0))⟩, ⟨none, (some 7), (.len (.t 6))⟩, ⟨none, (some 8), (.mov (.t 1))⟩, ⟨none, (some 9), (.len (.t 8))⟩, ⟨none, (some 10), (.bin .neq (.t 7) (.t 9))⟩]
def g49_2 : List Gop := [⟨none, (some 4), (.mov (.k (.one (.bool .false))))⟩]
def g49_3 : List Gop := [⟨none, (some 5), (.mov (.k (.one (.int .i64 0))))⟩]
def g49_4 : List Gop := [⟨none, (some 11), (.mov (.t 5))⟩, ⟨none, (some 12), (.mov (.t 0))⟩, ⟨none, (some 13), (.len (.t 12))⟩, ⟨none, (some 14), (.bin .lss (.t 11) (.t 13))⟩]
def g49_5 : List Gop := [⟨none, (some 17), (.mov (.t 0))⟩, ⟨none, (some 18), (.mov (.t 5))⟩, ⟨none, (some 19), (.iaddr 1 (.t 17) (.t 18))⟩, ⟨none, (some 20), (.load none (.t 19))⟩, ⟨none, (some 21), (.mov (.t 1))⟩, ⟨none, (some 22), (.mov (.t 5))⟩, ⟨none, (some 23), (.iaddr 1 (.t 21) (.t 22))⟩, ⟨none, (some 24), (.load none (.t 23))⟩, ⟨none, (some 25), (.beq .true (.t 20) (.t 24))⟩]
def a49_5 : List (List Nat) := [[], [], [0, 1], [0, 1, 2], [], [], [4, 5], [4, 5, 6], [0, 1, 2, 3, 4, 5, 6, 7]]
def n49_5 : Nat := 8 -- of 9
def g49_6 : List Gop := [⟨none, (some 4), (.mov (.k (.one (.bool .false))))⟩]
def g49_7 : List Gop := [⟨none, (some 15), (.mov (.t 5))⟩, ⟨none, (some 16), (.bin .add (.t 15) (.k (.one (.int .i64 1))))⟩, ⟨none, (some 5), (.mov (.t 16))⟩]
def g49_8 : List Gop := [⟨none, (some 4), (.mov (.k (.one (.bool .true))))⟩]
def i49 : Ir := (.seq (.region g49_0) (.seq (.seq (.region g49_1) (.cond (.t 10) (.seq (.region g49_2) .ret) .skip)) (.seq (.seq (.region g49_3) (.block 0 (.loop (.seq (.seq (.region g49_4) (.cond (.t 14) .skip (.exit 0))) (.seq (.block 1 (.seq (.draw [[], [], [0, 1], [2], [], [], [4, 5], [6], [3, 7]] g49_5) (.cond (.t 25) (.seq (.region g49_6) .ret) .skip))) (.region g49_7)))))) (.seq (.region g49_8) .ret))))
def r49 : List Rx := [(.tmp 4)]
theorem eqBoolS_ok (a b : List Bool) (ha : a.length ≤ 9223372036854775807) : Meets Try.prog 49 [.one (.sl false 1 a.length (a.map T.bool)), .one (.sl false 1 b.length (b.map T.bool))] (.w (.one (.bool (decide (a = b))))) [.one .hole, .one .hole] := by
  refine meets_go (ir := i49) (fn := Try.f49) (rx := [(.tmp 4)]) rfl rfl (by rfl) (by rfl) (by exact Nat.le_of_ble_eq_true rfl) ?_
  simp (maxSteps := 9000000) -implicitDefEqProofs -dsimp (disch := omega) only [go_sem, g49_0, g49_1, g49_2, g49_3, g49_4, g49_5, a49_5, n49_5, g49_6, g49_7, g49_8, i49, Nat.reduceEqDiff, Nat.reduceAdd, Nat.reduceMul, Nat.reduceLeDiff, Nat.reduceBEq, Nat.reduceBNe, Int.reduceEq, ↓reduceIte, reduceCtorEq]
  refine brP_i (fun h => ?_) (fun h => ?_)
  · have h' : b.length = a.length := by omega
    simp (maxSteps := 9000000) -implicitDefEqProofs -dsimp (disch := omega) only [go_sem, g49_0, g49_1, g49_2, g49_3, g49_4, g49_5, a49_5, n49_5, g49_6, g49_7, g49_8, i49, Nat.reduceEqDiff, Nat.reduceAdd, Nat.reduceMul, Nat.reduceLeDiff, Nat.reduceBEq, Nat.reduceBNe, Int.reduceEq, ↓reduceIte, reduceCtorEq]
    refine loop_n a.length (fun i => ⟨[(5, .w (.one (.int .i64 (i : Nat)))), (1, .w (.one (.hs 1 [] 0 1 b.length))), (0, .w (.one (.hs 0 [] 0 1 a.length)))], [(1, (.sl false 1 b.length (b.map T.bool))), (0, (.sl false 1 a.length (a.map T.bool)))], [.one (.hs 0 [] 0 1 a.length), .one (.hs 1 [] 0 1 b.length)]⟩) (fun i => a.take i = b.take i) ?_ ?_ ?_
    · exact (imp_sub (by simp (maxSteps := 9000000) -implicitDefEqProofs -dsimp (disch := omega) only [go_sem, g49_0, g49_1, g49_2, g49_3, g49_4, g49_5, a49_5, n49_5, g49_6, g49_7, g49_8, i49, Nat.reduceEqDiff, Nat.reduceAdd, Nat.reduceMul, Nat.reduceLeDiff, Nat.reduceBEq, Nat.reduceBNe, Int.reduceEq, ↓reduceIte, reduceCtorEq]) (by simp (maxSteps := 9000000) -implicitDefEqProofs -dsimp (disch := omega) only [go_sem, g49_0, g49_1, g49_2, g49_3, g49_4, g49_5, a49_5, n49_5, g49_6, g49_7, g49_8, i49, Nat.reduceEqDiff, Nat.reduceAdd, Nat.reduceMul, Nat.reduceLeDiff, Nat.reduceBEq, Nat.reduceBNe, Int.reduceEq, ↓reduceIte, reduceCtorEq]) rfl)
    · simp
    · intro i hi hJ
      simp (maxSteps := 9000000) -implicitDefEqProofs -dsimp (disch := omega) only [go_sem, g49_0, g49_1, g49_2, g49_3, g49_4, g49_5, a49_5, n49_5, g49_6, g49_7, g49_8, i49, Nat.reduceEqDiff, Nat.reduceAdd, Nat.reduceMul, Nat.reduceLeDiff, Nat.reduceBEq, Nat.reduceBNe, Int.reduceEq, ↓reduceIte, reduceCtorEq]
      refine brP_i (fun h2 => ?_) (fun h2 => ?_)
      · refine draw_go n49_5 a49_5 (by decide +kernel) ?_
        simp (maxSteps := 9000000) -implicitDefEqProofs -dsimp (disch := omega) only [go_sem, g49_0, g49_1, g49_2, g49_3, g49_4, g49_5, a49_5, n49_5, g49_6, g49_7, g49_8, i49, Nat.reduceEqDiff, Nat.reduceAdd, Nat.reduceMul, Nat.reduceLeDiff, Nat.reduceBEq, Nat.reduceBNe, Int.reduceEq, ↓reduceIte, reduceCtorEq]
        refine brP_i (fun h3 => ?_) (fun h3 => ?_)
        · simp (maxSteps := 9000000) -implicitDefEqProofs -dsimp (disch := omega) only [go_sem, g49_0, g49_1, g49_2, g49_3, g49_4, g49_5, a49_5, n49_5, g49_6, g49_7, g49_8, i49, Nat.reduceEqDiff, Nat.reduceAdd, Nat.reduceMul, Nat.reduceLeDiff, Nat.reduceBEq, Nat.reduceBNe, Int.reduceEq, ↓reduceIte, reduceCtorEq]
          exact ⟨⟨by omega, take_eq_succ (by omega) (by omega) hJ h3⟩, (imp_sub (by simp (maxSteps := 9000000) -implicitDefEqProofs -dsimp (disch := omega) only [go_sem, g49_0, g49_1, g49_2, g49_3, g49_4, g49_5, a49_5, n49_5, g49_6, g49_7, g49_8, i49, Nat.reduceEqDiff, Nat.reduceAdd, Nat.reduceMul, Nat.reduceLeDiff, Nat.reduceBEq, Nat.reduceBNe, Int.reduceEq, ↓reduceIte, reduceCtorEq]) (by simp (maxSteps := 9000000) -implicitDefEqProofs -dsimp (disch := omega) only [go_sem, g49_0, g49_1, g49_2, g49_3, g49_4, g49_5, a49_5, n49_5, g49_6, g49_7, g49_8, i49, Nat.reduceEqDiff, Nat.reduceAdd, Nat.reduceMul, Nat.reduceLeDiff, Nat.reduceBEq, Nat.reduceBNe, Int.reduceEq, ↓reduceIte, reduceCtorEq]) rfl)⟩
        · simp (maxSteps := 9000000) -implicitDefEqProofs -dsimp (disch := omega) only [go_sem, g49_0, g49_1, g49_2, g49_3, g49_4, g49_5, a49_5, n49_5, g49_6, g49_7, g49_8, i49, Nat.reduceEqDiff, Nat.reduceAdd, Nat.reduceMul, Nat.reduceLeDiff, Nat.reduceBEq, Nat.reduceBNe, Int.reduceEq, ↓reduceIte, reduceCtorEq]
          exact need_i (by simp [show a ≠ b from fun e => h3 (by rw [e])]) (by simp (maxSteps := 9000000) -implicitDefEqProofs -dsimp (disch := omega) only [go_sem, g49_0, g49_1, g49_2, g49_3, g49_4, g49_5, a49_5, n49_5, g49_6, g49_7, g49_8, i49, Nat.reduceEqDiff, Nat.reduceAdd, Nat.reduceMul, Nat.reduceLeDiff, Nat.reduceBEq, Nat.reduceBNe, Int.reduceEq, ↓reduceIte, reduceCtorEq])
      · simp (maxSteps := 9000000) -implicitDefEqProofs -dsimp (disch := omega) only [go_sem, g49_0, g49_1, g49_2, g49_3, g49_4, g49_5, a49_5, n49_5, g49_6, g49_7, g49_8, i49, Nat.reduceEqDiff, Nat.reduceAdd, Nat.reduceMul, Nat.reduceLeDiff, Nat.reduceBEq, Nat.reduceBNe, Int.reduceEq, ↓reduceIte, reduceCtorEq]
        exact need_i (by simp [eq_of_take hJ (by omega) (by omega)]) (by simp (maxSteps := 9000000) -implicitDefEqProofs -dsimp (disch := omega) only [go_sem, g49_0, g49_1, g49_2, g49_3, g49_4, g49_5, a49_5, n49_5, g49_6, g49_7, g49_8, i49, Nat.reduceEqDiff, Nat.reduceAdd, Nat.reduceMul, Nat.reduceLeDiff, Nat.reduceBEq, Nat.reduceBNe, Int.reduceEq, ↓reduceIte, reduceCtorEq])
  · simp (maxSteps := 9000000) -implicitDefEqProofs -dsimp (disch := omega) only [go_sem, g49_0, g49_1, g49_2, g49_3, g49_4, g49_5, a49_5, n49_5, g49_6, g49_7, g49_8, i49, Nat.reduceEqDiff, Nat.reduceAdd, Nat.reduceMul, Nat.reduceLeDiff, Nat.reduceBEq, Nat.reduceBNe, Int.reduceEq, ↓reduceIte, reduceCtorEq]
    exact need_i (by simp [show a ≠ b from fun e => h (by rw [e])]) (by simp (maxSteps := 9000000) -implicitDefEqProofs -dsimp (disch := omega) only [go_sem, g49_0, g49_1, g49_2, g49_3, g49_4, g49_5, a49_5, n49_5, g49_6, g49_7, g49_8, i49, Nat.reduceEqDiff, Nat.reduceAdd, Nat.reduceMul, Nat.reduceLeDiff, Nat.reduceBEq, Nat.reduceBNe, Int.reduceEq, ↓reduceIte, reduceCtorEq])
end Go.Proofs.YtjlodcoeegpkaaaT

/- Functions of the program as contracts: rows told anew, their sizes. No condition. -/
set_option maxRecDepth 100000
set_option maxHeartbeats 4000000
set_option linter.unusedSimpArgs false
set_option linter.unusedVariables false
namespace Go.Proofs.YtjlodcoeegpkaaaT
open Go
def g65_0 : List Gop := [⟨none, (some 2), (.mov (.k (.one .nil)))⟩]
def g65_1 : List Gop := [⟨none, (some 5), (.mov (.t 0))⟩, ⟨none, (some 6), (.len (.t 5))⟩, ⟨none, (some 7), (.make 1 [(.str ⟨#[]⟩)] 16 (.t 6) (.t 6))⟩, ⟨none, (some 3), (.mov (.t 7))⟩]
def g65_2 : List Gop := [⟨none, (some 4), (.mov (.k (.one (.int .i64 0))))⟩]
def g65_3 : List Gop := [⟨none, (some 8), (.mov (.t 4))⟩, ⟨none, (some 9), (.mov (.t 0))⟩, ⟨none, (some 10), (.len (.t 9))⟩, ⟨none, (some 11), (.bin .lss (.t 8) (.t 10))⟩]
def g65_4 : List Gop := [⟨none, (some 14), (.mov (.t 3))⟩, ⟨none, (some 15), (.mov (.t 4))⟩, ⟨none, (some 16), (.mov (.t 0))⟩, ⟨none, (some 17), (.mov (.t 4))⟩, ⟨none, (some 18), (.iaddr 1 (.t 16) (.t 17))⟩, ⟨none, (some 19), (.load none (.t 18))⟩, ⟨none, (some 20), (.iaddr 1 (.t 14) (.t 15))⟩, ⟨none, none, (.store 1 (.t 20) (.t 19))⟩]
def g65_5 : List Gop := [⟨none, (some 12), (.mov (.t 4))⟩, ⟨none, (some 13), (.bin .add (.t 12) (.k (.one (.int .i64 1))))⟩, ⟨none, (some 4), (.mov (.t 13))⟩]
def g65_6 : List Gop := [⟨none, (some 21), (.mov (.t 3))⟩, ⟨none, (some 2), (.mov (.t 21))⟩]
def i65 : Ir := (.seq (.region g65_0) (.seq (.region g65_1) (.seq (.seq (.region g65_2) (.block 0 (.loop (.seq (.seq (.region g65_3) (.cond (.t 11) .skip (.exit 0))) (.seq (.block 1 (.region g65_4)) (.region g65_5)))))) (.seq (.region g65_6) .ret))))
def r65 : List Rx := [(.tmp 2)]
theorem toStringS_ok (a : List ByteArray) (ha : a.length ≤ 1048576) : Meets Try.prog 65 [.one (.sl false 1 a.length (a.map T.str))] (.w (.one (.sl true 1 a.length (a.map T.str)))) [.one .hole] := by
  refine meets_go (ir := i65) (fn := Try.f65) (rx := [(.tmp 2)]) rfl rfl (by rfl) (by rfl) (by exact Nat.le_of_ble_eq_true rfl) ?_
  simp (maxSteps := 9000000) -implicitDefEqProofs -dsimp (disch := omega) only [go_sem, g65_0, g65_1, g65_2, g65_3, g65_4, g65_5, g65_6, i65, Nat.reduceEqDiff, Nat.reduceAdd, Nat.reduceMul, Nat.reduceLeDiff, Nat.reduceBEq, Nat.reduceBNe, Int.reduceEq, ↓reduceIte, reduceCtorEq]
  refine loop_n a.length (fun i => ⟨[(4, .w (.one (.int .i64 (i : Nat)))), (3, .w (.one (.hs 1 [] 0 1 a.length))), (0, .w (.one (.hs 0 [] 0 1 a.length)))], [(1, .sl true 1 a.length ((fillL a (⟨#[]⟩ : ByteArray) i).map T.str)), (0, (.sl false 1 a.length (a.map T.str)))], [.one (.hs 0 [] 0 1 a.length)]⟩) (fun i => True) ?_ trivial ?_
  · exact (imp_sub (by simp (maxSteps := 9000000) -implicitDefEqProofs -dsimp (disch := omega) only [go_sem, g65_0, g65_1, g65_2, g65_3, g65_4, g65_5, g65_6, i65, fillL_0, List.map_replicate, Nat.reduceEqDiff, Nat.reduceAdd, Nat.reduceMul, Nat.reduceLeDiff, Nat.reduceBEq, Nat.reduceBNe, Int.reduceEq, ↓reduceIte, reduceCtorEq]) (by simp (maxSteps := 9000000) -implicitDefEqProofs -dsimp (disch := omega) only [go_sem, g65_0, g65_1, g65_2, g65_3, g65_4, g65_5, g65_6, i65, fillL_0, List.map_replicate, Nat.reduceEqDiff, Nat.reduceAdd, Nat.reduceMul, Nat.reduceLeDiff, Nat.reduceBEq, Nat.reduceBNe, Int.reduceEq, ↓reduceIte, reduceCtorEq]) rfl)
  · intro i hi hJ
    have hq := fillL_len (a := a) (d := (⟨#[]⟩ : ByteArray)) (i := i)
    simp (maxSteps := 9000000) -implicitDefEqProofs -dsimp (disch := omega) only [go_sem, g65_0, g65_1, g65_2, g65_3, g65_4, g65_5, g65_6, i65, Nat.reduceEqDiff, Nat.reduceAdd, Nat.reduceMul, Nat.reduceLeDiff, Nat.reduceBEq, Nat.reduceBNe, Int.reduceEq, ↓reduceIte, reduceCtorEq]
    refine brP_i (fun h => ?_) (fun h => ?_)
    · simp (maxSteps := 9000000) -implicitDefEqProofs -dsimp (disch := omega) only [go_sem, g65_0, g65_1, g65_2, g65_3, g65_4, g65_5, g65_6, i65, Nat.reduceEqDiff, Nat.reduceAdd, Nat.reduceMul, Nat.reduceLeDiff, Nat.reduceBEq, Nat.reduceBNe, Int.reduceEq, ↓reduceIte, reduceCtorEq]
      exact ⟨by omega, (imp_sub (by simp (maxSteps := 9000000) -implicitDefEqProofs -dsimp (disch := omega) only [go_sem, g65_0, g65_1, g65_2, g65_3, g65_4, g65_5, g65_6, i65, Nat.reduceEqDiff, Nat.reduceAdd, Nat.reduceMul, Nat.reduceLeDiff, Nat.reduceBEq, Nat.reduceBNe, Int.reduceEq, ↓reduceIte, reduceCtorEq]) (by simp (maxSteps := 9000000) -implicitDefEqProofs -dsimp (disch := omega) only [go_sem, g65_0, g65_1, g65_2, g65_3, g65_4, g65_5, g65_6, i65, Nat.reduceEqDiff, Nat.reduceAdd, Nat.reduceMul, Nat.reduceLeDiff, Nat.reduceBEq, Nat.reduceBNe, Int.reduceEq, ↓reduceIte, reduceCtorEq]) rfl)⟩
    · obtain rfl : i = a.length := by omega
      simp (maxSteps := 9000000) -implicitDefEqProofs -dsimp (disch := omega) only [go_sem, g65_0, g65_1, g65_2, g65_3, g65_4, g65_5, g65_6, i65, fillL_end, Nat.reduceEqDiff, Nat.reduceAdd, Nat.reduceMul, Nat.reduceLeDiff, Nat.reduceBEq, Nat.reduceBNe, Int.reduceEq, ↓reduceIte, reduceCtorEq]
def g32_0 : List Gop := [⟨none, (some 2), (.mov (.k (.one .nil)))⟩]
def g32_1 : List Gop := [⟨none, (some 5), (.mov (.t 0))⟩, ⟨none, (some 6), (.len (.t 5))⟩, ⟨none, (some 7), (.make 1 [(.int .i64 0)] 8 (.t 6) (.t 6))⟩, ⟨none, (some 3), (.mov (.t 7))⟩]
def g32_2 : List Gop := [⟨none, (some 4), (.mov (.k (.one (.int .i64 0))))⟩]
def g32_3 : List Gop := [⟨none, (some 8), (.mov (.t 4))⟩, ⟨none, (some 9), (.mov (.t 0))⟩, ⟨none, (some 10), (.len (.t 9))⟩, ⟨none, (some 11), (.bin .lss (.t 8) (.t 10))⟩]
def g32_4 : List Gop := [⟨none, (some 14), (.mov (.t 3))⟩, ⟨none, (some 15), (.mov (.t 4))⟩, ⟨none, (some 16), (.mov (.t 0))⟩, ⟨none, (some 17), (.mov (.t 4))⟩, ⟨none, (some 18), (.iaddr 1 (.t 16) (.t 17))⟩, ⟨none, (some 19), (.load none (.t 18))⟩, ⟨none, (some 20), (.iaddr 1 (.t 14) (.t 15))⟩, ⟨none, none, (.store 1 (.t 20) (.t 19))⟩]
def g32_5 : List Gop := [⟨none, (some 12), (.mov (.t 4))⟩, ⟨none, (some 13), (.bin .add (.t 12) (.k (.one (.int .i64 1))))⟩, ⟨none, (some 4), (.mov (.t 13))⟩]
def g32_6 : List Gop := [⟨none, (some 21), (.mov (.t 3))⟩, ⟨none, (some 2), (.mov (.t 21))⟩]
def i32 : Ir := (.seq (.region g32_0) (.seq (.region g32_1) (.seq (.seq (.region g32_2) (.block 0 (.loop (.seq (.seq (.region g32_3) (.cond (.t 11) .skip (.exit 0))) (.seq (.block 1 (.region g32_4)) (.region g32_5)))))) (.seq (.region g32_6) .ret))))
def r32 : List Rx := [(.tmp 2)]
theorem toIntS_ok (a : List Int) (ha : a.length ≤ 1048576) : Meets Try.prog 32 [.one (.sl false 1 a.length (a.map (T.int .i64)))] (.w (.one (.sl true 1 a.length (a.map (T.int .i64))))) [.one .hole] := by
  refine meets_go (ir := i32) (fn := Try.f32) (rx := [(.tmp 2)]) rfl rfl (by rfl) (by rfl) (by exact Nat.le_of_ble_eq_true rfl) ?_
  simp (maxSteps := 9000000) -implicitDefEqProofs -dsimp (disch := omega) only [go_sem, g32_0, g32_1, g32_2, g32_3, g32_4, g32_5, g32_6, i32, Nat.reduceEqDiff, Nat.reduceAdd, Nat.reduceMul, Nat.reduceLeDiff, Nat.reduceBEq, Nat.reduceBNe, Int.reduceEq, ↓reduceIte, reduceCtorEq]
  refine loop_n a.length (fun i => ⟨[(4, .w (.one (.int .i64 (i : Nat)))), (3, .w (.one (.hs 1 [] 0 1 a.length))), (0, .w (.one (.hs 0 [] 0 1 a.length)))], [(1, .sl true 1 a.length ((fillL a (0 : Int) i).map (T.int .i64))), (0, (.sl false 1 a.length (a.map (T.int .i64))))], [.one (.hs 0 [] 0 1 a.length)]⟩) (fun i => True) ?_ trivial ?_
  · exact (imp_sub (by simp (maxSteps := 9000000) -implicitDefEqProofs -dsimp (disch := omega) only [go_sem, g32_0, g32_1, g32_2, g32_3, g32_4, g32_5, g32_6, i32, fillL_0, List.map_replicate, Nat.reduceEqDiff, Nat.reduceAdd, Nat.reduceMul, Nat.reduceLeDiff, Nat.reduceBEq, Nat.reduceBNe, Int.reduceEq, ↓reduceIte, reduceCtorEq]) (by simp (maxSteps := 9000000) -implicitDefEqProofs -dsimp (disch := omega) only [go_sem, g32_0, g32_1, g32_2, g32_3, g32_4, g32_5, g32_6, i32, fillL_0, List.map_replicate, Nat.reduceEqDiff, Nat.reduceAdd, Nat.reduceMul, Nat.reduceLeDiff, Nat.reduceBEq, Nat.reduceBNe, Int.reduceEq, ↓reduceIte, reduceCtorEq]) rfl)
  · intro i hi hJ
    have hq := fillL_len (a := a) (d := (0 : Int)) (i := i)
    simp (maxSteps := 9000000) -implicitDefEqProofs -dsimp (disch := omega) only [go_sem, g32_0, g32_1, g32_2, g32_3, g32_4, g32_5, g32_6, i32, Nat.reduceEqDiff, Nat.reduceAdd, Nat.reduceMul, Nat.reduceLeDiff, Nat.reduceBEq, Nat.reduceBNe, Int.reduceEq, ↓reduceIte, reduceCtorEq]
    refine brP_i (fun h => ?_) (fun h => ?_)
    · simp (maxSteps := 9000000) -implicitDefEqProofs -dsimp (disch := omega) only [go_sem, g32_0, g32_1, g32_2, g32_3, g32_4, g32_5, g32_6, i32, Nat.reduceEqDiff, Nat.reduceAdd, Nat.reduceMul, Nat.reduceLeDiff, Nat.reduceBEq, Nat.reduceBNe, Int.reduceEq, ↓reduceIte, reduceCtorEq]
      exact ⟨by omega, (imp_sub (by simp (maxSteps := 9000000) -implicitDefEqProofs -dsimp (disch := omega) only [go_sem, g32_0, g32_1, g32_2, g32_3, g32_4, g32_5, g32_6, i32, Nat.reduceEqDiff, Nat.reduceAdd, Nat.reduceMul, Nat.reduceLeDiff, Nat.reduceBEq, Nat.reduceBNe, Int.reduceEq, ↓reduceIte, reduceCtorEq]) (by simp (maxSteps := 9000000) -implicitDefEqProofs -dsimp (disch := omega) only [go_sem, g32_0, g32_1, g32_2, g32_3, g32_4, g32_5, g32_6, i32, Nat.reduceEqDiff, Nat.reduceAdd, Nat.reduceMul, Nat.reduceLeDiff, Nat.reduceBEq, Nat.reduceBNe, Int.reduceEq, ↓reduceIte, reduceCtorEq]) rfl)⟩
    · obtain rfl : i = a.length := by omega
      simp (maxSteps := 9000000) -implicitDefEqProofs -dsimp (disch := omega) only [go_sem, g32_0, g32_1, g32_2, g32_3, g32_4, g32_5, g32_6, i32, fillL_end, Nat.reduceEqDiff, Nat.reduceAdd, Nat.reduceMul, Nat.reduceLeDiff, Nat.reduceBEq, Nat.reduceBNe, Int.reduceEq, ↓reduceIte, reduceCtorEq]
def g66_0 : List Gop := [⟨none, (some 2), (.mov (.k (.one .nil)))⟩]
def g66_1 : List Gop := [⟨none, (some 5), (.mov (.t 0))⟩, ⟨none, (some 6), (.len (.t 5))⟩, ⟨none, (some 7), (.make 1 [(.bool .false)] 1 (.t 6) (.t 6))⟩, ⟨none, (some 3), (.mov (.t 7))⟩]
def g66_2 : List Gop := [⟨none, (some 4), (.mov (.k (.one (.int .i64 0))))⟩]
def g66_3 : List Gop := [⟨none, (some 8), (.mov (.t 4))⟩, ⟨none, (some 9), (.mov (.t 0))⟩, ⟨none, (some 10), (.len (.t 9))⟩, ⟨none, (some 11), (.bin .lss (.t 8) (.t 10))⟩]
def g66_4 : List Gop := [⟨none, (some 14), (.mov (.t 3))⟩, ⟨none, (some 15), (.mov (.t 4))⟩, ⟨none, (some 16), (.mov (.t 0))⟩, ⟨none, (some 17), (.mov (.t 4))⟩, ⟨none, (some 18), (.iaddr 1 (.t 16) (.t 17))⟩, ⟨none, (some 19), (.load none (.t 18))⟩, ⟨none, (some 20), (.iaddr 1 (.t 14) (.t 15))⟩, ⟨none, none, (.store 1 (.t 20) (.t 19))⟩]
def g66_5 : List Gop := [⟨none, (some 12), (.mov (.t 4))⟩, ⟨none, (some 13), (.bin .add (.t 12) (.k (.one (.int .i64 1))))⟩, ⟨none, (some 4), (.mov (.t 13))⟩]
def g66_6 : List Gop := [⟨none, (some 21), (.mov (.t 3))⟩, ⟨none, (some 2), (.mov (.t 21))⟩]
def i66 : Ir := (.seq (.region g66_0) (.seq (.region g66_1) (.seq (.seq (.region g66_2) (.block 0 (.loop (.seq (.seq (.region g66_3) (.cond (.t 11) .skip (.exit 0))) (.seq (.block 1 (.region g66_4)) (.region g66_5)))))) (.seq (.region g66_6) .ret))))
def r66 : List Rx := [(.tmp 2)]
theorem toBoolS_ok (a : List Bool) (ha : a.length ≤ 1048576) : Meets Try.prog 66 [.one (.sl false 1 a.length (a.map T.bool))] (.w (.one (.sl true 1 a.length (a.map T.bool)))) [.one .hole] := by
  refine meets_go (ir := i66) (fn := Try.f66) (rx := [(.tmp 2)]) rfl rfl (by rfl) (by rfl) (by exact Nat.le_of_ble_eq_true rfl) ?_
  simp (maxSteps := 9000000) -implicitDefEqProofs -dsimp (disch := omega) only [go_sem, g66_0, g66_1, g66_2, g66_3, g66_4, g66_5, g66_6, i66, Nat.reduceEqDiff, Nat.reduceAdd, Nat.reduceMul, Nat.reduceLeDiff, Nat.reduceBEq, Nat.reduceBNe, Int.reduceEq, ↓reduceIte, reduceCtorEq]
  refine loop_n a.length (fun i => ⟨[(4, .w (.one (.int .i64 (i : Nat)))), (3, .w (.one (.hs 1 [] 0 1 a.length))), (0, .w (.one (.hs 0 [] 0 1 a.length)))], [(1, .sl true 1 a.length ((fillL a (false : Bool) i).map T.bool)), (0, (.sl false 1 a.length (a.map T.bool)))], [.one (.hs 0 [] 0 1 a.length)]⟩) (fun i => True) ?_ trivial ?_
  · exact (imp_sub (by simp (maxSteps := 9000000) -implicitDefEqProofs -dsimp (disch := omega) only [go_sem, g66_0, g66_1, g66_2, g66_3, g66_4, g66_5, g66_6, i66, fillL_0, List.map_replicate, Nat.reduceEqDiff, Nat.reduceAdd, Nat.reduceMul, Nat.reduceLeDiff, Nat.reduceBEq, Nat.reduceBNe, Int.reduceEq, ↓reduceIte, reduceCtorEq]) (by simp (maxSteps := 9000000) -implicitDefEqProofs -dsimp (disch := omega) only [go_sem, g66_0, g66_1, g66_2, g66_3, g66_4, g66_5, g66_6, i66, fillL_0, List.map_replicate, Nat.reduceEqDiff, Nat.reduceAdd, Nat.reduceMul, Nat.reduceLeDiff, Nat.reduceBEq, Nat.reduceBNe, Int.reduceEq, ↓reduceIte, reduceCtorEq]) rfl)
  · intro i hi hJ
    have hq := fillL_len (a := a) (d := (false : Bool)) (i := i)
    simp (maxSteps := 9000000) -implicitDefEqProofs -dsimp (disch := omega) only [go_sem, g66_0, g66_1, g66_2, g66_3, g66_4, g66_5, g66_6, i66, Nat.reduceEqDiff, Nat.reduceAdd, Nat.reduceMul, Nat.reduceLeDiff, Nat.reduceBEq, Nat.reduceBNe, Int.reduceEq, ↓reduceIte, reduceCtorEq]
    refine brP_i (fun h => ?_) (fun h => ?_)
    · simp (maxSteps := 9000000) -implicitDefEqProofs -dsimp (disch := omega) only [go_sem, g66_0, g66_1, g66_2, g66_3, g66_4, g66_5, g66_6, i66, Nat.reduceEqDiff, Nat.reduceAdd, Nat.reduceMul, Nat.reduceLeDiff, Nat.reduceBEq, Nat.reduceBNe, Int.reduceEq, ↓reduceIte, reduceCtorEq]
      exact ⟨by omega, (imp_sub (by simp (maxSteps := 9000000) -implicitDefEqProofs -dsimp (disch := omega) only [go_sem, g66_0, g66_1, g66_2, g66_3, g66_4, g66_5, g66_6, i66, Nat.reduceEqDiff, Nat.reduceAdd, Nat.reduceMul, Nat.reduceLeDiff, Nat.reduceBEq, Nat.reduceBNe, Int.reduceEq, ↓reduceIte, reduceCtorEq]) (by simp (maxSteps := 9000000) -implicitDefEqProofs -dsimp (disch := omega) only [go_sem, g66_0, g66_1, g66_2, g66_3, g66_4, g66_5, g66_6, i66, Nat.reduceEqDiff, Nat.reduceAdd, Nat.reduceMul, Nat.reduceLeDiff, Nat.reduceBEq, Nat.reduceBNe, Int.reduceEq, ↓reduceIte, reduceCtorEq]) rfl)⟩
    · obtain rfl : i = a.length := by omega
      simp (maxSteps := 9000000) -implicitDefEqProofs -dsimp (disch := omega) only [go_sem, g66_0, g66_1, g66_2, g66_3, g66_4, g66_5, g66_6, i66, fillL_end, Nat.reduceEqDiff, Nat.reduceAdd, Nat.reduceMul, Nat.reduceLeDiff, Nat.reduceBEq, Nat.reduceBNe, Int.reduceEq, ↓reduceIte, reduceCtorEq]
def g63_0 : List Gop := [⟨none, (some 4), (.mov (.k (.one (.int .i64 0))))⟩]
def g63_1 : List Gop := [⟨none, (some 6), (.mov (.t 1))⟩, ⟨none, (some 7), (.mov (.t 0))⟩, ⟨none, (some 8), (.len (.t 7))⟩, ⟨none, (some 9), (.bin .sub (.t 6) (.t 8))⟩, ⟨none, (some 1), (.mov (.t 9))⟩]
def g63_2 : List Gop := [⟨none, (some 10), (.mov (.t 1))⟩, ⟨none, (some 11), (.bin .lss (.t 10) (.k (.one (.int .i64 0))))⟩]
def g63_3 : List Gop := [⟨none, (some 4), (.mov (.k (.one (.int .i64 (-1)))))⟩]
def g63_4 : List Gop := [⟨none, (some 5), (.mov (.k (.one (.int .i64 0))))⟩]
def g63_5 : List Gop := [⟨none, (some 12), (.mov (.t 5))⟩, ⟨none, (some 13), (.mov (.t 0))⟩, ⟨none, (some 14), (.len (.t 13))⟩, ⟨none, (some 15), (.bin .lss (.t 12) (.t 14))⟩]
def g63_6 : List Gop := [⟨none, (some 18), (.mov (.t 1))⟩, ⟨none, (some 19), (.mov (.t 0))⟩, ⟨none, (some 20), (.mov (.t 5))⟩, ⟨none, (some 21), (.iaddr 1 (.t 19) (.t 20))⟩, ⟨none, (some 22), (.load none (.t 21))⟩, ⟨none, (some 23), (.lent (.t 22))⟩, ⟨none, (some 24), (.bin .sub (.t 18) (.t 23))⟩, ⟨none, (some 1), (.mov (.t 24))⟩]
def g63_7 : List Gop := [⟨none, (some 25), (.mov (.t 1))⟩, ⟨none, (some 26), (.bin .lss (.t 25) (.k (.one (.int .i64 0))))⟩]
def g63_8 : List Gop := [⟨none, (some 4), (.mov (.k (.one (.int .i64 (-1)))))⟩]
def g63_9 : List Gop := [⟨none, (some 16), (.mov (.t 5))⟩, ⟨none, (some 17), (.bin .add (.t 16) (.k (.one (.int .i64 1))))⟩, ⟨none, (some 5), (.mov (.t 17))⟩]
def g63_10 : List Gop := [⟨none, (some 27), (.mov (.t 1))⟩, ⟨none, (some 4), (.mov (.t 27))⟩]
def i63 : Ir := (.seq (.region g63_0) (.seq (.region g63_1) (.seq (.seq (.region g63_2) (.cond (.t 11) (.seq (.region g63_3) .ret) .skip)) (.seq (.seq (.region g63_4) (.block 0 (.loop (.seq (.seq (.region g63_5) (.cond (.t 15) .skip (.exit 0))) (.seq (.block 1 (.seq (.region g63_6) (.seq (.region g63_7) (.cond (.t 26) (.seq (.region g63_8) .ret) .skip)))) (.region g63_9)))))) (.seq (.region g63_10) .ret)))))
def r63 : List Rx := [(.tmp 4)]
theorem szStringS_ok (a : List ByteArray) (n : Int) (h0 : 0 ≤ n) (hn : n ≤ 1048576) (ha : a.length ≤ 9223372036854775807) (hs : ∀ x ∈ a, x.size ≤ 9223372036854775807) : Meets Try.prog 63 [.one (.sl false 1 a.length (a.map T.str)), .one (.int .i64 n)] (.w (.one (.int .i64 (szf (n - a.length - tot a))))) [.one .hole, .one .hole] := by
  refine meets_go (ir := i63) (fn := Try.f63) (rx := [(.tmp 4)]) rfl rfl (by rfl) (by rfl) (by exact Nat.le_of_ble_eq_true rfl) ?_
  simp (maxSteps := 9000000) -implicitDefEqProofs -dsimp (disch := omega) only [go_sem, g63_0, g63_1, g63_2, g63_3, g63_4, g63_5, g63_6, g63_7, g63_8, g63_9, g63_10, i63, Nat.reduceEqDiff, Nat.reduceAdd, Nat.reduceMul, Nat.reduceLeDiff, Nat.reduceBEq, Nat.reduceBNe, Int.reduceEq, ↓reduceIte, reduceCtorEq]
  have ht := tot_nonneg (a := a)
  refine brP_i (fun h => ?_) (fun h => ?_)
  · simp (maxSteps := 9000000) -implicitDefEqProofs -dsimp (disch := omega) only [go_sem, g63_0, g63_1, g63_2, g63_3, g63_4, g63_5, g63_6, g63_7, g63_8, g63_9, g63_10, i63, Nat.reduceEqDiff, Nat.reduceAdd, Nat.reduceMul, Nat.reduceLeDiff, Nat.reduceBEq, Nat.reduceBNe, Int.reduceEq, ↓reduceIte, reduceCtorEq]
    exact need_i (by simp only [szf, if_pos (show n - ↑a.length - tot a < 0 by omega)]) (by simp (maxSteps := 9000000) -implicitDefEqProofs -dsimp (disch := omega) only [go_sem, g63_0, g63_1, g63_2, g63_3, g63_4, g63_5, g63_6, g63_7, g63_8, g63_9, g63_10, i63, Nat.reduceEqDiff, Nat.reduceAdd, Nat.reduceMul, Nat.reduceLeDiff, Nat.reduceBEq, Nat.reduceBNe, Int.reduceEq, ↓reduceIte, reduceCtorEq])
  · simp (maxSteps := 9000000) -implicitDefEqProofs -dsimp (disch := omega) only [go_sem, g63_0, g63_1, g63_2, g63_3, g63_4, g63_5, g63_6, g63_7, g63_8, g63_9, g63_10, i63, Nat.reduceEqDiff, Nat.reduceAdd, Nat.reduceMul, Nat.reduceLeDiff, Nat.reduceBEq, Nat.reduceBNe, Int.reduceEq, ↓reduceIte, reduceCtorEq]
    refine loop_n a.length (fun i => ⟨[(5, .w (.one (.int .i64 (i : Nat)))), (1, .w (.one (.int .i64 (n - a.length - tot (a.take i))))), (0, .w (.one (.hs 0 [] 0 1 a.length)))], [(0, (.sl false 1 a.length (a.map T.str)))], [.one (.hs 0 [] 0 1 a.length), .one (.int .i64 n)]⟩) (fun i => 0 ≤ n - a.length - tot (a.take i)) ?_ ?_ ?_
    · exact (imp_sub (by simp (maxSteps := 9000000) -implicitDefEqProofs -dsimp (disch := omega) only [go_sem, g63_0, g63_1, g63_2, g63_3, g63_4, g63_5, g63_6, g63_7, g63_8, g63_9, g63_10, i63, List.take_zero, show tot [] = 0 from rfl, Int.sub_zero, Nat.reduceEqDiff, Nat.reduceAdd, Nat.reduceMul, Nat.reduceLeDiff, Nat.reduceBEq, Nat.reduceBNe, Int.reduceEq, ↓reduceIte, reduceCtorEq]) (by simp (maxSteps := 9000000) -implicitDefEqProofs -dsimp (disch := omega) only [go_sem, g63_0, g63_1, g63_2, g63_3, g63_4, g63_5, g63_6, g63_7, g63_8, g63_9, g63_10, i63, List.take_zero, show tot [] = 0 from rfl, Int.sub_zero, Nat.reduceEqDiff, Nat.reduceAdd, Nat.reduceMul, Nat.reduceLeDiff, Nat.reduceBEq, Nat.reduceBNe, Int.reduceEq, ↓reduceIte, reduceCtorEq]) rfl)
    · simp only [List.take_zero, show tot [] = 0 from rfl]; omega
    · intro i hi hJ
      simp (maxSteps := 9000000) -implicitDefEqProofs -dsimp (disch := omega) only [go_sem, g63_0, g63_1, g63_2, g63_3, g63_4, g63_5, g63_6, g63_7, g63_8, g63_9, g63_10, i63, Nat.reduceEqDiff, Nat.reduceAdd, Nat.reduceMul, Nat.reduceLeDiff, Nat.reduceBEq, Nat.reduceBNe, Int.reduceEq, ↓reduceIte, reduceCtorEq]
      refine brP_i (fun h2 => ?_) (fun h2 => ?_)
      · have h3 : i < a.length := by omega
        have h4 := tot_take h3
        have h5 := hs _ (List.getElem_mem h3)
        have h6 : a.getD i default = a[i] := by simp [List.getD_eq_getElem?_getD, h3]
        rw [← h6] at h5
        have h7 := tot_le (a := a) (i := i + 1)
        have h8 := tot_nonneg (a := a.take i)
        simp (maxSteps := 9000000) -implicitDefEqProofs -dsimp (disch := omega) only [go_sem, g63_0, g63_1, g63_2, g63_3, g63_4, g63_5, g63_6, g63_7, g63_8, g63_9, g63_10, i63, Nat.reduceEqDiff, Nat.reduceAdd, Nat.reduceMul, Nat.reduceLeDiff, Nat.reduceBEq, Nat.reduceBNe, Int.reduceEq, ↓reduceIte, reduceCtorEq]
        refine brP_i (fun h9 => ?_) (fun h9 => ?_)
        · simp (maxSteps := 9000000) -implicitDefEqProofs -dsimp (disch := omega) only [go_sem, g63_0, g63_1, g63_2, g63_3, g63_4, g63_5, g63_6, g63_7, g63_8, g63_9, g63_10, i63, Nat.reduceEqDiff, Nat.reduceAdd, Nat.reduceMul, Nat.reduceLeDiff, Nat.reduceBEq, Nat.reduceBNe, Int.reduceEq, ↓reduceIte, reduceCtorEq]
          exact need_i (by simp only [szf, if_pos (show n - ↑a.length - tot a < 0 by omega)]) (by simp (maxSteps := 9000000) -implicitDefEqProofs -dsimp (disch := omega) only [go_sem, g63_0, g63_1, g63_2, g63_3, g63_4, g63_5, g63_6, g63_7, g63_8, g63_9, g63_10, i63, Nat.reduceEqDiff, Nat.reduceAdd, Nat.reduceMul, Nat.reduceLeDiff, Nat.reduceBEq, Nat.reduceBNe, Int.reduceEq, ↓reduceIte, reduceCtorEq])
        · simp (maxSteps := 9000000) -implicitDefEqProofs -dsimp (disch := omega) only [go_sem, g63_0, g63_1, g63_2, g63_3, g63_4, g63_5, g63_6, g63_7, g63_8, g63_9, g63_10, i63, Nat.reduceEqDiff, Nat.reduceAdd, Nat.reduceMul, Nat.reduceLeDiff, Nat.reduceBEq, Nat.reduceBNe, Int.reduceEq, ↓reduceIte, reduceCtorEq]
          refine ⟨⟨by omega, by omega⟩, (imp_sub (by simp (maxSteps := 9000000) -implicitDefEqProofs -dsimp (disch := omega) only [go_sem, g63_0, g63_1, g63_2, g63_3, g63_4, g63_5, g63_6, g63_7, g63_8, g63_9, g63_10, i63, h4, Int.sub_sub, Int.add_assoc, Nat.reduceEqDiff, Nat.reduceAdd, Nat.reduceMul, Nat.reduceLeDiff, Nat.reduceBEq, Nat.reduceBNe, Int.reduceEq, ↓reduceIte, reduceCtorEq]) (by simp (maxSteps := 9000000) -implicitDefEqProofs -dsimp (disch := omega) only [go_sem, g63_0, g63_1, g63_2, g63_3, g63_4, g63_5, g63_6, g63_7, g63_8, g63_9, g63_10, i63, h4, Int.sub_sub, Int.add_assoc, Nat.reduceEqDiff, Nat.reduceAdd, Nat.reduceMul, Nat.reduceLeDiff, Nat.reduceBEq, Nat.reduceBNe, Int.reduceEq, ↓reduceIte, reduceCtorEq]) rfl)⟩
      · obtain rfl : i = a.length := by omega
        rw [List.take_length] at hJ
        simp (maxSteps := 9000000) -implicitDefEqProofs -dsimp (disch := omega) only [go_sem, g63_0, g63_1, g63_2, g63_3, g63_4, g63_5, g63_6, g63_7, g63_8, g63_9, g63_10, i63, List.take_length, Nat.reduceEqDiff, Nat.reduceAdd, Nat.reduceMul, Nat.reduceLeDiff, Nat.reduceBEq, Nat.reduceBNe, Int.reduceEq, ↓reduceIte, reduceCtorEq]
        exact need_i (by simp only [szf, if_neg (show ¬ n - ↑a.length - tot a < 0 by omega)]) (by simp (maxSteps := 9000000) -implicitDefEqProofs -dsimp (disch := omega) only [go_sem, g63_0, g63_1, g63_2, g63_3, g63_4, g63_5, g63_6, g63_7, g63_8, g63_9, g63_10, i63, Nat.reduceEqDiff, Nat.reduceAdd, Nat.reduceMul, Nat.reduceLeDiff, Nat.reduceBEq, Nat.reduceBNe, Int.reduceEq, ↓reduceIte, reduceCtorEq])
def g64_0 : List Gop := [⟨none, (some 4), (.mov (.k (.one (.int .i64 0))))⟩]
def g64_1 : List Gop := [⟨none, (some 5), (.mov (.t 1))⟩, ⟨none, (some 6), (.mov (.t 0))⟩, ⟨none, (some 7), (.len (.t 6))⟩, ⟨none, (some 8), (.bin .sub (.t 5) (.t 7))⟩, ⟨none, (some 1), (.mov (.t 8))⟩]
def g64_2 : List Gop := [⟨none, (some 9), (.mov (.t 1))⟩, ⟨none, (some 10), (.bin .lss (.t 9) (.k (.one (.int .i64 0))))⟩]
def g64_3 : List Gop := [⟨none, (some 4), (.mov (.k (.one (.int .i64 (-1)))))⟩]
def g64_4 : List Gop := [⟨none, (some 11), (.mov (.t 1))⟩, ⟨none, (some 4), (.mov (.t 11))⟩]
def i64 : Ir := (.seq (.region g64_0) (.seq (.region g64_1) (.seq (.seq (.region g64_2) (.cond (.t 10) (.seq (.region g64_3) .ret) .skip)) (.seq (.region g64_4) .ret))))
def r64 : List Rx := [(.tmp 4)]
theorem szBoolS_ok (a : List Bool) (n : Int) (h0 : 0 ≤ n) (hn : n ≤ 1048576) (ha : a.length ≤ 9223372036854775807) : Meets Try.prog 64 [.one (.sl false 1 a.length (a.map T.bool)), .one (.int .i64 n)] (.w (.one (.int .i64 (szf (n - a.length))))) [.one .hole, .one .hole] := by
  refine meets_go (ir := i64) (fn := Try.f64) (rx := [(.tmp 4)]) rfl rfl (by rfl) (by rfl) (by exact Nat.le_of_ble_eq_true rfl) ?_
  simp (maxSteps := 9000000) -implicitDefEqProofs -dsimp (disch := omega) only [go_sem, g64_0, g64_1, g64_2, g64_3, g64_4, i64, Nat.reduceEqDiff, Nat.reduceAdd, Nat.reduceMul, Nat.reduceLeDiff, Nat.reduceBEq, Nat.reduceBNe, Int.reduceEq, ↓reduceIte, reduceCtorEq]
  refine brP_i (fun h => ?_) (fun h => ?_)
  · simp (maxSteps := 9000000) -implicitDefEqProofs -dsimp (disch := omega) only [go_sem, g64_0, g64_1, g64_2, g64_3, g64_4, i64, Nat.reduceEqDiff, Nat.reduceAdd, Nat.reduceMul, Nat.reduceLeDiff, Nat.reduceBEq, Nat.reduceBNe, Int.reduceEq, ↓reduceIte, reduceCtorEq]
    exact need_i (by simp only [szf, if_pos h]) (by simp (maxSteps := 9000000) -implicitDefEqProofs -dsimp (disch := omega) only [go_sem, g64_0, g64_1, g64_2, g64_3, g64_4, i64, Nat.reduceEqDiff, Nat.reduceAdd, Nat.reduceMul, Nat.reduceLeDiff, Nat.reduceBEq, Nat.reduceBNe, Int.reduceEq, ↓reduceIte, reduceCtorEq])
  · simp (maxSteps := 9000000) -implicitDefEqProofs -dsimp (disch := omega) only [go_sem, g64_0, g64_1, g64_2, g64_3, g64_4, i64, Nat.reduceEqDiff, Nat.reduceAdd, Nat.reduceMul, Nat.reduceLeDiff, Nat.reduceBEq, Nat.reduceBNe, Int.reduceEq, ↓reduceIte, reduceCtorEq]
    exact need_i (by simp only [szf, if_neg h]) (by simp (maxSteps := 9000000) -implicitDefEqProofs -dsimp (disch := omega) only [go_sem, g64_0, g64_1, g64_2, g64_3, g64_4, i64, Nat.reduceEqDiff, Nat.reduceAdd, Nat.reduceMul, Nat.reduceLeDiff, Nat.reduceBEq, Nat.reduceBNe, Int.reduceEq, ↓reduceIte, reduceCtorEq])
def g88_0 : List Gop := [⟨none, (some 4), (.mov (.k (.one (.int .i64 0))))⟩]
def g88_1 : List Gop := [⟨none, (some 5), (.mov (.t 1))⟩, ⟨none, (some 6), (.mov (.t 0))⟩, ⟨none, (some 7), (.len (.t 6))⟩, ⟨none, (some 8), (.bin .sub (.t 5) (.t 7))⟩, ⟨none, (some 1), (.mov (.t 8))⟩]
def g88_2 : List Gop := [⟨none, (some 9), (.mov (.t 1))⟩, ⟨none, (some 10), (.bin .lss (.t 9) (.k (.one (.int .i64 0))))⟩]
def g88_3 : List Gop := [⟨none, (some 4), (.mov (.k (.one (.int .i64 (-1)))))⟩]
def g88_4 : List Gop := [⟨none, (some 11), (.mov (.t 1))⟩, ⟨none, (some 4), (.mov (.t 11))⟩]
def i88 : Ir := (.seq (.region g88_0) (.seq (.region g88_1) (.seq (.seq (.region g88_2) (.cond (.t 10) (.seq (.region g88_3) .ret) .skip)) (.seq (.region g88_4) .ret))))
def r88 : List Rx := [(.tmp 4)]
theorem szIntS_ok (a : List Int) (n : Int) (h0 : 0 ≤ n) (hn : n ≤ 1048576) (ha : a.length ≤ 9223372036854775807) : Meets Try.prog 88 [.one (.sl false 1 a.length (a.map (T.int .i64))), .one (.int .i64 n)] (.w (.one (.int .i64 (szf (n - a.length))))) [.one .hole, .one .hole] := by
  refine meets_go (ir := i88) (fn := Try.f88) (rx := [(.tmp 4)]) rfl rfl (by rfl) (by rfl) (by exact Nat.le_of_ble_eq_true rfl) ?_
  simp (maxSteps := 9000000) -implicitDefEqProofs -dsimp (disch := omega) only [go_sem, g88_0, g88_1, g88_2, g88_3, g88_4, i88, Nat.reduceEqDiff, Nat.reduceAdd, Nat.reduceMul, Nat.reduceLeDiff, Nat.reduceBEq, Nat.reduceBNe, Int.reduceEq, ↓reduceIte, reduceCtorEq]
  refine brP_i (fun h => ?_) (fun h => ?_)
  · simp (maxSteps := 9000000) -implicitDefEqProofs -dsimp (disch := omega) only [go_sem, g88_0, g88_1, g88_2, g88_3, g88_4, i88, Nat.reduceEqDiff, Nat.reduceAdd, Nat.reduceMul, Nat.reduceLeDiff, Nat.reduceBEq, Nat.reduceBNe, Int.reduceEq, ↓reduceIte, reduceCtorEq]
    exact need_i (by simp only [szf, if_pos h]) (by simp (maxSteps := 9000000) -implicitDefEqProofs -dsimp (disch := omega) only [go_sem, g88_0, g88_1, g88_2, g88_3, g88_4, i88, Nat.reduceEqDiff, Nat.reduceAdd, Nat.reduceMul, Nat.reduceLeDiff, Nat.reduceBEq, Nat.reduceBNe, Int.reduceEq, ↓reduceIte, reduceCtorEq])
  · simp (maxSteps := 9000000) -implicitDefEqProofs -dsimp (disch := omega) only [go_sem, g88_0, g88_1, g88_2, g88_3, g88_4, i88, Nat.reduceEqDiff, Nat.reduceAdd, Nat.reduceMul, Nat.reduceLeDiff, Nat.reduceBEq, Nat.reduceBNe, Int.reduceEq, ↓reduceIte, reduceCtorEq]
    exact need_i (by simp only [szf, if_neg h]) (by simp (maxSteps := 9000000) -implicitDefEqProofs -dsimp (disch := omega) only [go_sem, g88_0, g88_1, g88_2, g88_3, g88_4, i88, Nat.reduceEqDiff, Nat.reduceAdd, Nat.reduceMul, Nat.reduceLeDiff, Nat.reduceBEq, Nat.reduceBNe, Int.reduceEq, ↓reduceIte, reduceCtorEq])
end Go.Proofs.YtjlodcoeegpkaaaT

/- Functions of the program as contracts: marks. No condition. -/
set_option maxRecDepth 100000
set_option maxHeartbeats 4000000
set_option linter.unusedSimpArgs false
set_option linter.unusedVariables false
namespace Go.Proofs.YtjlodcoeegpkaaaT
open Go
def g87_0 : List Gop := [⟨none, (some 2), (.mov (.k (.one (.str ⟨#[]⟩))))⟩]
def g87_1 : List Gop := [⟨none, (some 4), (.mov (.t 0))⟩, ⟨none, (some 5), (.bin .leq (.t 4) (.k (.one (.int .i64 0))))⟩]
def g87_2 : List Gop := [⟨none, (some 2), (.mov (.k (.one (.str ⟨#[109, 48]⟩))))⟩]
def g87_3 : List Gop := [⟨none, (some 3), (.mov (.k (.one (.str ⟨#[]⟩))))⟩]
def g87_4 : List Gop := [⟨none, (some 6), (.mov (.t 0))⟩, ⟨none, (some 7), (.bin .gtr (.t 6) (.k (.one (.int .i64 0))))⟩]
def g87_5 : List Gop := [⟨none, (some 8), (.mov (.t 0))⟩, ⟨none, (some 9), (.bin .rem (.t 8) (.k (.one (.int .i64 10))))⟩, ⟨none, (some 10), (.bin .add (.k (.one (.int .i64 48))) (.t 9))⟩, ⟨none, (some 11), (.cvi .u8 (.t 10))⟩, ⟨none, (some 12), (.lit 1 1 [(.int .u8 0)] [(0, (.t 11))])⟩, ⟨none, (some 13), (.cvs (.t 12))⟩, ⟨none, (some 14), (.mov (.t 3))⟩, ⟨none, (some 15), (.bin .add (.t 13) (.t 14))⟩, ⟨none, (some 3), (.mov (.t 15))⟩]
def g87_6 : List Gop := [⟨none, (some 16), (.mov (.t 0))⟩, ⟨none, (some 17), (.bin .quo (.t 16) (.k (.one (.int .i64 10))))⟩, ⟨none, (some 0), (.mov (.t 17))⟩]
def g87_7 : List Gop := [⟨none, (some 18), (.mov (.t 3))⟩, ⟨none, (some 19), (.bin .add (.k (.one (.str ⟨#[109]⟩))) (.t 18))⟩, ⟨none, (some 2), (.mov (.t 19))⟩]
def i87 : Ir := (.seq (.region g87_0) (.seq (.seq (.region g87_1) (.cond (.t 5) (.seq (.region g87_2) .ret) .skip)) (.seq (.region g87_3) (.seq (.block 0 (.loop (.seq (.seq (.region g87_4) (.cond (.t 7) .skip (.exit 0))) (.block 1 (.seq (.region g87_5) (.region g87_6)))))) (.seq (.region g87_7) .ret)))))
def r87 : List Rx := [(.tmp 2)]
theorem markText_ok (k : Int) (h0 : 0 < k) (hk : k ≤ 2199023255552) : Meets Try.prog 87 [.one (.int .i64 k)] (.w (.one (.str (mtext k)))) [.one .hole] := by
  refine meets_go (ir := i87) (fn := Try.f87) (rx := [(.tmp 2)]) rfl rfl (by rfl) (by rfl) (by exact Nat.le_of_ble_eq_true rfl) ?_
  simp (maxSteps := 9000000) -implicitDefEqProofs -dsimp (disch := omega) only [go_sem, g87_0, g87_1, g87_2, g87_3, g87_4, g87_5, g87_6, g87_7, i87, Nat.reduceEqDiff, Nat.reduceAdd, Nat.reduceMul, Nat.reduceLeDiff, Nat.reduceBEq, Nat.reduceBNe, Int.reduceEq, ↓reduceIte, reduceCtorEq]
  refine brP_i (fun h => ?_) (fun h => ?_)
  · omega
  simp (maxSteps := 9000000) -implicitDefEqProofs -dsimp (disch := omega) only [go_sem, g87_0, g87_1, g87_2, g87_3, g87_4, g87_5, g87_6, g87_7, i87, Nat.reduceEqDiff, Nat.reduceAdd, Nat.reduceMul, Nat.reduceLeDiff, Nat.reduceBEq, Nat.reduceBNe, Int.reduceEq, ↓reduceIte, reduceCtorEq]
  refine loop_m (fun q : {p : Nat × List UInt8 // dig p.1 ++ p.2 = dig k.toNat ∧ p.1 ≤ k.toNat} => ⟨[(3, .w (.one (.str ⟨q.1.2.toArray⟩))), (0, .w (.one (.int .i64 (q.1.1 : Nat))))], [], [.one (.int .i64 k)]⟩) (fun q => q.1.1) ⟨(k.toNat, []), by simp⟩ (imp_sub (by simp (maxSteps := 9000000) -implicitDefEqProofs -dsimp (disch := omega) only [go_sem, g87_0, g87_1, g87_2, g87_3, g87_4, g87_5, g87_6, g87_7, i87, Int.toNat_of_nonneg (Int.le_of_lt h0), Nat.reduceEqDiff, Nat.reduceAdd, Nat.reduceMul, Nat.reduceLeDiff, Nat.reduceBEq, Nat.reduceBNe, Int.reduceEq, ↓reduceIte, reduceCtorEq]) (by simp (maxSteps := 9000000) -implicitDefEqProofs -dsimp (disch := omega) only [go_sem, g87_0, g87_1, g87_2, g87_3, g87_4, g87_5, g87_6, g87_7, i87, Int.toNat_of_nonneg (Int.le_of_lt h0), Nat.reduceEqDiff, Nat.reduceAdd, Nat.reduceMul, Nat.reduceLeDiff, Nat.reduceBEq, Nat.reduceBNe, Int.reduceEq, ↓reduceIte, reduceCtorEq]) rfl) ?_
  rintro ⟨⟨n, l⟩, hq, hnk⟩
  simp (maxSteps := 9000000) -implicitDefEqProofs -dsimp (disch := omega) only [go_sem, g87_0, g87_1, g87_2, g87_3, g87_4, g87_5, g87_6, g87_7, i87, Nat.reduceEqDiff, Nat.reduceAdd, Nat.reduceMul, Nat.reduceLeDiff, Nat.reduceBEq, Nat.reduceBNe, Int.reduceEq, ↓reduceIte, reduceCtorEq]
  refine brP_i (fun h2 => ?_) (fun h2 => ?_)
  · have hn : n ≠ 0 := by omega
    simp only at hq hnk
    have hl : l.length ≤ 2199023255552 := by
      have h3 := congrArg List.length hq
      have h4 := dig_le k.toNat
      simp only [List.length_append] at h3
      omega
    have e1 : IntKind.u8.wrap (IntKind.i64.wrap (48 + (n : Int).tmod 10)) = ((UInt8.ofNat (48 + n % 10)).toNat : Int) := by
      have e2 : (n : Int).tmod 10 = ((n % 10 : Nat) : Int) := Int.ofNat_tmod n 10
      rw [e2, wrap_in ⟨by omega, by omega⟩, u8_wrap ⟨by omega, by omega⟩]
      simp only [UInt8.toNat_ofNat']; omega
    have e3 : (n : Int).tdiv 10 = ((n / 10 : Nat) : Int) := Int.ofNat_tdiv n 10
    simp (maxSteps := 9000000) -implicitDefEqProofs -dsimp (disch := omega) only [go_sem, g87_0, g87_1, g87_2, g87_3, g87_4, g87_5, g87_6, g87_7, i87, e1, cells, e3, List.length_singleton, Nat.reduceEqDiff, Nat.reduceAdd, Nat.reduceMul, Nat.reduceLeDiff, Nat.reduceBEq, Nat.reduceBNe, Int.reduceEq, ↓reduceIte, reduceCtorEq]
    exact ⟨⟨(n / 10, UInt8.ofNat (48 + n % 10) :: l), by rw [← hq, dig_s hn]; simp, by show n / 10 ≤ k.toNat; omega⟩, by show n / 10 < n; omega, (imp_sub (by simp (maxSteps := 9000000) -implicitDefEqProofs -dsimp (disch := omega) only [go_sem, g87_0, g87_1, g87_2, g87_3, g87_4, g87_5, g87_6, g87_7, i87, Nat.reduceEqDiff, Nat.reduceAdd, Nat.reduceMul, Nat.reduceLeDiff, Nat.reduceBEq, Nat.reduceBNe, Int.reduceEq, ↓reduceIte, reduceCtorEq]) (by simp (maxSteps := 9000000) -implicitDefEqProofs -dsimp (disch := omega) only [go_sem, g87_0, g87_1, g87_2, g87_3, g87_4, g87_5, g87_6, g87_7, i87, Nat.reduceEqDiff, Nat.reduceAdd, Nat.reduceMul, Nat.reduceLeDiff, Nat.reduceBEq, Nat.reduceBNe, Int.reduceEq, ↓reduceIte, reduceCtorEq]) rfl)⟩
  · have hn : n = 0 := by omega
    subst hn
    rw [dig_0, List.nil_append] at hq
    subst hq
    have hl := dig_le k.toNat
    have e1 : (⟨#[109]⟩ : ByteArray) ++ ⟨(dig k.toNat).toArray⟩ = mtext k := by
      have := ba_append (l := [109]) (m := dig k.toNat)
      exact this
    have e2 : (#[109] : Array UInt8).size + (dig k.toNat).toArray.size ≤ 9223372036854775807 := by simp only [List.size_toArray, show (#[109] : Array UInt8).size = 1 from rfl]; omega
    simp (maxSteps := 9000000) -implicitDefEqProofs -dsimp (disch := omega) only [go_sem, g87_0, g87_1, g87_2, g87_3, g87_4, g87_5, g87_6, g87_7, i87, e1, e2, Nat.reduceEqDiff, Nat.reduceAdd, Nat.reduceMul, Nat.reduceLeDiff, Nat.reduceBEq, Nat.reduceBNe, Int.reduceEq, ↓reduceIte, reduceCtorEq]
def g61_0 : List Gop := [⟨none, (some 4), (.mov (.k (.one (.int .i64 0))))⟩]
def g61_1 : List Gop := [⟨none, (some 5), (.mov (.k (.one (.int .i64 0))))⟩]
def g61_2 : List Gop := [⟨none, (some 6), (.mov (.t 5))⟩, ⟨none, (some 7), (.mov (.t 0))⟩, ⟨none, (some 8), (.len (.t 7))⟩, ⟨none, (some 9), (.bin .lss (.t 6) (.t 8))⟩]
def g61_3 : List Gop := [⟨none, (some 12), (.mov (.t 0))⟩, ⟨none, (some 13), (.mov (.t 5))⟩, ⟨none, (some 14), (.mov (.t 1))⟩, ⟨none, (some 15), (.call 87 [(.t 14)])⟩, ⟨none, (some 16), (.iaddr 1 (.t 12) (.t 13))⟩, ⟨none, none, (.store 1 (.t 16) (.t 15))⟩]
def g61_4 : List Gop := [⟨none, (some 17), (.mov (.t 1))⟩, ⟨none, (some 18), (.bin .add (.t 17) (.k (.one (.int .i64 1))))⟩, ⟨none, (some 1), (.mov (.t 18))⟩]
def g61_5 : List Gop := [⟨none, (some 10), (.mov (.t 5))⟩, ⟨none, (some 11), (.bin .add (.t 10) (.k (.one (.int .i64 1))))⟩, ⟨none, (some 5), (.mov (.t 11))⟩]
def g61_6 : List Gop := [⟨none, (some 19), (.mov (.t 1))⟩, ⟨none, (some 4), (.mov (.t 19))⟩]
def i61 : Ir := (.seq (.region g61_0) (.seq (.seq (.region g61_1) (.block 0 (.loop (.seq (.seq (.region g61_2) (.cond (.t 9) .skip (.exit 0))) (.seq (.block 1 (.seq (.region g61_3) (.region g61_4))) (.region g61_5)))))) (.seq (.region g61_6) .ret)))
def r61 : List Rx := [(.tmp 4)]
theorem markStringS_ok (a : List ByteArray) (k : Int) (h0 : 0 < k) (hk : k ≤ 1099511627776) (ha : a.length ≤ 1048576) : Meets Try.prog 61 [.one (.sl true 1 a.length (a.map T.str)), .one (.int .i64 k)] (.w (.one (.int .i64 (k + a.length)))) [.one (.sl true 1 ((List.range a.length).map (fun j : Nat => mtext (k + (j : Int)))).length (((List.range a.length).map (fun j : Nat => mtext (k + (j : Int)))).map T.str)), .one .hole] := by
  refine meets_go (ir := i61) (fn := Try.f61) (rx := [(.tmp 4)]) rfl rfl (by rfl) (by rfl) (by exact Nat.le_of_ble_eq_true rfl) ?_
  simp (maxSteps := 9000000) -implicitDefEqProofs -dsimp (disch := omega) only [go_sem, g61_0, g61_1, g61_2, g61_3, g61_4, g61_5, g61_6, i61, Nat.reduceEqDiff, Nat.reduceAdd, Nat.reduceMul, Nat.reduceLeDiff, Nat.reduceBEq, Nat.reduceBNe, Int.reduceEq, ↓reduceIte, reduceCtorEq]
  refine loop_n a.length (fun i => ⟨[(5, .w (.one (.int .i64 (i : Nat)))), (1, .w (.one (.int .i64 (k + (i : Nat))))), (0, .w (.one (.hs 0 [] 0 1 a.length)))], [(0, .sl true 1 a.length ((mixL (fun j : Nat => mtext (k + (j : Int))) a i).map T.str))], [.one (.hs 0 [] 0 1 a.length), .one (.int .i64 k)]⟩) (fun i => True) ?_ trivial ?_
  · exact (imp_sub (by simp (maxSteps := 9000000) -implicitDefEqProofs -dsimp (disch := omega) only [go_sem, g61_0, g61_1, g61_2, g61_3, g61_4, g61_5, g61_6, i61, mixL_0, Int.natCast_zero, Int.add_zero, Nat.reduceEqDiff, Nat.reduceAdd, Nat.reduceMul, Nat.reduceLeDiff, Nat.reduceBEq, Nat.reduceBNe, Int.reduceEq, ↓reduceIte, reduceCtorEq]) (by simp (maxSteps := 9000000) -implicitDefEqProofs -dsimp (disch := omega) only [go_sem, g61_0, g61_1, g61_2, g61_3, g61_4, g61_5, g61_6, i61, mixL_0, Int.natCast_zero, Int.add_zero, Nat.reduceEqDiff, Nat.reduceAdd, Nat.reduceMul, Nat.reduceLeDiff, Nat.reduceBEq, Nat.reduceBNe, Int.reduceEq, ↓reduceIte, reduceCtorEq]) rfl)
  · intro i hi hJ
    have hq := mixL_len (g := fun j : Nat => mtext (k + (j : Int))) (a := a) (i := i)
    simp (maxSteps := 9000000) -implicitDefEqProofs -dsimp (disch := omega) only [go_sem, g61_0, g61_1, g61_2, g61_3, g61_4, g61_5, g61_6, i61, Nat.reduceEqDiff, Nat.reduceAdd, Nat.reduceMul, Nat.reduceLeDiff, Nat.reduceBEq, Nat.reduceBNe, Int.reduceEq, ↓reduceIte, reduceCtorEq]
    refine brP_i (fun h => ?_) (fun h => ?_)
    · have hs := mixL_set (g := fun j : Nat => mtext (k + (j : Int))) (a := a) (i := i) (by omega)
      simp (maxSteps := 9000000) -implicitDefEqProofs -dsimp (disch := omega) only [go_sem, g61_0, g61_1, g61_2, g61_3, g61_4, g61_5, g61_6, i61, Nat.reduceEqDiff, Nat.reduceAdd, Nat.reduceMul, Nat.reduceLeDiff, Nat.reduceBEq, Nat.reduceBNe, Int.reduceEq, ↓reduceIte, reduceCtorEq]
      refine call_go true (markText_ok (k + (i : Nat)) (by omega) (by omega)) ?_
      simp (maxSteps := 9000000) -implicitDefEqProofs -dsimp (disch := omega) only [go_sem, g61_0, g61_1, g61_2, g61_3, g61_4, g61_5, g61_6, i61, Nat.reduceEqDiff, Nat.reduceAdd, Nat.reduceMul, Nat.reduceLeDiff, Nat.reduceBEq, Nat.reduceBNe, Int.reduceEq, ↓reduceIte, reduceCtorEq]
      exact ⟨by omega, (imp_sub (by simp (maxSteps := 9000000) -implicitDefEqProofs -dsimp (disch := omega) only [go_sem, g61_0, g61_1, g61_2, g61_3, g61_4, g61_5, g61_6, i61, hs, Int.add_assoc, Nat.reduceEqDiff, Nat.reduceAdd, Nat.reduceMul, Nat.reduceLeDiff, Nat.reduceBEq, Nat.reduceBNe, Int.reduceEq, ↓reduceIte, reduceCtorEq]) (by simp (maxSteps := 9000000) -implicitDefEqProofs -dsimp (disch := omega) only [go_sem, g61_0, g61_1, g61_2, g61_3, g61_4, g61_5, g61_6, i61, hs, Int.add_assoc, Nat.reduceEqDiff, Nat.reduceAdd, Nat.reduceMul, Nat.reduceLeDiff, Nat.reduceBEq, Nat.reduceBNe, Int.reduceEq, ↓reduceIte, reduceCtorEq]) rfl)⟩
    · obtain rfl : i = a.length := by omega
      have hq2 : ((List.range a.length).map (fun j : Nat => mtext (k + (j : Int)))).length = a.length := by simp
      simp (maxSteps := 9000000) -implicitDefEqProofs -dsimp (disch := omega) only [go_sem, g61_0, g61_1, g61_2, g61_3, g61_4, g61_5, g61_6, i61, mixL_end, Nat.reduceEqDiff, Nat.reduceAdd, Nat.reduceMul, Nat.reduceLeDiff, Nat.reduceBEq, Nat.reduceBNe, Int.reduceEq, ↓reduceIte, reduceCtorEq]
def g29_0 : List Gop := [⟨none, (some 4), (.mov (.k (.one (.int .i64 0))))⟩]
def g29_1 : List Gop := [⟨none, (some 5), (.mov (.k (.one (.int .i64 0))))⟩]
def g29_2 : List Gop := [⟨none, (some 6), (.mov (.t 5))⟩, ⟨none, (some 7), (.mov (.t 0))⟩, ⟨none, (some 8), (.len (.t 7))⟩, ⟨none, (some 9), (.bin .lss (.t 6) (.t 8))⟩]
def g29_3 : List Gop := [⟨none, (some 12), (.mov (.t 0))⟩, ⟨none, (some 13), (.mov (.t 5))⟩, ⟨none, (some 14), (.mov (.t 1))⟩, ⟨none, (some 15), (.iaddr 1 (.t 12) (.t 13))⟩, ⟨none, none, (.store 1 (.t 15) (.t 14))⟩]
def g29_4 : List Gop := [⟨none, (some 16), (.mov (.t 1))⟩, ⟨none, (some 17), (.bin .add (.t 16) (.k (.one (.int .i64 1))))⟩, ⟨none, (some 1), (.mov (.t 17))⟩]
def g29_5 : List Gop := [⟨none, (some 10), (.mov (.t 5))⟩, ⟨none, (some 11), (.bin .add (.t 10) (.k (.one (.int .i64 1))))⟩, ⟨none, (some 5), (.mov (.t 11))⟩]
def g29_6 : List Gop := [⟨none, (some 18), (.mov (.t 1))⟩, ⟨none, (some 4), (.mov (.t 18))⟩]
def i29 : Ir := (.seq (.region g29_0) (.seq (.seq (.region g29_1) (.block 0 (.loop (.seq (.seq (.region g29_2) (.cond (.t 9) .skip (.exit 0))) (.seq (.block 1 (.seq (.region g29_3) (.region g29_4))) (.region g29_5)))))) (.seq (.region g29_6) .ret)))
def r29 : List Rx := [(.tmp 4)]
theorem markIntS_ok (a : List Int) (k : Int) (h0 : 0 < k) (hk : k ≤ 1099511627776) (ha : a.length ≤ 1048576) : Meets Try.prog 29 [.one (.sl true 1 a.length (a.map (T.int .i64))), .one (.int .i64 k)] (.w (.one (.int .i64 (k + a.length)))) [.one (.sl true 1 ((List.range a.length).map (fun j : Nat => k + (j : Int))).length (((List.range a.length).map (fun j : Nat => k + (j : Int))).map (T.int .i64))), .one .hole] := by
  refine meets_go (ir := i29) (fn := Try.f29) (rx := [(.tmp 4)]) rfl rfl (by rfl) (by rfl) (by exact Nat.le_of_ble_eq_true rfl) ?_
  simp (maxSteps := 9000000) -implicitDefEqProofs -dsimp (disch := omega) only [go_sem, g29_0, g29_1, g29_2, g29_3, g29_4, g29_5, g29_6, i29, Nat.reduceEqDiff, Nat.reduceAdd, Nat.reduceMul, Nat.reduceLeDiff, Nat.reduceBEq, Nat.reduceBNe, Int.reduceEq, ↓reduceIte, reduceCtorEq]
  refine loop_n a.length (fun i => ⟨[(5, .w (.one (.int .i64 (i : Nat)))), (1, .w (.one (.int .i64 (k + (i : Nat))))), (0, .w (.one (.hs 0 [] 0 1 a.length)))], [(0, .sl true 1 a.length ((mixL (fun j : Nat => k + (j : Int)) a i).map (T.int .i64)))], [.one (.hs 0 [] 0 1 a.length), .one (.int .i64 k)]⟩) (fun i => True) ?_ trivial ?_
  · exact (imp_sub (by simp (maxSteps := 9000000) -implicitDefEqProofs -dsimp (disch := omega) only [go_sem, g29_0, g29_1, g29_2, g29_3, g29_4, g29_5, g29_6, i29, mixL_0, Int.natCast_zero, Int.add_zero, Nat.reduceEqDiff, Nat.reduceAdd, Nat.reduceMul, Nat.reduceLeDiff, Nat.reduceBEq, Nat.reduceBNe, Int.reduceEq, ↓reduceIte, reduceCtorEq]) (by simp (maxSteps := 9000000) -implicitDefEqProofs -dsimp (disch := omega) only [go_sem, g29_0, g29_1, g29_2, g29_3, g29_4, g29_5, g29_6, i29, mixL_0, Int.natCast_zero, Int.add_zero, Nat.reduceEqDiff, Nat.reduceAdd, Nat.reduceMul, Nat.reduceLeDiff, Nat.reduceBEq, Nat.reduceBNe, Int.reduceEq, ↓reduceIte, reduceCtorEq]) rfl)
  · intro i hi hJ
    have hq := mixL_len (g := fun j : Nat => k + (j : Int)) (a := a) (i := i)
    simp (maxSteps := 9000000) -implicitDefEqProofs -dsimp (disch := omega) only [go_sem, g29_0, g29_1, g29_2, g29_3, g29_4, g29_5, g29_6, i29, Nat.reduceEqDiff, Nat.reduceAdd, Nat.reduceMul, Nat.reduceLeDiff, Nat.reduceBEq, Nat.reduceBNe, Int.reduceEq, ↓reduceIte, reduceCtorEq]
    refine brP_i (fun h => ?_) (fun h => ?_)
    · have hs := mixL_set (g := fun j : Nat => k + (j : Int)) (a := a) (i := i) (by omega)
      simp (maxSteps := 9000000) -implicitDefEqProofs -dsimp (disch := omega) only [go_sem, g29_0, g29_1, g29_2, g29_3, g29_4, g29_5, g29_6, i29, Nat.reduceEqDiff, Nat.reduceAdd, Nat.reduceMul, Nat.reduceLeDiff, Nat.reduceBEq, Nat.reduceBNe, Int.reduceEq, ↓reduceIte, reduceCtorEq]
      exact ⟨by omega, (imp_sub (by simp (maxSteps := 9000000) -implicitDefEqProofs -dsimp (disch := omega) only [go_sem, g29_0, g29_1, g29_2, g29_3, g29_4, g29_5, g29_6, i29, hs, Int.add_assoc, Nat.reduceEqDiff, Nat.reduceAdd, Nat.reduceMul, Nat.reduceLeDiff, Nat.reduceBEq, Nat.reduceBNe, Int.reduceEq, ↓reduceIte, reduceCtorEq]) (by simp (maxSteps := 9000000) -implicitDefEqProofs -dsimp (disch := omega) only [go_sem, g29_0, g29_1, g29_2, g29_3, g29_4, g29_5, g29_6, i29, hs, Int.add_assoc, Nat.reduceEqDiff, Nat.reduceAdd, Nat.reduceMul, Nat.reduceLeDiff, Nat.reduceBEq, Nat.reduceBNe, Int.reduceEq, ↓reduceIte, reduceCtorEq]) rfl)⟩
    · obtain rfl : i = a.length := by omega
      have hq2 : ((List.range a.length).map (fun j : Nat => k + (j : Int))).length = a.length := by simp
      simp (maxSteps := 9000000) -implicitDefEqProofs -dsimp (disch := omega) only [go_sem, g29_0, g29_1, g29_2, g29_3, g29_4, g29_5, g29_6, i29, mixL_end, Nat.reduceEqDiff, Nat.reduceAdd, Nat.reduceMul, Nat.reduceLeDiff, Nat.reduceBEq, Nat.reduceBNe, Int.reduceEq, ↓reduceIte, reduceCtorEq]
def g52_0 : List Gop := [⟨none, (some 4), (.mov (.k (.one (.int .i64 0))))⟩]
def g52_1 : List Gop := [⟨none, (some 5), (.mov (.k (.one (.int .i64 0))))⟩]
def g52_2 : List Gop := [⟨none, (some 6), (.mov (.t 5))⟩, ⟨none, (some 7), (.mov (.t 0))⟩, ⟨none, (some 8), (.len (.t 7))⟩, ⟨none, (some 9), (.bin .lss (.t 6) (.t 8))⟩]
def g52_3 : List Gop := [⟨none, (some 12), (.mov (.t 0))⟩, ⟨none, (some 13), (.mov (.t 5))⟩, ⟨none, (some 14), (.mov (.t 1))⟩, ⟨none, (some 15), (.bin .rem (.t 14) (.k (.one (.int .i64 3))))⟩, ⟨none, (some 16), (.bin .eql (.t 15) (.k (.one (.int .i64 0))))⟩, ⟨none, (some 17), (.iaddr 1 (.t 12) (.t 13))⟩, ⟨none, none, (.store 1 (.t 17) (.t 16))⟩]
def g52_4 : List Gop := [⟨none, (some 18), (.mov (.t 1))⟩, ⟨none, (some 19), (.bin .add (.t 18) (.k (.one (.int .i64 1))))⟩, ⟨none, (some 1), (.mov (.t 19))⟩]
def g52_5 : List Gop := [⟨none, (some 10), (.mov (.t 5))⟩, ⟨none, (some 11), (.bin .add (.t 10) (.k (.one (.int .i64 1))))⟩, ⟨none, (some 5), (.mov (.t 11))⟩]
def g52_6 : List Gop := [⟨none, (some 20), (.mov (.t 1))⟩, ⟨none, (some 4), (.mov (.t 20))⟩]
def i52 : Ir := (.seq (.region g52_0) (.seq (.seq (.region g52_1) (.block 0 (.loop (.seq (.seq (.region g52_2) (.cond (.t 9) .skip (.exit 0))) (.seq (.block 1 (.seq (.region g52_3) (.region g52_4))) (.region g52_5)))))) (.seq (.region g52_6) .ret)))
def r52 : List Rx := [(.tmp 4)]
theorem markBoolS_ok (a : List Bool) (k : Int) (h0 : 0 < k) (hk : k ≤ 1099511627776) (ha : a.length ≤ 1048576) : Meets Try.prog 52 [.one (.sl true 1 a.length (a.map T.bool)), .one (.int .i64 k)] (.w (.one (.int .i64 (k + a.length)))) [.one (.sl true 1 ((List.range a.length).map (fun j : Nat => decide ((k + (j : Int)).tmod 3 = 0))).length (((List.range a.length).map (fun j : Nat => decide ((k + (j : Int)).tmod 3 = 0))).map T.bool)), .one .hole] := by
  refine meets_go (ir := i52) (fn := Try.f52) (rx := [(.tmp 4)]) rfl rfl (by rfl) (by rfl) (by exact Nat.le_of_ble_eq_true rfl) ?_
  simp (maxSteps := 9000000) -implicitDefEqProofs -dsimp (disch := omega) only [go_sem, g52_0, g52_1, g52_2, g52_3, g52_4, g52_5, g52_6, i52, Nat.reduceEqDiff, Nat.reduceAdd, Nat.reduceMul, Nat.reduceLeDiff, Nat.reduceBEq, Nat.reduceBNe, Int.reduceEq, ↓reduceIte, reduceCtorEq]
  refine loop_n a.length (fun i => ⟨[(5, .w (.one (.int .i64 (i : Nat)))), (1, .w (.one (.int .i64 (k + (i : Nat))))), (0, .w (.one (.hs 0 [] 0 1 a.length)))], [(0, .sl true 1 a.length ((mixL (fun j : Nat => decide ((k + (j : Int)).tmod 3 = 0)) a i).map T.bool))], [.one (.hs 0 [] 0 1 a.length), .one (.int .i64 k)]⟩) (fun i => True) ?_ trivial ?_
  · exact (imp_sub (by simp (maxSteps := 9000000) -implicitDefEqProofs -dsimp (disch := omega) only [go_sem, g52_0, g52_1, g52_2, g52_3, g52_4, g52_5, g52_6, i52, mixL_0, Int.natCast_zero, Int.add_zero, Nat.reduceEqDiff, Nat.reduceAdd, Nat.reduceMul, Nat.reduceLeDiff, Nat.reduceBEq, Nat.reduceBNe, Int.reduceEq, ↓reduceIte, reduceCtorEq]) (by simp (maxSteps := 9000000) -implicitDefEqProofs -dsimp (disch := omega) only [go_sem, g52_0, g52_1, g52_2, g52_3, g52_4, g52_5, g52_6, i52, mixL_0, Int.natCast_zero, Int.add_zero, Nat.reduceEqDiff, Nat.reduceAdd, Nat.reduceMul, Nat.reduceLeDiff, Nat.reduceBEq, Nat.reduceBNe, Int.reduceEq, ↓reduceIte, reduceCtorEq]) rfl)
  · intro i hi hJ
    have hq := mixL_len (g := fun j : Nat => decide ((k + (j : Int)).tmod 3 = 0)) (a := a) (i := i)
    simp (maxSteps := 9000000) -implicitDefEqProofs -dsimp (disch := omega) only [go_sem, g52_0, g52_1, g52_2, g52_3, g52_4, g52_5, g52_6, i52, Nat.reduceEqDiff, Nat.reduceAdd, Nat.reduceMul, Nat.reduceLeDiff, Nat.reduceBEq, Nat.reduceBNe, Int.reduceEq, ↓reduceIte, reduceCtorEq]
    refine brP_i (fun h => ?_) (fun h => ?_)
    · have hs := mixL_set (g := fun j : Nat => decide ((k + (j : Int)).tmod 3 = 0)) (a := a) (i := i) (by omega)
      simp (maxSteps := 9000000) -implicitDefEqProofs -dsimp (disch := omega) only [go_sem, g52_0, g52_1, g52_2, g52_3, g52_4, g52_5, g52_6, i52, Nat.reduceEqDiff, Nat.reduceAdd, Nat.reduceMul, Nat.reduceLeDiff, Nat.reduceBEq, Nat.reduceBNe, Int.reduceEq, ↓reduceIte, reduceCtorEq]
      exact ⟨by omega, (imp_sub (by simp (maxSteps := 9000000) -implicitDefEqProofs -dsimp (disch := omega) only [go_sem, g52_0, g52_1, g52_2, g52_3, g52_4, g52_5, g52_6, i52, hs, Int.add_assoc, Nat.reduceEqDiff, Nat.reduceAdd, Nat.reduceMul, Nat.reduceLeDiff, Nat.reduceBEq, Nat.reduceBNe, Int.reduceEq, ↓reduceIte, reduceCtorEq]) (by simp (maxSteps := 9000000) -implicitDefEqProofs -dsimp (disch := omega) only [go_sem, g52_0, g52_1, g52_2, g52_3, g52_4, g52_5, g52_6, i52, hs, Int.add_assoc, Nat.reduceEqDiff, Nat.reduceAdd, Nat.reduceMul, Nat.reduceLeDiff, Nat.reduceBEq, Nat.reduceBNe, Int.reduceEq, ↓reduceIte, reduceCtorEq]) rfl)⟩
    · obtain rfl : i = a.length := by omega
      have hq2 : ((List.range a.length).map (fun j : Nat => decide ((k + (j : Int)).tmod 3 = 0))).length = a.length := by simp
      simp (maxSteps := 9000000) -implicitDefEqProofs -dsimp (disch := omega) only [go_sem, g52_0, g52_1, g52_2, g52_3, g52_4, g52_5, g52_6, i52, mixL_end, Nat.reduceEqDiff, Nat.reduceAdd, Nat.reduceMul, Nat.reduceLeDiff, Nat.reduceBEq, Nat.reduceBNe, Int.reduceEq, ↓reduceIte, reduceCtorEq]
def g62_0 : List Gop := [⟨none, (some 4), (.mov (.k (.one (.int .i64 0))))⟩]
def g62_1 : List Gop := [⟨none, (some 5), (.mov (.k (.one (.int .i64 0))))⟩]
def g62_2 : List Gop := [⟨none, (some 6), (.mov (.t 5))⟩, ⟨none, (some 7), (.mov (.t 0))⟩, ⟨none, (some 8), (.len (.t 7))⟩, ⟨none, (some 9), (.bin .lss (.t 6) (.t 8))⟩]
def g62_3 : List Gop := [⟨none, (some 12), (.mov (.t 0))⟩, ⟨none, (some 13), (.mov (.t 5))⟩, ⟨none, (some 14), (.iaddr 1 (.t 12) (.t 13))⟩, ⟨none, (some 15), (.load none (.t 14))⟩, ⟨none, (some 16), (.mov (.t 1))⟩, ⟨none, (some 17), (.call 87 [(.t 16)])⟩, ⟨none, (some 18), (.bin .neq (.t 15) (.t 17))⟩]
def a62_3 : List (List Nat) := [[], [], [0, 1], [0, 1, 2], [], [4], [0, 1, 2, 3, 4, 5]]
def n62_3 : Nat := 6 -- of 7
def g62_4 : List Gop := [⟨none, (some 4), (.mov (.k (.one (.int .i64 (-1)))))⟩]
def g62_5 : List Gop := [⟨none, (some 19), (.mov (.t 1))⟩, ⟨none, (some 20), (.bin .add (.t 19) (.k (.one (.int .i64 1))))⟩, ⟨none, (some 1), (.mov (.t 20))⟩]
def g62_6 : List Gop := [⟨none, (some 10), (.mov (.t 5))⟩, ⟨none, (some 11), (.bin .add (.t 10) (.k (.one (.int .i64 1))))⟩, ⟨none, (some 5), (.mov (.t 11))⟩]
def g62_7 : List Gop := [⟨none, (some 21), (.mov (.t 1))⟩, ⟨none, (some 4), (.mov (.t 21))⟩]
def i62 : Ir := (.seq (.region g62_0) (.seq (.seq (.region g62_1) (.block 0 (.loop (.seq (.seq (.region g62_2) (.cond (.t 9) .skip (.exit 0))) (.seq (.block 1 (.seq (.seq (.draw [[], [], [0, 1], [2], [], [4], [3, 5]] g62_3) (.cond (.t 18) (.seq (.region g62_4) .ret) .skip)) (.region g62_5))) (.region g62_6)))))) (.seq (.region g62_7) .ret)))
def r62 : List Rx := [(.tmp 4)]
theorem heldStringS_ok (n : Nat) (k : Int) (h0 : 0 < k) (hk : k ≤ 1099511627776) (ha : n ≤ 1048576) : Meets Try.prog 62 [.one (.sl false 1 n (((List.range n).map (fun j : Nat => mtext (k + (j : Int)))).map T.str)), .one (.int .i64 k)] (.w (.one (.int .i64 (k + n)))) [.one .hole, .one .hole] := by
  refine meets_go (ir := i62) (fn := Try.f62) (rx := [(.tmp 4)]) rfl rfl (by rfl) (by rfl) (by exact Nat.le_of_ble_eq_true rfl) ?_
  simp (maxSteps := 9000000) -implicitDefEqProofs -dsimp (disch := omega) only [go_sem, g62_0, g62_1, g62_2, g62_3, a62_3, n62_3, g62_4, g62_5, g62_6, g62_7, i62, Nat.reduceEqDiff, Nat.reduceAdd, Nat.reduceMul, Nat.reduceLeDiff, Nat.reduceBEq, Nat.reduceBNe, Int.reduceEq, ↓reduceIte, reduceCtorEq]
  refine loop_n n (fun i => ⟨[(5, .w (.one (.int .i64 (i : Nat)))), (1, .w (.one (.int .i64 (k + (i : Nat))))), (0, .w (.one (.hs 0 [] 0 1 n)))], [(0, .sl false 1 n (((List.range n).map (fun j : Nat => mtext (k + (j : Int)))).map T.str))], [.one (.hs 0 [] 0 1 n), .one (.int .i64 k)]⟩) (fun i => True) ?_ trivial ?_
  · exact (imp_sub (by simp (maxSteps := 9000000) -implicitDefEqProofs -dsimp (disch := omega) only [go_sem, g62_0, g62_1, g62_2, g62_3, a62_3, n62_3, g62_4, g62_5, g62_6, g62_7, i62, Int.natCast_zero, Int.add_zero, Nat.reduceEqDiff, Nat.reduceAdd, Nat.reduceMul, Nat.reduceLeDiff, Nat.reduceBEq, Nat.reduceBNe, Int.reduceEq, ↓reduceIte, reduceCtorEq]) (by simp (maxSteps := 9000000) -implicitDefEqProofs -dsimp (disch := omega) only [go_sem, g62_0, g62_1, g62_2, g62_3, a62_3, n62_3, g62_4, g62_5, g62_6, g62_7, i62, Int.natCast_zero, Int.add_zero, Nat.reduceEqDiff, Nat.reduceAdd, Nat.reduceMul, Nat.reduceLeDiff, Nat.reduceBEq, Nat.reduceBNe, Int.reduceEq, ↓reduceIte, reduceCtorEq]) rfl)
  · intro i hi hJ
    have hq : ((List.range n).map (fun j : Nat => mtext (k + (j : Int)))).length = n := by simp
    simp (maxSteps := 9000000) -implicitDefEqProofs -dsimp (disch := omega) only [go_sem, g62_0, g62_1, g62_2, g62_3, a62_3, n62_3, g62_4, g62_5, g62_6, g62_7, i62, Nat.reduceEqDiff, Nat.reduceAdd, Nat.reduceMul, Nat.reduceLeDiff, Nat.reduceBEq, Nat.reduceBNe, Int.reduceEq, ↓reduceIte, reduceCtorEq]
    refine brP_i (fun h => ?_) (fun h => ?_)
    · have hs := range_getD (g := fun j : Nat => mtext (k + (j : Int))) (n := n) (i := i) (by omega)
      refine draw_go n62_3 a62_3 (by decide +kernel) ?_
      simp (maxSteps := 9000000) -implicitDefEqProofs -dsimp (disch := omega) only [go_sem, g62_0, g62_1, g62_2, g62_3, a62_3, n62_3, g62_4, g62_5, g62_6, g62_7, i62, hs, Nat.reduceEqDiff, Nat.reduceAdd, Nat.reduceMul, Nat.reduceLeDiff, Nat.reduceBEq, Nat.reduceBNe, Int.reduceEq, ↓reduceIte, reduceCtorEq]
      refine calla_go true (markText_ok (k + (i : Nat)) (by omega) (by omega)) ?_
      simp (maxSteps := 9000000) -implicitDefEqProofs -dsimp (disch := omega) only [go_sem, g62_0, g62_1, g62_2, g62_3, a62_3, n62_3, g62_4, g62_5, g62_6, g62_7, i62, hs, Nat.reduceEqDiff, Nat.reduceAdd, Nat.reduceMul, Nat.reduceLeDiff, Nat.reduceBEq, Nat.reduceBNe, Int.reduceEq, ↓reduceIte, reduceCtorEq]
      exact ⟨by omega, (imp_sub (by simp (maxSteps := 9000000) -implicitDefEqProofs -dsimp (disch := omega) only [go_sem, g62_0, g62_1, g62_2, g62_3, a62_3, n62_3, g62_4, g62_5, g62_6, g62_7, i62, Int.add_assoc, Nat.reduceEqDiff, Nat.reduceAdd, Nat.reduceMul, Nat.reduceLeDiff, Nat.reduceBEq, Nat.reduceBNe, Int.reduceEq, ↓reduceIte, reduceCtorEq]) (by simp (maxSteps := 9000000) -implicitDefEqProofs -dsimp (disch := omega) only [go_sem, g62_0, g62_1, g62_2, g62_3, a62_3, n62_3, g62_4, g62_5, g62_6, g62_7, i62, Int.add_assoc, Nat.reduceEqDiff, Nat.reduceAdd, Nat.reduceMul, Nat.reduceLeDiff, Nat.reduceBEq, Nat.reduceBNe, Int.reduceEq, ↓reduceIte, reduceCtorEq]) rfl)⟩
    · obtain rfl : i = n := by omega
      simp (maxSteps := 9000000) -implicitDefEqProofs -dsimp (disch := omega) only [go_sem, g62_0, g62_1, g62_2, g62_3, a62_3, n62_3, g62_4, g62_5, g62_6, g62_7, i62, Nat.reduceEqDiff, Nat.reduceAdd, Nat.reduceMul, Nat.reduceLeDiff, Nat.reduceBEq, Nat.reduceBNe, Int.reduceEq, ↓reduceIte, reduceCtorEq]
def g30_0 : List Gop := [⟨none, (some 4), (.mov (.k (.one (.int .i64 0))))⟩]
def g30_1 : List Gop := [⟨none, (some 5), (.mov (.k (.one (.int .i64 0))))⟩]
def g30_2 : List Gop := [⟨none, (some 6), (.mov (.t 5))⟩, ⟨none, (some 7), (.mov (.t 0))⟩, ⟨none, (some 8), (.len (.t 7))⟩, ⟨none, (some 9), (.bin .lss (.t 6) (.t 8))⟩]
def g30_3 : List Gop := [⟨none, (some 12), (.mov (.t 0))⟩, ⟨none, (some 13), (.mov (.t 5))⟩, ⟨none, (some 14), (.iaddr 1 (.t 12) (.t 13))⟩, ⟨none, (some 15), (.load none (.t 14))⟩, ⟨none, (some 16), (.mov (.t 1))⟩, ⟨none, (some 17), (.bin .neq (.t 15) (.t 16))⟩]
def g30_4 : List Gop := [⟨none, (some 4), (.mov (.k (.one (.int .i64 (-1)))))⟩]
def g30_5 : List Gop := [⟨none, (some 18), (.mov (.t 1))⟩, ⟨none, (some 19), (.bin .add (.t 18) (.k (.one (.int .i64 1))))⟩, ⟨none, (some 1), (.mov (.t 19))⟩]
def g30_6 : List Gop := [⟨none, (some 10), (.mov (.t 5))⟩, ⟨none, (some 11), (.bin .add (.t 10) (.k (.one (.int .i64 1))))⟩, ⟨none, (some 5), (.mov (.t 11))⟩]
def g30_7 : List Gop := [⟨none, (some 20), (.mov (.t 1))⟩, ⟨none, (some 4), (.mov (.t 20))⟩]
def i30 : Ir := (.seq (.region g30_0) (.seq (.seq (.region g30_1) (.block 0 (.loop (.seq (.seq (.region g30_2) (.cond (.t 9) .skip (.exit 0))) (.seq (.block 1 (.seq (.seq (.region g30_3) (.cond (.t 17) (.seq (.region g30_4) .ret) .skip)) (.region g30_5))) (.region g30_6)))))) (.seq (.region g30_7) .ret)))
def r30 : List Rx := [(.tmp 4)]
theorem heldIntS_ok (n : Nat) (k : Int) (h0 : 0 < k) (hk : k ≤ 1099511627776) (ha : n ≤ 1048576) : Meets Try.prog 30 [.one (.sl false 1 n (((List.range n).map (fun j : Nat => k + (j : Int))).map (T.int .i64))), .one (.int .i64 k)] (.w (.one (.int .i64 (k + n)))) [.one .hole, .one .hole] := by
  refine meets_go (ir := i30) (fn := Try.f30) (rx := [(.tmp 4)]) rfl rfl (by rfl) (by rfl) (by exact Nat.le_of_ble_eq_true rfl) ?_
  simp (maxSteps := 9000000) -implicitDefEqProofs -dsimp (disch := omega) only [go_sem, g30_0, g30_1, g30_2, g30_3, g30_4, g30_5, g30_6, g30_7, i30, Nat.reduceEqDiff, Nat.reduceAdd, Nat.reduceMul, Nat.reduceLeDiff, Nat.reduceBEq, Nat.reduceBNe, Int.reduceEq, ↓reduceIte, reduceCtorEq]
  refine loop_n n (fun i => ⟨[(5, .w (.one (.int .i64 (i : Nat)))), (1, .w (.one (.int .i64 (k + (i : Nat))))), (0, .w (.one (.hs 0 [] 0 1 n)))], [(0, .sl false 1 n (((List.range n).map (fun j : Nat => k + (j : Int))).map (T.int .i64)))], [.one (.hs 0 [] 0 1 n), .one (.int .i64 k)]⟩) (fun i => True) ?_ trivial ?_
  · exact (imp_sub (by simp (maxSteps := 9000000) -implicitDefEqProofs -dsimp (disch := omega) only [go_sem, g30_0, g30_1, g30_2, g30_3, g30_4, g30_5, g30_6, g30_7, i30, Int.natCast_zero, Int.add_zero, Nat.reduceEqDiff, Nat.reduceAdd, Nat.reduceMul, Nat.reduceLeDiff, Nat.reduceBEq, Nat.reduceBNe, Int.reduceEq, ↓reduceIte, reduceCtorEq]) (by simp (maxSteps := 9000000) -implicitDefEqProofs -dsimp (disch := omega) only [go_sem, g30_0, g30_1, g30_2, g30_3, g30_4, g30_5, g30_6, g30_7, i30, Int.natCast_zero, Int.add_zero, Nat.reduceEqDiff, Nat.reduceAdd, Nat.reduceMul, Nat.reduceLeDiff, Nat.reduceBEq, Nat.reduceBNe, Int.reduceEq, ↓reduceIte, reduceCtorEq]) rfl)
  · intro i hi hJ
    have hq : ((List.range n).map (fun j : Nat => k + (j : Int))).length = n := by simp
    simp (maxSteps := 9000000) -implicitDefEqProofs -dsimp (disch := omega) only [go_sem, g30_0, g30_1, g30_2, g30_3, g30_4, g30_5, g30_6, g30_7, i30, Nat.reduceEqDiff, Nat.reduceAdd, Nat.reduceMul, Nat.reduceLeDiff, Nat.reduceBEq, Nat.reduceBNe, Int.reduceEq, ↓reduceIte, reduceCtorEq]
    refine brP_i (fun h => ?_) (fun h => ?_)
    · have hs := range_getD (g := fun j : Nat => k + (j : Int)) (n := n) (i := i) (by omega)
      simp (maxSteps := 9000000) -implicitDefEqProofs -dsimp (disch := omega) only [go_sem, g30_0, g30_1, g30_2, g30_3, g30_4, g30_5, g30_6, g30_7, i30, hs, Nat.reduceEqDiff, Nat.reduceAdd, Nat.reduceMul, Nat.reduceLeDiff, Nat.reduceBEq, Nat.reduceBNe, Int.reduceEq, ↓reduceIte, reduceCtorEq]
      exact ⟨by omega, (imp_sub (by simp (maxSteps := 9000000) -implicitDefEqProofs -dsimp (disch := omega) only [go_sem, g30_0, g30_1, g30_2, g30_3, g30_4, g30_5, g30_6, g30_7, i30, Int.add_assoc, Nat.reduceEqDiff, Nat.reduceAdd, Nat.reduceMul, Nat.reduceLeDiff, Nat.reduceBEq, Nat.reduceBNe, Int.reduceEq, ↓reduceIte, reduceCtorEq]) (by simp (maxSteps := 9000000) -implicitDefEqProofs -dsimp (disch := omega) only [go_sem, g30_0, g30_1, g30_2, g30_3, g30_4, g30_5, g30_6, g30_7, i30, Int.add_assoc, Nat.reduceEqDiff, Nat.reduceAdd, Nat.reduceMul, Nat.reduceLeDiff, Nat.reduceBEq, Nat.reduceBNe, Int.reduceEq, ↓reduceIte, reduceCtorEq]) rfl)⟩
    · obtain rfl : i = n := by omega
      simp (maxSteps := 9000000) -implicitDefEqProofs -dsimp (disch := omega) only [go_sem, g30_0, g30_1, g30_2, g30_3, g30_4, g30_5, g30_6, g30_7, i30, Nat.reduceEqDiff, Nat.reduceAdd, Nat.reduceMul, Nat.reduceLeDiff, Nat.reduceBEq, Nat.reduceBNe, Int.reduceEq, ↓reduceIte, reduceCtorEq]
def g53_0 : List Gop := [⟨none, (some 4), (.mov (.k (.one (.int .i64 0))))⟩]
def g53_1 : List Gop := [⟨none, (some 5), (.mov (.k (.one (.int .i64 0))))⟩]
def g53_2 : List Gop := [⟨none, (some 6), (.mov (.t 5))⟩, ⟨none, (some 7), (.mov (.t 0))⟩, ⟨none, (some 8), (.len (.t 7))⟩, ⟨none, (some 9), (.bin .lss (.t 6) (.t 8))⟩]
def g53_3 : List Gop := [⟨none, (some 12), (.mov (.t 0))⟩, ⟨none, (some 13), (.mov (.t 5))⟩, ⟨none, (some 14), (.iaddr 1 (.t 12) (.t 13))⟩, ⟨none, (some 15), (.load none (.t 14))⟩, ⟨none, (some 16), (.mov (.t 1))⟩, ⟨none, (some 17), (.bin .rem (.t 16) (.k (.one (.int .i64 3))))⟩, ⟨none, (some 18), (.bin .eql (.t 17) (.k (.one (.int .i64 0))))⟩, ⟨none, (some 19), (.beq .true (.t 15) (.t 18))⟩]
def g53_4 : List Gop := [⟨none, (some 4), (.mov (.k (.one (.int .i64 (-1)))))⟩]
def g53_5 : List Gop := [⟨none, (some 20), (.mov (.t 1))⟩, ⟨none, (some 21), (.bin .add (.t 20) (.k (.one (.int .i64 1))))⟩, ⟨none, (some 1), (.mov (.t 21))⟩]
def g53_6 : List Gop := [⟨none, (some 10), (.mov (.t 5))⟩, ⟨none, (some 11), (.bin .add (.t 10) (.k (.one (.int .i64 1))))⟩, ⟨none, (some 5), (.mov (.t 11))⟩]
def g53_7 : List Gop := [⟨none, (some 22), (.mov (.t 1))⟩, ⟨none, (some 4), (.mov (.t 22))⟩]
def i53 : Ir := (.seq (.region g53_0) (.seq (.seq (.region g53_1) (.block 0 (.loop (.seq (.seq (.region g53_2) (.cond (.t 9) .skip (.exit 0))) (.seq (.block 1 (.seq (.seq (.region g53_3) (.cond (.t 19) (.seq (.region g53_4) .ret) .skip)) (.region g53_5))) (.region g53_6)))))) (.seq (.region g53_7) .ret)))
def r53 : List Rx := [(.tmp 4)]
theorem heldBoolS_ok (n : Nat) (k : Int) (h0 : 0 < k) (hk : k ≤ 1099511627776) (ha : n ≤ 1048576) : Meets Try.prog 53 [.one (.sl false 1 n (((List.range n).map (fun j : Nat => decide ((k + (j : Int)).tmod 3 = 0))).map T.bool)), .one (.int .i64 k)] (.w (.one (.int .i64 (k + n)))) [.one .hole, .one .hole] := by
  refine meets_go (ir := i53) (fn := Try.f53) (rx := [(.tmp 4)]) rfl rfl (by rfl) (by rfl) (by exact Nat.le_of_ble_eq_true rfl) ?_
  simp (maxSteps := 9000000) -implicitDefEqProofs -dsimp (disch := omega) only [go_sem, g53_0, g53_1, g53_2, g53_3, g53_4, g53_5, g53_6, g53_7, i53, Nat.reduceEqDiff, Nat.reduceAdd, Nat.reduceMul, Nat.reduceLeDiff, Nat.reduceBEq, Nat.reduceBNe, Int.reduceEq, ↓reduceIte, reduceCtorEq]
  refine loop_n n (fun i => ⟨[(5, .w (.one (.int .i64 (i : Nat)))), (1, .w (.one (.int .i64 (k + (i : Nat))))), (0, .w (.one (.hs 0 [] 0 1 n)))], [(0, .sl false 1 n (((List.range n).map (fun j : Nat => decide ((k + (j : Int)).tmod 3 = 0))).map T.bool))], [.one (.hs 0 [] 0 1 n), .one (.int .i64 k)]⟩) (fun i => True) ?_ trivial ?_
  · exact (imp_sub (by simp (maxSteps := 9000000) -implicitDefEqProofs -dsimp (disch := omega) only [go_sem, g53_0, g53_1, g53_2, g53_3, g53_4, g53_5, g53_6, g53_7, i53, Int.natCast_zero, Int.add_zero, Nat.reduceEqDiff, Nat.reduceAdd, Nat.reduceMul, Nat.reduceLeDiff, Nat.reduceBEq, Nat.reduceBNe, Int.reduceEq, ↓reduceIte, reduceCtorEq]) (by simp (maxSteps := 9000000) -implicitDefEqProofs -dsimp (disch := omega) only [go_sem, g53_0, g53_1, g53_2, g53_3, g53_4, g53_5, g53_6, g53_7, i53, Int.natCast_zero, Int.add_zero, Nat.reduceEqDiff, Nat.reduceAdd, Nat.reduceMul, Nat.reduceLeDiff, Nat.reduceBEq, Nat.reduceBNe, Int.reduceEq, ↓reduceIte, reduceCtorEq]) rfl)
  · intro i hi hJ
    have hq : ((List.range n).map (fun j : Nat => decide ((k + (j : Int)).tmod 3 = 0))).length = n := by simp
    simp (maxSteps := 9000000) -implicitDefEqProofs -dsimp (disch := omega) only [go_sem, g53_0, g53_1, g53_2, g53_3, g53_4, g53_5, g53_6, g53_7, i53, Nat.reduceEqDiff, Nat.reduceAdd, Nat.reduceMul, Nat.reduceLeDiff, Nat.reduceBEq, Nat.reduceBNe, Int.reduceEq, ↓reduceIte, reduceCtorEq]
    refine brP_i (fun h => ?_) (fun h => ?_)
    · have hs := range_getD (g := fun j : Nat => decide ((k + (j : Int)).tmod 3 = 0)) (n := n) (i := i) (by omega)
      simp (maxSteps := 9000000) -implicitDefEqProofs -dsimp (disch := omega) only [go_sem, g53_0, g53_1, g53_2, g53_3, g53_4, g53_5, g53_6, g53_7, i53, hs, Nat.reduceEqDiff, Nat.reduceAdd, Nat.reduceMul, Nat.reduceLeDiff, Nat.reduceBEq, Nat.reduceBNe, Int.reduceEq, ↓reduceIte, reduceCtorEq]
      exact ⟨by omega, (imp_sub (by simp (maxSteps := 9000000) -implicitDefEqProofs -dsimp (disch := omega) only [go_sem, g53_0, g53_1, g53_2, g53_3, g53_4, g53_5, g53_6, g53_7, i53, Int.add_assoc, Nat.reduceEqDiff, Nat.reduceAdd, Nat.reduceMul, Nat.reduceLeDiff, Nat.reduceBEq, Nat.reduceBNe, Int.reduceEq, ↓reduceIte, reduceCtorEq]) (by simp (maxSteps := 9000000) -implicitDefEqProofs -dsimp (disch := omega) only [go_sem, g53_0, g53_1, g53_2, g53_3, g53_4, g53_5, g53_6, g53_7, i53, Int.add_assoc, Nat.reduceEqDiff, Nat.reduceAdd, Nat.reduceMul, Nat.reduceLeDiff, Nat.reduceBEq, Nat.reduceBNe, Int.reduceEq, ↓reduceIte, reduceCtorEq]) rfl)⟩
    · obtain rfl : i = n := by omega
      simp (maxSteps := 9000000) -implicitDefEqProofs -dsimp (disch := omega) only [go_sem, g53_0, g53_1, g53_2, g53_3, g53_4, g53_5, g53_6, g53_7, i53, Nat.reduceEqDiff, Nat.reduceAdd, Nat.reduceMul, Nat.reduceLeDiff, Nat.reduceBEq, Nat.reduceBNe, Int.reduceEq, ↓reduceIte, reduceCtorEq]
end Go.Proofs.YtjlodcoeegpkaaaT
