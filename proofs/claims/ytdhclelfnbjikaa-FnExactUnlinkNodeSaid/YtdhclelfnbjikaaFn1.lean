/- Functions of the program, each with what it returns and leaves. No condition. -/
import Derived.Test.YtdhclelfnbjikaaTree8
import Derived.Test.YtdhclelfnbjikaaProg
set_option linter.all false
set_option linter.unusedVariables false
set_option linter.unusedSimpArgs false
set_option linter.unusedSectionVars false
set_option linter.unnecessarySimpa false
set_option linter.deprecated false
/- Functions of the program as contracts: rows of numbers. No condition. -/
set_option maxRecDepth 100000
set_option maxHeartbeats 4000000
set_option linter.unusedSimpArgs false
set_option linter.unusedVariables false
namespace Go.Proofs.YtdhclelfnbjikaaT
open Go
def g75_0 : List Gop := [⟨none, (some 6), (.mov (.k (.one (.bool .false))))⟩]
def g75_1 : List Gop := [⟨none, (some 7), (.mov (.t 0))⟩, ⟨none, (some 8), (.mov (.t 1))⟩, ⟨none, (some 9), (.bin .geq (.t 7) (.t 8))⟩, ⟨none, (some 10), (.mov (.t 9))⟩, ⟨(some (10, .true)), (some 11), (.mov (.t 0))⟩, ⟨(some (10, .true)), (some 12), (.mov (.t 2))⟩, ⟨(some (10, .true)), (some 13), (.bin .leq (.t 11) (.t 12))⟩, ⟨none, (some 14), (.pick (.t 10) (.t 13) (.k (.one (.bool .false))))⟩, ⟨none, (some 6), (.mov (.t 14))⟩]
def i75 : Ir := (.seq (.region g75_0) (.seq (.region g75_1) .ret))
theorem within_ok (x lo hi : Int) : Meets Try.prog 75 [.one (.int .i64 x), .one (.int .i64 lo), .one (.int .i64 hi)] (.w (.one (.bool (decide (lo ≤ x ∧ x ≤ hi))))) [.one .hole, .one .hole, .one .hole] := by
  refine meets_go (ir := i75) (fn := Try.f75) (rx := [(.tmp 6)]) rfl rfl (by rfl) (by rfl) (by exact Nat.le_of_ble_eq_true rfl) ?_
  by_cases h : lo ≤ x <;> simp (maxSteps := 9000000) -implicitDefEqProofs -dsimp (disch := omega) only [go_sem, g75_0, g75_1, i75, h, Nat.reduceEqDiff, Nat.reduceAdd, Nat.reduceMul, Nat.reduceLeDiff, Nat.reduceBEq, Nat.reduceBNe, Int.reduceEq, ↓reduceIte, reduceCtorEq]
def g19_0 : List Gop := [⟨none, (some 4), (.mov (.k (.one (.bool .false))))⟩]
def g19_1 : List Gop := [⟨none, (some 6), (.mov (.t 0))⟩, ⟨none, (some 7), (.len (.t 6))⟩, ⟨none, (some 8), (.mov (.t 1))⟩, ⟨none, (some 9), (.len (.t 8))⟩, ⟨none, (some 10), (.bin .neq (.t 7) (.t 9))⟩]
def g19_2 : List Gop := [⟨none, (some 4), (.mov (.k (.one (.bool .false))))⟩]
def g19_3 : List Gop := [⟨none, (some 5), (.mov (.k (.one (.int .i64 0))))⟩]
def g19_4 : List Gop := [⟨none, (some 11), (.mov (.t 5))⟩, ⟨none, (some 12), (.mov (.t 0))⟩, ⟨none, (some 13), (.len (.t 12))⟩, ⟨none, (some 14), (.bin .lss (.t 11) (.t 13))⟩]
def g19_5 : List Gop := [⟨none, (some 17), (.mov (.t 0))⟩, ⟨none, (some 18), (.mov (.t 5))⟩, ⟨none, (some 19), (.iaddr 1 (.t 17) (.t 18))⟩, ⟨none, (some 20), (.load none (.t 19))⟩, ⟨none, (some 21), (.mov (.t 1))⟩, ⟨none, (some 22), (.mov (.t 5))⟩, ⟨none, (some 23), (.iaddr 1 (.t 21) (.t 22))⟩, ⟨none, (some 24), (.load none (.t 23))⟩, ⟨none, (some 25), (.bin .neq (.t 20) (.t 24))⟩]
def a19_5 : List (List Nat) := [[], [], [0, 1], [0, 1, 2], [], [], [4, 5], [4, 5, 6], [0, 1, 2, 3, 4, 5, 6, 7]]
def n19_5 : Nat := 8 -- of 9
def g19_6 : List Gop := [⟨none, (some 4), (.mov (.k (.one (.bool .false))))⟩]
def g19_7 : List Gop := [⟨none, (some 15), (.mov (.t 5))⟩, ⟨none, (some 16), (.bin .add (.t 15) (.k (.one (.int .i64 1))))⟩, ⟨none, (some 5), (.mov (.t 16))⟩]
def g19_8 : List Gop := [⟨none, (some 4), (.mov (.k (.one (.bool .true))))⟩]
def i19 : Ir := (.seq (.region g19_0) (.seq (.seq (.region g19_1) (.cond (.t 10) (.seq (.region g19_2) .ret) .skip)) (.seq (.seq (.region g19_3) (.block 0 (.loop (.seq (.seq (.region g19_4) (.cond (.t 14) .skip (.exit 0))) (.seq (.block 1 (.seq (.draw [[], [], [0, 1], [2], [], [], [4, 5], [6], [3, 7]] g19_5) (.cond (.t 25) (.seq (.region g19_6) .ret) .skip))) (.region g19_7)))))) (.seq (.region g19_8) .ret))))
theorem eqIntS_ok (a b : List Int) (ha : a.length ≤ 9223372036854775807) : Meets Try.prog 19 [.one (.sl false 1 a.length (a.map (T.int .i64))), .one (.sl false 1 b.length (b.map (T.int .i64)))] (.w (.one (.bool (decide (a = b))))) [.one .hole, .one .hole] := by
  refine meets_go (ir := i19) (fn := Try.f19) (rx := [(.tmp 4)]) rfl rfl (by rfl) (by rfl) (by exact Nat.le_of_ble_eq_true rfl) ?_
  simp (maxSteps := 9000000) -implicitDefEqProofs -dsimp (disch := omega) only [go_sem, g19_0, g19_1, g19_2, g19_3, g19_4, g19_5, a19_5, n19_5, g19_6, g19_7, g19_8, i19, Nat.reduceEqDiff, Nat.reduceAdd, Nat.reduceMul, Nat.reduceLeDiff, Nat.reduceBEq, Nat.reduceBNe, Int.reduceEq, ↓reduceIte, reduceCtorEq]
  refine brP_i (fun h => ?_) (fun h => ?_)
  · have h' : b.length = a.length := by omega
    simp (maxSteps := 9000000) -implicitDefEqProofs -dsimp (disch := omega) only [go_sem, g19_0, g19_1, g19_2, g19_3, g19_4, g19_5, a19_5, n19_5, g19_6, g19_7, g19_8, i19, Nat.reduceEqDiff, Nat.reduceAdd, Nat.reduceMul, Nat.reduceLeDiff, Nat.reduceBEq, Nat.reduceBNe, Int.reduceEq, ↓reduceIte, reduceCtorEq]
    refine loop_n a.length (fun i => ⟨[(5, .w (.one (.int .i64 (i : Nat)))), (1, .w (.one (.hs 1 [] 0 1 b.length))), (0, .w (.one (.hs 0 [] 0 1 a.length)))], [(1, (.sl false 1 b.length (b.map (T.int .i64)))), (0, (.sl false 1 a.length (a.map (T.int .i64))))], [.one (.hs 0 [] 0 1 a.length), .one (.hs 1 [] 0 1 b.length)]⟩) (fun i => a.take i = b.take i) ?_ ?_ ?_
    · exact (imp_sub (by simp (maxSteps := 9000000) -implicitDefEqProofs -dsimp (disch := omega) only [go_sem, g19_0, g19_1, g19_2, g19_3, g19_4, g19_5, a19_5, n19_5, g19_6, g19_7, g19_8, i19, Nat.reduceEqDiff, Nat.reduceAdd, Nat.reduceMul, Nat.reduceLeDiff, Nat.reduceBEq, Nat.reduceBNe, Int.reduceEq, ↓reduceIte, reduceCtorEq]) (by simp (maxSteps := 9000000) -implicitDefEqProofs -dsimp (disch := omega) only [go_sem, g19_0, g19_1, g19_2, g19_3, g19_4, g19_5, a19_5, n19_5, g19_6, g19_7, g19_8, i19, Nat.reduceEqDiff, Nat.reduceAdd, Nat.reduceMul, Nat.reduceLeDiff, Nat.reduceBEq, Nat.reduceBNe, Int.reduceEq, ↓reduceIte, reduceCtorEq]) rfl)
    · simp
    · intro i hi hJ
      simp (maxSteps := 9000000) -implicitDefEqProofs -dsimp (disch := omega) only [go_sem, g19_0, g19_1, g19_2, g19_3, g19_4, g19_5, a19_5, n19_5, g19_6, g19_7, g19_8, i19, Nat.reduceEqDiff, Nat.reduceAdd, Nat.reduceMul, Nat.reduceLeDiff, Nat.reduceBEq, Nat.reduceBNe, Int.reduceEq, ↓reduceIte, reduceCtorEq]
      refine brP_i (fun h2 => ?_) (fun h2 => ?_)
      · refine draw_go n19_5 a19_5 (by decide +kernel) ?_
        simp (maxSteps := 9000000) -implicitDefEqProofs -dsimp (disch := omega) only [go_sem, g19_0, g19_1, g19_2, g19_3, g19_4, g19_5, a19_5, n19_5, g19_6, g19_7, g19_8, i19, Nat.reduceEqDiff, Nat.reduceAdd, Nat.reduceMul, Nat.reduceLeDiff, Nat.reduceBEq, Nat.reduceBNe, Int.reduceEq, ↓reduceIte, reduceCtorEq]
        refine brP_i (fun h3 => ?_) (fun h3 => ?_)
        · simp (maxSteps := 9000000) -implicitDefEqProofs -dsimp (disch := omega) only [go_sem, g19_0, g19_1, g19_2, g19_3, g19_4, g19_5, a19_5, n19_5, g19_6, g19_7, g19_8, i19, Nat.reduceEqDiff, Nat.reduceAdd, Nat.reduceMul, Nat.reduceLeDiff, Nat.reduceBEq, Nat.reduceBNe, Int.reduceEq, ↓reduceIte, reduceCtorEq]
          exact ⟨⟨by omega, take_eq_succ (by omega) (by omega) hJ h3⟩, (imp_sub (by simp (maxSteps := 9000000) -implicitDefEqProofs -dsimp (disch := omega) only [go_sem, g19_0, g19_1, g19_2, g19_3, g19_4, g19_5, a19_5, n19_5, g19_6, g19_7, g19_8, i19, Nat.reduceEqDiff, Nat.reduceAdd, Nat.reduceMul, Nat.reduceLeDiff, Nat.reduceBEq, Nat.reduceBNe, Int.reduceEq, ↓reduceIte, reduceCtorEq]) (by simp (maxSteps := 9000000) -implicitDefEqProofs -dsimp (disch := omega) only [go_sem, g19_0, g19_1, g19_2, g19_3, g19_4, g19_5, a19_5, n19_5, g19_6, g19_7, g19_8, i19, Nat.reduceEqDiff, Nat.reduceAdd, Nat.reduceMul, Nat.reduceLeDiff, Nat.reduceBEq, Nat.reduceBNe, Int.reduceEq, ↓reduceIte, reduceCtorEq]) rfl)⟩
        · simp (maxSteps := 9000000) -implicitDefEqProofs -dsimp (disch := omega) only [go_sem, g19_0, g19_1, g19_2, g19_3, g19_4, g19_5, a19_5, n19_5, g19_6, g19_7, g19_8, i19, Nat.reduceEqDiff, Nat.reduceAdd, Nat.reduceMul, Nat.reduceLeDiff, Nat.reduceBEq, Nat.reduceBNe, Int.reduceEq, ↓reduceIte, reduceCtorEq]
          exact need_i (by simp [show a ≠ b from fun e => h3 (by rw [e])]) (by simp (maxSteps := 9000000) -implicitDefEqProofs -dsimp (disch := omega) only [go_sem, g19_0, g19_1, g19_2, g19_3, g19_4, g19_5, a19_5, n19_5, g19_6, g19_7, g19_8, i19, Nat.reduceEqDiff, Nat.reduceAdd, Nat.reduceMul, Nat.reduceLeDiff, Nat.reduceBEq, Nat.reduceBNe, Int.reduceEq, ↓reduceIte, reduceCtorEq])
      · simp (maxSteps := 9000000) -implicitDefEqProofs -dsimp (disch := omega) only [go_sem, g19_0, g19_1, g19_2, g19_3, g19_4, g19_5, a19_5, n19_5, g19_6, g19_7, g19_8, i19, Nat.reduceEqDiff, Nat.reduceAdd, Nat.reduceMul, Nat.reduceLeDiff, Nat.reduceBEq, Nat.reduceBNe, Int.reduceEq, ↓reduceIte, reduceCtorEq]
        exact need_i (by simp [eq_of_take hJ (by omega) (by omega)]) (by simp (maxSteps := 9000000) -implicitDefEqProofs -dsimp (disch := omega) only [go_sem, g19_0, g19_1, g19_2, g19_3, g19_4, g19_5, a19_5, n19_5, g19_6, g19_7, g19_8, i19, Nat.reduceEqDiff, Nat.reduceAdd, Nat.reduceMul, Nat.reduceLeDiff, Nat.reduceBEq, Nat.reduceBNe, Int.reduceEq, ↓reduceIte, reduceCtorEq])
  · simp (maxSteps := 9000000) -implicitDefEqProofs -dsimp (disch := omega) only [go_sem, g19_0, g19_1, g19_2, g19_3, g19_4, g19_5, a19_5, n19_5, g19_6, g19_7, g19_8, i19, Nat.reduceEqDiff, Nat.reduceAdd, Nat.reduceMul, Nat.reduceLeDiff, Nat.reduceBEq, Nat.reduceBNe, Int.reduceEq, ↓reduceIte, reduceCtorEq]
    exact need_i (by simp [show a ≠ b from fun e => h (by rw [e])]) (by simp (maxSteps := 9000000) -implicitDefEqProofs -dsimp (disch := omega) only [go_sem, g19_0, g19_1, g19_2, g19_3, g19_4, g19_5, a19_5, n19_5, g19_6, g19_7, g19_8, i19, Nat.reduceEqDiff, Nat.reduceAdd, Nat.reduceMul, Nat.reduceLeDiff, Nat.reduceBEq, Nat.reduceBNe, Int.reduceEq, ↓reduceIte, reduceCtorEq])
def g17_0 : List Gop := [⟨none, (some 2), (.mov (.k (.one .nil)))⟩]
def g17_1 : List Gop := [⟨none, (some 5), (.mov (.t 0))⟩, ⟨none, (some 6), (.len (.t 5))⟩, ⟨none, (some 7), (.make 1 [(.int .i64 0)] 8 (.t 6) (.t 6))⟩, ⟨none, (some 3), (.mov (.t 7))⟩]
def g17_2 : List Gop := [⟨none, (some 4), (.mov (.k (.one (.int .i64 0))))⟩]
def g17_3 : List Gop := [⟨none, (some 8), (.mov (.t 4))⟩, ⟨none, (some 9), (.mov (.t 0))⟩, ⟨none, (some 10), (.len (.t 9))⟩, ⟨none, (some 11), (.bin .lss (.t 8) (.t 10))⟩]
def g17_4 : List Gop := [⟨none, (some 14), (.mov (.t 3))⟩, ⟨none, (some 15), (.mov (.t 4))⟩, ⟨none, (some 16), (.mov (.t 0))⟩, ⟨none, (some 17), (.mov (.t 4))⟩, ⟨none, (some 18), (.iaddr 1 (.t 16) (.t 17))⟩, ⟨none, (some 19), (.load none (.t 18))⟩, ⟨none, (some 20), (.iaddr 1 (.t 14) (.t 15))⟩, ⟨none, none, (.store 1 (.t 20) (.t 19))⟩]
def g17_5 : List Gop := [⟨none, (some 12), (.mov (.t 4))⟩, ⟨none, (some 13), (.bin .add (.t 12) (.k (.one (.int .i64 1))))⟩, ⟨none, (some 4), (.mov (.t 13))⟩]
def g17_6 : List Gop := [⟨none, (some 21), (.mov (.t 3))⟩, ⟨none, (some 2), (.mov (.t 21))⟩]
def i17 : Ir := (.seq (.region g17_0) (.seq (.region g17_1) (.seq (.seq (.region g17_2) (.block 0 (.loop (.seq (.seq (.region g17_3) (.cond (.t 11) .skip (.exit 0))) (.seq (.block 1 (.region g17_4)) (.region g17_5)))))) (.seq (.region g17_6) .ret))))
theorem toIntS_ok (a : List Int) (ha : a.length ≤ 1048576) : Meets Try.prog 17 [.one (.sl false 1 a.length (a.map (T.int .i64)))] (.w (.one (.sl true 1 a.length (a.map (T.int .i64))))) [.one .hole] := by
  refine meets_go (ir := i17) (fn := Try.f17) (rx := [(.tmp 2)]) rfl rfl (by rfl) (by rfl) (by exact Nat.le_of_ble_eq_true rfl) ?_
  simp (maxSteps := 9000000) -implicitDefEqProofs -dsimp (disch := omega) only [go_sem, g17_0, g17_1, g17_2, g17_3, g17_4, g17_5, g17_6, i17, Nat.reduceEqDiff, Nat.reduceAdd, Nat.reduceMul, Nat.reduceLeDiff, Nat.reduceBEq, Nat.reduceBNe, Int.reduceEq, ↓reduceIte, reduceCtorEq]
  refine loop_n a.length (fun i => ⟨[(4, .w (.one (.int .i64 (i : Nat)))), (3, .w (.one (.hs 1 [] 0 1 a.length))), (0, .w (.one (.hs 0 [] 0 1 a.length)))], [(1, .sl true 1 a.length ((fillL a (0 : Int) i).map (T.int .i64))), (0, (.sl false 1 a.length (a.map (T.int .i64))))], [.one (.hs 0 [] 0 1 a.length)]⟩) (fun i => True) ?_ trivial ?_
  · exact (imp_sub (by simp (maxSteps := 9000000) -implicitDefEqProofs -dsimp (disch := omega) only [go_sem, g17_0, g17_1, g17_2, g17_3, g17_4, g17_5, g17_6, i17, fillL_0, List.map_replicate, Nat.reduceEqDiff, Nat.reduceAdd, Nat.reduceMul, Nat.reduceLeDiff, Nat.reduceBEq, Nat.reduceBNe, Int.reduceEq, ↓reduceIte, reduceCtorEq]) (by simp (maxSteps := 9000000) -implicitDefEqProofs -dsimp (disch := omega) only [go_sem, g17_0, g17_1, g17_2, g17_3, g17_4, g17_5, g17_6, i17, fillL_0, List.map_replicate, Nat.reduceEqDiff, Nat.reduceAdd, Nat.reduceMul, Nat.reduceLeDiff, Nat.reduceBEq, Nat.reduceBNe, Int.reduceEq, ↓reduceIte, reduceCtorEq]) rfl)
  · intro i hi hJ
    have hq := fillL_len (a := a) (d := (0 : Int)) (i := i)
    simp (maxSteps := 9000000) -implicitDefEqProofs -dsimp (disch := omega) only [go_sem, g17_0, g17_1, g17_2, g17_3, g17_4, g17_5, g17_6, i17, Nat.reduceEqDiff, Nat.reduceAdd, Nat.reduceMul, Nat.reduceLeDiff, Nat.reduceBEq, Nat.reduceBNe, Int.reduceEq, ↓reduceIte, reduceCtorEq]
    refine brP_i (fun h => ?_) (fun h => ?_)
    · simp (maxSteps := 9000000) -implicitDefEqProofs -dsimp (disch := omega) only [go_sem, g17_0, g17_1, g17_2, g17_3, g17_4, g17_5, g17_6, i17, Nat.reduceEqDiff, Nat.reduceAdd, Nat.reduceMul, Nat.reduceLeDiff, Nat.reduceBEq, Nat.reduceBNe, Int.reduceEq, ↓reduceIte, reduceCtorEq]
      exact ⟨by omega, (imp_sub (by simp (maxSteps := 9000000) -implicitDefEqProofs -dsimp (disch := omega) only [go_sem, g17_0, g17_1, g17_2, g17_3, g17_4, g17_5, g17_6, i17, Nat.reduceEqDiff, Nat.reduceAdd, Nat.reduceMul, Nat.reduceLeDiff, Nat.reduceBEq, Nat.reduceBNe, Int.reduceEq, ↓reduceIte, reduceCtorEq]) (by simp (maxSteps := 9000000) -implicitDefEqProofs -dsimp (disch := omega) only [go_sem, g17_0, g17_1, g17_2, g17_3, g17_4, g17_5, g17_6, i17, Nat.reduceEqDiff, Nat.reduceAdd, Nat.reduceMul, Nat.reduceLeDiff, Nat.reduceBEq, Nat.reduceBNe, Int.reduceEq, ↓reduceIte, reduceCtorEq]) rfl)⟩
    · obtain rfl : i = a.length := by omega
      simp (maxSteps := 9000000) -implicitDefEqProofs -dsimp (disch := omega) only [go_sem, g17_0, g17_1, g17_2, g17_3, g17_4, g17_5, g17_6, i17, fillL_end, Nat.reduceEqDiff, Nat.reduceAdd, Nat.reduceMul, Nat.reduceLeDiff, Nat.reduceBEq, Nat.reduceBNe, Int.reduceEq, ↓reduceIte, reduceCtorEq]
def g62_0 : List Gop := [⟨none, (some 4), (.mov (.k (.one (.int .i64 0))))⟩]
def g62_1 : List Gop := [⟨none, (some 5), (.mov (.t 1))⟩, ⟨none, (some 6), (.mov (.t 0))⟩, ⟨none, (some 7), (.len (.t 6))⟩, ⟨none, (some 8), (.bin .sub (.t 5) (.t 7))⟩, ⟨none, (some 1), (.mov (.t 8))⟩]
def g62_2 : List Gop := [⟨none, (some 9), (.mov (.t 1))⟩, ⟨none, (some 10), (.bin .lss (.t 9) (.k (.one (.int .i64 0))))⟩]
def g62_3 : List Gop := [⟨none, (some 4), (.mov (.k (.one (.int .i64 (-1)))))⟩]
def g62_4 : List Gop := [⟨none, (some 11), (.mov (.t 1))⟩, ⟨none, (some 4), (.mov (.t 11))⟩]
def i62 : Ir := (.seq (.region g62_0) (.seq (.region g62_1) (.seq (.seq (.region g62_2) (.cond (.t 10) (.seq (.region g62_3) .ret) .skip)) (.seq (.region g62_4) .ret))))
theorem szIntS_ok (a : List Int) (n : Int) (h0 : 0 ≤ n) (hn : n ≤ 1048576) (ha : a.length ≤ 9223372036854775807) : Meets Try.prog 62 [.one (.sl false 1 a.length (a.map (T.int .i64))), .one (.int .i64 n)] (.w (.one (.int .i64 (szf (n - a.length))))) [.one .hole, .one .hole] := by
  refine meets_go (ir := i62) (fn := Try.f62) (rx := [(.tmp 4)]) rfl rfl (by rfl) (by rfl) (by exact Nat.le_of_ble_eq_true rfl) ?_
  simp (maxSteps := 9000000) -implicitDefEqProofs -dsimp (disch := omega) only [go_sem, g62_0, g62_1, g62_2, g62_3, g62_4, i62, Nat.reduceEqDiff, Nat.reduceAdd, Nat.reduceMul, Nat.reduceLeDiff, Nat.reduceBEq, Nat.reduceBNe, Int.reduceEq, ↓reduceIte, reduceCtorEq]
  refine brP_i (fun h => ?_) (fun h => ?_)
  · simp (maxSteps := 9000000) -implicitDefEqProofs -dsimp (disch := omega) only [go_sem, g62_0, g62_1, g62_2, g62_3, g62_4, i62, Nat.reduceEqDiff, Nat.reduceAdd, Nat.reduceMul, Nat.reduceLeDiff, Nat.reduceBEq, Nat.reduceBNe, Int.reduceEq, ↓reduceIte, reduceCtorEq]
    exact need_i (by simp only [szf, if_pos h]) (by simp (maxSteps := 9000000) -implicitDefEqProofs -dsimp (disch := omega) only [go_sem, g62_0, g62_1, g62_2, g62_3, g62_4, i62, Nat.reduceEqDiff, Nat.reduceAdd, Nat.reduceMul, Nat.reduceLeDiff, Nat.reduceBEq, Nat.reduceBNe, Int.reduceEq, ↓reduceIte, reduceCtorEq])
  · simp (maxSteps := 9000000) -implicitDefEqProofs -dsimp (disch := omega) only [go_sem, g62_0, g62_1, g62_2, g62_3, g62_4, i62, Nat.reduceEqDiff, Nat.reduceAdd, Nat.reduceMul, Nat.reduceLeDiff, Nat.reduceBEq, Nat.reduceBNe, Int.reduceEq, ↓reduceIte, reduceCtorEq]
    exact need_i (by simp only [szf, if_neg h]) (by simp (maxSteps := 9000000) -implicitDefEqProofs -dsimp (disch := omega) only [go_sem, g62_0, g62_1, g62_2, g62_3, g62_4, i62, Nat.reduceEqDiff, Nat.reduceAdd, Nat.reduceMul, Nat.reduceLeDiff, Nat.reduceBEq, Nat.reduceBNe, Int.reduceEq, ↓reduceIte, reduceCtorEq])
def g22_0 : List Gop := [⟨none, (some 4), (.mov (.k (.one (.int .i64 0))))⟩]
def g22_1 : List Gop := [⟨none, (some 5), (.mov (.k (.one (.int .i64 0))))⟩]
def g22_2 : List Gop := [⟨none, (some 6), (.mov (.t 5))⟩, ⟨none, (some 7), (.mov (.t 0))⟩, ⟨none, (some 8), (.len (.t 7))⟩, ⟨none, (some 9), (.bin .lss (.t 6) (.t 8))⟩]
def g22_3 : List Gop := [⟨none, (some 12), (.mov (.t 0))⟩, ⟨none, (some 13), (.mov (.t 5))⟩, ⟨none, (some 14), (.mov (.t 1))⟩, ⟨none, (some 15), (.iaddr 1 (.t 12) (.t 13))⟩, ⟨none, none, (.store 1 (.t 15) (.t 14))⟩]
def g22_4 : List Gop := [⟨none, (some 16), (.mov (.t 1))⟩, ⟨none, (some 17), (.bin .add (.t 16) (.k (.one (.int .i64 1))))⟩, ⟨none, (some 1), (.mov (.t 17))⟩]
def g22_5 : List Gop := [⟨none, (some 10), (.mov (.t 5))⟩, ⟨none, (some 11), (.bin .add (.t 10) (.k (.one (.int .i64 1))))⟩, ⟨none, (some 5), (.mov (.t 11))⟩]
def g22_6 : List Gop := [⟨none, (some 18), (.mov (.t 1))⟩, ⟨none, (some 4), (.mov (.t 18))⟩]
def i22 : Ir := (.seq (.region g22_0) (.seq (.seq (.region g22_1) (.block 0 (.loop (.seq (.seq (.region g22_2) (.cond (.t 9) .skip (.exit 0))) (.seq (.block 1 (.seq (.region g22_3) (.region g22_4))) (.region g22_5)))))) (.seq (.region g22_6) .ret)))
theorem markIntS_ok (a : List Int) (k : Int) (h0 : 0 < k) (hk : k ≤ 1099511627776) (ha : a.length ≤ 1048576) : Meets Try.prog 22 [.one (.sl true 1 a.length (a.map (T.int .i64))), .one (.int .i64 k)] (.w (.one (.int .i64 (k + a.length)))) [.one (.sl true 1 ((List.range a.length).map (fun j : Nat => k + (j : Int))).length (((List.range a.length).map (fun j : Nat => k + (j : Int))).map (T.int .i64))), .one .hole] := by
  refine meets_go (ir := i22) (fn := Try.f22) (rx := [(.tmp 4)]) rfl rfl (by rfl) (by rfl) (by exact Nat.le_of_ble_eq_true rfl) ?_
  simp (maxSteps := 9000000) -implicitDefEqProofs -dsimp (disch := omega) only [go_sem, g22_0, g22_1, g22_2, g22_3, g22_4, g22_5, g22_6, i22, Nat.reduceEqDiff, Nat.reduceAdd, Nat.reduceMul, Nat.reduceLeDiff, Nat.reduceBEq, Nat.reduceBNe, Int.reduceEq, ↓reduceIte, reduceCtorEq]
  refine loop_n a.length (fun i => ⟨[(5, .w (.one (.int .i64 (i : Nat)))), (1, .w (.one (.int .i64 (k + (i : Nat))))), (0, .w (.one (.hs 0 [] 0 1 a.length)))], [(0, .sl true 1 a.length ((mixL (fun j : Nat => k + (j : Int)) a i).map (T.int .i64)))], [.one (.hs 0 [] 0 1 a.length), .one (.int .i64 k)]⟩) (fun i => True) ?_ trivial ?_
  · exact (imp_sub (by simp (maxSteps := 9000000) -implicitDefEqProofs -dsimp (disch := omega) only [go_sem, g22_0, g22_1, g22_2, g22_3, g22_4, g22_5, g22_6, i22, mixL_0, Int.natCast_zero, Int.add_zero, Nat.reduceEqDiff, Nat.reduceAdd, Nat.reduceMul, Nat.reduceLeDiff, Nat.reduceBEq, Nat.reduceBNe, Int.reduceEq, ↓reduceIte, reduceCtorEq]) (by simp (maxSteps := 9000000) -implicitDefEqProofs -dsimp (disch := omega) only [go_sem, g22_0, g22_1, g22_2, g22_3, g22_4, g22_5, g22_6, i22, mixL_0, Int.natCast_zero, Int.add_zero, Nat.reduceEqDiff, Nat.reduceAdd, Nat.reduceMul, Nat.reduceLeDiff, Nat.reduceBEq, Nat.reduceBNe, Int.reduceEq, ↓reduceIte, reduceCtorEq]) rfl)
  · intro i hi hJ
    have hq := mixL_len (g := fun j : Nat => k + (j : Int)) (a := a) (i := i)
    simp (maxSteps := 9000000) -implicitDefEqProofs -dsimp (disch := omega) only [go_sem, g22_0, g22_1, g22_2, g22_3, g22_4, g22_5, g22_6, i22, Nat.reduceEqDiff, Nat.reduceAdd, Nat.reduceMul, Nat.reduceLeDiff, Nat.reduceBEq, Nat.reduceBNe, Int.reduceEq, ↓reduceIte, reduceCtorEq]
    refine brP_i (fun h => ?_) (fun h => ?_)
    · have hs := mixL_set (g := fun j : Nat => k + (j : Int)) (a := a) (i := i) (by omega)
      simp (maxSteps := 9000000) -implicitDefEqProofs -dsimp (disch := omega) only [go_sem, g22_0, g22_1, g22_2, g22_3, g22_4, g22_5, g22_6, i22, Nat.reduceEqDiff, Nat.reduceAdd, Nat.reduceMul, Nat.reduceLeDiff, Nat.reduceBEq, Nat.reduceBNe, Int.reduceEq, ↓reduceIte, reduceCtorEq]
      exact ⟨by omega, (imp_sub (by simp (maxSteps := 9000000) -implicitDefEqProofs -dsimp (disch := omega) only [go_sem, g22_0, g22_1, g22_2, g22_3, g22_4, g22_5, g22_6, i22, hs, Int.add_assoc, Nat.reduceEqDiff, Nat.reduceAdd, Nat.reduceMul, Nat.reduceLeDiff, Nat.reduceBEq, Nat.reduceBNe, Int.reduceEq, ↓reduceIte, reduceCtorEq]) (by simp (maxSteps := 9000000) -implicitDefEqProofs -dsimp (disch := omega) only [go_sem, g22_0, g22_1, g22_2, g22_3, g22_4, g22_5, g22_6, i22, hs, Int.add_assoc, Nat.reduceEqDiff, Nat.reduceAdd, Nat.reduceMul, Nat.reduceLeDiff, Nat.reduceBEq, Nat.reduceBNe, Int.reduceEq, ↓reduceIte, reduceCtorEq]) rfl)⟩
    · obtain rfl : i = a.length := by omega
      have hq2 : ((List.range a.length).map (fun j : Nat => k + (j : Int))).length = a.length := by simp
      simp (maxSteps := 9000000) -implicitDefEqProofs -dsimp (disch := omega) only [go_sem, g22_0, g22_1, g22_2, g22_3, g22_4, g22_5, g22_6, i22, mixL_end, Nat.reduceEqDiff, Nat.reduceAdd, Nat.reduceMul, Nat.reduceLeDiff, Nat.reduceBEq, Nat.reduceBNe, Int.reduceEq, ↓reduceIte, reduceCtorEq]
def g23_0 : List Gop := [⟨none, (some 4), (.mov (.k (.one (.int .i64 0))))⟩]
def g23_1 : List Gop := [⟨none, (some 5), (.mov (.k (.one (.int .i64 0))))⟩]
def g23_2 : List Gop := [⟨none, (some 6), (.mov (.t 5))⟩, ⟨none, (some 7), (.mov (.t 0))⟩, ⟨none, (some 8), (.len (.t 7))⟩, ⟨none, (some 9), (.bin .lss (.t 6) (.t 8))⟩]
def g23_3 : List Gop := [⟨none, (some 12), (.mov (.t 0))⟩, ⟨none, (some 13), (.mov (.t 5))⟩, ⟨none, (some 14), (.iaddr 1 (.t 12) (.t 13))⟩, ⟨none, (some 15), (.load none (.t 14))⟩, ⟨none, (some 16), (.mov (.t 1))⟩, ⟨none, (some 17), (.bin .neq (.t 15) (.t 16))⟩]
def g23_4 : List Gop := [⟨none, (some 4), (.mov (.k (.one (.int .i64 (-1)))))⟩]
def g23_5 : List Gop := [⟨none, (some 18), (.mov (.t 1))⟩, ⟨none, (some 19), (.bin .add (.t 18) (.k (.one (.int .i64 1))))⟩, ⟨none, (some 1), (.mov (.t 19))⟩]
def g23_6 : List Gop := [⟨none, (some 10), (.mov (.t 5))⟩, ⟨none, (some 11), (.bin .add (.t 10) (.k (.one (.int .i64 1))))⟩, ⟨none, (some 5), (.mov (.t 11))⟩]
def g23_7 : List Gop := [⟨none, (some 20), (.mov (.t 1))⟩, ⟨none, (some 4), (.mov (.t 20))⟩]
def i23 : Ir := (.seq (.region g23_0) (.seq (.seq (.region g23_1) (.block 0 (.loop (.seq (.seq (.region g23_2) (.cond (.t 9) .skip (.exit 0))) (.seq (.block 1 (.seq (.seq (.region g23_3) (.cond (.t 17) (.seq (.region g23_4) .ret) .skip)) (.region g23_5))) (.region g23_6)))))) (.seq (.region g23_7) .ret)))
theorem heldIntS_ok (n : Nat) (k : Int) (h0 : 0 < k) (hk : k ≤ 1099511627776) (ha : n ≤ 1048576) : Meets Try.prog 23 [.one (.sl false 1 n (((List.range n).map (fun j : Nat => k + (j : Int))).map (T.int .i64))), .one (.int .i64 k)] (.w (.one (.int .i64 (k + n)))) [.one .hole, .one .hole] := by
  refine meets_go (ir := i23) (fn := Try.f23) (rx := [(.tmp 4)]) rfl rfl (by rfl) (by rfl) (by exact Nat.le_of_ble_eq_true rfl) ?_
  simp (maxSteps := 9000000) -implicitDefEqProofs -dsimp (disch := omega) only [go_sem, g23_0, g23_1, g23_2, g23_3, g23_4, g23_5, g23_6, g23_7, i23, Nat.reduceEqDiff, Nat.reduceAdd, Nat.reduceMul, Nat.reduceLeDiff, Nat.reduceBEq, Nat.reduceBNe, Int.reduceEq, ↓reduceIte, reduceCtorEq]
  refine loop_n n (fun i => ⟨[(5, .w (.one (.int .i64 (i : Nat)))), (1, .w (.one (.int .i64 (k + (i : Nat))))), (0, .w (.one (.hs 0 [] 0 1 n)))], [(0, .sl false 1 n (((List.range n).map (fun j : Nat => k + (j : Int))).map (T.int .i64)))], [.one (.hs 0 [] 0 1 n), .one (.int .i64 k)]⟩) (fun i => True) ?_ trivial ?_
  · exact (imp_sub (by simp (maxSteps := 9000000) -implicitDefEqProofs -dsimp (disch := omega) only [go_sem, g23_0, g23_1, g23_2, g23_3, g23_4, g23_5, g23_6, g23_7, i23, Int.natCast_zero, Int.add_zero, Nat.reduceEqDiff, Nat.reduceAdd, Nat.reduceMul, Nat.reduceLeDiff, Nat.reduceBEq, Nat.reduceBNe, Int.reduceEq, ↓reduceIte, reduceCtorEq]) (by simp (maxSteps := 9000000) -implicitDefEqProofs -dsimp (disch := omega) only [go_sem, g23_0, g23_1, g23_2, g23_3, g23_4, g23_5, g23_6, g23_7, i23, Int.natCast_zero, Int.add_zero, Nat.reduceEqDiff, Nat.reduceAdd, Nat.reduceMul, Nat.reduceLeDiff, Nat.reduceBEq, Nat.reduceBNe, Int.reduceEq, ↓reduceIte, reduceCtorEq]) rfl)
  · intro i hi hJ
    have hq : ((List.range n).map (fun j : Nat => k + (j : Int))).length = n := by simp
    simp (maxSteps := 9000000) -implicitDefEqProofs -dsimp (disch := omega) only [go_sem, g23_0, g23_1, g23_2, g23_3, g23_4, g23_5, g23_6, g23_7, i23, Nat.reduceEqDiff, Nat.reduceAdd, Nat.reduceMul, Nat.reduceLeDiff, Nat.reduceBEq, Nat.reduceBNe, Int.reduceEq, ↓reduceIte, reduceCtorEq]
    refine brP_i (fun h => ?_) (fun h => ?_)
    · have hs := range_getD (g := fun j : Nat => k + (j : Int)) (n := n) (i := i) (by omega)
      simp (maxSteps := 9000000) -implicitDefEqProofs -dsimp (disch := omega) only [go_sem, g23_0, g23_1, g23_2, g23_3, g23_4, g23_5, g23_6, g23_7, i23, hs, Nat.reduceEqDiff, Nat.reduceAdd, Nat.reduceMul, Nat.reduceLeDiff, Nat.reduceBEq, Nat.reduceBNe, Int.reduceEq, ↓reduceIte, reduceCtorEq]
      exact ⟨by omega, (imp_sub (by simp (maxSteps := 9000000) -implicitDefEqProofs -dsimp (disch := omega) only [go_sem, g23_0, g23_1, g23_2, g23_3, g23_4, g23_5, g23_6, g23_7, i23, Int.add_assoc, Nat.reduceEqDiff, Nat.reduceAdd, Nat.reduceMul, Nat.reduceLeDiff, Nat.reduceBEq, Nat.reduceBNe, Int.reduceEq, ↓reduceIte, reduceCtorEq]) (by simp (maxSteps := 9000000) -implicitDefEqProofs -dsimp (disch := omega) only [go_sem, g23_0, g23_1, g23_2, g23_3, g23_4, g23_5, g23_6, g23_7, i23, Int.add_assoc, Nat.reduceEqDiff, Nat.reduceAdd, Nat.reduceMul, Nat.reduceLeDiff, Nat.reduceBEq, Nat.reduceBNe, Int.reduceEq, ↓reduceIte, reduceCtorEq]) rfl)⟩
    · obtain rfl : i = n := by omega
      simp (maxSteps := 9000000) -implicitDefEqProofs -dsimp (disch := omega) only [go_sem, g23_0, g23_1, g23_2, g23_3, g23_4, g23_5, g23_6, g23_7, i23, Nat.reduceEqDiff, Nat.reduceAdd, Nat.reduceMul, Nat.reduceLeDiff, Nat.reduceBEq, Nat.reduceBNe, Int.reduceEq, ↓reduceIte, reduceCtorEq]
end Go.Proofs.YtdhclelfnbjikaaT

/- Functions of the program as contracts: graphs, as the laws handle them. No condition. -/
set_option maxRecDepth 100000
set_option maxHeartbeats 8000000
set_option linter.unusedSimpArgs false
set_option linter.unusedVariables false
namespace Go.Proofs.YtdhclelfnbjikaaT
open Go Go.RowKit
/-- a node -/
structure Nd where
  h : List Int
  g : Bool
  deriving Inhabited
structure Gr where
  n : List Nd
  r : List Int
  c : List Int
def ndR (l : List Nd) : List T := rows2 (fun x => (.sl false 1 x.h.length (x.h.map (T.int .i64)))) (fun x => .bool x.g) l
def ndO (l : List Nd) : List T := rows2 (fun x => (.sl true 1 x.h.length (x.h.map (T.int .i64)))) (fun x => .bool x.g) l
def oH2 : Option Nd → T | some x => (.sl true 1 x.h.length (x.h.map (T.int .i64))) | none => .sl true 0 0 []
def oG : Option Nd → Bool | some x => x.g | none => false
def ndF (l : List (Option Nd)) : List T := rows2 oH2 (fun x => .bool (oG x)) l
theorem ndF_end (l : List Nd) : ndF (fillL (l.map some) none l.length) = ndO l := by
  have : fillL (l.map some) none l.length = l.map some := by have := fillL_end (a := l.map some) (d := (none : Option Nd)); rwa [List.length_map] at this
  rw [this]; unfold ndF ndO; rw [rows2_map]; rfl
theorem ndR_0 {l : List Nd} {i : Nat} (h : i < l.length) : (ndR l)[i * 2]? = some (.sl false 1 ((l.getD i default).h).length (((l.getD i default).h).map (T.int .i64))) := rows2_0 h
theorem ndR_1 {l : List Nd} {i : Nat} (h : i < l.length) : (ndR l)[i * 2 + 1]? = some (.bool (l.getD i default).g) := rows2_1 h
theorem ndO_0 {l : List Nd} {i : Nat} (h : i < l.length) : (ndO l)[i * 2]? = some (.sl true 1 ((l.getD i default).h).length (((l.getD i default).h).map (T.int .i64))) := rows2_0 h
theorem ndO_1 {l : List Nd} {i : Nat} (h : i < l.length) : (ndO l)[i * 2 + 1]? = some (.bool (l.getD i default).g) := rows2_1 h
theorem ndO_set {l : List Nd} {i : Nat} (x : Nd) (h : i < l.length) : ((ndO l).set (i * 2) (.sl true 1 x.h.length (x.h.map (T.int .i64)))).set (i * 2 + 1) (.bool x.g) = ndO (l.set i x) := rows2_set x h
theorem ndF_0 {l : List (Option Nd)} {i : Nat} (h : i < l.length) : (ndF l)[i * 2]? = some (oH2 (l.getD i default)) := rows2_0 h
theorem ndF_1 {l : List (Option Nd)} {i : Nat} (h : i < l.length) : (ndF l)[i * 2 + 1]? = some (.bool (oG (l.getD i default))) := rows2_1 h
theorem ndF_set {l : List (Option Nd)} {i : Nat} (x : Nd) (h : i < l.length) : ((ndF l).set (i * 2) (.sl true 1 x.h.length (x.h.map (T.int .i64)))).set (i * 2 + 1) (.bool x.g) = ndF (l.set i (some x)) := rows2_set (some x) h
theorem ndO_cut {l : List Nd} : cut (ndO l) 0 (l.length * 2) = ndO l := rows2_cut rfl
theorem ndR_cut {l : List Nd} : cut (ndR l) 0 (l.length * 2) = ndR l := rows2_cut rfl
theorem ndO_ro {l : List Nd} : (ndO l).map toRo = ndR l := by
  unfold ndO ndR
  rw [rows2_ro]
  congr 1
  · funext x; simp
  · funext x; simp
theorem ndO_noRo {l : List Nd} : noRoL (ndO l) = true := rows2_noRo fun x => ⟨by simp [noRo, noRoL_int], by simp [noRo]⟩
/-- how much room nodes take -/
def ntt (l : List Nd) : Int := (l.map fun x : Nd => (x.h.length : Int)).sum
theorem ntt_nonneg : ∀ {l : List Nd}, 0 ≤ ntt l
  | [] => by simp [ntt]
  | x :: l => by have := ntt_nonneg (l := l); simp only [ntt, List.map_cons, List.sum_cons] at *; omega
theorem ntt_take {l : List Nd} {i : Nat} (h : i < l.length) : ntt (l.take (i + 1)) = ntt (l.take i) + (l.getD i default).h.length := by
  simp only [ntt, List.take_add_one, List.map_append, List.sum_append, List.getElem?_eq_getElem h, Option.toList_some, List.map_cons, List.map_nil, List.sum_cons, List.sum_nil, List.getD_eq_getElem?_getD, Option.getD_some]; omega
theorem ntt_le {l : List Nd} {i : Nat} : ntt (l.take i) ≤ ntt l := by
  have h := ntt_nonneg (l := l.drop i)
  have : ntt l = ntt (l.take i) + ntt (l.drop i) := by
    have e := congrArg ntt (List.take_append_drop i l)
    rw [← e]
    simp only [ntt, List.map_append, List.sum_append]
  omega
theorem mem_ntt {l : List Nd} {x : Nd} (h : x ∈ l) : (x.h.length : Int) ≤ ntt l := by
  induction l with
  | nil => simp at h
  | cons y l ih =>
    have := ntt_nonneg (l := l)
    have e : ntt (y :: l) = y.h.length + ntt l := by simp [ntt]
    rcases List.mem_cons.1 h with rfl | h
    · omega
    · have := ih h; omega
def g58_0 : List Gop := [⟨none, (some 1), (.box (.t 0))⟩, ⟨none, (some 2), (.alloc [.nil, (.bool .false)])⟩]
def g58_1 : List Gop := [⟨none, (some 3), (.alloc [.nil, (.bool .false)])⟩]
def g58_2 : List Gop := [⟨none, (some 4), (.faddr (.t 1) 0)⟩, ⟨none, (some 5), (.load none (.t 4))⟩, ⟨none, (some 6), (.call 17 [(.t 5)])⟩, ⟨none, (some 7), (.faddr (.t 3) 0)⟩, ⟨none, none, (.store 1 (.t 7) (.t 6))⟩]
def g58_3 : List Gop := [⟨none, (some 8), (.faddr (.t 1) 1)⟩, ⟨none, (some 9), (.load none (.t 8))⟩, ⟨none, (some 10), (.faddr (.t 3) 1)⟩, ⟨none, none, (.store 1 (.t 10) (.t 9))⟩]
def g58_4 : List Gop := [⟨none, (some 11), (.load (some 2) (.t 3))⟩, ⟨none, none, (.store 2 (.t 2) (.t 11))⟩]
def i58 : Ir := (.seq (.region g58_0) (.seq (.region g58_1) (.seq (.region g58_2) (.seq (.region g58_3) (.seq (.region g58_4) .ret)))))
theorem toNode_ok (x : Nd) (hk : x.h.length ≤ 1048576) : Meets Try.prog 58 [.agg [(.sl false 1 x.h.length (x.h.map (T.int .i64))), .bool x.g]] (.w (.agg [(.sl true 1 x.h.length (x.h.map (T.int .i64))), .bool x.g])) [.agg [.hole, .hole]] := by
  refine meets_go (ir := i58) (fn := Try.f58) (rx := [(.cell 2 (some 2))]) rfl rfl (by rfl) (by rfl) (by exact Nat.le_of_ble_eq_true rfl) ?_
  simp (maxSteps := 9000000) -implicitDefEqProofs -dsimp (disch := omega) only [go_sem, g58_0, g58_1, g58_2, g58_3, g58_4, i58, Nat.reduceEqDiff, Nat.reduceAdd, Nat.reduceMul, Nat.reduceLeDiff, Nat.reduceBEq, Nat.reduceBNe, Int.reduceEq, ↓reduceIte, reduceCtorEq]
  refine call_go true (toIntS_ok x.h hk) ?_
  simp (maxSteps := 9000000) -implicitDefEqProofs -dsimp (disch := omega) only [go_sem, g58_0, g58_1, g58_2, g58_3, g58_4, i58, Nat.reduceEqDiff, Nat.reduceAdd, Nat.reduceMul, Nat.reduceLeDiff, Nat.reduceBEq, Nat.reduceBNe, Int.reduceEq, ↓reduceIte, reduceCtorEq]
def g16_0 : List Gop := [⟨none, (some 2), (.mov (.k (.one .nil)))⟩]
def g16_1 : List Gop := [⟨none, (some 5), (.mov (.t 0))⟩, ⟨none, (some 6), (.len (.t 5))⟩, ⟨none, (some 7), (.make 2 [.nil, (.bool .false)] 32 (.t 6) (.t 6))⟩, ⟨none, (some 3), (.mov (.t 7))⟩]
def g16_2 : List Gop := [⟨none, (some 4), (.mov (.k (.one (.int .i64 0))))⟩]
def g16_3 : List Gop := [⟨none, (some 8), (.mov (.t 4))⟩, ⟨none, (some 9), (.mov (.t 0))⟩, ⟨none, (some 10), (.len (.t 9))⟩, ⟨none, (some 11), (.bin .lss (.t 8) (.t 10))⟩]
def g16_4 : List Gop := [⟨none, (some 14), (.mov (.t 3))⟩, ⟨none, (some 15), (.mov (.t 4))⟩, ⟨none, (some 16), (.mov (.t 0))⟩, ⟨none, (some 17), (.mov (.t 4))⟩, ⟨none, (some 18), (.iaddr 2 (.t 16) (.t 17))⟩, ⟨none, (some 19), (.load (some 2) (.t 18))⟩, ⟨none, (some 20), (.call 58 [(.t 19)])⟩, ⟨none, (some 21), (.iaddr 2 (.t 14) (.t 15))⟩, ⟨none, none, (.store 2 (.t 21) (.t 20))⟩]
def g16_5 : List Gop := [⟨none, (some 12), (.mov (.t 4))⟩, ⟨none, (some 13), (.bin .add (.t 12) (.k (.one (.int .i64 1))))⟩, ⟨none, (some 4), (.mov (.t 13))⟩]
def g16_6 : List Gop := [⟨none, (some 22), (.mov (.t 3))⟩, ⟨none, (some 2), (.mov (.t 22))⟩]
def i16 : Ir := (.seq (.region g16_0) (.seq (.region g16_1) (.seq (.seq (.region g16_2) (.block 0 (.loop (.seq (.seq (.region g16_3) (.cond (.t 11) .skip (.exit 0))) (.seq (.block 1 (.region g16_4)) (.region g16_5)))))) (.seq (.region g16_6) .ret))))
theorem toNodeS_ok (l : List Nd) (hl : l.length ≤ 1048576) (hk : ∀ x ∈ l, x.h.length ≤ 1048576) : Meets Try.prog 16 [.one (.sl false 2 l.length (ndR l))] (.w (.one (.sl true 2 l.length (ndO l)))) [.one .hole] := by
  refine meets_go (ir := i16) (fn := Try.f16) (rx := [(.tmp 2)]) rfl rfl (by rfl) (by rfl) (by exact Nat.le_of_ble_eq_true rfl) ?_
  simp (maxSteps := 9000000) -implicitDefEqProofs -dsimp (disch := omega) only [go_sem, g16_0, g16_1, g16_2, g16_3, g16_4, g16_5, g16_6, i16, Nat.reduceEqDiff, Nat.reduceAdd, Nat.reduceMul, Nat.reduceLeDiff, Nat.reduceBEq, Nat.reduceBNe, Int.reduceEq, ↓reduceIte, reduceCtorEq]
  refine loop_n l.length (fun i => ⟨[(4, .w (.one (.int .i64 (i : Nat)))), (3, .w (.one (.hs 1 [] 0 2 l.length))), (0, .w (.one (.hs 0 [] 0 2 l.length)))], [(1, .sl true 2 l.length (ndF (fillL (l.map some) none i))), (0, .sl false 2 l.length (ndR l))], [.one (.hs 0 [] 0 2 l.length)]⟩) (fun i => True) ?_ trivial ?_
  · have e : (List.replicate l.length [T.sl true 0 0 [], T.bool false]).flatten = ndF (fillL (l.map some) none 0) := by rw [fillL_0, List.length_map, ndF, rows2_rep]; rfl
    exact (imp_sub (by simp (maxSteps := 9000000) -implicitDefEqProofs -dsimp (disch := omega) only [go_sem, g16_0, g16_1, g16_2, g16_3, g16_4, g16_5, g16_6, i16, e, Nat.reduceEqDiff, Nat.reduceAdd, Nat.reduceMul, Nat.reduceLeDiff, Nat.reduceBEq, Nat.reduceBNe, Int.reduceEq, ↓reduceIte, reduceCtorEq]) (by simp (maxSteps := 9000000) -implicitDefEqProofs -dsimp (disch := omega) only [go_sem, g16_0, g16_1, g16_2, g16_3, g16_4, g16_5, g16_6, i16, e, Nat.reduceEqDiff, Nat.reduceAdd, Nat.reduceMul, Nat.reduceLeDiff, Nat.reduceBEq, Nat.reduceBNe, Int.reduceEq, ↓reduceIte, reduceCtorEq]) rfl)
  · intro i hi hJ
    simp (maxSteps := 9000000) -implicitDefEqProofs -dsimp (disch := omega) only [go_sem, g16_0, g16_1, g16_2, g16_3, g16_4, g16_5, g16_6, i16, Nat.reduceEqDiff, Nat.reduceAdd, Nat.reduceMul, Nat.reduceLeDiff, Nat.reduceBEq, Nat.reduceBNe, Int.reduceEq, ↓reduceIte, reduceCtorEq]
    refine brP_i (fun h1 => ?_) (fun h1 => ?_)
    · have q1 : i < (fillL (l.map some) (none : Option Nd) i).length := by rw [fillL_len, List.length_map]; omega
      have hlt : i < l.length := by omega
      have hk1 := hk _ (getD_mem hlt)
      have b4 : (fillL (l.map some) (none : Option Nd) i).getD i default = none := by
        simp only [fillL, List.getD_eq_getElem?_getD]
        rw [List.getElem?_append_right (by simp; omega)]
        simp only [List.getElem?_replicate]
        split <;> rfl
      have b3 := ndF_0 q1
      rw [b4] at b3
      simp (maxSteps := 9000000) -implicitDefEqProofs -dsimp (disch := omega) only [go_sem, g16_0, g16_1, g16_2, g16_3, g16_4, g16_5, g16_6, i16, ndR_0 hlt, ndR_1 hlt, Nat.reduceEqDiff, Nat.reduceAdd, Nat.reduceMul, Nat.reduceLeDiff, Nat.reduceBEq, Nat.reduceBNe, Int.reduceEq, ↓reduceIte, reduceCtorEq]
      refine call_go true (toNode_ok (l.getD i default) hk1) ?_
      simp (maxSteps := 9000000) -implicitDefEqProofs -dsimp (disch := omega) only [go_sem, g16_0, g16_1, g16_2, g16_3, g16_4, g16_5, g16_6, i16, ndR_0 hlt, ndR_1 hlt, ndF_1 q1, b3, List.getElem?_set_ne, oH2, Nat.reduceEqDiff, Nat.reduceAdd, Nat.reduceMul, Nat.reduceLeDiff, Nat.reduceBEq, Nat.reduceBNe, Int.reduceEq, ↓reduceIte, reduceCtorEq]
      have e6 : (l.map some).getD i default = some (l.getD i default) := by simp [List.getD_eq_getElem?_getD, List.getElem?_eq_getElem hlt]
      have e5 := ndF_set (l.getD i default) q1
      have e7 := fillL_set (a := l.map some) (d := (none : Option Nd)) (i := i) (by rw [List.length_map]; exact hlt)
      rw [e6] at e7
      rw [e7] at e5
      exact ⟨hlt, (imp_sub (by simp (maxSteps := 9000000) -implicitDefEqProofs -dsimp (disch := omega) only [go_sem, g16_0, g16_1, g16_2, g16_3, g16_4, g16_5, g16_6, i16, e5, Nat.reduceEqDiff, Nat.reduceAdd, Nat.reduceMul, Nat.reduceLeDiff, Nat.reduceBEq, Nat.reduceBNe, Int.reduceEq, ↓reduceIte, reduceCtorEq]) (by simp (maxSteps := 9000000) -implicitDefEqProofs -dsimp (disch := omega) only [go_sem, g16_0, g16_1, g16_2, g16_3, g16_4, g16_5, g16_6, i16, e5, Nat.reduceEqDiff, Nat.reduceAdd, Nat.reduceMul, Nat.reduceLeDiff, Nat.reduceBEq, Nat.reduceBNe, Int.reduceEq, ↓reduceIte, reduceCtorEq]) rfl)⟩
    · obtain rfl : i = l.length := by omega
      have q1 : (ndO l).length = l.length * 2 := rows2_len
      simp (maxSteps := 9000000) -implicitDefEqProofs -dsimp (disch := omega) only [go_sem, g16_0, g16_1, g16_2, g16_3, g16_4, g16_5, g16_6, i16, ndF_end, ndO_cut, Nat.reduceEqDiff, Nat.reduceAdd, Nat.reduceMul, Nat.reduceLeDiff, Nat.reduceBEq, Nat.reduceBNe, Int.reduceEq, ↓reduceIte, reduceCtorEq]
def g26_0 : List Gop := [⟨none, (some 1), (.box (.t 0))⟩, ⟨none, (some 2), (.alloc [.nil, .nil, .nil])⟩]
def g26_1 : List Gop := [⟨none, (some 3), (.alloc [.nil, .nil, .nil])⟩]
def g26_2 : List Gop := [⟨none, (some 4), (.faddr (.t 1) 0)⟩, ⟨none, (some 5), (.load none (.t 4))⟩, ⟨none, (some 6), (.call 16 [(.t 5)])⟩, ⟨none, (some 7), (.faddr (.t 3) 0)⟩, ⟨none, none, (.store 1 (.t 7) (.t 6))⟩]
def g26_3 : List Gop := [⟨none, (some 8), (.faddr (.t 1) 1)⟩, ⟨none, (some 9), (.load none (.t 8))⟩, ⟨none, (some 10), (.call 17 [(.t 9)])⟩, ⟨none, (some 11), (.faddr (.t 3) 1)⟩, ⟨none, none, (.store 1 (.t 11) (.t 10))⟩]
def g26_4 : List Gop := [⟨none, (some 12), (.faddr (.t 1) 2)⟩, ⟨none, (some 13), (.load none (.t 12))⟩, ⟨none, (some 14), (.call 17 [(.t 13)])⟩, ⟨none, (some 15), (.faddr (.t 3) 2)⟩, ⟨none, none, (.store 1 (.t 15) (.t 14))⟩]
def g26_5 : List Gop := [⟨none, (some 16), (.load (some 3) (.t 3))⟩, ⟨none, none, (.store 3 (.t 2) (.t 16))⟩]
def i26 : Ir := (.seq (.region g26_0) (.seq (.region g26_1) (.seq (.region g26_2) (.seq (.region g26_3) (.seq (.region g26_4) (.seq (.region g26_5) .ret))))))
theorem toGraph_ok (g : Gr) (h1 : g.n.length ≤ 1048576) (hk : ∀ x ∈ g.n, x.h.length ≤ 1048576) (h2 : g.r.length ≤ 1048576) (h3 : g.c.length ≤ 1048576) : Meets Try.prog 26 [.agg [.sl false 2 g.n.length (ndR g.n), (.sl false 1 g.r.length (g.r.map (T.int .i64))), (.sl false 1 g.c.length (g.c.map (T.int .i64)))]] (.w (.agg [.sl true 2 g.n.length (ndO g.n), (.sl true 1 g.r.length (g.r.map (T.int .i64))), (.sl true 1 g.c.length (g.c.map (T.int .i64)))])) [.agg [.hole, .hole, .hole]] := by
  have q1 := ndO_cut (l := g.n)
  have q2 := ndR_cut (l := g.n)
  have q3 := ndO_noRo (l := g.n)
  refine meets_go (ir := i26) (fn := Try.f26) (rx := [(.cell 2 (some 3))]) rfl rfl (by rfl) (by rfl) (by exact Nat.le_of_ble_eq_true rfl) ?_
  simp (maxSteps := 9000000) -implicitDefEqProofs -dsimp (disch := omega) only [go_sem, g26_0, g26_1, g26_2, g26_3, g26_4, g26_5, i26, q1, q2, q3, Nat.reduceEqDiff, Nat.reduceAdd, Nat.reduceMul, Nat.reduceLeDiff, Nat.reduceBEq, Nat.reduceBNe, Int.reduceEq, ↓reduceIte, reduceCtorEq]
  refine call_go true (toNodeS_ok g.n h1 hk) ?_
  simp (maxSteps := 9000000) -implicitDefEqProofs -dsimp (disch := omega) only [go_sem, g26_0, g26_1, g26_2, g26_3, g26_4, g26_5, i26, q1, q2, q3, Nat.reduceEqDiff, Nat.reduceAdd, Nat.reduceMul, Nat.reduceLeDiff, Nat.reduceBEq, Nat.reduceBNe, Int.reduceEq, ↓reduceIte, reduceCtorEq]
  refine call_go true (toIntS_ok g.r h2) ?_
  simp (maxSteps := 9000000) -implicitDefEqProofs -dsimp (disch := omega) only [go_sem, g26_0, g26_1, g26_2, g26_3, g26_4, g26_5, i26, q1, q2, q3, Nat.reduceEqDiff, Nat.reduceAdd, Nat.reduceMul, Nat.reduceLeDiff, Nat.reduceBEq, Nat.reduceBNe, Int.reduceEq, ↓reduceIte, reduceCtorEq]
  refine call_go true (toIntS_ok g.c h3) ?_
  simp (maxSteps := 9000000) -implicitDefEqProofs -dsimp (disch := omega) only [go_sem, g26_0, g26_1, g26_2, g26_3, g26_4, g26_5, i26, q1, q2, q3, Nat.reduceEqDiff, Nat.reduceAdd, Nat.reduceMul, Nat.reduceLeDiff, Nat.reduceBEq, Nat.reduceBNe, Int.reduceEq, ↓reduceIte, reduceCtorEq]
def g61_0 : List Gop := [⟨none, (some 2), (.box (.t 0))⟩, ⟨none, (some 3), (.box (.t 1))⟩, ⟨none, (some 4), (.mov (.k (.one (.bool .false))))⟩]
def g61_1 : List Gop := [⟨none, (some 5), (.faddr (.t 2) 0)⟩, ⟨none, (some 6), (.load none (.t 5))⟩, ⟨none, (some 7), (.faddr (.t 3) 0)⟩, ⟨none, (some 8), (.load none (.t 7))⟩, ⟨none, (some 9), (.call 19 [(.t 6), (.t 8)])⟩, ⟨none, (some 10), (.un .not (.t 9))⟩]
def g61_2 : List Gop := [⟨none, (some 4), (.mov (.k (.one (.bool .false))))⟩]
def g61_3 : List Gop := [⟨none, (some 11), (.faddr (.t 2) 1)⟩, ⟨none, (some 12), (.load none (.t 11))⟩, ⟨none, (some 13), (.faddr (.t 3) 1)⟩, ⟨none, (some 14), (.load none (.t 13))⟩, ⟨none, (some 15), (.beq .true (.t 12) (.t 14))⟩]
def g61_4 : List Gop := [⟨none, (some 4), (.mov (.k (.one (.bool .false))))⟩]
def g61_5 : List Gop := [⟨none, (some 4), (.mov (.k (.one (.bool .true))))⟩]
def i61 : Ir := (.seq (.region g61_0) (.seq (.seq (.region g61_1) (.cond (.t 10) (.seq (.region g61_2) .ret) .skip)) (.seq (.seq (.region g61_3) (.cond (.t 15) (.seq (.region g61_4) .ret) .skip)) (.seq (.region g61_5) .ret))))
theorem eqNode_ok (x : Nd) (hk : x.h.length ≤ 1048576) : Meets Try.prog 61 [.agg [(.sl false 1 x.h.length (x.h.map (T.int .i64))), .bool x.g], .agg [(.sl false 1 x.h.length (x.h.map (T.int .i64))), .bool x.g]] (.w (.one (.bool true))) [.agg [.hole, .hole], .agg [.hole, .hole]] := by
  refine meets_go (ir := i61) (fn := Try.f61) (rx := [(.tmp 4)]) rfl rfl (by rfl) (by rfl) (by exact Nat.le_of_ble_eq_true rfl) ?_
  simp (maxSteps := 9000000) -implicitDefEqProofs -dsimp (disch := omega) only [go_sem, g61_0, g61_1, g61_2, g61_3, g61_4, g61_5, i61, Nat.reduceEqDiff, Nat.reduceAdd, Nat.reduceMul, Nat.reduceLeDiff, Nat.reduceBEq, Nat.reduceBNe, Int.reduceEq, ↓reduceIte, reduceCtorEq]
  refine call_go true (eqIntS_ok x.h x.h (by omega)) ?_
  simp (maxSteps := 9000000) -implicitDefEqProofs -dsimp (disch := omega) only [go_sem, g61_0, g61_1, g61_2, g61_3, g61_4, g61_5, i61, bne_self_eq_false, Nat.reduceEqDiff, Nat.reduceAdd, Nat.reduceMul, Nat.reduceLeDiff, Nat.reduceBEq, Nat.reduceBNe, Int.reduceEq, ↓reduceIte, reduceCtorEq]
def g20_0 : List Gop := [⟨none, (some 4), (.mov (.k (.one (.bool .false))))⟩]
def g20_1 : List Gop := [⟨none, (some 6), (.mov (.t 0))⟩, ⟨none, (some 7), (.len (.t 6))⟩, ⟨none, (some 8), (.mov (.t 1))⟩, ⟨none, (some 9), (.len (.t 8))⟩, ⟨none, (some 10), (.bin .neq (.t 7) (.t 9))⟩]
def g20_2 : List Gop := [⟨none, (some 4), (.mov (.k (.one (.bool .false))))⟩]
def g20_3 : List Gop := [⟨none, (some 5), (.mov (.k (.one (.int .i64 0))))⟩]
def g20_4 : List Gop := [⟨none, (some 11), (.mov (.t 5))⟩, ⟨none, (some 12), (.mov (.t 0))⟩, ⟨none, (some 13), (.len (.t 12))⟩, ⟨none, (some 14), (.bin .lss (.t 11) (.t 13))⟩]
def g20_5 : List Gop := [⟨none, (some 17), (.mov (.t 0))⟩, ⟨none, (some 18), (.mov (.t 5))⟩, ⟨none, (some 19), (.iaddr 2 (.t 17) (.t 18))⟩, ⟨none, (some 20), (.load (some 2) (.t 19))⟩, ⟨none, (some 21), (.mov (.t 1))⟩, ⟨none, (some 22), (.mov (.t 5))⟩, ⟨none, (some 23), (.iaddr 2 (.t 21) (.t 22))⟩, ⟨none, (some 24), (.load (some 2) (.t 23))⟩, ⟨none, (some 25), (.call 61 [(.t 20), (.t 24)])⟩, ⟨none, (some 26), (.un .not (.t 25))⟩]
def a20_5 : List (List Nat) := [[], [], [0, 1], [0, 1, 2], [], [], [4, 5], [4, 5, 6], [0, 1, 2, 3, 4, 5, 6, 7], [0, 1, 2, 3, 4, 5, 6, 7, 8]]
def n20_5 : Nat := 8 -- of 10
def g20_6 : List Gop := [⟨none, (some 4), (.mov (.k (.one (.bool .false))))⟩]
def g20_7 : List Gop := [⟨none, (some 15), (.mov (.t 5))⟩, ⟨none, (some 16), (.bin .add (.t 15) (.k (.one (.int .i64 1))))⟩, ⟨none, (some 5), (.mov (.t 16))⟩]
def g20_8 : List Gop := [⟨none, (some 4), (.mov (.k (.one (.bool .true))))⟩]
def i20 : Ir := (.seq (.region g20_0) (.seq (.seq (.region g20_1) (.cond (.t 10) (.seq (.region g20_2) .ret) .skip)) (.seq (.seq (.region g20_3) (.block 0 (.loop (.seq (.seq (.region g20_4) (.cond (.t 14) .skip (.exit 0))) (.seq (.block 1 (.seq (.draw [[], [], [0, 1], [2], [], [], [4, 5], [6], [3, 7], [8]] g20_5) (.cond (.t 26) (.seq (.region g20_6) .ret) .skip))) (.region g20_7)))))) (.seq (.region g20_8) .ret))))
theorem eqNodeS_ok (l : List Nd) (ha : l.length ≤ 1048576) (hs : ∀ x ∈ l, x.h.length ≤ 1048576) : Meets Try.prog 20 [.one (.sl false 2 l.length (ndR l)), .one (.sl false 2 l.length (ndR l))] (.w (.one (.bool true))) [.one .hole, .one .hole] := by
  refine meets_go (ir := i20) (fn := Try.f20) (rx := [(.tmp 4)]) rfl rfl (by rfl) (by rfl) (by exact Nat.le_of_ble_eq_true rfl) ?_
  simp (maxSteps := 9000000) -implicitDefEqProofs -dsimp (disch := omega) only [go_sem, g20_0, g20_1, g20_2, g20_3, g20_4, g20_5, a20_5, n20_5, g20_6, g20_7, g20_8, i20, lt_T, lt_F, le_T, le_F, eq_T, eq_F, and_F, Nat.reduceEqDiff, Nat.reduceAdd, Nat.reduceMul, Nat.reduceLeDiff, Nat.reduceBEq, Nat.reduceBNe, Int.reduceEq, ↓reduceIte, reduceCtorEq]
  refine loop_n l.length (fun i => ⟨[(5, .w (.one (.int .i64 (i : Nat)))), (1, .w (.one (.hs 1 [] 0 2 l.length))), (0, .w (.one (.hs 0 [] 0 2 l.length)))], [(1, .sl false 2 l.length (ndR l)), (0, .sl false 2 l.length (ndR l))], [.one (.hs 0 [] 0 2 l.length), .one (.hs 1 [] 0 2 l.length)]⟩) (fun i => True) ?_ trivial ?_
  · exact (imp_sub (by simp (maxSteps := 9000000) -implicitDefEqProofs -dsimp (disch := omega) only [go_sem, g20_0, g20_1, g20_2, g20_3, g20_4, g20_5, a20_5, n20_5, g20_6, g20_7, g20_8, i20, Nat.reduceEqDiff, Nat.reduceAdd, Nat.reduceMul, Nat.reduceLeDiff, Nat.reduceBEq, Nat.reduceBNe, Int.reduceEq, ↓reduceIte, reduceCtorEq]) (by simp (maxSteps := 9000000) -implicitDefEqProofs -dsimp (disch := omega) only [go_sem, g20_0, g20_1, g20_2, g20_3, g20_4, g20_5, a20_5, n20_5, g20_6, g20_7, g20_8, i20, Nat.reduceEqDiff, Nat.reduceAdd, Nat.reduceMul, Nat.reduceLeDiff, Nat.reduceBEq, Nat.reduceBNe, Int.reduceEq, ↓reduceIte, reduceCtorEq]) rfl)
  · intro i hi hJ
    simp (maxSteps := 9000000) -implicitDefEqProofs -dsimp (disch := omega) only [go_sem, g20_0, g20_1, g20_2, g20_3, g20_4, g20_5, a20_5, n20_5, g20_6, g20_7, g20_8, i20, Nat.reduceEqDiff, Nat.reduceAdd, Nat.reduceMul, Nat.reduceLeDiff, Nat.reduceBEq, Nat.reduceBNe, Int.reduceEq, ↓reduceIte, reduceCtorEq]
    refine brP_i (fun h2 => ?_) (fun h2 => ?_)
    · have hlt : i < l.length := by omega
      have hk := hs _ (getD_mem hlt)
      refine draw_go n20_5 a20_5 (by decide +kernel) ?_
      simp (maxSteps := 9000000) -implicitDefEqProofs -dsimp (disch := omega) only [go_sem, g20_0, g20_1, g20_2, g20_3, g20_4, g20_5, a20_5, n20_5, g20_6, g20_7, g20_8, i20, ndR_0 hlt, ndR_1 hlt, Nat.reduceEqDiff, Nat.reduceAdd, Nat.reduceMul, Nat.reduceLeDiff, Nat.reduceBEq, Nat.reduceBNe, Int.reduceEq, ↓reduceIte, reduceCtorEq]
      refine call_go true (eqNode_ok (l.getD i default) hk) ?_
      simp (maxSteps := 9000000) -implicitDefEqProofs -dsimp (disch := omega) only [go_sem, g20_0, g20_1, g20_2, g20_3, g20_4, g20_5, a20_5, n20_5, g20_6, g20_7, g20_8, i20, ndR_0 hlt, Nat.reduceEqDiff, Nat.reduceAdd, Nat.reduceMul, Nat.reduceLeDiff, Nat.reduceBEq, Nat.reduceBNe, Int.reduceEq, ↓reduceIte, reduceCtorEq]
      exact ⟨hlt, (imp_sub (by simp (maxSteps := 9000000) -implicitDefEqProofs -dsimp (disch := omega) only [go_sem, g20_0, g20_1, g20_2, g20_3, g20_4, g20_5, a20_5, n20_5, g20_6, g20_7, g20_8, i20, Nat.reduceEqDiff, Nat.reduceAdd, Nat.reduceMul, Nat.reduceLeDiff, Nat.reduceBEq, Nat.reduceBNe, Int.reduceEq, ↓reduceIte, reduceCtorEq]) (by simp (maxSteps := 9000000) -implicitDefEqProofs -dsimp (disch := omega) only [go_sem, g20_0, g20_1, g20_2, g20_3, g20_4, g20_5, a20_5, n20_5, g20_6, g20_7, g20_8, i20, Nat.reduceEqDiff, Nat.reduceAdd, Nat.reduceMul, Nat.reduceLeDiff, Nat.reduceBEq, Nat.reduceBNe, Int.reduceEq, ↓reduceIte, reduceCtorEq]) rfl)⟩
    · simp (maxSteps := 9000000) -implicitDefEqProofs -dsimp (disch := omega) only [go_sem, g20_0, g20_1, g20_2, g20_3, g20_4, g20_5, a20_5, n20_5, g20_6, g20_7, g20_8, i20, Nat.reduceEqDiff, Nat.reduceAdd, Nat.reduceMul, Nat.reduceLeDiff, Nat.reduceBEq, Nat.reduceBNe, Int.reduceEq, ↓reduceIte, reduceCtorEq]
def g28_0 : List Gop := [⟨none, (some 2), (.box (.t 0))⟩, ⟨none, (some 3), (.box (.t 1))⟩, ⟨none, (some 4), (.mov (.k (.one (.bool .false))))⟩]
def g28_1 : List Gop := [⟨none, (some 5), (.faddr (.t 2) 0)⟩, ⟨none, (some 6), (.load none (.t 5))⟩, ⟨none, (some 7), (.faddr (.t 3) 0)⟩, ⟨none, (some 8), (.load none (.t 7))⟩, ⟨none, (some 9), (.call 20 [(.t 6), (.t 8)])⟩, ⟨none, (some 10), (.un .not (.t 9))⟩]
def g28_2 : List Gop := [⟨none, (some 4), (.mov (.k (.one (.bool .false))))⟩]
def g28_3 : List Gop := [⟨none, (some 11), (.faddr (.t 2) 1)⟩, ⟨none, (some 12), (.load none (.t 11))⟩, ⟨none, (some 13), (.faddr (.t 3) 1)⟩, ⟨none, (some 14), (.load none (.t 13))⟩, ⟨none, (some 15), (.call 19 [(.t 12), (.t 14)])⟩, ⟨none, (some 16), (.un .not (.t 15))⟩]
def g28_4 : List Gop := [⟨none, (some 4), (.mov (.k (.one (.bool .false))))⟩]
def g28_5 : List Gop := [⟨none, (some 17), (.faddr (.t 2) 2)⟩, ⟨none, (some 18), (.load none (.t 17))⟩, ⟨none, (some 19), (.faddr (.t 3) 2)⟩, ⟨none, (some 20), (.load none (.t 19))⟩, ⟨none, (some 21), (.call 19 [(.t 18), (.t 20)])⟩, ⟨none, (some 22), (.un .not (.t 21))⟩]
def g28_6 : List Gop := [⟨none, (some 4), (.mov (.k (.one (.bool .false))))⟩]
def g28_7 : List Gop := [⟨none, (some 4), (.mov (.k (.one (.bool .true))))⟩]
def i28 : Ir := (.seq (.region g28_0) (.seq (.seq (.region g28_1) (.cond (.t 10) (.seq (.region g28_2) .ret) .skip)) (.seq (.seq (.region g28_3) (.cond (.t 16) (.seq (.region g28_4) .ret) .skip)) (.seq (.seq (.region g28_5) (.cond (.t 22) (.seq (.region g28_6) .ret) .skip)) (.seq (.region g28_7) .ret)))))
theorem eqGraph_ok (g : Gr) (h1 : g.n.length ≤ 1048576) (hk : ∀ x ∈ g.n, x.h.length ≤ 1048576) (h2 : g.r.length ≤ 1048576) (h3 : g.c.length ≤ 1048576) : Meets Try.prog 28 [.agg [.sl false 2 g.n.length (ndR g.n), (.sl false 1 g.r.length (g.r.map (T.int .i64))), (.sl false 1 g.c.length (g.c.map (T.int .i64)))], .agg [.sl false 2 g.n.length (ndR g.n), (.sl false 1 g.r.length (g.r.map (T.int .i64))), (.sl false 1 g.c.length (g.c.map (T.int .i64)))]] (.w (.one (.bool true))) [.agg [.hole, .hole, .hole], .agg [.hole, .hole, .hole]] := by
  have q2 := ndR_cut (l := g.n)
  refine meets_go (ir := i28) (fn := Try.f28) (rx := [(.tmp 4)]) rfl rfl (by rfl) (by rfl) (by exact Nat.le_of_ble_eq_true rfl) ?_
  simp (maxSteps := 9000000) -implicitDefEqProofs -dsimp (disch := omega) only [go_sem, g28_0, g28_1, g28_2, g28_3, g28_4, g28_5, g28_6, g28_7, i28, q2, Nat.reduceEqDiff, Nat.reduceAdd, Nat.reduceMul, Nat.reduceLeDiff, Nat.reduceBEq, Nat.reduceBNe, Int.reduceEq, ↓reduceIte, reduceCtorEq]
  refine call_go true (eqNodeS_ok g.n h1 hk) ?_
  simp (maxSteps := 9000000) -implicitDefEqProofs -dsimp (disch := omega) only [go_sem, g28_0, g28_1, g28_2, g28_3, g28_4, g28_5, g28_6, g28_7, i28, q2, Nat.reduceEqDiff, Nat.reduceAdd, Nat.reduceMul, Nat.reduceLeDiff, Nat.reduceBEq, Nat.reduceBNe, Int.reduceEq, ↓reduceIte, reduceCtorEq]
  refine call_go true (eqIntS_ok g.r g.r (by omega)) ?_
  simp (maxSteps := 9000000) -implicitDefEqProofs -dsimp (disch := omega) only [go_sem, g28_0, g28_1, g28_2, g28_3, g28_4, g28_5, g28_6, g28_7, i28, q2, Nat.reduceEqDiff, Nat.reduceAdd, Nat.reduceMul, Nat.reduceLeDiff, Nat.reduceBEq, Nat.reduceBNe, Int.reduceEq, ↓reduceIte, reduceCtorEq]
  refine call_go true (eqIntS_ok g.c g.c (by omega)) ?_
  simp (maxSteps := 9000000) -implicitDefEqProofs -dsimp (disch := omega) only [go_sem, g28_0, g28_1, g28_2, g28_3, g28_4, g28_5, g28_6, g28_7, i28, q2, Nat.reduceEqDiff, Nat.reduceAdd, Nat.reduceMul, Nat.reduceLeDiff, Nat.reduceBEq, Nat.reduceBNe, Int.reduceEq, ↓reduceIte, reduceCtorEq]
def g55_0 : List Gop := [⟨none, (some 2), (.box (.t 0))⟩, ⟨none, (some 4), (.mov (.k (.one (.int .i64 0))))⟩]
def g55_1 : List Gop := [⟨none, (some 5), (.faddr (.t 2) 0)⟩, ⟨none, (some 6), (.load none (.t 5))⟩, ⟨none, (some 7), (.mov (.t 1))⟩, ⟨none, (some 8), (.call 62 [(.t 6), (.t 7)])⟩, ⟨none, (some 1), (.mov (.t 8))⟩]
def g55_2 : List Gop := [⟨none, (some 9), (.mov (.t 1))⟩, ⟨none, (some 10), (.bin .lss (.t 9) (.k (.one (.int .i64 0))))⟩]
def g55_3 : List Gop := [⟨none, (some 4), (.mov (.k (.one (.int .i64 (-1)))))⟩]
def g55_4 : List Gop := [⟨none, (some 11), (.mov (.t 1))⟩, ⟨none, (some 4), (.mov (.t 11))⟩]
def i55 : Ir := (.seq (.region g55_0) (.seq (.region g55_1) (.seq (.seq (.region g55_2) (.cond (.t 10) (.seq (.region g55_3) .ret) .skip)) (.seq (.region g55_4) .ret))))
theorem szNode_ok (x : Nd) (n : Int) (h0 : 0 ≤ n) (hn : n ≤ 1048576) (hl : x.h.length ≤ 9223372036854775807) : Meets Try.prog 55 [.agg [(.sl false 1 x.h.length (x.h.map (T.int .i64))), .bool x.g], .one (.int .i64 n)] (.w (.one (.int .i64 (szf (n - x.h.length))))) [.agg [.hole, .hole], .one .hole] := by
  have nn : ∀ x : Int, x < 0 → szf x = -1 := fun x hx => if_pos hx
  have np : ∀ x : Int, 0 ≤ x → szf x = x := fun x hx => if_neg (by omega)
  refine meets_go (ir := i55) (fn := Try.f55) (rx := [(.tmp 4)]) rfl rfl (by rfl) (by rfl) (by exact Nat.le_of_ble_eq_true rfl) ?_
  simp (maxSteps := 9000000) -implicitDefEqProofs -dsimp (disch := omega) only [go_sem, g55_0, g55_1, g55_2, g55_3, g55_4, i55, Nat.reduceEqDiff, Nat.reduceAdd, Nat.reduceMul, Nat.reduceLeDiff, Nat.reduceBEq, Nat.reduceBNe, Int.reduceEq, ↓reduceIte, reduceCtorEq]
  refine call_go true (szIntS_ok x.h n h0 hn hl) ?_
  by_cases q : n - x.h.length < 0
  · rw [nn _ q]
    simp (maxSteps := 9000000) -implicitDefEqProofs -dsimp (disch := omega) only [go_sem, g55_0, g55_1, g55_2, g55_3, g55_4, i55, lt_T, lt_F, le_T, le_F, eq_T, eq_F, and_F, Nat.reduceEqDiff, Nat.reduceAdd, Nat.reduceMul, Nat.reduceLeDiff, Nat.reduceBEq, Nat.reduceBNe, Int.reduceEq, ↓reduceIte, reduceCtorEq]
  · rw [np _ (by omega)]
    simp (maxSteps := 9000000) -implicitDefEqProofs -dsimp (disch := omega) only [go_sem, g55_0, g55_1, g55_2, g55_3, g55_4, i55, lt_T, lt_F, le_T, le_F, eq_T, eq_F, and_F, Nat.reduceEqDiff, Nat.reduceAdd, Nat.reduceMul, Nat.reduceLeDiff, Nat.reduceBEq, Nat.reduceBNe, Int.reduceEq, ↓reduceIte, reduceCtorEq]
def g14_0 : List Gop := [⟨none, (some 4), (.mov (.k (.one (.int .i64 0))))⟩]
def g14_1 : List Gop := [⟨none, (some 6), (.mov (.t 1))⟩, ⟨none, (some 7), (.mov (.t 0))⟩, ⟨none, (some 8), (.len (.t 7))⟩, ⟨none, (some 9), (.bin .sub (.t 6) (.t 8))⟩, ⟨none, (some 1), (.mov (.t 9))⟩]
def g14_2 : List Gop := [⟨none, (some 10), (.mov (.t 1))⟩, ⟨none, (some 11), (.bin .lss (.t 10) (.k (.one (.int .i64 0))))⟩]
def g14_3 : List Gop := [⟨none, (some 4), (.mov (.k (.one (.int .i64 (-1)))))⟩]
def g14_4 : List Gop := [⟨none, (some 5), (.mov (.k (.one (.int .i64 0))))⟩]
def g14_5 : List Gop := [⟨none, (some 12), (.mov (.t 5))⟩, ⟨none, (some 13), (.mov (.t 0))⟩, ⟨none, (some 14), (.len (.t 13))⟩, ⟨none, (some 15), (.bin .lss (.t 12) (.t 14))⟩]
def g14_6 : List Gop := [⟨none, (some 18), (.mov (.t 0))⟩, ⟨none, (some 19), (.mov (.t 5))⟩, ⟨none, (some 20), (.iaddr 2 (.t 18) (.t 19))⟩, ⟨none, (some 21), (.load (some 2) (.t 20))⟩, ⟨none, (some 22), (.mov (.t 1))⟩, ⟨none, (some 23), (.call 55 [(.t 21), (.t 22)])⟩, ⟨none, (some 1), (.mov (.t 23))⟩]
def g14_7 : List Gop := [⟨none, (some 24), (.mov (.t 1))⟩, ⟨none, (some 25), (.bin .lss (.t 24) (.k (.one (.int .i64 0))))⟩]
def g14_8 : List Gop := [⟨none, (some 4), (.mov (.k (.one (.int .i64 (-1)))))⟩]
def g14_9 : List Gop := [⟨none, (some 16), (.mov (.t 5))⟩, ⟨none, (some 17), (.bin .add (.t 16) (.k (.one (.int .i64 1))))⟩, ⟨none, (some 5), (.mov (.t 17))⟩]
def g14_10 : List Gop := [⟨none, (some 26), (.mov (.t 1))⟩, ⟨none, (some 4), (.mov (.t 26))⟩]
def i14 : Ir := (.seq (.region g14_0) (.seq (.region g14_1) (.seq (.seq (.region g14_2) (.cond (.t 11) (.seq (.region g14_3) .ret) .skip)) (.seq (.seq (.region g14_4) (.block 0 (.loop (.seq (.seq (.region g14_5) (.cond (.t 15) .skip (.exit 0))) (.seq (.block 1 (.seq (.region g14_6) (.seq (.region g14_7) (.cond (.t 25) (.seq (.region g14_8) .ret) .skip)))) (.region g14_9)))))) (.seq (.region g14_10) .ret)))))
theorem szNodeS_ok (l : List Nd) (n : Int) (h0 : 0 ≤ n) (hn : n ≤ 1048576) (ha : l.length ≤ 9223372036854775807) (hs : ∀ x ∈ l, x.h.length ≤ 9223372036854775807) : Meets Try.prog 14 [.one (.sl false 2 l.length (ndR l)), .one (.int .i64 n)] (.w (.one (.int .i64 (szf (n - l.length - ntt l))))) [.one .hole, .one .hole] := by
  have nn : ∀ x : Int, x < 0 → szf x = -1 := fun x hx => if_pos hx
  have np : ∀ x : Int, 0 ≤ x → szf x = x := fun x hx => if_neg (by omega)
  have ht := ntt_nonneg (l := l)
  refine meets_go (ir := i14) (fn := Try.f14) (rx := [(.tmp 4)]) rfl rfl (by rfl) (by rfl) (by exact Nat.le_of_ble_eq_true rfl) ?_
  simp (maxSteps := 9000000) -implicitDefEqProofs -dsimp (disch := omega) only [go_sem, g14_0, g14_1, g14_2, g14_3, g14_4, g14_5, g14_6, g14_7, g14_8, g14_9, g14_10, i14, Nat.reduceEqDiff, Nat.reduceAdd, Nat.reduceMul, Nat.reduceLeDiff, Nat.reduceBEq, Nat.reduceBNe, Int.reduceEq, ↓reduceIte, reduceCtorEq]
  refine brP_i (fun h => ?_) (fun h => ?_)
  · simp (maxSteps := 9000000) -implicitDefEqProofs -dsimp (disch := omega) only [go_sem, g14_0, g14_1, g14_2, g14_3, g14_4, g14_5, g14_6, g14_7, g14_8, g14_9, g14_10, i14, Nat.reduceEqDiff, Nat.reduceAdd, Nat.reduceMul, Nat.reduceLeDiff, Nat.reduceBEq, Nat.reduceBNe, Int.reduceEq, ↓reduceIte, reduceCtorEq]
    exact need_i (by rw [nn _ (by omega)]) (by simp (maxSteps := 9000000) -implicitDefEqProofs -dsimp (disch := omega) only [go_sem, g14_0, g14_1, g14_2, g14_3, g14_4, g14_5, g14_6, g14_7, g14_8, g14_9, g14_10, i14, Nat.reduceEqDiff, Nat.reduceAdd, Nat.reduceMul, Nat.reduceLeDiff, Nat.reduceBEq, Nat.reduceBNe, Int.reduceEq, ↓reduceIte, reduceCtorEq])
  · simp (maxSteps := 9000000) -implicitDefEqProofs -dsimp (disch := omega) only [go_sem, g14_0, g14_1, g14_2, g14_3, g14_4, g14_5, g14_6, g14_7, g14_8, g14_9, g14_10, i14, Nat.reduceEqDiff, Nat.reduceAdd, Nat.reduceMul, Nat.reduceLeDiff, Nat.reduceBEq, Nat.reduceBNe, Int.reduceEq, ↓reduceIte, reduceCtorEq]
    refine loop_n l.length (fun i => ⟨[(5, .w (.one (.int .i64 (i : Nat)))), (1, .w (.one (.int .i64 (n - l.length - ntt (l.take i))))), (0, .w (.one (.hs 0 [] 0 2 l.length)))], [(0, .sl false 2 l.length (ndR l))], [.one (.hs 0 [] 0 2 l.length), .one (.int .i64 n)]⟩) (fun i => 0 ≤ n - l.length - ntt (l.take i)) ?_ ?_ ?_
    · exact (imp_sub (by simp (maxSteps := 9000000) -implicitDefEqProofs -dsimp (disch := omega) only [go_sem, g14_0, g14_1, g14_2, g14_3, g14_4, g14_5, g14_6, g14_7, g14_8, g14_9, g14_10, i14, List.take_zero, show ntt [] = 0 from rfl, Int.sub_zero, Nat.reduceEqDiff, Nat.reduceAdd, Nat.reduceMul, Nat.reduceLeDiff, Nat.reduceBEq, Nat.reduceBNe, Int.reduceEq, ↓reduceIte, reduceCtorEq]) (by simp (maxSteps := 9000000) -implicitDefEqProofs -dsimp (disch := omega) only [go_sem, g14_0, g14_1, g14_2, g14_3, g14_4, g14_5, g14_6, g14_7, g14_8, g14_9, g14_10, i14, List.take_zero, show ntt [] = 0 from rfl, Int.sub_zero, Nat.reduceEqDiff, Nat.reduceAdd, Nat.reduceMul, Nat.reduceLeDiff, Nat.reduceBEq, Nat.reduceBNe, Int.reduceEq, ↓reduceIte, reduceCtorEq]) rfl)
    · simp only [List.take_zero, show ntt [] = 0 from rfl]; omega
    · intro i hi hJ
      simp (maxSteps := 9000000) -implicitDefEqProofs -dsimp (disch := omega) only [go_sem, g14_0, g14_1, g14_2, g14_3, g14_4, g14_5, g14_6, g14_7, g14_8, g14_9, g14_10, i14, Nat.reduceEqDiff, Nat.reduceAdd, Nat.reduceMul, Nat.reduceLeDiff, Nat.reduceBEq, Nat.reduceBNe, Int.reduceEq, ↓reduceIte, reduceCtorEq]
      refine brP_i (fun h2 => ?_) (fun h2 => ?_)
      · have hlt : i < l.length := by omega
        have h4 := ntt_take hlt
        have h5 := hs _ (getD_mem hlt)
        have h7 := ntt_le (l := l) (i := i + 1)
        have h8 := ntt_nonneg (l := l.take i)
        have M := szNode_ok (l.getD i default) (n - l.length - ntt (l.take i)) (by omega) (by omega) h5
        simp (maxSteps := 9000000) -implicitDefEqProofs -dsimp (disch := omega) only [go_sem, g14_0, g14_1, g14_2, g14_3, g14_4, g14_5, g14_6, g14_7, g14_8, g14_9, g14_10, i14, ndR_0 hlt, ndR_1 hlt, Nat.reduceEqDiff, Nat.reduceAdd, Nat.reduceMul, Nat.reduceLeDiff, Nat.reduceBEq, Nat.reduceBNe, Int.reduceEq, ↓reduceIte, reduceCtorEq]
        by_cases h9 : n - l.length - ntt (l.take i) - (l.getD i default).h.length < 0
        · rw [nn _ h9] at M
          refine call_go true M ?_
          simp (maxSteps := 9000000) -implicitDefEqProofs -dsimp (disch := omega) only [go_sem, g14_0, g14_1, g14_2, g14_3, g14_4, g14_5, g14_6, g14_7, g14_8, g14_9, g14_10, i14, lt_T, lt_F, le_T, le_F, eq_T, eq_F, and_F, ndR_0 hlt, Nat.reduceEqDiff, Nat.reduceAdd, Nat.reduceMul, Nat.reduceLeDiff, Nat.reduceBEq, Nat.reduceBNe, Int.reduceEq, ↓reduceIte, reduceCtorEq]
          exact need_i (by rw [nn _ (by omega)]) (by simp (maxSteps := 9000000) -implicitDefEqProofs -dsimp (disch := omega) only [go_sem, g14_0, g14_1, g14_2, g14_3, g14_4, g14_5, g14_6, g14_7, g14_8, g14_9, g14_10, i14, Nat.reduceEqDiff, Nat.reduceAdd, Nat.reduceMul, Nat.reduceLeDiff, Nat.reduceBEq, Nat.reduceBNe, Int.reduceEq, ↓reduceIte, reduceCtorEq])
        · rw [np _ (by omega)] at M
          refine call_go true M ?_
          simp (maxSteps := 9000000) -implicitDefEqProofs -dsimp (disch := omega) only [go_sem, g14_0, g14_1, g14_2, g14_3, g14_4, g14_5, g14_6, g14_7, g14_8, g14_9, g14_10, i14, lt_T, lt_F, le_T, le_F, eq_T, eq_F, and_F, ndR_0 hlt, Nat.reduceEqDiff, Nat.reduceAdd, Nat.reduceMul, Nat.reduceLeDiff, Nat.reduceBEq, Nat.reduceBNe, Int.reduceEq, ↓reduceIte, reduceCtorEq]
          first
            | exact ⟨⟨by omega, by omega⟩, (imp_sub (by simp (maxSteps := 9000000) -implicitDefEqProofs -dsimp (disch := omega) only [go_sem, g14_0, g14_1, g14_2, g14_3, g14_4, g14_5, g14_6, g14_7, g14_8, g14_9, g14_10, i14, h4, Int.sub_sub, Int.add_assoc, Nat.reduceEqDiff, Nat.reduceAdd, Nat.reduceMul, Nat.reduceLeDiff, Nat.reduceBEq, Nat.reduceBNe, Int.reduceEq, ↓reduceIte, reduceCtorEq]) (by simp (maxSteps := 9000000) -implicitDefEqProofs -dsimp (disch := omega) only [go_sem, g14_0, g14_1, g14_2, g14_3, g14_4, g14_5, g14_6, g14_7, g14_8, g14_9, g14_10, i14, h4, Int.sub_sub, Int.add_assoc, Nat.reduceEqDiff, Nat.reduceAdd, Nat.reduceMul, Nat.reduceLeDiff, Nat.reduceBEq, Nat.reduceBNe, Int.reduceEq, ↓reduceIte, reduceCtorEq]) rfl)⟩
            | exact ⟨by omega, (imp_sub (by simp (maxSteps := 9000000) -implicitDefEqProofs -dsimp (disch := omega) only [go_sem, g14_0, g14_1, g14_2, g14_3, g14_4, g14_5, g14_6, g14_7, g14_8, g14_9, g14_10, i14, h4, Int.sub_sub, Int.add_assoc, Nat.reduceEqDiff, Nat.reduceAdd, Nat.reduceMul, Nat.reduceLeDiff, Nat.reduceBEq, Nat.reduceBNe, Int.reduceEq, ↓reduceIte, reduceCtorEq]) (by simp (maxSteps := 9000000) -implicitDefEqProofs -dsimp (disch := omega) only [go_sem, g14_0, g14_1, g14_2, g14_3, g14_4, g14_5, g14_6, g14_7, g14_8, g14_9, g14_10, i14, h4, Int.sub_sub, Int.add_assoc, Nat.reduceEqDiff, Nat.reduceAdd, Nat.reduceMul, Nat.reduceLeDiff, Nat.reduceBEq, Nat.reduceBNe, Int.reduceEq, ↓reduceIte, reduceCtorEq]) rfl)⟩
      · obtain rfl : i = l.length := by omega
        rw [List.take_length] at hJ
        simp (maxSteps := 9000000) -implicitDefEqProofs -dsimp (disch := omega) only [go_sem, g14_0, g14_1, g14_2, g14_3, g14_4, g14_5, g14_6, g14_7, g14_8, g14_9, g14_10, i14, List.take_length, Nat.reduceEqDiff, Nat.reduceAdd, Nat.reduceMul, Nat.reduceLeDiff, Nat.reduceBEq, Nat.reduceBNe, Int.reduceEq, ↓reduceIte, reduceCtorEq]
        exact need_i (by rw [np _ (by omega)]) (by simp (maxSteps := 9000000) -implicitDefEqProofs -dsimp (disch := omega) only [go_sem, g14_0, g14_1, g14_2, g14_3, g14_4, g14_5, g14_6, g14_7, g14_8, g14_9, g14_10, i14, Nat.reduceEqDiff, Nat.reduceAdd, Nat.reduceMul, Nat.reduceLeDiff, Nat.reduceBEq, Nat.reduceBNe, Int.reduceEq, ↓reduceIte, reduceCtorEq])
def g24_0 : List Gop := [⟨none, (some 2), (.box (.t 0))⟩, ⟨none, (some 4), (.mov (.k (.one (.int .i64 0))))⟩]
def g24_1 : List Gop := [⟨none, (some 5), (.faddr (.t 2) 0)⟩, ⟨none, (some 6), (.load none (.t 5))⟩, ⟨none, (some 7), (.mov (.t 1))⟩, ⟨none, (some 8), (.call 14 [(.t 6), (.t 7)])⟩, ⟨none, (some 1), (.mov (.t 8))⟩]
def g24_2 : List Gop := [⟨none, (some 9), (.mov (.t 1))⟩, ⟨none, (some 10), (.bin .lss (.t 9) (.k (.one (.int .i64 0))))⟩]
def g24_3 : List Gop := [⟨none, (some 4), (.mov (.k (.one (.int .i64 (-1)))))⟩]
def g24_4 : List Gop := [⟨none, (some 11), (.faddr (.t 2) 1)⟩, ⟨none, (some 12), (.load none (.t 11))⟩, ⟨none, (some 13), (.mov (.t 1))⟩, ⟨none, (some 14), (.call 62 [(.t 12), (.t 13)])⟩, ⟨none, (some 1), (.mov (.t 14))⟩]
def g24_5 : List Gop := [⟨none, (some 15), (.mov (.t 1))⟩, ⟨none, (some 16), (.bin .lss (.t 15) (.k (.one (.int .i64 0))))⟩]
def g24_6 : List Gop := [⟨none, (some 4), (.mov (.k (.one (.int .i64 (-1)))))⟩]
def g24_7 : List Gop := [⟨none, (some 17), (.faddr (.t 2) 2)⟩, ⟨none, (some 18), (.load none (.t 17))⟩, ⟨none, (some 19), (.mov (.t 1))⟩, ⟨none, (some 20), (.call 62 [(.t 18), (.t 19)])⟩, ⟨none, (some 1), (.mov (.t 20))⟩]
def g24_8 : List Gop := [⟨none, (some 21), (.mov (.t 1))⟩, ⟨none, (some 22), (.bin .lss (.t 21) (.k (.one (.int .i64 0))))⟩]
def g24_9 : List Gop := [⟨none, (some 4), (.mov (.k (.one (.int .i64 (-1)))))⟩]
def g24_10 : List Gop := [⟨none, (some 23), (.mov (.t 1))⟩, ⟨none, (some 4), (.mov (.t 23))⟩]
def i24 : Ir := (.seq (.region g24_0) (.seq (.region g24_1) (.seq (.seq (.region g24_2) (.cond (.t 10) (.seq (.region g24_3) .ret) .skip)) (.seq (.region g24_4) (.seq (.seq (.region g24_5) (.cond (.t 16) (.seq (.region g24_6) .ret) .skip)) (.seq (.region g24_7) (.seq (.seq (.region g24_8) (.cond (.t 22) (.seq (.region g24_9) .ret) .skip)) (.seq (.region g24_10) .ret))))))))
theorem szGraph_ok (g : Gr) (n : Int) (h0 : 0 ≤ n) (hn : n ≤ 1048576) (ha : g.n.length ≤ 9223372036854775807) (hs : ∀ x ∈ g.n, x.h.length ≤ 9223372036854775807) (hr : g.r.length ≤ 9223372036854775807) (hc : g.c.length ≤ 9223372036854775807) : Meets Try.prog 24 [.agg [.sl false 2 g.n.length (ndR g.n), (.sl false 1 g.r.length (g.r.map (T.int .i64))), (.sl false 1 g.c.length (g.c.map (T.int .i64)))], .one (.int .i64 n)] (.w (.one (.int .i64 (szf (n - g.n.length - ntt g.n - g.r.length - g.c.length))))) [.agg [.hole, .hole, .hole], .one .hole] := by
  have nn : ∀ x : Int, x < 0 → szf x = -1 := fun x hx => if_pos hx
  have np : ∀ x : Int, 0 ≤ x → szf x = x := fun x hx => if_neg (by omega)
  have ht := ntt_nonneg (l := g.n)
  have q2 := ndR_cut (l := g.n)
  refine meets_go (ir := i24) (fn := Try.f24) (rx := [(.tmp 4)]) rfl rfl (by rfl) (by rfl) (by exact Nat.le_of_ble_eq_true rfl) ?_
  simp (maxSteps := 9000000) -implicitDefEqProofs -dsimp (disch := omega) only [go_sem, g24_0, g24_1, g24_2, g24_3, g24_4, g24_5, g24_6, g24_7, g24_8, g24_9, g24_10, i24, q2, Nat.reduceEqDiff, Nat.reduceAdd, Nat.reduceMul, Nat.reduceLeDiff, Nat.reduceBEq, Nat.reduceBNe, Int.reduceEq, ↓reduceIte, reduceCtorEq]
  refine call_go true (szNodeS_ok g.n n h0 hn ha hs) ?_
  by_cases c1 : n - g.n.length - ntt g.n < 0
  · rw [nn _ c1, nn _ (by omega)]
    simp (maxSteps := 9000000) -implicitDefEqProofs -dsimp (disch := omega) only [go_sem, g24_0, g24_1, g24_2, g24_3, g24_4, g24_5, g24_6, g24_7, g24_8, g24_9, g24_10, i24, lt_T, lt_F, le_T, le_F, eq_T, eq_F, and_F, q2, Nat.reduceEqDiff, Nat.reduceAdd, Nat.reduceMul, Nat.reduceLeDiff, Nat.reduceBEq, Nat.reduceBNe, Int.reduceEq, ↓reduceIte, reduceCtorEq]
  · rw [np _ (by omega)]
    simp (maxSteps := 9000000) -implicitDefEqProofs -dsimp (disch := omega) only [go_sem, g24_0, g24_1, g24_2, g24_3, g24_4, g24_5, g24_6, g24_7, g24_8, g24_9, g24_10, i24, lt_T, lt_F, le_T, le_F, eq_T, eq_F, and_F, q2, Nat.reduceEqDiff, Nat.reduceAdd, Nat.reduceMul, Nat.reduceLeDiff, Nat.reduceBEq, Nat.reduceBNe, Int.reduceEq, ↓reduceIte, reduceCtorEq]
    refine call_go true (szIntS_ok g.r (n - g.n.length - ntt g.n) (by omega) (by omega) hr) ?_
    by_cases c2 : n - g.n.length - ntt g.n - g.r.length < 0
    · rw [nn _ c2, nn _ (by omega)]
      simp (maxSteps := 9000000) -implicitDefEqProofs -dsimp (disch := omega) only [go_sem, g24_0, g24_1, g24_2, g24_3, g24_4, g24_5, g24_6, g24_7, g24_8, g24_9, g24_10, i24, lt_T, lt_F, le_T, le_F, eq_T, eq_F, and_F, q2, Nat.reduceEqDiff, Nat.reduceAdd, Nat.reduceMul, Nat.reduceLeDiff, Nat.reduceBEq, Nat.reduceBNe, Int.reduceEq, ↓reduceIte, reduceCtorEq]
    · rw [np _ (by omega)]
      simp (maxSteps := 9000000) -implicitDefEqProofs -dsimp (disch := omega) only [go_sem, g24_0, g24_1, g24_2, g24_3, g24_4, g24_5, g24_6, g24_7, g24_8, g24_9, g24_10, i24, lt_T, lt_F, le_T, le_F, eq_T, eq_F, and_F, q2, Nat.reduceEqDiff, Nat.reduceAdd, Nat.reduceMul, Nat.reduceLeDiff, Nat.reduceBEq, Nat.reduceBNe, Int.reduceEq, ↓reduceIte, reduceCtorEq]
      refine call_go true (szIntS_ok g.c (n - g.n.length - ntt g.n - g.r.length) (by omega) (by omega) hc) ?_
      by_cases c3 : n - g.n.length - ntt g.n - g.r.length - g.c.length < 0
      · rw [nn _ c3]
        simp (maxSteps := 9000000) -implicitDefEqProofs -dsimp (disch := omega) only [go_sem, g24_0, g24_1, g24_2, g24_3, g24_4, g24_5, g24_6, g24_7, g24_8, g24_9, g24_10, i24, lt_T, lt_F, le_T, le_F, eq_T, eq_F, and_F, q2, Nat.reduceEqDiff, Nat.reduceAdd, Nat.reduceMul, Nat.reduceLeDiff, Nat.reduceBEq, Nat.reduceBNe, Int.reduceEq, ↓reduceIte, reduceCtorEq]
      · rw [np _ (by omega)]
        simp (maxSteps := 9000000) -implicitDefEqProofs -dsimp (disch := omega) only [go_sem, g24_0, g24_1, g24_2, g24_3, g24_4, g24_5, g24_6, g24_7, g24_8, g24_9, g24_10, i24, lt_T, lt_F, le_T, le_F, eq_T, eq_F, and_F, q2, Nat.reduceEqDiff, Nat.reduceAdd, Nat.reduceMul, Nat.reduceLeDiff, Nat.reduceBEq, Nat.reduceBNe, Int.reduceEq, ↓reduceIte, reduceCtorEq]
end Go.Proofs.YtdhclelfnbjikaaT

/- Functions of the program as contracts: what is asked of a graph. No condition. -/
set_option maxRecDepth 100000
set_option maxHeartbeats 8000000
set_option linter.unusedSimpArgs false
set_option linter.unusedVariables false
namespace Go.Proofs.YtdhclelfnbjikaaT
open Go Go.RowKit
def HoldOk (n : List Nd) (i : Int) (y : Int) : Prop := 0 ≤ y ∧ y < i ∧ (n.getD y.toNat default).g = false
def NodeOk (n : List Nd) (i : Nat) : Prop := (∀ y ∈ (n.getD i default).h, HoldOk n i y) ∧ (n.getD i default).h.length ≤ 6 ∧ ((n.getD i default).g = true → (n.getD i default).h.length = 0)
def NodesOk (n : List Nd) (r : List Int) : Prop := (∀ i, i < n.length → NodeOk n i) ∧ (∀ y ∈ r, HoldOk n n.length y) ∧ n.length ≤ 14 ∧ r.length ≤ 6
noncomputable instance (n : List Nd) (r : List Int) : Decidable (NodesOk n r) := Classical.propDecidable _
theorem mem_take {α : Type} [Inhabited α] {l : List α} {P : α → Prop} {i : Nat} (h : ∀ j, j < i → P (l.getD j default)) (hi : i = l.length) : ∀ y ∈ l, P y := by
  intro y hy
  obtain ⟨j, hj, e⟩ := List.mem_iff_getElem.1 hy
  have := h j (by omega)
  simp only [List.getD_eq_getElem?_getD, List.getElem?_eq_getElem hj, Option.getD_some] at this
  rwa [e] at this
def g56_0 : List Gop := [⟨none, (some 4), (.mov (.k (.one (.bool .false))))⟩]
def g56_1 : List Gop := [⟨none, (some 11), (.mov (.t 0))⟩, ⟨none, (some 12), (.len (.t 11))⟩, ⟨none, (some 13), (.mov (.k (.one (.int .i64 0))))⟩]
def g56_2 : List Gop := [⟨none, (some 14), (.bin .lss (.t 13) (.t 12))⟩]
def g56_3 : List Gop := [⟨none, (some 15), (.mov (.t 13))⟩, ⟨none, (some 16), (.iaddr 2 (.t 11) (.t 13))⟩, ⟨none, (some 17), (.load (some 2) (.t 16))⟩, ⟨none, (some 6), (.alloc [.nil, (.bool .false)])⟩, ⟨none, (some 5), (.mov (.t 15))⟩, ⟨none, none, (.store 2 (.t 6) (.t 17))⟩]
def g56_4 : List Gop := [⟨none, (some 18), (.faddr (.t 6) 0)⟩, ⟨none, (some 19), (.load none (.t 18))⟩, ⟨none, (some 20), (.len (.t 19))⟩, ⟨none, (some 21), (.mov (.k (.one (.int .i64 0))))⟩]
def g56_5 : List Gop := [⟨none, (some 22), (.bin .lss (.t 21) (.t 20))⟩]
def g56_6 : List Gop := [⟨none, (some 23), (.iaddr 1 (.t 19) (.t 21))⟩, ⟨none, (some 24), (.load none (.t 23))⟩, ⟨none, (some 8), (.mov (.t 24))⟩]
def g56_7 : List Gop := [⟨none, (some 25), (.mov (.t 8))⟩, ⟨none, (some 26), (.bin .lss (.t 25) (.k (.one (.int .i64 0))))⟩, ⟨none, (some 27), (.mov (.t 26))⟩, ⟨(some (27, .false)), (some 28), (.mov (.t 8))⟩, ⟨(some (27, .false)), (some 29), (.mov (.t 5))⟩, ⟨(some (27, .false)), (some 30), (.bin .geq (.t 28) (.t 29))⟩, ⟨none, (some 31), (.pick (.t 27) (.k (.one (.bool .true))) (.t 30))⟩, ⟨none, (some 32), (.mov (.t 31))⟩, ⟨(some (32, .false)), (some 33), (.mov (.t 0))⟩, ⟨(some (32, .false)), (some 34), (.mov (.t 8))⟩, ⟨(some (32, .false)), (some 35), (.iaddr 2 (.t 33) (.t 34))⟩, ⟨(some (32, .false)), (some 36), (.faddr (.t 35) 1)⟩, ⟨(some (32, .false)), (some 37), (.load none (.t 36))⟩, ⟨none, (some 38), (.pick (.t 32) (.k (.one (.bool .true))) (.t 37))⟩]
def g56_8 : List Gop := [⟨none, (some 4), (.mov (.k (.one (.bool .false))))⟩]
def g56_9 : List Gop := [⟨none, (some 39), (.bin .add (.t 21) (.k (.one (.int .i64 1))))⟩, ⟨none, (some 21), (.mov (.t 39))⟩]
def g56_10 : List Gop := [⟨none, (some 40), (.faddr (.t 6) 0)⟩, ⟨none, (some 41), (.load none (.t 40))⟩, ⟨none, (some 42), (.len (.t 41))⟩, ⟨none, (some 43), (.bin .gtr (.t 42) (.k (.one (.int .i64 6))))⟩, ⟨none, (some 44), (.mov (.t 43))⟩, ⟨(some (44, .false)), (some 45), (.faddr (.t 6) 1)⟩, ⟨(some (44, .false)), (some 46), (.load none (.t 45))⟩, ⟨(some (44, .false)), (some 47), (.mov (.t 46))⟩, ⟨(some (47, .true)), (some 48), (.faddr (.t 6) 0)⟩, ⟨(some (47, .true)), (some 49), (.load none (.t 48))⟩, ⟨(some (47, .true)), (some 50), (.len (.t 49))⟩, ⟨(some (47, .true)), (some 51), (.bin .gtr (.t 50) (.k (.one (.int .i64 0))))⟩, ⟨(some (44, .false)), (some 52), (.pick (.t 47) (.t 51) (.k (.one (.bool .false))))⟩, ⟨none, (some 53), (.pick (.t 44) (.k (.one (.bool .true))) (.t 52))⟩]
def g56_11 : List Gop := [⟨none, (some 4), (.mov (.k (.one (.bool .false))))⟩]
def g56_12 : List Gop := [⟨none, (some 54), (.bin .add (.t 13) (.k (.one (.int .i64 1))))⟩, ⟨none, (some 13), (.mov (.t 54))⟩]
def g56_13 : List Gop := [⟨none, (some 55), (.mov (.t 1))⟩, ⟨none, (some 56), (.len (.t 55))⟩, ⟨none, (some 57), (.mov (.k (.one (.int .i64 0))))⟩]
def g56_14 : List Gop := [⟨none, (some 58), (.bin .lss (.t 57) (.t 56))⟩]
def g56_15 : List Gop := [⟨none, (some 59), (.iaddr 1 (.t 55) (.t 57))⟩, ⟨none, (some 60), (.load none (.t 59))⟩, ⟨none, (some 10), (.mov (.t 60))⟩]
def g56_16 : List Gop := [⟨none, (some 61), (.mov (.t 10))⟩, ⟨none, (some 62), (.bin .lss (.t 61) (.k (.one (.int .i64 0))))⟩, ⟨none, (some 63), (.mov (.t 62))⟩, ⟨(some (63, .false)), (some 64), (.mov (.t 10))⟩, ⟨(some (63, .false)), (some 65), (.mov (.t 0))⟩, ⟨(some (63, .false)), (some 66), (.len (.t 65))⟩, ⟨(some (63, .false)), (some 67), (.bin .geq (.t 64) (.t 66))⟩, ⟨none, (some 68), (.pick (.t 63) (.k (.one (.bool .true))) (.t 67))⟩, ⟨none, (some 69), (.mov (.t 68))⟩, ⟨(some (69, .false)), (some 70), (.mov (.t 0))⟩, ⟨(some (69, .false)), (some 71), (.mov (.t 10))⟩, ⟨(some (69, .false)), (some 72), (.iaddr 2 (.t 70) (.t 71))⟩, ⟨(some (69, .false)), (some 73), (.faddr (.t 72) 1)⟩, ⟨(some (69, .false)), (some 74), (.load none (.t 73))⟩, ⟨none, (some 75), (.pick (.t 69) (.k (.one (.bool .true))) (.t 74))⟩]
def g56_17 : List Gop := [⟨none, (some 4), (.mov (.k (.one (.bool .false))))⟩]
def g56_18 : List Gop := [⟨none, (some 76), (.bin .add (.t 57) (.k (.one (.int .i64 1))))⟩, ⟨none, (some 57), (.mov (.t 76))⟩]
def g56_19 : List Gop := [⟨none, (some 77), (.mov (.t 0))⟩, ⟨none, (some 78), (.len (.t 77))⟩, ⟨none, (some 79), (.bin .leq (.t 78) (.k (.one (.int .i64 14))))⟩, ⟨none, (some 80), (.mov (.t 79))⟩, ⟨(some (80, .true)), (some 81), (.mov (.t 1))⟩, ⟨(some (80, .true)), (some 82), (.len (.t 81))⟩, ⟨(some (80, .true)), (some 83), (.bin .leq (.t 82) (.k (.one (.int .i64 6))))⟩, ⟨none, (some 84), (.pick (.t 80) (.t 83) (.k (.one (.bool .false))))⟩, ⟨none, (some 4), (.mov (.t 84))⟩]
def i56 : Ir := (.seq (.region g56_0) (.seq (.seq (.region g56_1) (.block 0 (.loop (.seq (.region g56_2) (.seq (.cond (.t 14) .skip (.exit 0)) (.seq (.block 1 (.seq (.region g56_3) (.seq (.seq (.region g56_4) (.block 2 (.loop (.seq (.region g56_5) (.seq (.cond (.t 22) .skip (.exit 2)) (.seq (.block 3 (.seq (.region g56_6) (.seq (.region g56_7) (.cond (.t 38) (.seq (.region g56_8) .ret) .skip)))) (.region g56_9))))))) (.seq (.region g56_10) (.cond (.t 53) (.seq (.region g56_11) .ret) .skip))))) (.region g56_12))))))) (.seq (.seq (.region g56_13) (.block 4 (.loop (.seq (.region g56_14) (.seq (.cond (.t 58) .skip (.exit 4)) (.seq (.block 5 (.seq (.region g56_15) (.seq (.region g56_16) (.cond (.t 75) (.seq (.region g56_17) .ret) .skip)))) (.region g56_18))))))) (.seq (.region g56_19) .ret))))
theorem l10Nodes_ok (n : List Nd) (r : List Int) (hn : n.length ≤ 1048576) (hh : ∀ x ∈ n, x.h.length ≤ 1048576) (hr : r.length ≤ 1048576) : Meets Try.prog 56 [.one (.sl false 2 n.length (ndR n)), .one (.sl false 1 r.length (r.map (T.int .i64)))] (.w (.one (.bool (decide (NodesOk n r))))) [.one .hole, .one .hole] := by
  refine meets_go (ir := i56) (fn := Try.f56) (rx := [(.tmp 4)]) rfl rfl (by rfl) (by rfl) (by exact Nat.le_of_ble_eq_true rfl) ?_
  simp (maxSteps := 9000000) -implicitDefEqProofs -dsimp (disch := omega) only [go_sem, g56_0, g56_1, g56_2, g56_3, g56_4, g56_5, g56_6, g56_7, g56_8, g56_9, g56_10, g56_11, g56_12, g56_13, g56_14, g56_15, g56_16, g56_17, g56_18, g56_19, i56, Nat.reduceEqDiff, Nat.reduceAdd, Nat.reduceMul, Nat.reduceLeDiff, Nat.reduceBEq, Nat.reduceBNe, Int.reduceEq, ↓reduceIte, reduceCtorEq]
  refine loop_n n.length (fun i => ⟨[(13, .w (.one (.int .i64 (i : Nat)))), (12, .w (.one (.int .i64 n.length))), (11, .w (.one (.hs 0 [] 0 2 n.length))), (4, .w (.one (.bool false))), (0, .w (.one (.hs 0 [] 0 2 n.length))), (1, .w (.one (.hs 1 [] 0 1 r.length)))], [(1, (.sl false 1 r.length (r.map (T.int .i64)))), (0, .sl false 2 n.length (ndR n))], [.one (.hs 0 [] 0 2 n.length), .one (.hs 1 [] 0 1 r.length)]⟩) (fun i => ∀ j, j < i → NodeOk n j) ?_ (by omega) ?_
  · exact (imp_sub (by simp (maxSteps := 9000000) -implicitDefEqProofs -dsimp (disch := omega) only [go_sem, g56_0, g56_1, g56_2, g56_3, g56_4, g56_5, g56_6, g56_7, g56_8, g56_9, g56_10, g56_11, g56_12, g56_13, g56_14, g56_15, g56_16, g56_17, g56_18, g56_19, i56, Nat.reduceEqDiff, Nat.reduceAdd, Nat.reduceMul, Nat.reduceLeDiff, Nat.reduceBEq, Nat.reduceBNe, Int.reduceEq, ↓reduceIte, reduceCtorEq]) (by simp (maxSteps := 9000000) -implicitDefEqProofs -dsimp (disch := omega) only [go_sem, g56_0, g56_1, g56_2, g56_3, g56_4, g56_5, g56_6, g56_7, g56_8, g56_9, g56_10, g56_11, g56_12, g56_13, g56_14, g56_15, g56_16, g56_17, g56_18, g56_19, i56, Nat.reduceEqDiff, Nat.reduceAdd, Nat.reduceMul, Nat.reduceLeDiff, Nat.reduceBEq, Nat.reduceBNe, Int.reduceEq, ↓reduceIte, reduceCtorEq]) rfl)
  · intro i hi hJ
    simp (maxSteps := 9000000) -implicitDefEqProofs -dsimp (disch := omega) only [go_sem, g56_0, g56_1, g56_2, g56_3, g56_4, g56_5, g56_6, g56_7, g56_8, g56_9, g56_10, g56_11, g56_12, g56_13, g56_14, g56_15, g56_16, g56_17, g56_18, g56_19, i56, Nat.reduceEqDiff, Nat.reduceAdd, Nat.reduceMul, Nat.reduceLeDiff, Nat.reduceBEq, Nat.reduceBNe, Int.reduceEq, ↓reduceIte, reduceCtorEq]
    refine brP_i (fun h1 => ?_) (fun h1 => ?_)
    · have hlt : i < n.length := by omega
      have hh1 := hh _ (getD_mem hlt)
      simp (maxSteps := 9000000) -implicitDefEqProofs -dsimp (disch := omega) only [go_sem, g56_0, g56_1, g56_2, g56_3, g56_4, g56_5, g56_6, g56_7, g56_8, g56_9, g56_10, g56_11, g56_12, g56_13, g56_14, g56_15, g56_16, g56_17, g56_18, g56_19, i56, ndR_0 hlt, ndR_1 hlt, Nat.reduceEqDiff, Nat.reduceAdd, Nat.reduceMul, Nat.reduceLeDiff, Nat.reduceBEq, Nat.reduceBNe, Int.reduceEq, ↓reduceIte, reduceCtorEq]
      have bad : ∀ t, t < (n.getD i default).h.length → ¬ HoldOk n i ((n.getD i default).h.getD t default) → ¬ NodesOk n r := fun t ht hb q => hb ((q.1 i hlt).1 _ (getD_mem ht))
      refine loop_n (n.getD i default).h.length (fun t => ⟨[(21, .w (.one (.int .i64 (t : Nat)))), (20, .w (.one (.int .i64 (n.getD i default).h.length))), (19, .w (.one (.hs 2 [0] 0 1 (n.getD i default).h.length))), (5, .w (.one (.int .i64 (i : Nat)))), (6, .w (.one (.hp 2 [] 0))), (13, .w (.one (.int .i64 (i : Nat)))), (12, .w (.one (.int .i64 n.length))), (11, .w (.one (.hs 0 [] 0 2 n.length))), (4, .w (.one (.bool false))), (0, .w (.one (.hs 0 [] 0 2 n.length))), (1, .w (.one (.hs 1 [] 0 1 r.length)))],
        [(2, .bx true [(.sl false 1 ((n.getD i default).h).length (((n.getD i default).h).map (T.int .i64))), .bool (n.getD i default).g]), (1, (.sl false 1 r.length (r.map (T.int .i64)))), (0, .sl false 2 n.length (ndR n))], [.one (.hs 0 [] 0 2 n.length), .one (.hs 1 [] 0 1 r.length)]⟩) (fun t => ∀ j, j < t → HoldOk n i ((n.getD i default).h.getD j default)) ?_ (by omega) ?_
      · exact (imp_sub (by simp (maxSteps := 9000000) -implicitDefEqProofs -dsimp (disch := omega) only [go_sem, g56_0, g56_1, g56_2, g56_3, g56_4, g56_5, g56_6, g56_7, g56_8, g56_9, g56_10, g56_11, g56_12, g56_13, g56_14, g56_15, g56_16, g56_17, g56_18, g56_19, i56, Nat.reduceEqDiff, Nat.reduceAdd, Nat.reduceMul, Nat.reduceLeDiff, Nat.reduceBEq, Nat.reduceBNe, Int.reduceEq, ↓reduceIte, reduceCtorEq]) (by simp (maxSteps := 9000000) -implicitDefEqProofs -dsimp (disch := omega) only [go_sem, g56_0, g56_1, g56_2, g56_3, g56_4, g56_5, g56_6, g56_7, g56_8, g56_9, g56_10, g56_11, g56_12, g56_13, g56_14, g56_15, g56_16, g56_17, g56_18, g56_19, i56, Nat.reduceEqDiff, Nat.reduceAdd, Nat.reduceMul, Nat.reduceLeDiff, Nat.reduceBEq, Nat.reduceBNe, Int.reduceEq, ↓reduceIte, reduceCtorEq]) rfl)
      · intro t ht hK
        simp (maxSteps := 9000000) -implicitDefEqProofs -dsimp (disch := omega) only [go_sem, g56_0, g56_1, g56_2, g56_3, g56_4, g56_5, g56_6, g56_7, g56_8, g56_9, g56_10, g56_11, g56_12, g56_13, g56_14, g56_15, g56_16, g56_17, g56_18, g56_19, i56, Nat.reduceEqDiff, Nat.reduceAdd, Nat.reduceMul, Nat.reduceLeDiff, Nat.reduceBEq, Nat.reduceBNe, Int.reduceEq, ↓reduceIte, reduceCtorEq]
        refine brP_i (fun h2 => ?_) (fun h2 => ?_)
        · have ht2 : t < (n.getD i default).h.length := by omega
          have hbad := bad t ht2
          generalize hy : (n.getD i default).h.getD t default = y at hbad
          by_cases a1 : y < 0
          · simp (maxSteps := 9000000) -implicitDefEqProofs -dsimp (disch := omega) only [go_sem, g56_0, g56_1, g56_2, g56_3, g56_4, g56_5, g56_6, g56_7, g56_8, g56_9, g56_10, g56_11, g56_12, g56_13, g56_14, g56_15, g56_16, g56_17, g56_18, g56_19, i56, lt_T, lt_F, le_T, le_F, eq_T, eq_F, and_F, hy, a1, Nat.reduceEqDiff, Nat.reduceAdd, Nat.reduceMul, Nat.reduceLeDiff, Nat.reduceBEq, Nat.reduceBNe, Int.reduceEq, ↓reduceIte, reduceCtorEq]
            exact need_i (res_F (hbad fun q => by have := q.1; omega)) (by simp (maxSteps := 9000000) -implicitDefEqProofs -dsimp (disch := omega) only [go_sem, g56_0, g56_1, g56_2, g56_3, g56_4, g56_5, g56_6, g56_7, g56_8, g56_9, g56_10, g56_11, g56_12, g56_13, g56_14, g56_15, g56_16, g56_17, g56_18, g56_19, i56, Nat.reduceEqDiff, Nat.reduceAdd, Nat.reduceMul, Nat.reduceLeDiff, Nat.reduceBEq, Nat.reduceBNe, Int.reduceEq, ↓reduceIte, reduceCtorEq])
          · by_cases a2 : (i : Int) ≤ y
            · simp (maxSteps := 9000000) -implicitDefEqProofs -dsimp (disch := omega) only [go_sem, g56_0, g56_1, g56_2, g56_3, g56_4, g56_5, g56_6, g56_7, g56_8, g56_9, g56_10, g56_11, g56_12, g56_13, g56_14, g56_15, g56_16, g56_17, g56_18, g56_19, i56, lt_T, lt_F, le_T, le_F, eq_T, eq_F, and_F, hy, a1, a2, Nat.reduceEqDiff, Nat.reduceAdd, Nat.reduceMul, Nat.reduceLeDiff, Nat.reduceBEq, Nat.reduceBNe, Int.reduceEq, ↓reduceIte, reduceCtorEq]
              exact need_i (res_F (hbad fun q => by have := q.2.1; omega)) (by simp (maxSteps := 9000000) -implicitDefEqProofs -dsimp (disch := omega) only [go_sem, g56_0, g56_1, g56_2, g56_3, g56_4, g56_5, g56_6, g56_7, g56_8, g56_9, g56_10, g56_11, g56_12, g56_13, g56_14, g56_15, g56_16, g56_17, g56_18, g56_19, i56, Nat.reduceEqDiff, Nat.reduceAdd, Nat.reduceMul, Nat.reduceLeDiff, Nat.reduceBEq, Nat.reduceBNe, Int.reduceEq, ↓reduceIte, reduceCtorEq])
            · have a3 : y.toNat < n.length := by omega
              have a4 : (y.toNat : Int) = y := Int.toNat_of_nonneg (by omega)
              cases a5 : (n.getD y.toNat default).g with
              | true =>
                simp (maxSteps := 9000000) -implicitDefEqProofs -dsimp (disch := omega) only [go_sem, g56_0, g56_1, g56_2, g56_3, g56_4, g56_5, g56_6, g56_7, g56_8, g56_9, g56_10, g56_11, g56_12, g56_13, g56_14, g56_15, g56_16, g56_17, g56_18, g56_19, i56, lt_T, lt_F, le_T, le_F, eq_T, eq_F, and_F, hy, a1, a2, ndR_1 a3, a5, Nat.reduceEqDiff, Nat.reduceAdd, Nat.reduceMul, Nat.reduceLeDiff, Nat.reduceBEq, Nat.reduceBNe, Int.reduceEq, ↓reduceIte, reduceCtorEq]
                exact need_i (res_F (hbad fun q => by rw [q.2.2] at a5; simp at a5)) (by simp (maxSteps := 9000000) -implicitDefEqProofs -dsimp (disch := omega) only [go_sem, g56_0, g56_1, g56_2, g56_3, g56_4, g56_5, g56_6, g56_7, g56_8, g56_9, g56_10, g56_11, g56_12, g56_13, g56_14, g56_15, g56_16, g56_17, g56_18, g56_19, i56, Nat.reduceEqDiff, Nat.reduceAdd, Nat.reduceMul, Nat.reduceLeDiff, Nat.reduceBEq, Nat.reduceBNe, Int.reduceEq, ↓reduceIte, reduceCtorEq])
              | false =>
                simp (maxSteps := 9000000) -implicitDefEqProofs -dsimp (disch := omega) only [go_sem, g56_0, g56_1, g56_2, g56_3, g56_4, g56_5, g56_6, g56_7, g56_8, g56_9, g56_10, g56_11, g56_12, g56_13, g56_14, g56_15, g56_16, g56_17, g56_18, g56_19, i56, lt_T, lt_F, le_T, le_F, eq_T, eq_F, and_F, hy, a1, a2, ndR_1 a3, a5, Nat.reduceEqDiff, Nat.reduceAdd, Nat.reduceMul, Nat.reduceLeDiff, Nat.reduceBEq, Nat.reduceBNe, Int.reduceEq, ↓reduceIte, reduceCtorEq]
                refine ⟨⟨by omega, fun j hj => ?_⟩, (imp_sub (by simp (maxSteps := 9000000) -implicitDefEqProofs -dsimp (disch := omega) only [go_sem, g56_0, g56_1, g56_2, g56_3, g56_4, g56_5, g56_6, g56_7, g56_8, g56_9, g56_10, g56_11, g56_12, g56_13, g56_14, g56_15, g56_16, g56_17, g56_18, g56_19, i56, Nat.reduceEqDiff, Nat.reduceAdd, Nat.reduceMul, Nat.reduceLeDiff, Nat.reduceBEq, Nat.reduceBNe, Int.reduceEq, ↓reduceIte, reduceCtorEq]) (by simp (maxSteps := 9000000) -implicitDefEqProofs -dsimp (disch := omega) only [go_sem, g56_0, g56_1, g56_2, g56_3, g56_4, g56_5, g56_6, g56_7, g56_8, g56_9, g56_10, g56_11, g56_12, g56_13, g56_14, g56_15, g56_16, g56_17, g56_18, g56_19, i56, Nat.reduceEqDiff, Nat.reduceAdd, Nat.reduceMul, Nat.reduceLeDiff, Nat.reduceBEq, Nat.reduceBNe, Int.reduceEq, ↓reduceIte, reduceCtorEq]) rfl)⟩
                by_cases e : j = t
                · subst e; rw [hy]; exact ⟨by omega, by omega, a5⟩
                · exact hK j (by omega)
        · have te : t = (n.getD i default).h.length := by omega
          have hall := mem_take hK te
          have hno : ¬ NodeOk n i → ¬ NodesOk n r := fun q w => q (w.1 i hlt)
          by_cases b1 : 6 < ((n.getD i default).h.length : Int)
          · simp (maxSteps := 9000000) -implicitDefEqProofs -dsimp (disch := omega) only [go_sem, g56_0, g56_1, g56_2, g56_3, g56_4, g56_5, g56_6, g56_7, g56_8, g56_9, g56_10, g56_11, g56_12, g56_13, g56_14, g56_15, g56_16, g56_17, g56_18, g56_19, i56, lt_T, lt_F, le_T, le_F, eq_T, eq_F, and_F, b1, Nat.reduceEqDiff, Nat.reduceAdd, Nat.reduceMul, Nat.reduceLeDiff, Nat.reduceBEq, Nat.reduceBNe, Int.reduceEq, ↓reduceIte, reduceCtorEq]
            exact need_i (res_F (hno fun q => by have := q.2.1; omega)) (by simp (maxSteps := 9000000) -implicitDefEqProofs -dsimp (disch := omega) only [go_sem, g56_0, g56_1, g56_2, g56_3, g56_4, g56_5, g56_6, g56_7, g56_8, g56_9, g56_10, g56_11, g56_12, g56_13, g56_14, g56_15, g56_16, g56_17, g56_18, g56_19, i56, Nat.reduceEqDiff, Nat.reduceAdd, Nat.reduceMul, Nat.reduceLeDiff, Nat.reduceBEq, Nat.reduceBNe, Int.reduceEq, ↓reduceIte, reduceCtorEq])
          · cases b2 : (n.getD i default).g with
            | true =>
              by_cases b3 : 0 < ((n.getD i default).h.length : Int)
              · simp (maxSteps := 9000000) -implicitDefEqProofs -dsimp (disch := omega) only [go_sem, g56_0, g56_1, g56_2, g56_3, g56_4, g56_5, g56_6, g56_7, g56_8, g56_9, g56_10, g56_11, g56_12, g56_13, g56_14, g56_15, g56_16, g56_17, g56_18, g56_19, i56, lt_T, lt_F, le_T, le_F, eq_T, eq_F, and_F, b1, b2, b3, Nat.reduceEqDiff, Nat.reduceAdd, Nat.reduceMul, Nat.reduceLeDiff, Nat.reduceBEq, Nat.reduceBNe, Int.reduceEq, ↓reduceIte, reduceCtorEq]
                exact need_i (res_F (hno fun q => by have := q.2.2 b2; omega)) (by simp (maxSteps := 9000000) -implicitDefEqProofs -dsimp (disch := omega) only [go_sem, g56_0, g56_1, g56_2, g56_3, g56_4, g56_5, g56_6, g56_7, g56_8, g56_9, g56_10, g56_11, g56_12, g56_13, g56_14, g56_15, g56_16, g56_17, g56_18, g56_19, i56, Nat.reduceEqDiff, Nat.reduceAdd, Nat.reduceMul, Nat.reduceLeDiff, Nat.reduceBEq, Nat.reduceBNe, Int.reduceEq, ↓reduceIte, reduceCtorEq])
              · simp (maxSteps := 9000000) -implicitDefEqProofs -dsimp (disch := omega) only [go_sem, g56_0, g56_1, g56_2, g56_3, g56_4, g56_5, g56_6, g56_7, g56_8, g56_9, g56_10, g56_11, g56_12, g56_13, g56_14, g56_15, g56_16, g56_17, g56_18, g56_19, i56, lt_T, lt_F, le_T, le_F, eq_T, eq_F, and_F, b1, b2, b3, Nat.reduceEqDiff, Nat.reduceAdd, Nat.reduceMul, Nat.reduceLeDiff, Nat.reduceBEq, Nat.reduceBNe, Int.reduceEq, ↓reduceIte, reduceCtorEq]
                refine ⟨⟨by omega, fun j hj => ?_⟩, (imp_sub (by simp (maxSteps := 9000000) -implicitDefEqProofs -dsimp (disch := omega) only [go_sem, g56_0, g56_1, g56_2, g56_3, g56_4, g56_5, g56_6, g56_7, g56_8, g56_9, g56_10, g56_11, g56_12, g56_13, g56_14, g56_15, g56_16, g56_17, g56_18, g56_19, i56, Nat.reduceEqDiff, Nat.reduceAdd, Nat.reduceMul, Nat.reduceLeDiff, Nat.reduceBEq, Nat.reduceBNe, Int.reduceEq, ↓reduceIte, reduceCtorEq]) (by simp (maxSteps := 9000000) -implicitDefEqProofs -dsimp (disch := omega) only [go_sem, g56_0, g56_1, g56_2, g56_3, g56_4, g56_5, g56_6, g56_7, g56_8, g56_9, g56_10, g56_11, g56_12, g56_13, g56_14, g56_15, g56_16, g56_17, g56_18, g56_19, i56, Nat.reduceEqDiff, Nat.reduceAdd, Nat.reduceMul, Nat.reduceLeDiff, Nat.reduceBEq, Nat.reduceBNe, Int.reduceEq, ↓reduceIte, reduceCtorEq]) rfl)⟩
                by_cases e : j = i
                · subst e; exact ⟨hall, by omega, fun _ => by omega⟩
                · exact hJ j (by omega)
            | false =>
              simp (maxSteps := 9000000) -implicitDefEqProofs -dsimp (disch := omega) only [go_sem, g56_0, g56_1, g56_2, g56_3, g56_4, g56_5, g56_6, g56_7, g56_8, g56_9, g56_10, g56_11, g56_12, g56_13, g56_14, g56_15, g56_16, g56_17, g56_18, g56_19, i56, lt_T, lt_F, le_T, le_F, eq_T, eq_F, and_F, b1, b2, Nat.reduceEqDiff, Nat.reduceAdd, Nat.reduceMul, Nat.reduceLeDiff, Nat.reduceBEq, Nat.reduceBNe, Int.reduceEq, ↓reduceIte, reduceCtorEq]
              refine ⟨⟨by omega, fun j hj => ?_⟩, (imp_sub (by simp (maxSteps := 9000000) -implicitDefEqProofs -dsimp (disch := omega) only [go_sem, g56_0, g56_1, g56_2, g56_3, g56_4, g56_5, g56_6, g56_7, g56_8, g56_9, g56_10, g56_11, g56_12, g56_13, g56_14, g56_15, g56_16, g56_17, g56_18, g56_19, i56, Nat.reduceEqDiff, Nat.reduceAdd, Nat.reduceMul, Nat.reduceLeDiff, Nat.reduceBEq, Nat.reduceBNe, Int.reduceEq, ↓reduceIte, reduceCtorEq]) (by simp (maxSteps := 9000000) -implicitDefEqProofs -dsimp (disch := omega) only [go_sem, g56_0, g56_1, g56_2, g56_3, g56_4, g56_5, g56_6, g56_7, g56_8, g56_9, g56_10, g56_11, g56_12, g56_13, g56_14, g56_15, g56_16, g56_17, g56_18, g56_19, i56, Nat.reduceEqDiff, Nat.reduceAdd, Nat.reduceMul, Nat.reduceLeDiff, Nat.reduceBEq, Nat.reduceBNe, Int.reduceEq, ↓reduceIte, reduceCtorEq]) rfl)⟩
              by_cases e : j = i
              · subst e; exact ⟨hall, by omega, fun q => by rw [b2] at q; simp at q⟩
              · exact hJ j (by omega)
    · have hi2 : i = n.length := by omega
      subst hi2
      simp (maxSteps := 9000000) -implicitDefEqProofs -dsimp (disch := omega) only [go_sem, g56_0, g56_1, g56_2, g56_3, g56_4, g56_5, g56_6, g56_7, g56_8, g56_9, g56_10, g56_11, g56_12, g56_13, g56_14, g56_15, g56_16, g56_17, g56_18, g56_19, i56, Nat.reduceEqDiff, Nat.reduceAdd, Nat.reduceMul, Nat.reduceLeDiff, Nat.reduceBEq, Nat.reduceBNe, Int.reduceEq, ↓reduceIte, reduceCtorEq]
      refine loop_n r.length (fun t => ⟨[(57, .w (.one (.int .i64 (t : Nat)))), (56, .w (.one (.int .i64 r.length))), (55, .w (.one (.hs 1 [] 0 1 r.length))), (4, .w (.one (.bool false))), (0, .w (.one (.hs 0 [] 0 2 n.length))), (1, .w (.one (.hs 1 [] 0 1 r.length)))], [(1, (.sl false 1 r.length (r.map (T.int .i64)))), (0, .sl false 2 n.length (ndR n))], [.one (.hs 0 [] 0 2 n.length), .one (.hs 1 [] 0 1 r.length)]⟩) (fun t => ∀ j, j < t → HoldOk n n.length (r.getD j default)) ?_ (by omega) ?_
      · exact (imp_sub (by simp (maxSteps := 9000000) -implicitDefEqProofs -dsimp (disch := omega) only [go_sem, g56_0, g56_1, g56_2, g56_3, g56_4, g56_5, g56_6, g56_7, g56_8, g56_9, g56_10, g56_11, g56_12, g56_13, g56_14, g56_15, g56_16, g56_17, g56_18, g56_19, i56, Nat.reduceEqDiff, Nat.reduceAdd, Nat.reduceMul, Nat.reduceLeDiff, Nat.reduceBEq, Nat.reduceBNe, Int.reduceEq, ↓reduceIte, reduceCtorEq]) (by simp (maxSteps := 9000000) -implicitDefEqProofs -dsimp (disch := omega) only [go_sem, g56_0, g56_1, g56_2, g56_3, g56_4, g56_5, g56_6, g56_7, g56_8, g56_9, g56_10, g56_11, g56_12, g56_13, g56_14, g56_15, g56_16, g56_17, g56_18, g56_19, i56, Nat.reduceEqDiff, Nat.reduceAdd, Nat.reduceMul, Nat.reduceLeDiff, Nat.reduceBEq, Nat.reduceBNe, Int.reduceEq, ↓reduceIte, reduceCtorEq]) rfl)
      · intro t ht hK
        simp (maxSteps := 9000000) -implicitDefEqProofs -dsimp (disch := omega) only [go_sem, g56_0, g56_1, g56_2, g56_3, g56_4, g56_5, g56_6, g56_7, g56_8, g56_9, g56_10, g56_11, g56_12, g56_13, g56_14, g56_15, g56_16, g56_17, g56_18, g56_19, i56, Nat.reduceEqDiff, Nat.reduceAdd, Nat.reduceMul, Nat.reduceLeDiff, Nat.reduceBEq, Nat.reduceBNe, Int.reduceEq, ↓reduceIte, reduceCtorEq]
        refine brP_i (fun h2 => ?_) (fun h2 => ?_)
        · have ht2 : t < r.length := by omega
          have hbad : ¬ HoldOk n n.length (r.getD t default) → ¬ NodesOk n r := fun hb q => hb (q.2.1 _ (getD_mem ht2))
          generalize hy : r.getD t default = y at hbad
          by_cases a1 : y < 0
          · simp (maxSteps := 9000000) -implicitDefEqProofs -dsimp (disch := omega) only [go_sem, g56_0, g56_1, g56_2, g56_3, g56_4, g56_5, g56_6, g56_7, g56_8, g56_9, g56_10, g56_11, g56_12, g56_13, g56_14, g56_15, g56_16, g56_17, g56_18, g56_19, i56, lt_T, lt_F, le_T, le_F, eq_T, eq_F, and_F, hy, a1, Nat.reduceEqDiff, Nat.reduceAdd, Nat.reduceMul, Nat.reduceLeDiff, Nat.reduceBEq, Nat.reduceBNe, Int.reduceEq, ↓reduceIte, reduceCtorEq]
            exact need_i (res_F (hbad fun q => by have := q.1; omega)) (by simp (maxSteps := 9000000) -implicitDefEqProofs -dsimp (disch := omega) only [go_sem, g56_0, g56_1, g56_2, g56_3, g56_4, g56_5, g56_6, g56_7, g56_8, g56_9, g56_10, g56_11, g56_12, g56_13, g56_14, g56_15, g56_16, g56_17, g56_18, g56_19, i56, Nat.reduceEqDiff, Nat.reduceAdd, Nat.reduceMul, Nat.reduceLeDiff, Nat.reduceBEq, Nat.reduceBNe, Int.reduceEq, ↓reduceIte, reduceCtorEq])
          · by_cases a2 : (n.length : Int) ≤ y
            · simp (maxSteps := 9000000) -implicitDefEqProofs -dsimp (disch := omega) only [go_sem, g56_0, g56_1, g56_2, g56_3, g56_4, g56_5, g56_6, g56_7, g56_8, g56_9, g56_10, g56_11, g56_12, g56_13, g56_14, g56_15, g56_16, g56_17, g56_18, g56_19, i56, lt_T, lt_F, le_T, le_F, eq_T, eq_F, and_F, hy, a1, a2, Nat.reduceEqDiff, Nat.reduceAdd, Nat.reduceMul, Nat.reduceLeDiff, Nat.reduceBEq, Nat.reduceBNe, Int.reduceEq, ↓reduceIte, reduceCtorEq]
              exact need_i (res_F (hbad fun q => by have := q.2.1; omega)) (by simp (maxSteps := 9000000) -implicitDefEqProofs -dsimp (disch := omega) only [go_sem, g56_0, g56_1, g56_2, g56_3, g56_4, g56_5, g56_6, g56_7, g56_8, g56_9, g56_10, g56_11, g56_12, g56_13, g56_14, g56_15, g56_16, g56_17, g56_18, g56_19, i56, Nat.reduceEqDiff, Nat.reduceAdd, Nat.reduceMul, Nat.reduceLeDiff, Nat.reduceBEq, Nat.reduceBNe, Int.reduceEq, ↓reduceIte, reduceCtorEq])
            · have a3 : y.toNat < n.length := by omega
              have a4 : (y.toNat : Int) = y := Int.toNat_of_nonneg (by omega)
              cases a5 : (n.getD y.toNat default).g with
              | true =>
                simp (maxSteps := 9000000) -implicitDefEqProofs -dsimp (disch := omega) only [go_sem, g56_0, g56_1, g56_2, g56_3, g56_4, g56_5, g56_6, g56_7, g56_8, g56_9, g56_10, g56_11, g56_12, g56_13, g56_14, g56_15, g56_16, g56_17, g56_18, g56_19, i56, lt_T, lt_F, le_T, le_F, eq_T, eq_F, and_F, hy, a1, a2, ndR_1 a3, a5, Nat.reduceEqDiff, Nat.reduceAdd, Nat.reduceMul, Nat.reduceLeDiff, Nat.reduceBEq, Nat.reduceBNe, Int.reduceEq, ↓reduceIte, reduceCtorEq]
                exact need_i (res_F (hbad fun q => by rw [q.2.2] at a5; simp at a5)) (by simp (maxSteps := 9000000) -implicitDefEqProofs -dsimp (disch := omega) only [go_sem, g56_0, g56_1, g56_2, g56_3, g56_4, g56_5, g56_6, g56_7, g56_8, g56_9, g56_10, g56_11, g56_12, g56_13, g56_14, g56_15, g56_16, g56_17, g56_18, g56_19, i56, Nat.reduceEqDiff, Nat.reduceAdd, Nat.reduceMul, Nat.reduceLeDiff, Nat.reduceBEq, Nat.reduceBNe, Int.reduceEq, ↓reduceIte, reduceCtorEq])
              | false =>
                simp (maxSteps := 9000000) -implicitDefEqProofs -dsimp (disch := omega) only [go_sem, g56_0, g56_1, g56_2, g56_3, g56_4, g56_5, g56_6, g56_7, g56_8, g56_9, g56_10, g56_11, g56_12, g56_13, g56_14, g56_15, g56_16, g56_17, g56_18, g56_19, i56, lt_T, lt_F, le_T, le_F, eq_T, eq_F, and_F, hy, a1, a2, ndR_1 a3, a5, Nat.reduceEqDiff, Nat.reduceAdd, Nat.reduceMul, Nat.reduceLeDiff, Nat.reduceBEq, Nat.reduceBNe, Int.reduceEq, ↓reduceIte, reduceCtorEq]
                refine ⟨⟨by omega, fun j hj => ?_⟩, (imp_sub (by simp (maxSteps := 9000000) -implicitDefEqProofs -dsimp (disch := omega) only [go_sem, g56_0, g56_1, g56_2, g56_3, g56_4, g56_5, g56_6, g56_7, g56_8, g56_9, g56_10, g56_11, g56_12, g56_13, g56_14, g56_15, g56_16, g56_17, g56_18, g56_19, i56, Nat.reduceEqDiff, Nat.reduceAdd, Nat.reduceMul, Nat.reduceLeDiff, Nat.reduceBEq, Nat.reduceBNe, Int.reduceEq, ↓reduceIte, reduceCtorEq]) (by simp (maxSteps := 9000000) -implicitDefEqProofs -dsimp (disch := omega) only [go_sem, g56_0, g56_1, g56_2, g56_3, g56_4, g56_5, g56_6, g56_7, g56_8, g56_9, g56_10, g56_11, g56_12, g56_13, g56_14, g56_15, g56_16, g56_17, g56_18, g56_19, i56, Nat.reduceEqDiff, Nat.reduceAdd, Nat.reduceMul, Nat.reduceLeDiff, Nat.reduceBEq, Nat.reduceBNe, Int.reduceEq, ↓reduceIte, reduceCtorEq]) rfl)⟩
                by_cases e : j = t
                · subst e; rw [hy]; exact ⟨by omega, by omega, a5⟩
                · exact hK j (by omega)
        · have te : t = r.length := by omega
          have hall := mem_take hK te
          by_cases b1 : (n.length : Int) ≤ 14
          · by_cases b2 : (r.length : Int) ≤ 6
            · simp (maxSteps := 9000000) -implicitDefEqProofs -dsimp (disch := omega) only [go_sem, g56_0, g56_1, g56_2, g56_3, g56_4, g56_5, g56_6, g56_7, g56_8, g56_9, g56_10, g56_11, g56_12, g56_13, g56_14, g56_15, g56_16, g56_17, g56_18, g56_19, i56, lt_T, lt_F, le_T, le_F, eq_T, eq_F, and_F, b1, b2, Nat.reduceEqDiff, Nat.reduceAdd, Nat.reduceMul, Nat.reduceLeDiff, Nat.reduceBEq, Nat.reduceBNe, Int.reduceEq, ↓reduceIte, reduceCtorEq]
              exact need_i (res_T ⟨hJ, hall, by omega, by omega⟩) (by simp (maxSteps := 9000000) -implicitDefEqProofs -dsimp (disch := omega) only [go_sem, g56_0, g56_1, g56_2, g56_3, g56_4, g56_5, g56_6, g56_7, g56_8, g56_9, g56_10, g56_11, g56_12, g56_13, g56_14, g56_15, g56_16, g56_17, g56_18, g56_19, i56, Nat.reduceEqDiff, Nat.reduceAdd, Nat.reduceMul, Nat.reduceLeDiff, Nat.reduceBEq, Nat.reduceBNe, Int.reduceEq, ↓reduceIte, reduceCtorEq])
            · simp (maxSteps := 9000000) -implicitDefEqProofs -dsimp (disch := omega) only [go_sem, g56_0, g56_1, g56_2, g56_3, g56_4, g56_5, g56_6, g56_7, g56_8, g56_9, g56_10, g56_11, g56_12, g56_13, g56_14, g56_15, g56_16, g56_17, g56_18, g56_19, i56, lt_T, lt_F, le_T, le_F, eq_T, eq_F, and_F, b1, b2, Nat.reduceEqDiff, Nat.reduceAdd, Nat.reduceMul, Nat.reduceLeDiff, Nat.reduceBEq, Nat.reduceBNe, Int.reduceEq, ↓reduceIte, reduceCtorEq]
              exact need_i (res_F (fun q => by have := q.2.2.2; omega)) (by simp (maxSteps := 9000000) -implicitDefEqProofs -dsimp (disch := omega) only [go_sem, g56_0, g56_1, g56_2, g56_3, g56_4, g56_5, g56_6, g56_7, g56_8, g56_9, g56_10, g56_11, g56_12, g56_13, g56_14, g56_15, g56_16, g56_17, g56_18, g56_19, i56, Nat.reduceEqDiff, Nat.reduceAdd, Nat.reduceMul, Nat.reduceLeDiff, Nat.reduceBEq, Nat.reduceBNe, Int.reduceEq, ↓reduceIte, reduceCtorEq])
          · simp (maxSteps := 9000000) -implicitDefEqProofs -dsimp (disch := omega) only [go_sem, g56_0, g56_1, g56_2, g56_3, g56_4, g56_5, g56_6, g56_7, g56_8, g56_9, g56_10, g56_11, g56_12, g56_13, g56_14, g56_15, g56_16, g56_17, g56_18, g56_19, i56, lt_T, lt_F, le_T, le_F, eq_T, eq_F, and_F, b1, Nat.reduceEqDiff, Nat.reduceAdd, Nat.reduceMul, Nat.reduceLeDiff, Nat.reduceBEq, Nat.reduceBNe, Int.reduceEq, ↓reduceIte, reduceCtorEq]
            exact need_i (res_F (fun q => by have := q.2.2.1; omega)) (by simp (maxSteps := 9000000) -implicitDefEqProofs -dsimp (disch := omega) only [go_sem, g56_0, g56_1, g56_2, g56_3, g56_4, g56_5, g56_6, g56_7, g56_8, g56_9, g56_10, g56_11, g56_12, g56_13, g56_14, g56_15, g56_16, g56_17, g56_18, g56_19, i56, Nat.reduceEqDiff, Nat.reduceAdd, Nat.reduceMul, Nat.reduceLeDiff, Nat.reduceBEq, Nat.reduceBNe, Int.reduceEq, ↓reduceIte, reduceCtorEq])
end Go.Proofs.YtdhclelfnbjikaaT
