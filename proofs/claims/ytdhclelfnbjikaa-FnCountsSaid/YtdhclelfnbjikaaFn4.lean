/- Functions of the program, each with what it returns and leaves. No condition. -/
import Derived.Test.YtdhclelfnbjikaaFn3
import Derived.Test.YtdhclelfnbjikaaTree8
set_option linter.all false
set_option linter.unusedVariables false
set_option linter.unusedSimpArgs false
set_option linter.unusedSectionVars false
set_option linter.unnecessarySimpa false
set_option linter.deprecated false
/- Functions of the program as contracts: what the drawn laws of graphs ask, and numbers in order. No condition. -/
set_option maxRecDepth 100000
set_option maxHeartbeats 8000000
set_option linter.unusedSimpArgs false
set_option linter.unusedVariables false
namespace Go.Proofs.YtdhclelfnbjikaaT
open Go
def g46_0 : List Gop := [⟨none, (some 4), (.mov (.k (.one (.bool .false))))⟩]
def g46_1 : List Gop := [⟨none, (some 6), (.mov (.t 0))⟩, ⟨none, (some 7), (.len (.t 6))⟩, ⟨none, (some 8), (.mov (.t 1))⟩, ⟨none, (some 9), (.len (.t 8))⟩, ⟨none, (some 10), (.bin .neq (.t 7) (.t 9))⟩]
def g46_2 : List Gop := [⟨none, (some 4), (.mov (.k (.one (.bool .false))))⟩]
def g46_3 : List Gop := [⟨none, (some 11), (.mov (.t 0))⟩, ⟨none, (some 12), (.len (.t 11))⟩, ⟨none, (some 13), (.mov (.k (.one (.int .i64 0))))⟩]
def g46_4 : List Gop := [⟨none, (some 14), (.bin .lss (.t 13) (.t 12))⟩]
def g46_5 : List Gop := [⟨none, (some 15), (.mov (.t 13))⟩, ⟨none, (some 5), (.mov (.t 15))⟩]
def g46_6 : List Gop := [⟨none, (some 16), (.mov (.t 0))⟩, ⟨none, (some 17), (.mov (.t 5))⟩, ⟨none, (some 18), (.iaddr 1 (.t 16) (.t 17))⟩, ⟨none, (some 19), (.load none (.t 18))⟩, ⟨none, (some 20), (.mov (.t 1))⟩, ⟨none, (some 21), (.mov (.t 5))⟩, ⟨none, (some 22), (.iaddr 1 (.t 20) (.t 21))⟩, ⟨none, (some 23), (.load none (.t 22))⟩, ⟨none, (some 24), (.bin .neq (.t 19) (.t 23))⟩]
def a46_6 : List (List Nat) := [[], [], [0, 1], [0, 1, 2], [], [], [4, 5], [4, 5, 6], [0, 1, 2, 3, 4, 5, 6, 7]]
def n46_6 : Nat := 8 -- of 9
def g46_7 : List Gop := [⟨none, (some 4), (.mov (.k (.one (.bool .false))))⟩]
def g46_8 : List Gop := [⟨none, (some 25), (.bin .add (.t 13) (.k (.one (.int .i64 1))))⟩, ⟨none, (some 13), (.mov (.t 25))⟩]
def g46_9 : List Gop := [⟨none, (some 4), (.mov (.k (.one (.bool .true))))⟩]
def i46 : Ir := (.seq (.region g46_0) (.seq (.seq (.region g46_1) (.cond (.t 10) (.seq (.region g46_2) .ret) .skip)) (.seq (.seq (.region g46_3) (.block 0 (.loop (.seq (.region g46_4) (.seq (.cond (.t 14) .skip (.exit 0)) (.seq (.block 1 (.seq (.region g46_5) (.seq (.draw [[], [], [0, 1], [2], [], [], [4, 5], [6], [3, 7]] g46_6) (.cond (.t 24) (.seq (.region g46_7) .ret) .skip)))) (.region g46_8))))))) (.seq (.region g46_9) .ret))))
theorem sameInts_ok (a b : List Int) (ha : a.length ≤ 9223372036854775807) : Meets Try.prog 46 [.one (.sl false 1 a.length (a.map (T.int .i64))), .one (.sl false 1 b.length (b.map (T.int .i64)))] (.w (.one (.bool (decide (a = b))))) [.one .hole, .one .hole] := by
  refine meets_go (ir := i46) (fn := Try.f46) (rx := [(.tmp 4)]) rfl rfl (by rfl) (by rfl) (by exact Nat.le_of_ble_eq_true rfl) ?_
  simp (maxSteps := 9000000) -implicitDefEqProofs -dsimp (disch := omega) only [go_sem, g46_0, g46_1, g46_2, g46_3, g46_4, g46_5, g46_6, a46_6, n46_6, g46_7, g46_8, g46_9, i46, Nat.reduceEqDiff, Nat.reduceAdd, Nat.reduceMul, Nat.reduceLeDiff, Nat.reduceBEq, Nat.reduceBNe, Int.reduceEq, ↓reduceIte, reduceCtorEq]
  refine brP_i (fun h => ?_) (fun h => ?_)
  · have h' : b.length = a.length := by omega
    simp (maxSteps := 9000000) -implicitDefEqProofs -dsimp (disch := omega) only [go_sem, Nat.reduceEqDiff, Nat.reduceAdd, Nat.reduceMul, Nat.reduceLeDiff, Nat.reduceBEq, Nat.reduceBNe, Int.reduceEq, ↓reduceIte, reduceCtorEq]
    refine loop_n a.length (fun i => ⟨[(13, .w (.one (.int .i64 (i : Nat)))), (12, .w (.one (.int .i64 a.length))), (1, .w (.one (.hs 1 [] 0 1 b.length))), (0, .w (.one (.hs 0 [] 0 1 a.length)))], [(1, (.sl false 1 b.length (b.map (T.int .i64)))), (0, (.sl false 1 a.length (a.map (T.int .i64))))], [.one (.hs 0 [] 0 1 a.length), .one (.hs 1 [] 0 1 b.length)]⟩) (fun i => a.take i = b.take i) ?_ ?_ ?_
    · exact (imp_sub (by simp (maxSteps := 9000000) -implicitDefEqProofs -dsimp (disch := omega) only [go_sem, Nat.reduceEqDiff, Nat.reduceAdd, Nat.reduceMul, Nat.reduceLeDiff, Nat.reduceBEq, Nat.reduceBNe, Int.reduceEq, ↓reduceIte, reduceCtorEq]) (by simp (maxSteps := 9000000) -implicitDefEqProofs -dsimp (disch := omega) only [go_sem, Nat.reduceEqDiff, Nat.reduceAdd, Nat.reduceMul, Nat.reduceLeDiff, Nat.reduceBEq, Nat.reduceBNe, Int.reduceEq, ↓reduceIte, reduceCtorEq]) rfl)
    · simp
    · intro i hi hJ
      simp (maxSteps := 9000000) -implicitDefEqProofs -dsimp (disch := omega) only [go_sem, Nat.reduceEqDiff, Nat.reduceAdd, Nat.reduceMul, Nat.reduceLeDiff, Nat.reduceBEq, Nat.reduceBNe, Int.reduceEq, ↓reduceIte, reduceCtorEq]
      refine brP_i (fun h2 => ?_) (fun h2 => ?_)
      · simp (maxSteps := 9000000) -implicitDefEqProofs -dsimp (disch := omega) only [go_sem, Nat.reduceEqDiff, Nat.reduceAdd, Nat.reduceMul, Nat.reduceLeDiff, Nat.reduceBEq, Nat.reduceBNe, Int.reduceEq, ↓reduceIte, reduceCtorEq]
        refine draw_go n46_6 a46_6 (by decide +kernel) ?_
        simp (maxSteps := 9000000) -implicitDefEqProofs -dsimp (disch := omega) only [go_sem, n46_6, a46_6, Nat.reduceEqDiff, Nat.reduceAdd, Nat.reduceMul, Nat.reduceLeDiff, Nat.reduceBEq, Nat.reduceBNe, Int.reduceEq, ↓reduceIte, reduceCtorEq]
        refine brP_i (fun h3 => ?_) (fun h3 => ?_)
        · simp (maxSteps := 9000000) -implicitDefEqProofs -dsimp (disch := omega) only [go_sem, n46_6, a46_6, Nat.reduceEqDiff, Nat.reduceAdd, Nat.reduceMul, Nat.reduceLeDiff, Nat.reduceBEq, Nat.reduceBNe, Int.reduceEq, ↓reduceIte, reduceCtorEq]
          exact ⟨⟨by omega, take_eq_succ (by omega) (by omega) hJ h3⟩, (imp_sub (by simp (maxSteps := 9000000) -implicitDefEqProofs -dsimp (disch := omega) only [go_sem, n46_6, a46_6, Nat.reduceEqDiff, Nat.reduceAdd, Nat.reduceMul, Nat.reduceLeDiff, Nat.reduceBEq, Nat.reduceBNe, Int.reduceEq, ↓reduceIte, reduceCtorEq]) (by simp (maxSteps := 9000000) -implicitDefEqProofs -dsimp (disch := omega) only [go_sem, n46_6, a46_6, Nat.reduceEqDiff, Nat.reduceAdd, Nat.reduceMul, Nat.reduceLeDiff, Nat.reduceBEq, Nat.reduceBNe, Int.reduceEq, ↓reduceIte, reduceCtorEq]) rfl)⟩
        · simp (maxSteps := 9000000) -implicitDefEqProofs -dsimp (disch := omega) only [go_sem, n46_6, a46_6, Nat.reduceEqDiff, Nat.reduceAdd, Nat.reduceMul, Nat.reduceLeDiff, Nat.reduceBEq, Nat.reduceBNe, Int.reduceEq, ↓reduceIte, reduceCtorEq]
          exact need_i (by simp [show a ≠ b from fun e => h3 (by rw [e])]) (by simp (maxSteps := 9000000) -implicitDefEqProofs -dsimp (disch := omega) only [go_sem, n46_6, a46_6, Nat.reduceEqDiff, Nat.reduceAdd, Nat.reduceMul, Nat.reduceLeDiff, Nat.reduceBEq, Nat.reduceBNe, Int.reduceEq, ↓reduceIte, reduceCtorEq])
      · simp (maxSteps := 9000000) -implicitDefEqProofs -dsimp (disch := omega) only [go_sem, n46_6, a46_6, Nat.reduceEqDiff, Nat.reduceAdd, Nat.reduceMul, Nat.reduceLeDiff, Nat.reduceBEq, Nat.reduceBNe, Int.reduceEq, ↓reduceIte, reduceCtorEq]
        exact need_i (by simp [eq_of_take hJ (by omega) (by omega)]) (by simp (maxSteps := 9000000) -implicitDefEqProofs -dsimp (disch := omega) only [go_sem, n46_6, a46_6, Nat.reduceEqDiff, Nat.reduceAdd, Nat.reduceMul, Nat.reduceLeDiff, Nat.reduceBEq, Nat.reduceBNe, Int.reduceEq, ↓reduceIte, reduceCtorEq])
  · simp (maxSteps := 9000000) -implicitDefEqProofs -dsimp (disch := omega) only [go_sem, n46_6, a46_6, Nat.reduceEqDiff, Nat.reduceAdd, Nat.reduceMul, Nat.reduceLeDiff, Nat.reduceBEq, Nat.reduceBNe, Int.reduceEq, ↓reduceIte, reduceCtorEq]
    exact need_i (by simp [show a ≠ b from fun e => h (by rw [e])]) (by simp (maxSteps := 9000000) -implicitDefEqProofs -dsimp (disch := omega) only [go_sem, n46_6, a46_6, Nat.reduceEqDiff, Nat.reduceAdd, Nat.reduceMul, Nat.reduceLeDiff, Nat.reduceBEq, Nat.reduceBNe, Int.reduceEq, ↓reduceIte, reduceCtorEq])
def g48_0 : List Gop := [⟨none, (some 4), (.mov (.k (.one (.bool .false))))⟩]
def g48_1 : List Gop := [⟨none, (some 7), (.mov (.t 0))⟩, ⟨none, (some 8), (.len (.t 7))⟩, ⟨none, (some 9), (.mov (.k (.one (.int .i64 0))))⟩]
def g48_2 : List Gop := [⟨none, (some 10), (.bin .lss (.t 9) (.t 8))⟩]
def g48_3 : List Gop := [⟨none, (some 11), (.iaddr 1 (.t 7) (.t 9))⟩, ⟨none, (some 12), (.load none (.t 11))⟩, ⟨none, (some 6), (.mov (.t 12))⟩]
def g48_4 : List Gop := [⟨none, (some 13), (.mov (.t 6))⟩, ⟨none, (some 14), (.mov (.t 1))⟩, ⟨none, (some 15), (.bin .eql (.t 13) (.t 14))⟩]
def g48_5 : List Gop := [⟨none, (some 4), (.mov (.k (.one (.bool .true))))⟩]
def g48_6 : List Gop := [⟨none, (some 16), (.bin .add (.t 9) (.k (.one (.int .i64 1))))⟩, ⟨none, (some 9), (.mov (.t 16))⟩]
def g48_7 : List Gop := [⟨none, (some 4), (.mov (.k (.one (.bool .false))))⟩]
def i48 : Ir := (.seq (.region g48_0) (.seq (.seq (.region g48_1) (.block 0 (.loop (.seq (.region g48_2) (.seq (.cond (.t 10) .skip (.exit 0)) (.seq (.block 1 (.seq (.region g48_3) (.seq (.region g48_4) (.cond (.t 15) (.seq (.region g48_5) .ret) .skip)))) (.region g48_6))))))) (.seq (.region g48_7) .ret)))
theorem has_ok (l : List Int) (x : Int) (hl : l.length ≤ 9223372036854775807) : Meets Try.prog 48 [.one (.sl false 1 l.length (l.map (T.int .i64))), .one (.int .i64 x)] (.w (.one (.bool (decide (x ∈ l))))) [.one .hole, .one .hole] := by
  refine meets_go (ir := i48) (fn := Try.f48) (rx := [(.tmp 4)]) rfl rfl (by rfl) (by rfl) (by exact Nat.le_of_ble_eq_true rfl) ?_
  simp (maxSteps := 9000000) -implicitDefEqProofs -dsimp (disch := omega) only [go_sem, g48_0, g48_1, g48_2, g48_3, g48_4, g48_5, g48_6, g48_7, i48, Nat.reduceEqDiff, Nat.reduceAdd, Nat.reduceMul, Nat.reduceLeDiff, Nat.reduceBEq, Nat.reduceBNe, Int.reduceEq, ↓reduceIte, reduceCtorEq]
  refine loop_n l.length (fun i => ⟨[(9, .w (.one (.int .i64 (i : Nat)))), (8, .w (.one (.int .i64 l.length))), (7, .w (.one (.hs 0 [] 0 1 l.length))), (4, .w (.one (.bool false))), (1, .w (.one (.int .i64 x)))], [(0, (.sl false 1 l.length (l.map (T.int .i64))))], [.one (.hs 0 [] 0 1 l.length), .one (.int .i64 x)]⟩) (fun i => ∀ j, j < i → l.getD j 0 ≠ x) ?_ ?_ ?_
  · exact (imp_sub (by simp (maxSteps := 9000000) -implicitDefEqProofs -dsimp (disch := omega) only [go_sem, Nat.reduceEqDiff, Nat.reduceAdd, Nat.reduceMul, Nat.reduceLeDiff, Nat.reduceBEq, Nat.reduceBNe, Int.reduceEq, ↓reduceIte, reduceCtorEq]) (by simp (maxSteps := 9000000) -implicitDefEqProofs -dsimp (disch := omega) only [go_sem, Nat.reduceEqDiff, Nat.reduceAdd, Nat.reduceMul, Nat.reduceLeDiff, Nat.reduceBEq, Nat.reduceBNe, Int.reduceEq, ↓reduceIte, reduceCtorEq]) rfl)
  · intro j hj; omega
  · intro i hi hJ
    simp (maxSteps := 9000000) -implicitDefEqProofs -dsimp (disch := omega) only [go_sem, Nat.reduceEqDiff, Nat.reduceAdd, Nat.reduceMul, Nat.reduceLeDiff, Nat.reduceBEq, Nat.reduceBNe, Int.reduceEq, ↓reduceIte, reduceCtorEq]
    refine brP_i (fun h => ?_) (fun h => ?_)
    · simp (maxSteps := 9000000) -implicitDefEqProofs -dsimp (disch := omega) only [go_sem, Nat.reduceEqDiff, Nat.reduceAdd, Nat.reduceMul, Nat.reduceLeDiff, Nat.reduceBEq, Nat.reduceBNe, Int.reduceEq, ↓reduceIte, reduceCtorEq]
      refine brP_i (fun h2 => ?_) (fun h2 => ?_)
      · simp (maxSteps := 9000000) -implicitDefEqProofs -dsimp (disch := omega) only [go_sem, Nat.reduceEqDiff, Nat.reduceAdd, Nat.reduceMul, Nat.reduceLeDiff, Nat.reduceBEq, Nat.reduceBNe, Int.reduceEq, ↓reduceIte, reduceCtorEq]
        have : x ∈ l := by
          rw [List.getD_eq_getElem?_getD, List.getElem?_eq_getElem (by omega)] at h2
          exact h2 ▸ List.getElem_mem _
        exact need_i (by simp [this]) (by simp (maxSteps := 9000000) -implicitDefEqProofs -dsimp (disch := omega) only [go_sem, Nat.reduceEqDiff, Nat.reduceAdd, Nat.reduceMul, Nat.reduceLeDiff, Nat.reduceBEq, Nat.reduceBNe, Int.reduceEq, ↓reduceIte, reduceCtorEq])
      · simp (maxSteps := 9000000) -implicitDefEqProofs -dsimp (disch := omega) only [go_sem, Nat.reduceEqDiff, Nat.reduceAdd, Nat.reduceMul, Nat.reduceLeDiff, Nat.reduceBEq, Nat.reduceBNe, Int.reduceEq, ↓reduceIte, reduceCtorEq]
        refine ⟨⟨by omega, fun j hj => ?_⟩, (imp_sub (by simp (maxSteps := 9000000) -implicitDefEqProofs -dsimp (disch := omega) only [go_sem, Nat.reduceEqDiff, Nat.reduceAdd, Nat.reduceMul, Nat.reduceLeDiff, Nat.reduceBEq, Nat.reduceBNe, Int.reduceEq, ↓reduceIte, reduceCtorEq]) (by simp (maxSteps := 9000000) -implicitDefEqProofs -dsimp (disch := omega) only [go_sem, Nat.reduceEqDiff, Nat.reduceAdd, Nat.reduceMul, Nat.reduceLeDiff, Nat.reduceBEq, Nat.reduceBNe, Int.reduceEq, ↓reduceIte, reduceCtorEq]) rfl)⟩
        by_cases hji : j = i
        · subst hji; exact h2
        · exact hJ j (by omega)
    · simp (maxSteps := 9000000) -implicitDefEqProofs -dsimp (disch := omega) only [go_sem, Nat.reduceEqDiff, Nat.reduceAdd, Nat.reduceMul, Nat.reduceLeDiff, Nat.reduceBEq, Nat.reduceBNe, Int.reduceEq, ↓reduceIte, reduceCtorEq]
      have : x ∉ l := fun hm => by
        obtain ⟨j, hj, rfl⟩ := List.getElem_of_mem hm
        exact hJ j (by omega) (by rw [List.getD_eq_getElem?_getD, List.getElem?_eq_getElem hj]; rfl)
      exact need_i (by simp [this]) (by simp (maxSteps := 9000000) -implicitDefEqProofs -dsimp (disch := omega) only [go_sem, Nat.reduceEqDiff, Nat.reduceAdd, Nat.reduceMul, Nat.reduceLeDiff, Nat.reduceBEq, Nat.reduceBNe, Int.reduceEq, ↓reduceIte, reduceCtorEq])
def g47_0 : List Gop := [⟨none, (some 2), (.box (.t 0))⟩, ⟨none, (some 3), (.box (.t 1))⟩, ⟨none, (some 4), (.mov (.k (.one (.bool .false))))⟩]
def g47_1 : List Gop := [⟨none, (some 6), (.faddr (.t 2) 1)⟩, ⟨none, (some 7), (.load none (.t 6))⟩, ⟨none, (some 8), (.faddr (.t 3) 1)⟩, ⟨none, (some 9), (.load none (.t 8))⟩, ⟨none, (some 10), (.call 46 [(.t 7), (.t 9)])⟩, ⟨none, (some 11), (.un .not (.t 10))⟩, ⟨none, (some 12), (.mov (.t 11))⟩, ⟨(some (12, .false)), (some 13), (.faddr (.t 2) 2)⟩, ⟨(some (12, .false)), (some 14), (.load none (.t 13))⟩, ⟨(some (12, .false)), (some 15), (.faddr (.t 3) 2)⟩, ⟨(some (12, .false)), (some 16), (.load none (.t 15))⟩, ⟨(some (12, .false)), (some 17), (.call 46 [(.t 14), (.t 16)])⟩, ⟨(some (12, .false)), (some 18), (.un .not (.t 17))⟩, ⟨none, (some 19), (.pick (.t 12) (.k (.one (.bool .true))) (.t 18))⟩, ⟨none, (some 20), (.mov (.t 19))⟩, ⟨(some (20, .false)), (some 21), (.faddr (.t 2) 0)⟩, ⟨(some (20, .false)), (some 22), (.load none (.t 21))⟩, ⟨(some (20, .false)), (some 23), (.len (.t 22))⟩, ⟨(some (20, .false)), (some 24), (.faddr (.t 3) 0)⟩, ⟨(some (20, .false)), (some 25), (.load none (.t 24))⟩, ⟨(some (20, .false)), (some 26), (.len (.t 25))⟩, ⟨(some (20, .false)), (some 27), (.bin .neq (.t 23) (.t 26))⟩, ⟨none, (some 28), (.pick (.t 20) (.k (.one (.bool .true))) (.t 27))⟩]
def g47_2 : List Gop := [⟨none, (some 4), (.mov (.k (.one (.bool .false))))⟩]
def g47_3 : List Gop := [⟨none, (some 29), (.faddr (.t 2) 0)⟩, ⟨none, (some 30), (.load none (.t 29))⟩, ⟨none, (some 31), (.len (.t 30))⟩, ⟨none, (some 32), (.mov (.k (.one (.int .i64 0))))⟩]
def g47_4 : List Gop := [⟨none, (some 33), (.bin .lss (.t 32) (.t 31))⟩]
def g47_5 : List Gop := [⟨none, (some 34), (.mov (.t 32))⟩, ⟨none, (some 5), (.mov (.t 34))⟩]
def g47_6 : List Gop := [⟨none, (some 35), (.faddr (.t 2) 0)⟩, ⟨none, (some 36), (.load none (.t 35))⟩, ⟨none, (some 37), (.mov (.t 5))⟩, ⟨none, (some 38), (.iaddr 2 (.t 36) (.t 37))⟩, ⟨none, (some 39), (.faddr (.t 38) 1)⟩, ⟨none, (some 40), (.load none (.t 39))⟩, ⟨none, (some 41), (.faddr (.t 3) 0)⟩, ⟨none, (some 42), (.load none (.t 41))⟩, ⟨none, (some 43), (.mov (.t 5))⟩, ⟨none, (some 44), (.iaddr 2 (.t 42) (.t 43))⟩, ⟨none, (some 45), (.faddr (.t 44) 1)⟩, ⟨none, (some 46), (.load none (.t 45))⟩, ⟨none, (some 47), (.beq .true (.t 40) (.t 46))⟩, ⟨none, (some 48), (.mov (.t 47))⟩, ⟨(some (48, .false)), (some 49), (.faddr (.t 2) 0)⟩, ⟨(some (48, .false)), (some 50), (.load none (.t 49))⟩, ⟨(some (48, .false)), (some 51), (.mov (.t 5))⟩, ⟨(some (48, .false)), (some 52), (.iaddr 2 (.t 50) (.t 51))⟩, ⟨(some (48, .false)), (some 53), (.faddr (.t 52) 0)⟩, ⟨(some (48, .false)), (some 54), (.load none (.t 53))⟩, ⟨(some (48, .false)), (some 55), (.faddr (.t 3) 0)⟩, ⟨(some (48, .false)), (some 56), (.load none (.t 55))⟩, ⟨(some (48, .false)), (some 57), (.mov (.t 5))⟩, ⟨(some (48, .false)), (some 58), (.iaddr 2 (.t 56) (.t 57))⟩, ⟨(some (48, .false)), (some 59), (.faddr (.t 58) 0)⟩, ⟨(some (48, .false)), (some 60), (.load none (.t 59))⟩, ⟨(some (48, .false)), (some 61), (.call 46 [(.t 54), (.t 60)])⟩, ⟨(some (48, .false)), (some 62), (.un .not (.t 61))⟩, ⟨none, (some 63), (.pick (.t 48) (.k (.one (.bool .true))) (.t 62))⟩]
def a47_6 : List (List Nat) := [[], [0], [], [0, 1, 2], [0, 1, 2, 3], [0, 1, 2, 3, 4], [], [6], [], [6, 7, 8], [6, 7, 8, 9], [6, 7, 8, 9, 10], [0, 1, 2, 3, 4, 5, 6, 7, 8, 9, 10, 11], [0, 1, 2, 3, 4, 5, 6, 7, 8, 9, 10, 11, 12], [0, 1, 2, 3, 4, 5, 6, 7, 8, 9, 10, 11, 12, 13], [0, 1, 2, 3, 4, 5, 6, 7, 8, 9, 10, 11, 12, 13, 14], [0, 1, 2, 3, 4, 5, 6, 7, 8, 9, 10, 11, 12, 13], [0, 1, 2, 3, 4, 5, 6, 7, 8, 9, 10, 11, 12, 13, 14, 15, 16], [0, 1, 2, 3, 4, 5, 6, 7, 8, 9, 10, 11, 12, 13, 14, 15, 16, 17], [0, 1, 2, 3, 4, 5, 6, 7, 8, 9, 10, 11, 12, 13, 14, 15, 16, 17, 18], [0, 1, 2, 3, 4, 5, 6, 7, 8, 9, 10, 11, 12, 13], [0, 1, 2, 3, 4, 5, 6, 7, 8, 9, 10, 11, 12, 13, 20], [0, 1, 2, 3, 4, 5, 6, 7, 8, 9, 10, 11, 12, 13], [0, 1, 2, 3, 4, 5, 6, 7, 8, 9, 10, 11, 12, 13, 20, 21, 22], [0, 1, 2, 3, 4, 5, 6, 7, 8, 9, 10, 11, 12, 13, 20, 21, 22, 23], [0, 1, 2, 3, 4, 5, 6, 7, 8, 9, 10, 11, 12, 13, 20, 21, 22, 23, 24], [0, 1, 2, 3, 4, 5, 6, 7, 8, 9, 10, 11, 12, 13, 14, 15, 16, 17, 18, 19, 20, 21, 22, 23, 24, 25], [0, 1, 2, 3, 4, 5, 6, 7, 8, 9, 10, 11, 12, 13, 14, 15, 16, 17, 18, 19, 20, 21, 22, 23, 24, 25, 26], [0, 1, 2, 3, 4, 5, 6, 7, 8, 9, 10, 11, 12, 13, 14, 15, 16, 17, 18, 19, 20, 21, 22, 23, 24, 25, 26, 27]]
def n47_6 : Nat := 26 -- of 29
def g47_7 : List Gop := [⟨none, (some 4), (.mov (.k (.one (.bool .false))))⟩]
def g47_8 : List Gop := [⟨none, (some 64), (.bin .add (.t 32) (.k (.one (.int .i64 1))))⟩, ⟨none, (some 32), (.mov (.t 64))⟩]
def g47_9 : List Gop := [⟨none, (some 4), (.mov (.k (.one (.bool .true))))⟩]
def i47 : Ir := (.seq (.region g47_0) (.seq (.seq (.region g47_1) (.cond (.t 28) (.seq (.region g47_2) .ret) .skip)) (.seq (.seq (.region g47_3) (.block 0 (.loop (.seq (.region g47_4) (.seq (.cond (.t 33) .skip (.exit 0)) (.seq (.block 1 (.seq (.region g47_5) (.seq (.draw [[], [0], [], [1, 2], [3], [4], [], [6], [], [7, 8], [9], [10], [5, 11], [12], [13], [14, 13], [13], [15, 16, 13], [17, 13], [18, 13], [13], [20, 13], [13], [21, 22, 13], [23, 13], [24, 13], [19, 25, 13, 13], [26, 13], [13, 27]] g47_6) (.cond (.t 63) (.seq (.region g47_7) .ret) .skip)))) (.region g47_8))))))) (.seq (.region g47_9) .ret))))
theorem sameGraphs_ok (g : Gr) (s : Small g) : Meets Try.prog 47 [.agg [.sl false 2 g.n.length (ndR g.n), (.sl false 1 g.r.length (g.r.map (T.int .i64))), (.sl false 1 g.c.length (g.c.map (T.int .i64)))], .agg [.sl false 2 g.n.length (ndR g.n), (.sl false 1 g.r.length (g.r.map (T.int .i64))), (.sl false 1 g.c.length (g.c.map (T.int .i64)))]] (.w (.one (.bool true))) [.agg [.hole, .hole, .hole], .agg [.hole, .hole, .hole]] := by
  have sn := s.n
  have sr := s.r
  have sc := s.c
  refine meets_go (ir := i47) (fn := Try.f47) (rx := [(.tmp 4)]) rfl rfl (by rfl) (by rfl) (by exact Nat.le_of_ble_eq_true rfl) ?_
  simp (maxSteps := 9000000) -implicitDefEqProofs -dsimp (disch := omega) only [go_sem, g47_0, g47_1, g47_2, g47_3, g47_4, g47_5, g47_6, a47_6, n47_6, g47_7, g47_8, g47_9, i47, Nat.reduceEqDiff, Nat.reduceAdd, Nat.reduceMul, Nat.reduceLeDiff, Nat.reduceBEq, Nat.reduceBNe, Int.reduceEq, ↓reduceIte, reduceCtorEq]
  refine call_go true (sameInts_ok g.r g.r (by omega)) ?_
  simp (maxSteps := 9000000) -implicitDefEqProofs -dsimp (disch := omega) only [go_sem, lt_T, lt_F, le_T, le_F, eq_T, eq_F, and_F, Nat.reduceEqDiff, Nat.reduceAdd, Nat.reduceMul, Nat.reduceLeDiff, Nat.reduceBEq, Nat.reduceBNe, Int.reduceEq, ↓reduceIte, reduceCtorEq]
  refine call_go true (sameInts_ok g.c g.c (by omega)) ?_
  simp (maxSteps := 9000000) -implicitDefEqProofs -dsimp (disch := omega) only [go_sem, lt_T, lt_F, le_T, le_F, eq_T, eq_F, and_F, Nat.reduceEqDiff, Nat.reduceAdd, Nat.reduceMul, Nat.reduceLeDiff, Nat.reduceBEq, Nat.reduceBNe, Int.reduceEq, ↓reduceIte, reduceCtorEq]
  refine loop_n g.n.length (fun i => ⟨[(32, .w (.one (.int .i64 (i : Nat)))), (31, .w (.one (.int .i64 g.n.length))), (3, .w (.one (.hp 7 [] 0))), (2, .w (.one (.hp 6 [] 0)))], [(7, .bx true [.sl false 2 g.n.length (ndR g.n), (.sl false 1 g.r.length (g.r.map (T.int .i64))), (.sl false 1 g.c.length (g.c.map (T.int .i64)))]), (6, .bx true [.sl false 2 g.n.length (ndR g.n), (.sl false 1 g.r.length (g.r.map (T.int .i64))), (.sl false 1 g.c.length (g.c.map (T.int .i64)))])], [.agg [.hs 0 [] 0 2 g.n.length, .hs 1 [] 0 1 g.r.length, .hs 2 [] 0 1 g.c.length], .agg [.hs 3 [] 0 2 g.n.length, .hs 4 [] 0 1 g.r.length, .hs 5 [] 0 1 g.c.length]]⟩) (fun i => True) ?_ trivial ?_
  · exact (imp_sub (by simp (maxSteps := 9000000) -implicitDefEqProofs -dsimp (disch := omega) only [go_sem, Nat.reduceEqDiff, Nat.reduceAdd, Nat.reduceMul, Nat.reduceLeDiff, Nat.reduceBEq, Nat.reduceBNe, Int.reduceEq, ↓reduceIte, reduceCtorEq]) (by simp (maxSteps := 9000000) -implicitDefEqProofs -dsimp (disch := omega) only [go_sem, Nat.reduceEqDiff, Nat.reduceAdd, Nat.reduceMul, Nat.reduceLeDiff, Nat.reduceBEq, Nat.reduceBNe, Int.reduceEq, ↓reduceIte, reduceCtorEq]) rfl)
  · intro i hi hJ
    simp (maxSteps := 9000000) -implicitDefEqProofs -dsimp (disch := omega) only [go_sem, Nat.reduceEqDiff, Nat.reduceAdd, Nat.reduceMul, Nat.reduceLeDiff, Nat.reduceBEq, Nat.reduceBNe, Int.reduceEq, ↓reduceIte, reduceCtorEq]
    refine brP_i (fun h2 => ?_) (fun h2 => ?_)
    · have hlt : i < g.n.length := by omega
      have hh := s.h _ (getD_mem hlt)
      simp (maxSteps := 9000000) -implicitDefEqProofs -dsimp (disch := omega) only [go_sem, Nat.reduceEqDiff, Nat.reduceAdd, Nat.reduceMul, Nat.reduceLeDiff, Nat.reduceBEq, Nat.reduceBNe, Int.reduceEq, ↓reduceIte, reduceCtorEq]
      refine draw_go n47_6 a47_6 (by decide +kernel) ?_
      simp (maxSteps := 9000000) -implicitDefEqProofs -dsimp (disch := omega) only [go_sem, n47_6, a47_6, lt_T, lt_F, le_T, le_F, eq_T, eq_F, and_F, ndR_0 hlt, ndR_1 hlt, bne_self_eq_false, Nat.reduceEqDiff, Nat.reduceAdd, Nat.reduceMul, Nat.reduceLeDiff, Nat.reduceBEq, Nat.reduceBNe, Int.reduceEq, ↓reduceIte, reduceCtorEq]
      refine call_go true (sameInts_ok (g.n.getD i default).h (g.n.getD i default).h (by omega)) ?_
      simp (maxSteps := 9000000) -implicitDefEqProofs -dsimp (disch := omega) only [go_sem, n47_6, a47_6, lt_T, lt_F, le_T, le_F, eq_T, eq_F, and_F, ndR_0 hlt, ndR_1 hlt, bne_self_eq_false, Nat.reduceEqDiff, Nat.reduceAdd, Nat.reduceMul, Nat.reduceLeDiff, Nat.reduceBEq, Nat.reduceBNe, Int.reduceEq, ↓reduceIte, reduceCtorEq]
      exact ⟨hlt, (imp_sub (by simp (maxSteps := 9000000) -implicitDefEqProofs -dsimp (disch := omega) only [go_sem, n47_6, a47_6, Nat.reduceEqDiff, Nat.reduceAdd, Nat.reduceMul, Nat.reduceLeDiff, Nat.reduceBEq, Nat.reduceBNe, Int.reduceEq, ↓reduceIte, reduceCtorEq]) (by simp (maxSteps := 9000000) -implicitDefEqProofs -dsimp (disch := omega) only [go_sem, n47_6, a47_6, Nat.reduceEqDiff, Nat.reduceAdd, Nat.reduceMul, Nat.reduceLeDiff, Nat.reduceBEq, Nat.reduceBNe, Int.reduceEq, ↓reduceIte, reduceCtorEq]) rfl)⟩
    · obtain rfl : i = g.n.length := by omega
      simp (maxSteps := 9000000) -implicitDefEqProofs -dsimp (disch := omega) only [go_sem, n47_6, a47_6, Nat.reduceEqDiff, Nat.reduceAdd, Nat.reduceMul, Nat.reduceLeDiff, Nat.reduceBEq, Nat.reduceBNe, Int.reduceEq, ↓reduceIte, reduceCtorEq]
/-- a number put to its place, once -/
def putF : List Int → Int → List Int
  | [], n => [n]
  | x :: l, n => if x < n then x :: putF l n else if x = n then x :: l else n :: x :: l
theorem putF_at {n : Int} : ∀ {l : List Int} {k : Nat}, k ≤ l.length → (∀ j, j < k → l.getD j default < n) → (k < l.length → ¬ l.getD k default < n) → putF l n = if k < l.length ∧ l.getD k default = n then l else l.take k ++ [n] ++ l.drop k
  | [], k, hk, _, _ => by
    obtain rfl : k = 0 := by simpa using hk
    simp [putF]
  | x :: l, 0, hk, h1, h2 => by
    have h3 := h2 (by simp)
    simp only [List.getD_cons_zero] at h3
    simp only [putF, if_neg h3, List.length_cons, List.getD_cons_zero, List.take_zero, List.drop_zero, List.nil_append]
    by_cases e : x = n
    · simp [e]
    · simp [e]
  | x :: l, k + 1, hk, h1, h2 => by
    have h3 := h1 0 (by omega)
    simp only [List.getD_cons_zero] at h3
    have ih := putF_at (n := n) (l := l) (k := k) (by simpa using hk) (fun j hj => by simpa using h1 (j + 1) (by omega)) (fun hj => by simpa using h2 (by simpa using hj))
    simp only [putF, if_pos h3, ih, List.length_cons, Nat.add_lt_add_iff_right, List.getD_cons_succ, List.take_succ_cons, List.drop_succ_cons, List.cons_append]
    split <;> rfl
theorem putF_len {l : List Int} {n : Int} : (putF l n).length ≤ l.length + 1 := by
  induction l with
  | nil => simp [putF]
  | cons x l ih =>
    simp only [putF]
    split
    · simp only [List.length_cons]; omega
    · split <;> simp
theorem putF_mem {l : List Int} {n y : Int} : y ∈ putF l n ↔ y = n ∨ y ∈ l := by
  induction l with
  | nil => simp [putF]
  | cons x l ih =>
    simp only [putF]
    split
    · simp only [List.mem_cons, ih]
      constructor
      · rintro (h | h | h) <;> simp [h]
      · rintro (h | h | h) <;> simp [h]
    · split
      · rename_i e; subst e; simp
      · simp
theorem putF_sort {l : List Int} {n : Int} (h : l.Pairwise (· < ·)) : (putF l n).Pairwise (· < ·) := by
  induction l with
  | nil => simp [putF]
  | cons x l ih =>
    have h1 := List.pairwise_cons.1 h
    simp only [putF]
    split
    · rename_i e
      refine List.pairwise_cons.2 ⟨fun y hy => ?_, ih h1.2⟩
      rcases putF_mem.1 hy with rfl | hy
      · exact e
      · exact h1.1 y hy
    · split
      · exact h
      · rename_i e1 e2
        refine List.pairwise_cons.2 ⟨fun y hy => ?_, h⟩
        rcases List.mem_cons.1 hy with rfl | hy
        · omega
        · have := h1.1 y hy; omega
theorem sort_ext : ∀ {a b : List Int}, a.Pairwise (· < ·) → b.Pairwise (· < ·) → (∀ y, y ∈ a ↔ y ∈ b) → a = b
  | [], [], _, _, _ => rfl
  | [], y :: b, _, _, h => by have := (h y).2 List.mem_cons_self; simp at this
  | x :: a, [], _, _, h => by have := (h x).1 List.mem_cons_self; simp at this
  | x :: a, y :: b, ha, hb, h => by
    have h1 := List.pairwise_cons.1 ha
    have h2 := List.pairwise_cons.1 hb
    have e : x = y := by
      rcases List.mem_cons.1 ((h x).1 List.mem_cons_self) with e | e
      · exact e
      · rcases List.mem_cons.1 ((h y).2 List.mem_cons_self) with e2 | e2
        · exact e2.symm
        · have := h1.1 _ e2; have := h2.1 _ e; omega
    subst e
    rw [sort_ext h1.2 h2.2 fun z => ?_]
    constructor
    · intro hz
      rcases List.mem_cons.1 ((h z).1 (List.mem_cons_of_mem _ hz)) with e | e
      · have := h1.1 _ hz; omega
      · exact e
    · intro hz
      rcases List.mem_cons.1 ((h z).2 (List.mem_cons_of_mem _ hz)) with e | e
      · have := h2.1 _ hz; omega
      · exact e
def g87_0 : List Gop := [⟨none, (some 4), (.mov (.k (.one .nil)))⟩]
def g87_1 : List Gop := [⟨none, (some 5), (.mov (.k (.one (.int .i64 0))))⟩]
def g87_2 : List Gop := [⟨none, (some 7), (.mov (.t 5))⟩, ⟨none, (some 8), (.mov (.t 0))⟩, ⟨none, (some 9), (.len (.t 8))⟩, ⟨none, (some 10), (.bin .lss (.t 7) (.t 9))⟩, ⟨none, (some 11), (.mov (.t 10))⟩, ⟨(some (11, .true)), (some 12), (.mov (.t 0))⟩, ⟨(some (11, .true)), (some 13), (.mov (.t 5))⟩, ⟨(some (11, .true)), (some 14), (.iaddr 1 (.t 12) (.t 13))⟩, ⟨(some (11, .true)), (some 15), (.load none (.t 14))⟩, ⟨(some (11, .true)), (some 16), (.mov (.t 1))⟩, ⟨(some (11, .true)), (some 17), (.bin .lss (.t 15) (.t 16))⟩, ⟨none, (some 18), (.pick (.t 11) (.t 17) (.k (.one (.bool .false))))⟩]
def g87_3 : List Gop := [⟨none, (some 19), (.mov (.t 5))⟩, ⟨none, (some 20), (.bin .add (.t 19) (.k (.one (.int .i64 1))))⟩, ⟨none, (some 5), (.mov (.t 20))⟩]
def g87_4 : List Gop := [⟨none, (some 21), (.mov (.t 5))⟩, ⟨none, (some 22), (.mov (.t 0))⟩, ⟨none, (some 23), (.len (.t 22))⟩, ⟨none, (some 24), (.bin .lss (.t 21) (.t 23))⟩, ⟨none, (some 25), (.mov (.t 24))⟩, ⟨(some (25, .true)), (some 26), (.mov (.t 0))⟩, ⟨(some (25, .true)), (some 27), (.mov (.t 5))⟩, ⟨(some (25, .true)), (some 28), (.iaddr 1 (.t 26) (.t 27))⟩, ⟨(some (25, .true)), (some 29), (.load none (.t 28))⟩, ⟨(some (25, .true)), (some 30), (.mov (.t 1))⟩, ⟨(some (25, .true)), (some 31), (.bin .eql (.t 29) (.t 30))⟩, ⟨none, (some 32), (.pick (.t 25) (.t 31) (.k (.one (.bool .false))))⟩]
def g87_5 : List Gop := [⟨none, (some 33), (.mov (.t 0))⟩, ⟨none, (some 4), (.mov (.t 33))⟩]
def g87_6 : List Gop := [⟨none, (some 6), (.mov (.k (.one .nil)))⟩]
def g87_7 : List Gop := [⟨none, (some 34), (.mov (.t 6))⟩, ⟨none, (some 35), (.mov (.t 0))⟩, ⟨none, (some 36), (.mov (.t 5))⟩, ⟨none, (some 37), (.slice 1 (.t 35) none (some (.t 36)) none)⟩, ⟨none, (some 38), (.app 1 8 [(.int .i64 0)] (.t 34) (.t 37))⟩, ⟨none, (some 6), (.mov (.t 38))⟩]
def g87_8 : List Gop := [⟨none, (some 39), (.mov (.t 6))⟩, ⟨none, (some 40), (.mov (.t 1))⟩, ⟨none, (some 41), (.lit 1 1 [(.int .i64 0)] [(0, (.t 40))])⟩, ⟨none, (some 42), (.app 1 8 [(.int .i64 0)] (.t 39) (.t 41))⟩, ⟨none, (some 6), (.mov (.t 42))⟩]
def g87_9 : List Gop := [⟨none, (some 43), (.mov (.t 6))⟩, ⟨none, (some 44), (.mov (.t 0))⟩, ⟨none, (some 45), (.mov (.t 5))⟩, ⟨none, (some 46), (.slice 1 (.t 44) (some (.t 45)) none none)⟩, ⟨none, (some 47), (.app 1 8 [(.int .i64 0)] (.t 43) (.t 46))⟩, ⟨none, (some 4), (.mov (.t 47))⟩]
def i87 : Ir := (.seq (.region g87_0) (.seq (.region g87_1) (.seq (.block 0 (.loop (.seq (.seq (.region g87_2) (.cond (.t 18) .skip (.exit 0))) (.block 1 (.region g87_3))))) (.seq (.seq (.region g87_4) (.cond (.t 32) (.seq (.region g87_5) .ret) .skip)) (.seq (.region g87_6) (.seq (.region g87_7) (.seq (.region g87_8) (.seq (.region g87_9) .ret))))))))
theorem l1Put_ok (l : List Int) (n : Int) (hl : l.length ≤ 1048576) : Meets Try.prog 87 [.one (.sl true 1 l.length (l.map (T.int .i64))), .one (.int .i64 n)] (.w (.one (.sl true 1 (putF l n).length ((putF l n).map (T.int .i64))))) [.one .hole, .one .hole] := by
  refine meets_go (ir := i87) (fn := Try.f87) (rx := [(.tmp 4)]) rfl rfl (by rfl) (by rfl) (by exact Nat.le_of_ble_eq_true rfl) ?_
  simp (maxSteps := 9000000) -implicitDefEqProofs -dsimp (disch := omega) only [go_sem, g87_0, g87_1, g87_2, g87_3, g87_4, g87_5, g87_6, g87_7, g87_8, g87_9, i87, Nat.reduceEqDiff, Nat.reduceAdd, Nat.reduceMul, Nat.reduceLeDiff, Nat.reduceBEq, Nat.reduceBNe, Int.reduceEq, ↓reduceIte, reduceCtorEq]
  refine loop_n l.length (fun i => ⟨[(5, .w (.one (.int .i64 (i : Nat)))), (1, .w (.one (.int .i64 n))), (0, .w (.one (.hs 0 [] 0 1 l.length)))], [(0, (.sl true 1 l.length (l.map (T.int .i64))))], [.one (.hs 0 [] 0 1 l.length), .one (.int .i64 n)]⟩) (fun i => ∀ j, j < i → l.getD j default < n) ?_ ?_ ?_
  · exact (imp_sub (by simp (maxSteps := 9000000) -implicitDefEqProofs -dsimp (disch := omega) only [go_sem, Nat.reduceEqDiff, Nat.reduceAdd, Nat.reduceMul, Nat.reduceLeDiff, Nat.reduceBEq, Nat.reduceBNe, Int.reduceEq, ↓reduceIte, reduceCtorEq]) (by simp (maxSteps := 9000000) -implicitDefEqProofs -dsimp (disch := omega) only [go_sem, Nat.reduceEqDiff, Nat.reduceAdd, Nat.reduceMul, Nat.reduceLeDiff, Nat.reduceBEq, Nat.reduceBNe, Int.reduceEq, ↓reduceIte, reduceCtorEq]) rfl)
  · intro j hj; omega
  · intro i hi hJ
    by_cases h : i < l.length
    · by_cases h2 : l.getD i default < n
      · simp (maxSteps := 9000000) -implicitDefEqProofs -dsimp (disch := omega) only [go_sem, lt_T, lt_F, le_T, le_F, eq_T, eq_F, and_F, Nat.reduceEqDiff, Nat.reduceAdd, Nat.reduceMul, Nat.reduceLeDiff, Nat.reduceBEq, Nat.reduceBNe, Int.reduceEq, ↓reduceIte, reduceCtorEq]
        refine ⟨⟨by omega, fun j hj => ?_⟩, (imp_sub (by simp (maxSteps := 9000000) -implicitDefEqProofs -dsimp (disch := omega) only [go_sem, Nat.reduceEqDiff, Nat.reduceAdd, Nat.reduceMul, Nat.reduceLeDiff, Nat.reduceBEq, Nat.reduceBNe, Int.reduceEq, ↓reduceIte, reduceCtorEq]) (by simp (maxSteps := 9000000) -implicitDefEqProofs -dsimp (disch := omega) only [go_sem, Nat.reduceEqDiff, Nat.reduceAdd, Nat.reduceMul, Nat.reduceLeDiff, Nat.reduceBEq, Nat.reduceBNe, Int.reduceEq, ↓reduceIte, reduceCtorEq]) rfl)⟩
        by_cases hji : j = i
        · subst hji; exact h2
        · exact hJ j (by omega)
      · have e := putF_at (n := n) hi hJ (fun _ => h2)
        by_cases h3 : l.getD i default = n
        · rw [if_pos ⟨by omega, h3⟩] at e
          rw [e]
          simp (maxSteps := 9000000) -implicitDefEqProofs -dsimp (disch := omega) only [go_sem, lt_T, lt_F, le_T, le_F, eq_T, eq_F, and_F, Nat.reduceEqDiff, Nat.reduceAdd, Nat.reduceMul, Nat.reduceLeDiff, Nat.reduceBEq, Nat.reduceBNe, Int.reduceEq, ↓reduceIte, reduceCtorEq]
        · rw [if_neg (fun w => h3 w.2)] at e
          have c1 : cut (l.map (T.int .i64)) 0 (i - 0) = (l.take i).map (T.int .i64) := cut_pre (β := Nat)
          have c2 : cut (l.map (T.int .i64)) i (l.length - i) = (l.drop i).map (T.int .i64) := cut_suf rfl
          have c5 : (l.take i).length = i := by rw [List.length_take]; omega
          have c6 : (l.drop i).length = l.length - i := by rw [List.length_drop]
          have c7 : (putF l n).length = l.length + 1 := by rw [e]; simp only [List.length_append, c5, c6, List.length_singleton]; omega
          simp (maxSteps := 9000000) -implicitDefEqProofs -dsimp (disch := omega) only [go_sem, lt_T, lt_F, le_T, le_F, eq_T, eq_F, and_F, c1, c2, Nat.reduceEqDiff, Nat.reduceAdd, Nat.reduceMul, Nat.reduceLeDiff, Nat.reduceBEq, Nat.reduceBNe, Int.reduceEq, ↓reduceIte, reduceCtorEq]
          refine need_i ?_ (by simp (maxSteps := 9000000) -implicitDefEqProofs -dsimp (disch := omega) only [go_sem, Nat.reduceEqDiff, Nat.reduceAdd, Nat.reduceMul, Nat.reduceLeDiff, Nat.reduceBEq, Nat.reduceBNe, Int.reduceEq, ↓reduceIte, reduceCtorEq])
          have c8 : cut ((l.take i).map (T.int .i64) ++ [T.int .i64 n]) 0 (i - 0 + 1) = (l.take i).map (T.int .i64) ++ [T.int .i64 n] := cut_all (by simp only [List.length_append, List.length_map, c5, List.length_singleton]; omega)
          rw [show i - 0 + 1 + (l.length - i) = (putF l n).length by omega, e, c8]
          simp only [List.map_append, List.map_cons, List.map_nil, List.append_assoc]
          rw [cut_all (by simp)]
    · obtain rfl : i = l.length := by omega
      have e := putF_at (n := n) hi hJ (fun w => absurd w (by omega))
      rw [if_neg (fun w => by have := w.1; omega)] at e
      rw [e]
      simp (maxSteps := 9000000) -implicitDefEqProofs -dsimp (disch := omega) only [go_sem, lt_T, lt_F, le_T, le_F, eq_T, eq_F, and_F, Nat.reduceEqDiff, Nat.reduceAdd, Nat.reduceMul, Nat.reduceLeDiff, Nat.reduceBEq, Nat.reduceBNe, Int.reduceEq, ↓reduceIte, reduceCtorEq]
      have c1 : cut (l.map (T.int .i64)) 0 (l.length - 0) = (l.take l.length).map (T.int .i64) := cut_pre (β := Nat)
      have c2 : cut (l.map (T.int .i64)) l.length (l.length - l.length) = (l.drop l.length).map (T.int .i64) := cut_suf rfl
      simp (maxSteps := 9000000) -implicitDefEqProofs -dsimp (disch := omega) only [go_sem, lt_T, lt_F, le_T, le_F, eq_T, eq_F, and_F, c1, c2, List.take_length, List.drop_length, Nat.reduceEqDiff, Nat.reduceAdd, Nat.reduceMul, Nat.reduceLeDiff, Nat.reduceBEq, Nat.reduceBNe, Int.reduceEq, ↓reduceIte, reduceCtorEq]
      have c8 : cut (l.map (T.int .i64) ++ [T.int .i64 n]) 0 (l.length - 0 + 1) = l.map (T.int .i64) ++ [T.int .i64 n] := cut_all (by simp only [List.length_append, List.length_map, List.length_singleton]; omega)
      refine need_i ?_ (by simp (maxSteps := 9000000) -implicitDefEqProofs -dsimp (disch := omega) only [go_sem, Nat.reduceEqDiff, Nat.reduceAdd, Nat.reduceMul, Nat.reduceLeDiff, Nat.reduceBEq, Nat.reduceBNe, Int.reduceEq, ↓reduceIte, reduceCtorEq])
      rw [c8, show l.length - 0 + 1 + (l.length - l.length) = l.length + 1 by omega, cut_all (by simp)]
end Go.Proofs.YtdhclelfnbjikaaT

/- What is come to, in plain words. No condition. -/
set_option maxRecDepth 100000
set_option maxHeartbeats 4000000
set_option linter.unusedSimpArgs false
set_option linter.unusedVariables false
namespace Go.Proofs.YtdhclelfnbjikaaT
open Go
/-- what is come to from the roots -/
inductive Rch (n : List Nd) (r : List Int) : Int → Prop
  | root {y : Int} : y ∈ r → Rch n r y
  | step {x y : Int} : Rch n r x → y ∈ (n.getD x.toNat default).h → Rch n r y
noncomputable instance (n : List Nd) (r : List Int) (y : Int) : Decidable (Rch n r y) := Classical.propDecidable _
theorem rch_hold {n : List Nd} {r : List Int} (h : NodesOk n r) {y : Int} (hy : Rch n r y) : HoldOk n n.length y := by
  induction hy with
  | root h1 => exact h.2.1 _ h1
  | step h1 h2 ih =>
    have a := ih.1
    have b := ih.2.1
    have := (h.1 _ (by omega)).1 _ h2
    exact ⟨this.1, by have := this.2.1; omega, this.2.2⟩
noncomputable def rchL (n : List Nd) (r : List Int) : List Int := ((List.range n.length).filter fun k : Nat => decide (Rch n r (k : Int))).map fun k : Nat => (k : Int)
theorem rchL_mem {n : List Nd} {r : List Int} (h : NodesOk n r) {y : Int} : y ∈ rchL n r ↔ Rch n r y := by
  simp only [rchL, List.mem_map, List.mem_filter, List.mem_range, decide_eq_true_eq]
  constructor
  · rintro ⟨k, ⟨_, h2⟩, rfl⟩; exact h2
  · intro hy
    have := rch_hold h hy
    have a := this.1
    have b := this.2.1
    exact ⟨y.toNat, ⟨by omega, by rw [Int.toNat_of_nonneg a]; exact hy⟩, Int.toNat_of_nonneg a⟩
theorem range_sort (n : Nat) : (List.range n).Pairwise (· < ·) := List.pairwise_lt_range
theorem rchL_sort {n : List Nd} {r : List Int} : (rchL n r).Pairwise (· < ·) := by
  unfold rchL
  rw [List.pairwise_map]
  exact ((range_sort n.length).filter _).imp (fun h => by omega)
theorem rchL_len {n : List Nd} {r : List Int} : (rchL n r).length ≤ n.length := by
  unfold rchL
  rw [List.length_map]
  exact Nat.le_trans (List.length_filter_le _ _) (by simp)
/-- the rounds from above: those that are come to -/
noncomputable def dnF (n : List Nd) (O : List Int) : Nat → List Int
  | 0 => O
  | i + 1 => if ((n.length - 1 - i : Nat) : Int) ∈ dnF n O i then (n.getD (n.length - 1 - i) default).h.foldl putF (dnF n O i) else dnF n O i
theorem fold_put_mem {y : Int} : ∀ {l O : List Int}, y ∈ l.foldl putF O ↔ y ∈ l ∨ y ∈ O
  | [], O => by simp
  | x :: l, O => by
    rw [List.foldl_cons, fold_put_mem (l := l), putF_mem, List.mem_cons]
    constructor
    · rintro (h | h | h) <;> simp [h]
    · rintro ((h | h) | h) <;> simp [h]
theorem fold_put_sort : ∀ {l O : List Int}, O.Pairwise (· < ·) → (l.foldl putF O).Pairwise (· < ·)
  | [], O, h => h
  | x :: l, O, h => fold_put_sort (l := l) (putF_sort h)
theorem fold_put_len : ∀ {l O : List Int}, (l.foldl putF O).length ≤ O.length + l.length
  | [], O => by simp
  | x :: l, O => by
    have h1 := fold_put_len (l := l) (O := putF O x)
    have h2 := putF_len (l := O) (n := x)
    simp only [List.foldl_cons, List.length_cons]; omega
theorem dnF_sort {n : List Nd} {O : List Int} (h : O.Pairwise (· < ·)) : ∀ i, (dnF n O i).Pairwise (· < ·)
  | 0 => h
  | i + 1 => by
    simp only [dnF]
    split
    · exact fold_put_sort (dnF_sort h i)
    · exact dnF_sort h i
theorem dnF_len {n : List Nd} {r O : List Int} (h : NodesOk n r) : ∀ i, i ≤ n.length → (dnF n O i).length ≤ O.length + 6 * i
  | 0, _ => by simp [dnF]
  | i + 1, hi => by
    have h1 := dnF_len (O := O) h i (by omega)
    simp only [dnF]
    split
    · have h2 := fold_put_len (l := (n.getD (n.length - 1 - i) default).h) (O := dnF n O i)
      have h3 := (h.1 (n.length - 1 - i) (by omega)).2.1
      omega
    · omega
theorem dnF_sub {n : List Nd} {O : List Int} {y : Int} : ∀ {i j : Nat}, i ≤ j → y ∈ dnF n O i → y ∈ dnF n O j
  | i, 0, h, hy => by obtain rfl : i = 0 := by omega
                      exact hy
  | i, j + 1, h, hy => by
    by_cases e : i = j + 1
    · subst e; exact hy
    · have := dnF_sub (i := i) (j := j) (by omega) hy
      simp only [dnF]
      split
      · exact fold_put_mem.2 (.inr this)
      · exact this
theorem dnF_rch {n : List Nd} {r O : List Int} (hO : ∀ y ∈ O, Rch n r y) : ∀ i, ∀ y ∈ dnF n O i, Rch n r y
  | 0, y, hy => hO y hy
  | i + 1, y, hy => by
    simp only [dnF] at hy
    split at hy
    · rename_i h1
      rcases fold_put_mem.1 hy with hy | hy
      · exact .step (dnF_rch hO i _ h1) (by rw [Int.toNat_natCast]; exact hy)
      · exact dnF_rch hO i y hy
    · exact dnF_rch hO i y hy
/-- what comes in at the round i or later is below what it takes -/
theorem dnF_low {n : List Nd} {r O : List Int} (h : NodesOk n r) {y : Int} : ∀ {i j : Nat}, i ≤ j → j ≤ n.length → y ∈ dnF n O j → y ∈ dnF n O i ∨ y + i + 1 < n.length
  | i, 0, h1, _, hy => by obtain rfl : i = 0 := by omega
                          exact .inl hy
  | i, j + 1, h1, h2, hy => by
    by_cases e : i = j + 1
    · subst e; exact .inl hy
    · simp only [dnF] at hy
      split at hy
      · rcases fold_put_mem.1 hy with hy | hy
        · have := (h.1 (n.length - 1 - j) (by omega)).1 _ hy
          have := this.2.1
          exact .inr (by omega)
        · exact dnF_low h (by omega) (by omega) hy
      · exact dnF_low h (by omega) (by omega) hy
theorem dnF_all {n : List Nd} {r : List Int} (h : NodesOk n r) {y : Int} (hy : Rch n r y) : y ∈ dnF n (r.foldl putF []) n.length := by
  induction hy with
  | root h1 => exact dnF_sub (i := 0) (by omega) (fold_put_mem.2 (.inl h1))
  | @step x y h1 h2 ih =>
    have hx := rch_hold h h1
    have a := hx.1
    have b := hx.2.1
    have hlt : x.toNat < n.length := by omega
    have ex : ((n.length - 1 - (n.length - 1 - x.toNat) : Nat) : Int) = x := by omega
    have h3 : x ∈ dnF n (r.foldl putF []) (n.length - 1 - x.toNat) := by
      rcases dnF_low h (i := n.length - 1 - x.toNat) (by omega) (Nat.le_refl _) ih with h3 | h3
      · exact h3
      · omega
    refine dnF_sub (i := n.length - 1 - x.toNat + 1) (by omega) ?_
    simp only [dnF]
    rw [if_pos (by rw [ex]; exact h3)]
    exact fold_put_mem.2 (.inl (by rw [show n.length - 1 - (n.length - 1 - x.toNat) = x.toNat by omega]; exact h2))
theorem dnF_end {n : List Nd} {r : List Int} (h : NodesOk n r) : dnF n (r.foldl putF []) n.length = rchL n r :=
  sort_ext (dnF_sort (fold_put_sort List.Pairwise.nil) _) rchL_sort fun y => by
    rw [rchL_mem h]
    exact ⟨dnF_rch (fun y hy => by rcases fold_put_mem.1 hy with hy | hy; · exact .root hy
                                   · simp at hy) _ y, dnF_all h⟩
/-- in a good graph just those are come to that are not gone -/
theorem occ_pos {j : Nat} {l : List Int} (h : 0 < occ j l) : ∃ y ∈ l, y.toNat = j := by
  simp only [occ, Int.natCast_pos, List.countP_pos_iff] at h
  obtain ⟨y, h1, h2⟩ := h
  exact ⟨y, h1, by simpa using h2⟩
theorem tots_pos {j : Nat} : ∀ {n : List Nd}, 0 < tots j n → ∃ i, i < n.length ∧ 0 < occ j (n.getD i default).h
  | [], h => by simp [tots] at h
  | x :: n, h => by
    rw [tots_cons] at h
    by_cases h1 : 0 < occ j x.h
    · exact ⟨0, by simp, by simpa using h1⟩
    · obtain ⟨i, h2, h3⟩ := tots_pos (j := j) (n := n) (by omega)
      exact ⟨i + 1, by simpa using h2, by simpa using h3⟩
theorem good_rch {g : Gr} (hG : GoodG g) : ∀ (d k : Nat), k < g.n.length → g.n.length - k ≤ d → (g.n.getD k default).g = false → Rch g.n g.r (k : Int)
  | 0, k, hk, hd, hg => by omega
  | d + 1, k, hk, hd, hg => by
    have h1 := good_pos hG hk hg
    rw [good_c hG hk] at h1
    by_cases h2 : 0 < occ k g.r
    · obtain ⟨y, h3, h4⟩ := occ_pos h2
      have := (hG.1.2.1 y h3).1
      have : y = (k : Int) := by omega
      subst this
      exact .root h3
    · have := occ_nn (j := k) (l := g.r)
      obtain ⟨i, h3, h4⟩ := tots_pos (j := k) (n := g.n) (by omega)
      obtain ⟨y, h5, h6⟩ := occ_pos h4
      have h7 := (hG.1.1 i h3).1 y h5
      have h8 := h7.1
      have h9 := h7.2.1
      have : y = (k : Int) := by omega
      subst this
      have hgi : (g.n.getD i default).g = false := by
        cases hq : (g.n.getD i default).g with
        | false => rfl
        | true =>
          have := (hG.1.1 i h3).2.2 hq
          have := len0 this
          rw [this] at h5; simp at h5
      exact .step (good_rch hG d i h3 (by omega) hgi) (by rw [Int.toNat_natCast]; exact h5)
theorem good_rch_iff {g : Gr} (hG : GoodG g) {k : Nat} (hk : k < g.n.length) : Rch g.n g.r (k : Int) ↔ (g.n.getD k default).g = false := by
  constructor
  · intro h
    have := (rch_hold hG.1 h).2.2
    simpa using this
  · exact good_rch hG _ k hk (Nat.le_refl _)
end Go.Proofs.YtdhclelfnbjikaaT

/- Functions of the program as contracts: what is come to. No condition. -/
set_option maxRecDepth 100000
set_option maxHeartbeats 8000000
set_option linter.unusedSimpArgs false
set_option linter.unusedVariables false
namespace Go.Proofs.YtdhclelfnbjikaaT
open Go
theorem fold_take_put {l O : List Int} {t : Nat} (h : t < l.length) : (l.take (t + 1)).foldl putF O = putF ((l.take t).foldl putF O) (l.getD t default) := by
  rw [List.take_add_one, List.foldl_append, List.getElem?_eq_getElem h]
  simp [List.getD_eq_getElem?_getD, h]
def g68_0 : List Gop := [⟨none, (some 4), (.mov (.k (.one .nil)))⟩]
def g68_1 : List Gop := [⟨none, (some 5), (.mov (.k (.one .nil)))⟩]
def g68_2 : List Gop := [⟨none, (some 11), (.mov (.t 1))⟩, ⟨none, (some 12), (.len (.t 11))⟩, ⟨none, (some 13), (.mov (.k (.one (.int .i64 0))))⟩]
def g68_3 : List Gop := [⟨none, (some 14), (.bin .lss (.t 13) (.t 12))⟩]
def g68_4 : List Gop := [⟨none, (some 15), (.iaddr 1 (.t 11) (.t 13))⟩, ⟨none, (some 16), (.load none (.t 15))⟩, ⟨none, (some 7), (.mov (.t 16))⟩]
def g68_5 : List Gop := [⟨none, (some 17), (.mov (.t 5))⟩, ⟨none, (some 18), (.mov (.t 7))⟩, ⟨none, (some 19), (.call 87 [(.t 17), (.t 18)])⟩, ⟨none, (some 5), (.mov (.t 19))⟩]
def g68_6 : List Gop := [⟨none, (some 20), (.bin .add (.t 13) (.k (.one (.int .i64 1))))⟩, ⟨none, (some 13), (.mov (.t 20))⟩]
def g68_7 : List Gop := [⟨none, (some 21), (.mov (.t 0))⟩, ⟨none, (some 22), (.len (.t 21))⟩, ⟨none, (some 23), (.bin .sub (.t 22) (.k (.one (.int .i64 1))))⟩, ⟨none, (some 8), (.mov (.t 23))⟩]
def g68_8 : List Gop := [⟨none, (some 24), (.mov (.t 8))⟩, ⟨none, (some 25), (.bin .geq (.t 24) (.k (.one (.int .i64 0))))⟩]
def g68_9 : List Gop := [⟨none, (some 28), (.mov (.t 5))⟩, ⟨none, (some 29), (.mov (.t 8))⟩, ⟨none, (some 30), (.call 72 [(.t 28), (.t 29)])⟩]
def g68_10 : List Gop := [⟨none, (some 31), (.mov (.t 0))⟩, ⟨none, (some 32), (.mov (.t 8))⟩, ⟨none, (some 33), (.iaddr 2 (.t 31) (.t 32))⟩, ⟨none, (some 34), (.faddr (.t 33) 0)⟩, ⟨none, (some 35), (.load none (.t 34))⟩, ⟨none, (some 36), (.len (.t 35))⟩, ⟨none, (some 37), (.mov (.k (.one (.int .i64 0))))⟩]
def g68_11 : List Gop := [⟨none, (some 38), (.bin .lss (.t 37) (.t 36))⟩]
def g68_12 : List Gop := [⟨none, (some 39), (.iaddr 1 (.t 35) (.t 37))⟩, ⟨none, (some 40), (.load none (.t 39))⟩, ⟨none, (some 10), (.mov (.t 40))⟩]
def g68_13 : List Gop := [⟨none, (some 41), (.mov (.t 5))⟩, ⟨none, (some 42), (.mov (.t 10))⟩, ⟨none, (some 43), (.call 87 [(.t 41), (.t 42)])⟩, ⟨none, (some 5), (.mov (.t 43))⟩]
def g68_14 : List Gop := [⟨none, (some 44), (.bin .add (.t 37) (.k (.one (.int .i64 1))))⟩, ⟨none, (some 37), (.mov (.t 44))⟩]
def g68_15 : List Gop := [⟨none, (some 26), (.mov (.t 8))⟩, ⟨none, (some 27), (.bin .sub (.t 26) (.k (.one (.int .i64 1))))⟩, ⟨none, (some 8), (.mov (.t 27))⟩]
def g68_16 : List Gop := [⟨none, (some 45), (.mov (.t 5))⟩, ⟨none, (some 4), (.mov (.t 45))⟩]
def i68 : Ir := (.seq (.region g68_0) (.seq (.region g68_1) (.seq (.seq (.region g68_2) (.block 0 (.loop (.seq (.region g68_3) (.seq (.cond (.t 14) .skip (.exit 0)) (.seq (.block 1 (.seq (.region g68_4) (.region g68_5))) (.region g68_6))))))) (.seq (.seq (.region g68_7) (.block 2 (.loop (.seq (.seq (.region g68_8) (.cond (.t 25) .skip (.exit 2))) (.seq (.block 3 (.seq (.region g68_9) (.cond (.t 30) (.seq (.region g68_10) (.block 4 (.loop (.seq (.region g68_11) (.seq (.cond (.t 38) .skip (.exit 4)) (.seq (.block 5 (.seq (.region g68_12) (.region g68_13))) (.region g68_14))))))) .skip))) (.region g68_15)))))) (.seq (.region g68_16) .ret)))))
theorem l10Reached_ok (n : List Nd) (r : List Int) (hq : NodesOk n r) : Meets Try.prog 68 [.one (.sl false 2 n.length (ndR n)), .one (.sl false 1 r.length (r.map (T.int .i64)))] (.w (.one (.sl true 1 (rchL n r).length ((rchL n r).map (T.int .i64))))) [.one .hole, .one .hole] := by
  have h14 := hq.2.2.1
  have h6 := hq.2.2.2
  refine meets_go (ir := i68) (fn := Try.f68) (rx := [(.tmp 4)]) rfl rfl (by rfl) (by rfl) (by exact Nat.le_of_ble_eq_true rfl) ?_
  simp (maxSteps := 9000000) -implicitDefEqProofs -dsimp (disch := omega) only [go_sem, g68_0, g68_1, g68_2, g68_3, g68_4, g68_5, g68_6, g68_7, g68_8, g68_9, g68_10, g68_11, g68_12, g68_13, g68_14, g68_15, g68_16, i68, Nat.reduceEqDiff, Nat.reduceAdd, Nat.reduceMul, Nat.reduceLeDiff, Nat.reduceBEq, Nat.reduceBNe, Int.reduceEq, ↓reduceIte, reduceCtorEq]
  refine loop_n r.length (fun i => ⟨[(13, .w (.one (.int .i64 (i : Nat)))), (12, .w (.one (.int .i64 r.length))), (11, .w (.one (.hs 1 [] 0 1 r.length))), (5, .w (.one (.hs 2 [] 0 1 ((r.take i).foldl putF []).length))), (0, .w (.one (.hs 0 [] 0 2 n.length)))], [(2, (.sl true 1 ((r.take i).foldl putF []).length (((r.take i).foldl putF []).map (T.int .i64)))), (1, (.sl false 1 r.length (r.map (T.int .i64)))), (0, .sl false 2 n.length (ndR n))], [.one (.hs 0 [] 0 2 n.length), .one (.hs 1 [] 0 1 r.length)]⟩) (fun i => True) ?_ trivial ?_
  · exact (imp_adopt 5 2 1 rfl rfl).trans (imp_sub (by simp (maxSteps := 9000000) -implicitDefEqProofs -dsimp (disch := omega) only [go_sem, List.take_zero, List.foldl_nil, Nat.reduceEqDiff, Nat.reduceAdd, Nat.reduceMul, Nat.reduceLeDiff, Nat.reduceBEq, Nat.reduceBNe, Int.reduceEq, ↓reduceIte, reduceCtorEq]) (by simp (maxSteps := 9000000) -implicitDefEqProofs -dsimp (disch := omega) only [go_sem, List.take_zero, List.foldl_nil, Nat.reduceEqDiff, Nat.reduceAdd, Nat.reduceMul, Nat.reduceLeDiff, Nat.reduceBEq, Nat.reduceBNe, Int.reduceEq, ↓reduceIte, reduceCtorEq]) rfl)
  · intro i hi hJ
    have hl := fold_put_len (l := r.take i) (O := [])
    simp only [List.length_nil, List.length_take] at hl
    by_cases h : i < r.length
    · simp (maxSteps := 9000000) -implicitDefEqProofs -dsimp (disch := omega) only [go_sem, lt_T, lt_F, le_T, le_F, eq_T, eq_F, and_F, Nat.reduceEqDiff, Nat.reduceAdd, Nat.reduceMul, Nat.reduceLeDiff, Nat.reduceBEq, Nat.reduceBNe, Int.reduceEq, ↓reduceIte, reduceCtorEq]
      refine call_go true (l1Put_ok ((r.take i).foldl putF []) (r.getD i default) (by omega)) ?_
      simp (maxSteps := 9000000) -implicitDefEqProofs -dsimp (disch := omega) only [go_sem, lt_T, lt_F, le_T, le_F, eq_T, eq_F, and_F, Nat.reduceEqDiff, Nat.reduceAdd, Nat.reduceMul, Nat.reduceLeDiff, Nat.reduceBEq, Nat.reduceBNe, Int.reduceEq, ↓reduceIte, reduceCtorEq]
      exact ⟨h, (imp_ren 3 2 rfl rfl).trans (imp_sub (by simp (maxSteps := 9000000) -implicitDefEqProofs -dsimp (disch := omega) only [go_sem, fold_take_put h, Nat.reduceEqDiff, Nat.reduceAdd, Nat.reduceMul, Nat.reduceLeDiff, Nat.reduceBEq, Nat.reduceBNe, Int.reduceEq, ↓reduceIte, reduceCtorEq]) (by simp (maxSteps := 9000000) -implicitDefEqProofs -dsimp (disch := omega) only [go_sem, fold_take_put h, Nat.reduceEqDiff, Nat.reduceAdd, Nat.reduceMul, Nat.reduceLeDiff, Nat.reduceBEq, Nat.reduceBNe, Int.reduceEq, ↓reduceIte, reduceCtorEq]) rfl)⟩
    · obtain rfl : i = r.length := by omega
      rw [List.take_length] at hl
      simp (maxSteps := 9000000) -implicitDefEqProofs -dsimp (disch := omega) only [go_sem, lt_T, lt_F, le_T, le_F, eq_T, eq_F, and_F, List.take_length, Nat.reduceEqDiff, Nat.reduceAdd, Nat.reduceMul, Nat.reduceLeDiff, Nat.reduceBEq, Nat.reduceBNe, Int.reduceEq, ↓reduceIte, reduceCtorEq]
      have hend := dnF_end hq
      generalize r.foldl putF [] = O at *
      clear hJ hi h
      refine loop_n n.length (fun i => ⟨[(8, .w (.one (.int .i64 ((n.length : Int) - 1 - i)))), (5, .w (.one (.hs 2 [] 0 1 (dnF n O i).length))), (0, .w (.one (.hs 0 [] 0 2 n.length)))], [(2, (.sl true 1 (dnF n O i).length ((dnF n O i).map (T.int .i64)))), (0, .sl false 2 n.length (ndR n))], [.one (.hs 0 [] 0 2 n.length), .one (.hs 1 [] 0 1 r.length)]⟩) (fun i => True) ?_ trivial ?_
      · exact (imp_sub (by simp (maxSteps := 9000000) -implicitDefEqProofs -dsimp (disch := omega) only [go_sem, dnF, Int.natCast_zero, Int.sub_zero, Nat.reduceEqDiff, Nat.reduceAdd, Nat.reduceMul, Nat.reduceLeDiff, Nat.reduceBEq, Nat.reduceBNe, Int.reduceEq, ↓reduceIte, reduceCtorEq]) (by simp (maxSteps := 9000000) -implicitDefEqProofs -dsimp (disch := omega) only [go_sem, dnF, Int.natCast_zero, Int.sub_zero, Nat.reduceEqDiff, Nat.reduceAdd, Nat.reduceMul, Nat.reduceLeDiff, Nat.reduceBEq, Nat.reduceBNe, Int.reduceEq, ↓reduceIte, reduceCtorEq]) rfl)
      · intro i hi hJ
        have hdl := dnF_len (O := O) hq i hi
        by_cases h : i < n.length
        · have hlt : n.length - 1 - i < n.length := by omega
          have e1 : (n.length : Int) - 1 - i = ((n.length - 1 - i : Nat) : Int) := by omega
          have e2 : ((n.length - 1 - i : Nat) : Int) - 1 = (n.length : Int) - 1 - ((i : Int) + 1) := by omega
          have hs6 := (hq.1 _ hlt).2.1
          have MH := l1Has_ok (dnF n O i) ((n.length - 1 - i : Nat) : Int) (by omega)
          rw [e1]
          by_cases h2 : ((n.length - 1 - i : Nat) : Int) ∈ dnF n O i
          · rw [decide_eq_true h2] at MH
            have e3 : dnF n O (i + 1) = (n.getD (n.length - 1 - i) default).h.foldl putF (dnF n O i) := by rw [dnF, if_pos h2]
            simp (maxSteps := 9000000) -implicitDefEqProofs -dsimp (disch := omega) only [go_sem, lt_T, lt_F, le_T, le_F, eq_T, eq_F, and_F, Nat.reduceEqDiff, Nat.reduceAdd, Nat.reduceMul, Nat.reduceLeDiff, Nat.reduceBEq, Nat.reduceBNe, Int.reduceEq, ↓reduceIte, reduceCtorEq]
            refine call_go true MH ?_
            simp (maxSteps := 9000000) -implicitDefEqProofs -dsimp (disch := omega) only [go_sem, lt_T, lt_F, le_T, le_F, eq_T, eq_F, and_F, ndR_0 hlt, Nat.reduceEqDiff, Nat.reduceAdd, Nat.reduceMul, Nat.reduceLeDiff, Nat.reduceBEq, Nat.reduceBNe, Int.reduceEq, ↓reduceIte, reduceCtorEq]
            have n0 := ndR_0 hlt
            generalize (n.getD (n.length - 1 - i) default).h = hs at *
            refine loop_n hs.length (fun t => ⟨[(37, .w (.one (.int .i64 (t : Nat)))), (36, .w (.one (.int .i64 hs.length))), (35, .w (.one (.hs 0 [(n.length - 1 - i) * 2] 0 1 hs.length))), (8, .w (.one (.int .i64 ((n.length - 1 - i : Nat) : Int)))), (5, .w (.one (.hs 2 [] 0 1 ((hs.take t).foldl putF (dnF n O i)).length))), (0, .w (.one (.hs 0 [] 0 2 n.length)))], [(2, (.sl true 1 ((hs.take t).foldl putF (dnF n O i)).length (((hs.take t).foldl putF (dnF n O i)).map (T.int .i64)))), (0, .sl false 2 n.length (ndR n))], [.one (.hs 0 [] 0 2 n.length), .one (.hs 1 [] 0 1 r.length)]⟩) (fun i => True) ?_ trivial ?_
            · exact (imp_sub (by simp (maxSteps := 9000000) -implicitDefEqProofs -dsimp (disch := omega) only [go_sem, List.take_zero, List.foldl_nil, Nat.reduceEqDiff, Nat.reduceAdd, Nat.reduceMul, Nat.reduceLeDiff, Nat.reduceBEq, Nat.reduceBNe, Int.reduceEq, ↓reduceIte, reduceCtorEq]) (by simp (maxSteps := 9000000) -implicitDefEqProofs -dsimp (disch := omega) only [go_sem, List.take_zero, List.foldl_nil, Nat.reduceEqDiff, Nat.reduceAdd, Nat.reduceMul, Nat.reduceLeDiff, Nat.reduceBEq, Nat.reduceBNe, Int.reduceEq, ↓reduceIte, reduceCtorEq]) rfl)
            · intro t ht hJ
              have hl2 := fold_put_len (l := hs.take t) (O := dnF n O i)
              simp only [List.length_take] at hl2
              by_cases h3 : t < hs.length
              · simp (maxSteps := 9000000) -implicitDefEqProofs -dsimp (disch := omega) only [go_sem, lt_T, lt_F, le_T, le_F, eq_T, eq_F, and_F, n0, Nat.reduceEqDiff, Nat.reduceAdd, Nat.reduceMul, Nat.reduceLeDiff, Nat.reduceBEq, Nat.reduceBNe, Int.reduceEq, ↓reduceIte, reduceCtorEq]
                refine call_go true (l1Put_ok ((hs.take t).foldl putF (dnF n O i)) (hs.getD t default) (by omega)) ?_
                simp (maxSteps := 9000000) -implicitDefEqProofs -dsimp (disch := omega) only [go_sem, lt_T, lt_F, le_T, le_F, eq_T, eq_F, and_F, n0, Nat.reduceEqDiff, Nat.reduceAdd, Nat.reduceMul, Nat.reduceLeDiff, Nat.reduceBEq, Nat.reduceBNe, Int.reduceEq, ↓reduceIte, reduceCtorEq]
                exact ⟨h3, (imp_ren 3 2 rfl rfl).trans (imp_sub (by simp (maxSteps := 9000000) -implicitDefEqProofs -dsimp (disch := omega) only [go_sem, fold_take_put h3, Nat.reduceEqDiff, Nat.reduceAdd, Nat.reduceMul, Nat.reduceLeDiff, Nat.reduceBEq, Nat.reduceBNe, Int.reduceEq, ↓reduceIte, reduceCtorEq]) (by simp (maxSteps := 9000000) -implicitDefEqProofs -dsimp (disch := omega) only [go_sem, fold_take_put h3, Nat.reduceEqDiff, Nat.reduceAdd, Nat.reduceMul, Nat.reduceLeDiff, Nat.reduceBEq, Nat.reduceBNe, Int.reduceEq, ↓reduceIte, reduceCtorEq]) rfl)⟩
              · obtain rfl : t = hs.length := by omega
                simp (maxSteps := 9000000) -implicitDefEqProofs -dsimp (disch := omega) only [go_sem, lt_T, lt_F, le_T, le_F, eq_T, eq_F, and_F, List.take_length, Nat.reduceEqDiff, Nat.reduceAdd, Nat.reduceMul, Nat.reduceLeDiff, Nat.reduceBEq, Nat.reduceBNe, Int.reduceEq, ↓reduceIte, reduceCtorEq]
                exact ⟨h, (imp_sub (by simp (maxSteps := 9000000) -implicitDefEqProofs -dsimp (disch := omega) only [go_sem, e3, e2, Nat.reduceEqDiff, Nat.reduceAdd, Nat.reduceMul, Nat.reduceLeDiff, Nat.reduceBEq, Nat.reduceBNe, Int.reduceEq, ↓reduceIte, reduceCtorEq]) (by simp (maxSteps := 9000000) -implicitDefEqProofs -dsimp (disch := omega) only [go_sem, e3, e2, Nat.reduceEqDiff, Nat.reduceAdd, Nat.reduceMul, Nat.reduceLeDiff, Nat.reduceBEq, Nat.reduceBNe, Int.reduceEq, ↓reduceIte, reduceCtorEq]) rfl)⟩
          · rw [decide_eq_false h2] at MH
            have e3 : dnF n O (i + 1) = dnF n O i := by rw [dnF, if_neg h2]
            simp (maxSteps := 9000000) -implicitDefEqProofs -dsimp (disch := omega) only [go_sem, lt_T, lt_F, le_T, le_F, eq_T, eq_F, and_F, Nat.reduceEqDiff, Nat.reduceAdd, Nat.reduceMul, Nat.reduceLeDiff, Nat.reduceBEq, Nat.reduceBNe, Int.reduceEq, ↓reduceIte, reduceCtorEq]
            refine call_go true MH ?_
            simp (maxSteps := 9000000) -implicitDefEqProofs -dsimp (disch := omega) only [go_sem, lt_T, lt_F, le_T, le_F, eq_T, eq_F, and_F, Nat.reduceEqDiff, Nat.reduceAdd, Nat.reduceMul, Nat.reduceLeDiff, Nat.reduceBEq, Nat.reduceBNe, Int.reduceEq, ↓reduceIte, reduceCtorEq]
            exact ⟨h, (imp_sub (by simp (maxSteps := 9000000) -implicitDefEqProofs -dsimp (disch := omega) only [go_sem, e3, e2, Nat.reduceEqDiff, Nat.reduceAdd, Nat.reduceMul, Nat.reduceLeDiff, Nat.reduceBEq, Nat.reduceBNe, Int.reduceEq, ↓reduceIte, reduceCtorEq]) (by simp (maxSteps := 9000000) -implicitDefEqProofs -dsimp (disch := omega) only [go_sem, e3, e2, Nat.reduceEqDiff, Nat.reduceAdd, Nat.reduceMul, Nat.reduceLeDiff, Nat.reduceBEq, Nat.reduceBNe, Int.reduceEq, ↓reduceIte, reduceCtorEq]) rfl)⟩
        · obtain rfl : i = n.length := by omega
          rw [show (n.length : Int) - 1 - n.length = -1 by omega, hend]
          simp (maxSteps := 9000000) -implicitDefEqProofs -dsimp (disch := omega) only [go_sem, lt_T, lt_F, le_T, le_F, eq_T, eq_F, and_F, Nat.reduceEqDiff, Nat.reduceAdd, Nat.reduceMul, Nat.reduceLeDiff, Nat.reduceBEq, Nat.reduceBNe, Int.reduceEq, ↓reduceIte, reduceCtorEq]
end Go.Proofs.YtdhclelfnbjikaaT

/- Functions of the program as contracts: what is come to, by the program. No condition. -/
set_option maxRecDepth 100000
set_option maxHeartbeats 8000000
set_option linter.unusedSimpArgs false
set_option linter.unusedVariables false
namespace Go.Proofs.YtdhclelfnbjikaaT
open Go
noncomputable def bits (n : List Nd) (r : List Int) : List Bool := (List.range n.length).map fun k : Nat => decide (Rch n r (k : Int))
theorem bits_len {n : List Nd} {r : List Int} : (bits n r).length = n.length := by simp [bits]
theorem bits_get {n : List Nd} {r : List Int} {k : Nat} (h : k < n.length) : (bits n r).getD k default = decide (Rch n r (k : Int)) := range_getD h
/-- how many are not seen yet -/
def cF (o : List Bool) : Nat := o.countP fun b => !b
/-- what is still open: seen, the line, how far -/
structure Wk where
  o : List Bool
  l : List Int
  i : Nat
structure WkI (n : List Nd) (r : List Int) (w : Wk) : Prop where
  lo : w.o.length = n.length
  rch : ∀ y ∈ w.l, Rch n r y
  rts : ∀ y ∈ r, y ∈ w.l
  le : w.i ≤ w.l.length
  seen : ∀ j, j < w.i → w.o.getD (w.l.getD j default).toNat default = true
  cl : ∀ k, k < n.length → w.o.getD k default = true → ((k : Int) ∈ w.l) ∧ ∀ y ∈ (n.getD k default).h, y ∈ w.l
  sz : w.l.length + 6 * cF w.o ≤ 6 + 6 * n.length
theorem cnt_set {o : List Bool} {k : Nat} (h : k < o.length) (hf : o.getD k default = false) : cF (o.set k true) + 1 = cF o := by
  unfold cF
  induction o generalizing k with
  | nil => simp at h
  | cons b o ih =>
    cases k with
    | zero =>
      simp only [List.getD_cons_zero] at hf
      subst hf
      simp
    | succ k =>
      have := ih (k := k) (by simpa using h) (by simpa using hf)
      simp only [List.set_cons_succ, List.countP_cons]
      omega
theorem wk_start {n : List Nd} {r : List Int} (h : NodesOk n r) : WkI n r ⟨List.replicate n.length false, r, 0⟩ where
  lo := by simp
  rch y hy := .root hy
  rts y hy := hy
  le := Nat.zero_le _
  seen j hj := by simp at hj
  cl k hk hq := by rw [List.getD_eq_getElem?_getD, List.getElem?_replicate, if_pos hk] at hq; simp at hq
  sz := by
    have := h.2.2.2
    simp only [cF, List.countP_replicate]
    simp; omega
theorem wk_next {n : List Nd} {r : List Int} {w : Wk} (I : WkI n r w) (hi : w.i < w.l.length) (ht : w.o.getD (w.l.getD w.i default).toNat default = true) : WkI n r ⟨w.o, w.l, w.i + 1⟩ where
  lo := I.lo
  rch := I.rch
  rts := I.rts
  le := hi
  seen j hj := by
    by_cases e : j = w.i
    · subst e; exact ht
    · exact I.seen j (by simp only at hj; omega)
  cl := I.cl
  sz := I.sz
theorem wk_new {n : List Nd} {r : List Int} {w : Wk} (h : NodesOk n r) (I : WkI n r w) (hi : w.i < w.l.length) (ht : w.o.getD (w.l.getD w.i default).toNat default = false) : WkI n r ⟨w.o.set (w.l.getD w.i default).toNat true, w.l ++ (n.getD (w.l.getD w.i default).toNat default).h, w.i + 1⟩ := by
  have hy := I.rch _ (getD_mem hi)
  have hh := rch_hold h hy
  have a := hh.1
  have b := hh.2.1
  have hlt : (w.l.getD w.i default).toNat < n.length := by omega
  have hs := (h.1 _ hlt).2.1
  have hc := cnt_set (by rw [I.lo]; exact hlt) ht
  have hg : ∀ j, (w.o.set (w.l.getD w.i default).toNat true).getD j default = if (w.l.getD w.i default).toNat = j ∧ j < w.o.length then true else w.o.getD j default := fun j => getD_set
  refine ⟨by simp [I.lo], fun y hy' => ?_, fun y hy' => List.mem_append_left _ (I.rts y hy'), by simp only [List.length_append]; omega, fun j hj => ?_, fun k hk hq => ?_, ?_⟩
  · rcases List.mem_append.1 hy' with hy' | hy'
    · exact I.rch y hy'
    · exact .step hy hy'
  · simp only at hj
    have e : (w.l ++ (n.getD (w.l.getD w.i default).toNat default).h).getD j default = w.l.getD j default := by
      rw [List.getD_eq_getElem?_getD, List.getElem?_append_left (by omega), ← List.getD_eq_getElem?_getD]
    simp only [e, hg]
    split
    · rfl
    · rename_i e2
      by_cases e3 : j = w.i
      · subst e3
        exact absurd ⟨rfl, by rw [I.lo]; exact hlt⟩ e2
      · exact I.seen j (by omega)
  · simp only [hg] at hq
    split at hq
    · rename_i e
      obtain ⟨e, _⟩ := e
      subst e
      refine ⟨List.mem_append_left _ ?_, fun y hy' => List.mem_append_right _ hy'⟩
      rw [Int.toNat_of_nonneg a]; exact getD_mem hi
    · have := I.cl k hk hq
      exact ⟨List.mem_append_left _ this.1, fun y hy' => List.mem_append_left _ (this.2 y hy')⟩
  · have := I.sz
    simp only [List.length_append]
    omega
theorem wk_end {n : List Nd} {r : List Int} {w : Wk} (h : NodesOk n r) (I : WkI n r w) (hi : w.i = w.l.length) : w.o = bits n r := by
  have key : ∀ y, Rch n r y → w.o.getD y.toNat default = true := by
    intro y hy
    have hin : y ∈ w.l := by
      induction hy with
      | root h1 => exact I.rts _ h1
      | @step x y h1 h2 ih =>
        have hh := rch_hold h h1
        have a := hh.1
        have b := hh.2.1
        obtain ⟨j, hj, rfl⟩ := List.getElem_of_mem ih
        have := I.seen j (by omega)
        rw [List.getD_eq_getElem?_getD (l := w.l), List.getElem?_eq_getElem hj, Option.getD_some] at this
        exact (I.cl _ (by omega) this).2 y h2
    obtain ⟨j, hj, rfl⟩ := List.getElem_of_mem hin
    have := I.seen j (by omega)
    rw [List.getD_eq_getElem?_getD (l := w.l), List.getElem?_eq_getElem hj] at this
    exact this
  apply List.ext_getElem (by rw [I.lo, bits_len])
  intro k h1 h2
  rw [I.lo] at h1
  have e1 : w.o[k] = w.o.getD k default := by rw [List.getD_eq_getElem?_getD, List.getElem?_eq_getElem]; rfl
  have e2 : (bits n r)[k] = (bits n r).getD k default := by rw [List.getD_eq_getElem?_getD, List.getElem?_eq_getElem]; rfl
  rw [e1, e2, bits_get h1]
  by_cases hr : Rch n r (k : Int)
  · rw [decide_eq_true hr]
    have := key _ hr
    rwa [Int.toNat_natCast] at this
  · rw [decide_eq_false hr]
    cases hq : w.o.getD k default with
    | false => rfl
    | true => exact absurd (I.rch _ (I.cl k h1 hq).1) hr
theorem rep_bool {n : Nat} : (List.replicate n [T.bool false]).flatten = (List.replicate n false).map T.bool := by
  induction n with
  | zero => rfl
  | succ n ih => rw [List.replicate_succ, List.flatten_cons, ih, List.replicate_succ]; rfl
def g69_0 : List Gop := [⟨none, (some 1), (.box (.t 0))⟩, ⟨none, (some 2), (.mov (.k (.one .nil)))⟩]
def g69_1 : List Gop := [⟨none, (some 6), (.faddr (.t 1) 0)⟩, ⟨none, (some 7), (.load none (.t 6))⟩, ⟨none, (some 8), (.len (.t 7))⟩, ⟨none, (some 9), (.make 1 [(.bool .false)] 1 (.t 8) (.t 8))⟩, ⟨none, (some 3), (.mov (.t 9))⟩]
def g69_2 : List Gop := [⟨none, (some 10), (.faddr (.t 1) 1)⟩, ⟨none, (some 11), (.load none (.t 10))⟩, ⟨none, (some 12), (.call 86 [(.t 11)])⟩, ⟨none, (some 4), (.mov (.t 12))⟩]
def g69_3 : List Gop := [⟨none, (some 5), (.mov (.k (.one (.int .i64 0))))⟩]
def g69_4 : List Gop := [⟨none, (some 13), (.mov (.t 5))⟩, ⟨none, (some 14), (.mov (.t 4))⟩, ⟨none, (some 15), (.len (.t 14))⟩, ⟨none, (some 16), (.bin .lss (.t 13) (.t 15))⟩]
def g69_5 : List Gop := [⟨none, (some 19), (.mov (.t 3))⟩, ⟨none, (some 20), (.mov (.t 4))⟩, ⟨none, (some 21), (.mov (.t 5))⟩, ⟨none, (some 22), (.iaddr 1 (.t 20) (.t 21))⟩, ⟨none, (some 23), (.load none (.t 22))⟩, ⟨none, (some 24), (.iaddr 1 (.t 19) (.t 23))⟩, ⟨none, (some 25), (.load none (.t 24))⟩, ⟨none, (some 26), (.un .not (.t 25))⟩]
def g69_6 : List Gop := [⟨none, (some 27), (.mov (.t 3))⟩, ⟨none, (some 28), (.mov (.t 4))⟩, ⟨none, (some 29), (.mov (.t 5))⟩, ⟨none, (some 30), (.iaddr 1 (.t 28) (.t 29))⟩, ⟨none, (some 31), (.load none (.t 30))⟩, ⟨none, (some 32), (.iaddr 1 (.t 27) (.t 31))⟩, ⟨none, none, (.store 1 (.t 32) (.k (.one (.bool .true))))⟩]
def g69_7 : List Gop := [⟨none, (some 33), (.mov (.t 4))⟩, ⟨none, (some 34), (.faddr (.t 1) 0)⟩, ⟨none, (some 35), (.load none (.t 34))⟩, ⟨none, (some 36), (.mov (.t 4))⟩, ⟨none, (some 37), (.mov (.t 5))⟩, ⟨none, (some 38), (.iaddr 1 (.t 36) (.t 37))⟩, ⟨none, (some 39), (.load none (.t 38))⟩, ⟨none, (some 40), (.iaddr 2 (.t 35) (.t 39))⟩, ⟨none, (some 41), (.faddr (.t 40) 0)⟩, ⟨none, (some 42), (.load none (.t 41))⟩, ⟨none, (some 43), (.app 1 8 [(.int .i64 0)] (.t 33) (.t 42))⟩, ⟨none, (some 4), (.mov (.t 43))⟩]
def a69_7 : List (List Nat) := [[], [], [1], [], [], [3, 4], [3, 4, 5], [1, 2, 3, 4, 5, 6], [1, 2, 3, 4, 5, 6, 7], [1, 2, 3, 4, 5, 6, 7, 8], [0, 1, 2, 3, 4, 5, 6, 7, 8, 9], [0, 1, 2, 3, 4, 5, 6, 7, 8, 9, 10]]
def n69_7 : Nat := 10 -- of 12
def g69_8 : List Gop := [⟨none, (some 17), (.mov (.t 5))⟩, ⟨none, (some 18), (.bin .add (.t 17) (.k (.one (.int .i64 1))))⟩, ⟨none, (some 5), (.mov (.t 18))⟩]
def g69_9 : List Gop := [⟨none, (some 44), (.mov (.t 3))⟩, ⟨none, (some 2), (.mov (.t 44))⟩]
def i69 : Ir := (.seq (.region g69_0) (.seq (.region g69_1) (.seq (.region g69_2) (.seq (.seq (.region g69_3) (.block 0 (.loop (.seq (.seq (.region g69_4) (.cond (.t 16) .skip (.exit 0))) (.seq (.block 1 (.seq (.region g69_5) (.cond (.t 26) (.seq (.region g69_6) (.draw [[], [], [1], [], [], [3, 4], [5], [2, 6], [7], [8], [0, 9], [10, 10, 0, 1, 2, 3, 4, 5, 6, 7, 8, 9, 10]] g69_7)) .skip))) (.region g69_8)))))) (.seq (.region g69_9) .ret)))))
theorem reached_ok (g : Gr) (hq : NodesOk g.n g.r) (hc : g.c.length ≤ 1048576) : Meets Try.prog 69 [.agg [.sl false 2 g.n.length (ndR g.n), (.sl false 1 g.r.length (g.r.map (T.int .i64))), (.sl false 1 g.c.length (g.c.map (T.int .i64)))]] (.w (.one (.sl true 1 g.n.length ((bits g.n g.r).map T.bool)))) [.agg [.hole, .hole, .hole]] := by
  have h14 := hq.2.2.1
  have h6 := hq.2.2.2
  refine meets_go (ir := i69) (fn := Try.f69) (rx := [(.tmp 2)]) rfl rfl (by rfl) (by rfl) (by exact Nat.le_of_ble_eq_true rfl) ?_
  simp (maxSteps := 9000000) -implicitDefEqProofs -dsimp (disch := omega) only [go_sem, g69_0, g69_1, g69_2, g69_3, g69_4, g69_5, g69_6, g69_7, a69_7, n69_7, g69_8, g69_9, i69, Nat.reduceEqDiff, Nat.reduceAdd, Nat.reduceMul, Nat.reduceLeDiff, Nat.reduceBEq, Nat.reduceBNe, Int.reduceEq, ↓reduceIte, reduceCtorEq]
  refine call_go true (cloneInt_ok g.r (by omega)) ?_
  simp (maxSteps := 9000000) -implicitDefEqProofs -dsimp (disch := omega) only [go_sem, lt_T, lt_F, le_T, le_F, eq_T, eq_F, and_F, rep_bool, Nat.reduceEqDiff, Nat.reduceAdd, Nat.reduceMul, Nat.reduceLeDiff, Nat.reduceBEq, Nat.reduceBNe, Int.reduceEq, ↓reduceIte, reduceCtorEq]
  refine loop_m (α := { w : Wk // WkI g.n g.r w }) (fun w => ⟨[(5, .w (.one (.int .i64 (w.1.i : Nat)))), (4, .w (.one (.hs 5 [] 0 1 w.1.l.length))), (3, .w (.one (.hs 4 [] 0 1 g.n.length))), (1, .w (.one (.hp 3 [] 0)))], [(5, (.sl true 1 w.1.l.length (w.1.l.map (T.int .i64)))), (4, .sl true 1 g.n.length (w.1.o.map T.bool)), (3, .bx true [.sl false 2 g.n.length (ndR g.n), (.sl false 1 g.r.length (g.r.map (T.int .i64))), (.sl false 1 g.c.length (g.c.map (T.int .i64)))])], [.agg [.hs 0 [] 0 2 g.n.length, .hs 1 [] 0 1 g.r.length, .hs 2 [] 0 1 g.c.length]]⟩) (fun w => (w.1.l.length - w.1.i) + 7 * cF w.1.o) ⟨_, wk_start hq⟩ ?_ ?_
  · exact (imp_sub (by simp (maxSteps := 9000000) -implicitDefEqProofs -dsimp (disch := omega) only [go_sem, List.map_replicate, Nat.reduceEqDiff, Nat.reduceAdd, Nat.reduceMul, Nat.reduceLeDiff, Nat.reduceBEq, Nat.reduceBNe, Int.reduceEq, ↓reduceIte, reduceCtorEq]) (by simp (maxSteps := 9000000) -implicitDefEqProofs -dsimp (disch := omega) only [go_sem, List.map_replicate, Nat.reduceEqDiff, Nat.reduceAdd, Nat.reduceMul, Nat.reduceLeDiff, Nat.reduceBEq, Nat.reduceBNe, Int.reduceEq, ↓reduceIte, reduceCtorEq]) rfl)
  · rintro ⟨w, I⟩
    have isz := I.sz
    have ilo := I.lo
    have ile := I.le
    by_cases h : w.i < w.l.length
    · have hy := I.rch _ (getD_mem h)
      have hh := rch_hold hq hy
      have a := hh.1
      have b := hh.2.1
      have hlt : (w.l.getD w.i default).toNat < g.n.length := by omega
      have e1 : ((w.l.getD w.i default).toNat : Int) = w.l.getD w.i default := Int.toNat_of_nonneg a
      cases h2 : w.o.getD (w.l.getD w.i default).toNat default with
      | true =>
        have hb : (w.o.map T.bool)[(w.l.getD w.i default).toNat]? = some (.bool true) := by rw [List.getElem?_map, List.getElem?_eq_getElem (by omega)]; rw [List.getD_eq_getElem?_getD, List.getElem?_eq_getElem (by omega)] at h2; simp at h2; simp [h2]
        simp (maxSteps := 9000000) -implicitDefEqProofs -dsimp (disch := omega) only [go_sem, lt_T, lt_F, le_T, le_F, eq_T, eq_F, and_F, hb, Nat.reduceEqDiff, Nat.reduceAdd, Nat.reduceMul, Nat.reduceLeDiff, Nat.reduceBEq, Nat.reduceBNe, Int.reduceEq, ↓reduceIte, reduceCtorEq]
        exact ⟨⟨_, wk_next I h h2⟩, by simp only; omega, (imp_sub (by simp (maxSteps := 9000000) -implicitDefEqProofs -dsimp (disch := omega) only [go_sem, Nat.reduceEqDiff, Nat.reduceAdd, Nat.reduceMul, Nat.reduceLeDiff, Nat.reduceBEq, Nat.reduceBNe, Int.reduceEq, ↓reduceIte, reduceCtorEq]) (by simp (maxSteps := 9000000) -implicitDefEqProofs -dsimp (disch := omega) only [go_sem, Nat.reduceEqDiff, Nat.reduceAdd, Nat.reduceMul, Nat.reduceLeDiff, Nat.reduceBEq, Nat.reduceBNe, Int.reduceEq, ↓reduceIte, reduceCtorEq]) rfl)⟩
      | false =>
        have hb : (w.o.map T.bool)[(w.l.getD w.i default).toNat]? = some (.bool false) := by rw [List.getElem?_map, List.getElem?_eq_getElem (by omega)]; rw [List.getD_eq_getElem?_getD, List.getElem?_eq_getElem (by omega)] at h2; simp at h2; simp [h2]
        have hs := (hq.1 _ hlt).2.1
        have hc := cnt_set (by rw [ilo]; exact hlt) h2
        simp (maxSteps := 9000000) -implicitDefEqProofs -dsimp (disch := omega) only [go_sem, lt_T, lt_F, le_T, le_F, eq_T, eq_F, and_F, hb, Nat.reduceEqDiff, Nat.reduceAdd, Nat.reduceMul, Nat.reduceLeDiff, Nat.reduceBEq, Nat.reduceBNe, Int.reduceEq, ↓reduceIte, reduceCtorEq]
        refine draw_go n69_7 a69_7 (by decide +kernel) ?_
        simp (maxSteps := 9000000) -implicitDefEqProofs -dsimp (disch := omega) only [go_sem, n69_7, a69_7, lt_T, lt_F, le_T, le_F, eq_T, eq_F, and_F, ndR_0 hlt, Nat.reduceEqDiff, Nat.reduceAdd, Nat.reduceMul, Nat.reduceLeDiff, Nat.reduceBEq, Nat.reduceBNe, Int.reduceEq, ↓reduceIte, reduceCtorEq]
        exact ⟨⟨_, wk_new hq I h h2⟩, by simp only [List.length_append]; omega, (imp_ren 6 5 rfl rfl).trans (imp_sub (by simp (maxSteps := 9000000) -implicitDefEqProofs -dsimp (disch := omega) only [go_sem, n69_7, a69_7, Nat.reduceEqDiff, Nat.reduceAdd, Nat.reduceMul, Nat.reduceLeDiff, Nat.reduceBEq, Nat.reduceBNe, Int.reduceEq, ↓reduceIte, reduceCtorEq]) (by simp (maxSteps := 9000000) -implicitDefEqProofs -dsimp (disch := omega) only [go_sem, n69_7, a69_7, Nat.reduceEqDiff, Nat.reduceAdd, Nat.reduceMul, Nat.reduceLeDiff, Nat.reduceBEq, Nat.reduceBNe, Int.reduceEq, ↓reduceIte, reduceCtorEq]) rfl)⟩
    · have he := wk_end hq I (by omega)
      have hbl : cut ((bits g.n g.r).map T.bool) 0 g.n.length = (bits g.n g.r).map T.bool := cut_all (by rw [List.length_map, bits_len]; exact Nat.le_refl _)
      simp (maxSteps := 9000000) -implicitDefEqProofs -dsimp (disch := omega) only [go_sem, n69_7, a69_7, lt_T, lt_F, le_T, le_F, eq_T, eq_F, and_F, he, hbl, Nat.reduceEqDiff, Nat.reduceAdd, Nat.reduceMul, Nat.reduceLeDiff, Nat.reduceBEq, Nat.reduceBNe, Int.reduceEq, ↓reduceIte, reduceCtorEq]
noncomputable def ReRes (g : Gr) : TV := if GoodG g then .tup [.one (.sl true 1 (rchL g.n g.r).length ((rchL g.n g.r).map (T.int .i64))), .one (.bool true)] else .tup [.one (.sl true 0 0 []), .one (.bool false)]
noncomputable def bitL (n : List Nd) (r : List Int) (i : Nat) : List Int := ((List.range i).filter fun k : Nat => decide (Rch n r (k : Int))).map fun k : Nat => (k : Int)
theorem bitL_0 {n : List Nd} {r : List Int} : bitL n r 0 = [] := rfl
theorem bitL_no {n : List Nd} {r : List Int} {i : Nat} (h : ¬ Rch n r (i : Int)) : bitL n r (i + 1) = bitL n r i := by
  simp only [bitL, List.range_succ, List.filter_append, List.map_append]
  rw [show List.filter (fun k : Nat => decide (Rch n r (k : Int))) [i] = [] from by simp only [List.filter_cons, List.filter_nil, decide_eq_false h]; rfl]
  simp
theorem bitL_yes {n : List Nd} {r : List Int} {i : Nat} (h : Rch n r (i : Int)) : bitL n r (i + 1) = bitL n r i ++ [(i : Int)] := by
  simp only [bitL, List.range_succ, List.filter_append, List.map_append]
  rw [show List.filter (fun k : Nat => decide (Rch n r (k : Int))) [i] = [i] from by simp only [List.filter_cons, List.filter_nil, decide_eq_true h]; rfl]
  simp
theorem bitL_len {n : List Nd} {r : List Int} {i : Nat} : (bitL n r i).length ≤ i := by
  unfold bitL
  rw [List.length_map]
  exact Nat.le_trans (List.length_filter_le _ _) (by simp)
def g34_0 : List Gop := [⟨none, (some 1), (.box (.t 0))⟩, ⟨none, (some 2), (.mov (.k (.one .nil)))⟩, ⟨none, (some 3), (.mov (.k (.one (.bool .false))))⟩]
def g34_1 : List Gop := [⟨none, (some 7), (.load (some 3) (.t 1))⟩, ⟨none, (some 8), (.call 27 [(.t 7)])⟩, ⟨none, (some 9), (.un .not (.t 8))⟩]
def g34_2 : List Gop := [⟨none, (some 2), (.mov (.k (.one .nil)))⟩, ⟨none, (some 3), (.mov (.k (.one (.bool .false))))⟩]
def g34_3 : List Gop := [⟨none, (some 10), (.lit 1 0 [(.int .i64 0)] [])⟩, ⟨none, (some 4), (.mov (.t 10))⟩]
def g34_4 : List Gop := [⟨none, (some 11), (.load (some 3) (.t 1))⟩, ⟨none, (some 12), (.call 69 [(.t 11)])⟩, ⟨none, (some 13), (.len (.t 12))⟩, ⟨none, (some 14), (.mov (.k (.one (.int .i64 0))))⟩]
def g34_5 : List Gop := [⟨none, (some 15), (.bin .lss (.t 14) (.t 13))⟩]
def g34_6 : List Gop := [⟨none, (some 16), (.mov (.t 14))⟩, ⟨none, (some 17), (.iaddr 1 (.t 12) (.t 14))⟩, ⟨none, (some 18), (.load none (.t 17))⟩, ⟨none, (some 5), (.mov (.t 16))⟩, ⟨none, (some 6), (.mov (.t 18))⟩]
def g34_7 : List Gop := [⟨none, (some 19), (.mov (.t 6))⟩]
def g34_8 : List Gop := [⟨none, (some 20), (.mov (.t 4))⟩, ⟨none, (some 21), (.mov (.t 5))⟩, ⟨none, (some 22), (.lit 1 1 [(.int .i64 0)] [(0, (.t 21))])⟩, ⟨none, (some 23), (.app 1 8 [(.int .i64 0)] (.t 20) (.t 22))⟩, ⟨none, (some 4), (.mov (.t 23))⟩]
def g34_9 : List Gop := [⟨none, (some 24), (.bin .add (.t 14) (.k (.one (.int .i64 1))))⟩, ⟨none, (some 14), (.mov (.t 24))⟩]
def g34_10 : List Gop := [⟨none, (some 25), (.mov (.t 4))⟩, ⟨none, (some 2), (.mov (.t 25))⟩, ⟨none, (some 3), (.mov (.k (.one (.bool .true))))⟩]
def i34 : Ir := (.seq (.region g34_0) (.seq (.seq (.region g34_1) (.cond (.t 9) (.seq (.region g34_2) .ret) .skip)) (.seq (.region g34_3) (.seq (.seq (.region g34_4) (.block 0 (.loop (.seq (.region g34_5) (.seq (.cond (.t 15) .skip (.exit 0)) (.seq (.block 1 (.seq (.region g34_6) (.seq (.region g34_7) (.cond (.t 19) (.region g34_8) .skip)))) (.region g34_9))))))) (.seq (.region g34_10) .ret)))))
theorem implReachedIn_ok (g : Gr) (s : Small g) : Meets Try.prog 34 [.agg [.sl false 2 g.n.length (ndR g.n), (.sl false 1 g.r.length (g.r.map (T.int .i64))), (.sl false 1 g.c.length (g.c.map (T.int .i64)))]] (ReRes g) [.agg [.hole, .hole, .hole]] := by
  have M1 := implGoodGraph_ok g s.n s.h s.r s.c
  by_cases hT : GoodG g
  · have h14 := hT.1.2.2.1
    rw [decide_eq_true hT] at M1
    rw [ReRes, if_pos hT]
    refine meets_go (ir := i34) (fn := Try.f34) (rx := [(.tmp 2), (.tmp 3)]) rfl rfl (by rfl) (by rfl) (by exact Nat.le_of_ble_eq_true rfl) ?_
    simp (maxSteps := 9000000) -implicitDefEqProofs -dsimp (disch := omega) only [go_sem, g34_0, g34_1, g34_2, g34_3, g34_4, g34_5, g34_6, g34_7, g34_8, g34_9, g34_10, i34, Nat.reduceEqDiff, Nat.reduceAdd, Nat.reduceMul, Nat.reduceLeDiff, Nat.reduceBEq, Nat.reduceBNe, Int.reduceEq, ↓reduceIte, reduceCtorEq]
    refine call_go true M1 ?_
    simp (maxSteps := 9000000) -implicitDefEqProofs -dsimp (disch := omega) only [go_sem, lt_T, lt_F, le_T, le_F, eq_T, eq_F, and_F, Nat.reduceEqDiff, Nat.reduceAdd, Nat.reduceMul, Nat.reduceLeDiff, Nat.reduceBEq, Nat.reduceBNe, Int.reduceEq, ↓reduceIte, reduceCtorEq]
    refine call_go true (reached_ok g hT.1 s.c) ?_
    simp (maxSteps := 9000000) -implicitDefEqProofs -dsimp (disch := omega) only [go_sem, lt_T, lt_F, le_T, le_F, eq_T, eq_F, and_F, Nat.reduceEqDiff, Nat.reduceAdd, Nat.reduceMul, Nat.reduceLeDiff, Nat.reduceBEq, Nat.reduceBNe, Int.reduceEq, ↓reduceIte, reduceCtorEq]
    refine loop_n g.n.length (fun i => ⟨[(14, .w (.one (.int .i64 (i : Nat)))), (13, .w (.one (.int .i64 g.n.length))), (12, .w (.one (.hs 4 [] 0 1 g.n.length))), (4, .w (.one (.hs 5 [] 0 1 (bitL g.n g.r i).length)))], [(5, (.sl true 1 (bitL g.n g.r i).length ((bitL g.n g.r i).map (T.int .i64)))), (4, .sl true 1 g.n.length ((bits g.n g.r).map T.bool))], [.agg [.hs 0 [] 0 2 g.n.length, .hs 1 [] 0 1 g.r.length, .hs 2 [] 0 1 g.c.length]]⟩) (fun i => True) ?_ trivial ?_
    · exact (imp_adopt 4 5 1 rfl rfl).trans (imp_sub (by simp (maxSteps := 9000000) -implicitDefEqProofs -dsimp (disch := omega) only [go_sem, bitL_0, Nat.reduceEqDiff, Nat.reduceAdd, Nat.reduceMul, Nat.reduceLeDiff, Nat.reduceBEq, Nat.reduceBNe, Int.reduceEq, ↓reduceIte, reduceCtorEq]) (by simp (maxSteps := 9000000) -implicitDefEqProofs -dsimp (disch := omega) only [go_sem, bitL_0, Nat.reduceEqDiff, Nat.reduceAdd, Nat.reduceMul, Nat.reduceLeDiff, Nat.reduceBEq, Nat.reduceBNe, Int.reduceEq, ↓reduceIte, reduceCtorEq]) rfl)
    · intro i hi hJ
      have hbl := bitL_len (n := g.n) (r := g.r) (i := i)
      by_cases h : i < g.n.length
      · have hb : ((bits g.n g.r).map T.bool)[i]? = some (.bool (decide (Rch g.n g.r (i : Int)))) := by rw [List.getElem?_map, List.getElem?_eq_getElem (by rw [bits_len]; exact h)]; simp [bits]
        by_cases h2 : Rch g.n g.r (i : Int)
        · rw [decide_eq_true h2] at hb
          simp (maxSteps := 9000000) -implicitDefEqProofs -dsimp (disch := omega) only [go_sem, lt_T, lt_F, le_T, le_F, eq_T, eq_F, and_F, hb, Nat.reduceEqDiff, Nat.reduceAdd, Nat.reduceMul, Nat.reduceLeDiff, Nat.reduceBEq, Nat.reduceBNe, Int.reduceEq, ↓reduceIte, reduceCtorEq]
          exact ⟨h, (imp_ren 7 5 rfl rfl).trans (imp_sub (by simp (maxSteps := 9000000) -implicitDefEqProofs -dsimp (disch := omega) only [go_sem, bitL_yes h2, Nat.reduceEqDiff, Nat.reduceAdd, Nat.reduceMul, Nat.reduceLeDiff, Nat.reduceBEq, Nat.reduceBNe, Int.reduceEq, ↓reduceIte, reduceCtorEq]) (by simp (maxSteps := 9000000) -implicitDefEqProofs -dsimp (disch := omega) only [go_sem, bitL_yes h2, Nat.reduceEqDiff, Nat.reduceAdd, Nat.reduceMul, Nat.reduceLeDiff, Nat.reduceBEq, Nat.reduceBNe, Int.reduceEq, ↓reduceIte, reduceCtorEq]) rfl)⟩
        · rw [decide_eq_false h2] at hb
          simp (maxSteps := 9000000) -implicitDefEqProofs -dsimp (disch := omega) only [go_sem, lt_T, lt_F, le_T, le_F, eq_T, eq_F, and_F, hb, Nat.reduceEqDiff, Nat.reduceAdd, Nat.reduceMul, Nat.reduceLeDiff, Nat.reduceBEq, Nat.reduceBNe, Int.reduceEq, ↓reduceIte, reduceCtorEq]
          exact ⟨h, (imp_sub (by simp (maxSteps := 9000000) -implicitDefEqProofs -dsimp (disch := omega) only [go_sem, bitL_no h2, Nat.reduceEqDiff, Nat.reduceAdd, Nat.reduceMul, Nat.reduceLeDiff, Nat.reduceBEq, Nat.reduceBNe, Int.reduceEq, ↓reduceIte, reduceCtorEq]) (by simp (maxSteps := 9000000) -implicitDefEqProofs -dsimp (disch := omega) only [go_sem, bitL_no h2, Nat.reduceEqDiff, Nat.reduceAdd, Nat.reduceMul, Nat.reduceLeDiff, Nat.reduceBEq, Nat.reduceBNe, Int.reduceEq, ↓reduceIte, reduceCtorEq]) rfl)⟩
      · obtain rfl : i = g.n.length := by omega
        have e : bitL g.n g.r g.n.length = rchL g.n g.r := rfl
        simp (maxSteps := 9000000) -implicitDefEqProofs -dsimp (disch := omega) only [go_sem, lt_T, lt_F, le_T, le_F, eq_T, eq_F, and_F, e, Nat.reduceEqDiff, Nat.reduceAdd, Nat.reduceMul, Nat.reduceLeDiff, Nat.reduceBEq, Nat.reduceBNe, Int.reduceEq, ↓reduceIte, reduceCtorEq]
  · rw [decide_eq_false hT] at M1
    rw [ReRes, if_neg hT]
    refine meets_go (ir := i34) (fn := Try.f34) (rx := [(.tmp 2), (.tmp 3)]) rfl rfl (by rfl) (by rfl) (by exact Nat.le_of_ble_eq_true rfl) ?_
    simp (maxSteps := 9000000) -implicitDefEqProofs -dsimp (disch := omega) only [go_sem, g34_0, g34_1, g34_2, g34_3, g34_4, g34_5, g34_6, g34_7, g34_8, g34_9, g34_10, i34, Nat.reduceEqDiff, Nat.reduceAdd, Nat.reduceMul, Nat.reduceLeDiff, Nat.reduceBEq, Nat.reduceBNe, Int.reduceEq, ↓reduceIte, reduceCtorEq]
    refine call_go true M1 ?_
    simp (maxSteps := 9000000) -implicitDefEqProofs -dsimp (disch := omega) only [go_sem, lt_T, lt_F, le_T, le_F, eq_T, eq_F, and_F, Nat.reduceEqDiff, Nat.reduceAdd, Nat.reduceMul, Nat.reduceLeDiff, Nat.reduceBEq, Nat.reduceBNe, Int.reduceEq, ↓reduceIte, reduceCtorEq]
end Go.Proofs.YtdhclelfnbjikaaT

/- Functions of the program as contracts: a root is held, a node is linked. No condition. -/
set_option maxRecDepth 100000
set_option maxHeartbeats 8000000
set_option linter.unusedSimpArgs false
set_option linter.unusedVariables false
namespace Go.Proofs.YtdhclelfnbjikaaT
open Go
def LkOk (g : Gr) (a b : Int) : Prop := ThereG g a ∧ ThereG g b ∧ b < a ∧ (g.n.getD a.toNat default).h.length ≠ 6
noncomputable instance (g : Gr) (a b : Int) : Decidable (LkOk g a b) := Classical.propDecidable _
def lkN (g : Gr) (a b : Int) : List Nd := g.n.set a.toNat ⟨(g.n.getD a.toNat default).h ++ [b], (g.n.getD a.toNat default).g⟩
noncomputable def LkRes (g : Gr) (a b : Int) : TV := if LkOk g a b then .tup [.agg [.sl true 2 g.n.length (ndO (lkN g a b)), (.sl true 1 g.r.length (g.r.map (T.int .i64))), .sl true 1 g.n.length ((incF g.c b).map (T.int .i64))], .one (.bool true)]
  else .tup [.agg [.sl true 0 0 [], .sl true 0 0 [], .sl true 0 0 []], .one (.bool false)]
theorem good_cl {g : Gr} (h : GoodG g) : g.c.length = g.n.length := by rw [h.2.1, countsF_len]
theorem good_cb {g : Gr} (h : GoodG g) {j : Nat} : 0 ≤ g.c.getD j default ∧ g.c.getD j default ≤ 100 := by
  have hB := bd_counts h.1
  rw [← h.2.1] at hB
  exact bd_get hB
theorem link_good {g : Gr} {a b : Int} (h : LkOk g a b) : GoodG ⟨lkN g a b, g.r, incF g.c b⟩ := by
  obtain ⟨⟨hG, h1⟩, ⟨_, h2⟩, h3, h4⟩ := h
  have cl := good_cl hG
  have ha := h1.1
  have ha2 := h1.2.1
  have halt : a.toNat < g.n.length := by omega
  have hNa := hG.1.1 _ halt
  have hg : ∀ i, (lkN g a b).getD i default = if a.toNat = i ∧ i < g.n.length then ⟨(g.n.getD a.toNat default).h ++ [b], (g.n.getD a.toNat default).g⟩ else g.n.getD i default := fun i => getD_set
  have hgg : ∀ i, ((lkN g a b).getD i default).g = (g.n.getD i default).g := fun i => by
    rw [hg]; split
    · rename_i e; rw [← e.1]
    · rfl
  have hol : ∀ i y, HoldOk g.n i y → HoldOk (lkN g a b) i y := fun i y w => ⟨w.1, w.2.1, by rw [hgg]; exact w.2.2⟩
  have ll : (lkN g a b).length = g.n.length := by simp [lkN]
  have hc : ∀ j, j < g.n.length → (incF g.c b).getD j default = occ j g.r + tots j (lkN g a b) := fun j hj => by
    rw [inc_get (by omega), good_c hG hj, lkN, tots_set halt, occ_app, occ_cons, occ_nil]; omega
  refine ⟨⟨fun i hi => ?_, fun y hy => ?_, by simp only [ll]; exact hG.1.2.2.1, hG.1.2.2.2⟩, ?_, fun i hi hgi => ?_⟩
  · simp only [ll] at hi
    have hN := hG.1.1 i hi
    by_cases e : a.toNat = i
    · subst e
      unfold NodeOk
      simp only [hg]
      rw [if_pos ⟨trivial, hi⟩]
      refine ⟨fun y hy => ?_, ?_, fun w => ?_⟩
      · rcases List.mem_append.1 hy with hy | hy
        · exact hol _ y (hN.1 y hy)
        · rw [List.mem_singleton.1 hy]
          exact ⟨h2.1, by omega, by rw [hgg]; exact h2.2.2⟩
      · have := hN.2.1
        simp only [List.length_append, List.length_singleton]; omega
      · have := h1.2.2
        simp only at w; rw [this] at w; simp at w
    · unfold NodeOk
      simp only [hg]
      rw [if_neg (fun w => e w.1)]
      exact ⟨fun y hy => hol _ y (hN.1 y hy), hN.2.1, hN.2.2⟩
  · simp only [ll]; exact hol _ y (hG.1.2.1 y hy)
  · refine list_ext (by rw [countsF_len, incF_len, ll]; exact cl) fun j hj => ?_
    rw [incF_len, cl] at hj
    rw [counts_get (by rw [ll]; exact hj), hc j hj]
  · simp only [ll] at hi
    simp only at hgi ⊢
    rw [hgg] at hgi
    have := good_pos hG hi hgi
    rw [inc_get (by omega)]
    split <;> omega
theorem lk_set {g : Gr} {a b : Int} (h : a.toNat < g.n.length) : (ndO g.n).set (a.toNat * 2) (.sl true 1 ((g.n.getD a.toNat default).h ++ [b]).length (((g.n.getD a.toNat default).h ++ [b]).map (T.int .i64))) = ndO (lkN g a b) := by
  have := ndO_set ⟨(g.n.getD a.toNat default).h ++ [b], (g.n.getD a.toNat default).g⟩ h
  simp only at this
  rw [lkN, ← this, List.set_comm _ _ (by omega)]
  exact congrArg (fun z => List.set z _ _) (set_same (ndO_1 h))
def g37_0 : List Gop := [⟨none, (some 3), (.box (.t 0))⟩, ⟨none, (some 6), (.alloc [.nil, .nil, .nil])⟩, ⟨none, (some 7), (.mov (.k (.one (.bool .false))))⟩]
def g37_1 : List Gop := [⟨none, (some 9), (.load (some 3) (.t 3))⟩, ⟨none, (some 10), (.mov (.t 1))⟩, ⟨none, (some 11), (.call 70 [(.t 9), (.t 10)])⟩, ⟨none, (some 12), (.un .not (.t 11))⟩, ⟨none, (some 13), (.mov (.t 12))⟩, ⟨(some (13, .false)), (some 14), (.load (some 3) (.t 3))⟩, ⟨(some (13, .false)), (some 15), (.mov (.t 2))⟩, ⟨(some (13, .false)), (some 16), (.call 70 [(.t 14), (.t 15)])⟩, ⟨(some (13, .false)), (some 17), (.un .not (.t 16))⟩, ⟨none, (some 18), (.pick (.t 13) (.k (.one (.bool .true))) (.t 17))⟩, ⟨none, (some 19), (.mov (.t 18))⟩, ⟨(some (19, .false)), (some 20), (.mov (.t 2))⟩, ⟨(some (19, .false)), (some 21), (.mov (.t 1))⟩, ⟨(some (19, .false)), (some 22), (.bin .geq (.t 20) (.t 21))⟩, ⟨none, (some 23), (.pick (.t 19) (.k (.one (.bool .true))) (.t 22))⟩, ⟨none, (some 24), (.mov (.t 23))⟩, ⟨(some (24, .false)), (some 25), (.faddr (.t 3) 0)⟩, ⟨(some (24, .false)), (some 26), (.load none (.t 25))⟩, ⟨(some (24, .false)), (some 27), (.mov (.t 1))⟩, ⟨(some (24, .false)), (some 28), (.iaddr 2 (.t 26) (.t 27))⟩, ⟨(some (24, .false)), (some 29), (.faddr (.t 28) 0)⟩, ⟨(some (24, .false)), (some 30), (.load none (.t 29))⟩, ⟨(some (24, .false)), (some 31), (.len (.t 30))⟩, ⟨(some (24, .false)), (some 32), (.bin .eql (.t 31) (.k (.one (.int .i64 6))))⟩, ⟨none, (some 33), (.pick (.t 24) (.k (.one (.bool .true))) (.t 32))⟩]
def g37_2 : List Gop := [⟨none, (some 34), (.build [.nil, .nil, .nil] [])⟩, ⟨none, none, (.store 3 (.t 6) (.t 34))⟩, ⟨none, (some 7), (.mov (.k (.one (.bool .false))))⟩]
def g37_3 : List Gop := [⟨none, (some 35), (.load (some 3) (.t 3))⟩, ⟨none, (some 36), (.call 65 [(.t 35)])⟩, ⟨none, (some 8), (.alloc [.nil, .nil, .nil])⟩, ⟨none, none, (.store 3 (.t 8) (.t 36))⟩]
def g37_4 : List Gop := [⟨none, (some 37), (.faddr (.t 8) 0)⟩, ⟨none, (some 38), (.load none (.t 37))⟩, ⟨none, (some 39), (.mov (.t 1))⟩, ⟨none, (some 40), (.faddr (.t 8) 0)⟩, ⟨none, (some 41), (.load none (.t 40))⟩, ⟨none, (some 42), (.mov (.t 1))⟩, ⟨none, (some 43), (.iaddr 2 (.t 41) (.t 42))⟩, ⟨none, (some 44), (.faddr (.t 43) 0)⟩, ⟨none, (some 45), (.load none (.t 44))⟩, ⟨none, (some 46), (.mov (.t 2))⟩, ⟨none, (some 47), (.lit 1 1 [(.int .i64 0)] [(0, (.t 46))])⟩, ⟨none, (some 48), (.app 1 8 [(.int .i64 0)] (.t 45) (.t 47))⟩, ⟨none, (some 49), (.iaddr 2 (.t 38) (.t 39))⟩, ⟨none, (some 50), (.faddr (.t 49) 0)⟩, ⟨none, none, (.store 1 (.t 50) (.t 48))⟩]
def a37_4 : List (List Nat) := [[], [0], [], [], [3], [], [3, 4, 5], [3, 4, 5, 6], [3, 4, 5, 6, 7], [], [9], [3, 4, 5, 6, 7, 8, 9, 10], [0, 1, 2, 3, 4, 5, 6, 7, 8, 9, 10, 11], [0, 1, 2, 3, 4, 5, 6, 7, 8, 9, 10, 11, 12], [0, 1, 2, 3, 4, 5, 6, 7, 8, 9, 10, 11, 12, 13]]
def n37_4 : Nat := 12 -- of 15
def g37_5 : List Gop := [⟨none, (some 51), (.faddr (.t 8) 2)⟩, ⟨none, (some 52), (.load none (.t 51))⟩, ⟨none, (some 53), (.mov (.t 2))⟩, ⟨none, (some 54), (.iaddr 1 (.t 52) (.t 53))⟩, ⟨none, (some 55), (.load none (.t 54))⟩, ⟨none, (some 56), (.bin .add (.t 55) (.k (.one (.int .i64 1))))⟩, ⟨none, (some 57), (.iaddr 1 (.t 52) (.t 53))⟩, ⟨none, none, (.store 1 (.t 57) (.t 56))⟩]
def g37_6 : List Gop := [⟨none, (some 58), (.load (some 3) (.t 8))⟩, ⟨none, none, (.store 3 (.t 6) (.t 58))⟩, ⟨none, (some 7), (.mov (.k (.one (.bool .true))))⟩]
def i37 : Ir := (.seq (.region g37_0) (.seq (.seq (.region g37_1) (.cond (.t 33) (.seq (.region g37_2) .ret) .skip)) (.seq (.region g37_3) (.seq (.draw [[], [0], [], [], [3], [], [4, 5], [6], [7], [], [9], [8, 10], [1, 2, 0, 1, 2, 3, 4, 5, 6, 7, 8, 9, 10, 11], [12, 0, 1, 2, 3, 4, 5, 6, 7, 8, 9, 10, 11], [13, 11, 11, 0, 1, 2, 3, 4, 5, 6, 7, 8, 9, 10, 11]] g37_4) (.seq (.region g37_5) (.seq (.region g37_6) .ret))))))
theorem specLink_ok (g : Gr) (a b : Int) (s : Small g) : Meets Try.prog 37 [.agg [.sl false 2 g.n.length (ndR g.n), (.sl false 1 g.r.length (g.r.map (T.int .i64))), (.sl false 1 g.c.length (g.c.map (T.int .i64)))], .one (.int .i64 a), .one (.int .i64 b)] (LkRes g a b) [.agg [.hole, .hole, .hole], .one .hole, .one .hole] := by
  have M1 := l10There_ok g a s.n s.h s.r s.c
  have M2 := l10There_ok g b s.n s.h s.r s.c
  by_cases hA : ThereG g a
  · rw [decide_eq_true hA] at M1
    have ha := hA.2.1
    have ha2 := hA.2.2.1
    have a3 : a.toNat < g.n.length := by omega
    have hs6 := (hA.1.1.1 _ a3).2.1
    by_cases hB : ThereG g b
    · rw [decide_eq_true hB] at M2
      have hb := hB.2.1
      have hb2 := hB.2.2.1
      by_cases h3 : a ≤ b
      · rw [LkRes, if_neg (fun w : LkOk g a b => by have := w.2.2.1; omega)]
        refine meets_go (ir := i37) (fn := Try.f37) (rx := [(.cell 6 (some 3)), (.tmp 7)]) rfl rfl (by rfl) (by rfl) (by exact Nat.le_of_ble_eq_true rfl) ?_
        simp (maxSteps := 9000000) -implicitDefEqProofs -dsimp (disch := omega) only [go_sem, g37_0, g37_1, g37_2, g37_3, g37_4, a37_4, n37_4, g37_5, g37_6, i37, Nat.reduceEqDiff, Nat.reduceAdd, Nat.reduceMul, Nat.reduceLeDiff, Nat.reduceBEq, Nat.reduceBNe, Int.reduceEq, ↓reduceIte, reduceCtorEq]
        refine call_go true M1 ?_
        simp (maxSteps := 9000000) -implicitDefEqProofs -dsimp (disch := omega) only [go_sem, lt_T, lt_F, le_T, le_F, eq_T, eq_F, and_F, Nat.reduceEqDiff, Nat.reduceAdd, Nat.reduceMul, Nat.reduceLeDiff, Nat.reduceBEq, Nat.reduceBNe, Int.reduceEq, ↓reduceIte, reduceCtorEq]
        refine call_go true M2 ?_
        simp (maxSteps := 9000000) -implicitDefEqProofs -dsimp (disch := omega) only [go_sem, lt_T, lt_F, le_T, le_F, eq_T, eq_F, and_F, Nat.reduceEqDiff, Nat.reduceAdd, Nat.reduceMul, Nat.reduceLeDiff, Nat.reduceBEq, Nat.reduceBNe, Int.reduceEq, ↓reduceIte, reduceCtorEq]
      · by_cases h4 : (g.n.getD a.toNat default).h.length = 6
        · rw [LkRes, if_neg (fun w : LkOk g a b => w.2.2.2 h4)]
          refine meets_go (ir := i37) (fn := Try.f37) (rx := [(.cell 6 (some 3)), (.tmp 7)]) rfl rfl (by rfl) (by rfl) (by exact Nat.le_of_ble_eq_true rfl) ?_
          simp (maxSteps := 9000000) -implicitDefEqProofs -dsimp (disch := omega) only [go_sem, g37_0, g37_1, g37_2, g37_3, g37_4, a37_4, n37_4, g37_5, g37_6, i37, Nat.reduceEqDiff, Nat.reduceAdd, Nat.reduceMul, Nat.reduceLeDiff, Nat.reduceBEq, Nat.reduceBNe, Int.reduceEq, ↓reduceIte, reduceCtorEq]
          refine call_go true M1 ?_
          simp (maxSteps := 9000000) -implicitDefEqProofs -dsimp (disch := omega) only [go_sem, lt_T, lt_F, le_T, le_F, eq_T, eq_F, and_F, Nat.reduceEqDiff, Nat.reduceAdd, Nat.reduceMul, Nat.reduceLeDiff, Nat.reduceBEq, Nat.reduceBNe, Int.reduceEq, ↓reduceIte, reduceCtorEq]
          refine call_go true M2 ?_
          simp (maxSteps := 9000000) -implicitDefEqProofs -dsimp (disch := omega) only [go_sem, lt_T, lt_F, le_T, le_F, eq_T, eq_F, and_F, ndR_0 a3, Nat.reduceEqDiff, Nat.reduceAdd, Nat.reduceMul, Nat.reduceLeDiff, Nat.reduceBEq, Nat.reduceBNe, Int.reduceEq, ↓reduceIte, reduceCtorEq]
        · rw [LkRes, if_pos (show LkOk g a b from ⟨hA, hB, by omega, h4⟩)]
          have n0 := ndO_0 a3
          have cl := good_cl hA.1
          have cb := good_cb hA.1 (j := b.toNat)
          have eC := lk_set (b := b) a3
          have ll : (lkN g a b).length = g.n.length := by simp [lkN]
          have qn : (ndO g.n).length = g.n.length * 2 := ndO_len
          have e1 : ((ndO g.n).set (a.toNat * 2) T.hole)[a.toNat * 2]? = some .hole := by rw [List.getElem?_set_self (by omega)]
          refine meets_go (ir := i37) (fn := Try.f37) (rx := [(.cell 6 (some 3)), (.tmp 7)]) rfl rfl (by rfl) (by rfl) (by exact Nat.le_of_ble_eq_true rfl) ?_
          simp (maxSteps := 9000000) -implicitDefEqProofs -dsimp (disch := omega) only [go_sem, g37_0, g37_1, g37_2, g37_3, g37_4, a37_4, n37_4, g37_5, g37_6, i37, Nat.reduceEqDiff, Nat.reduceAdd, Nat.reduceMul, Nat.reduceLeDiff, Nat.reduceBEq, Nat.reduceBNe, Int.reduceEq, ↓reduceIte, reduceCtorEq]
          refine call_go true M1 ?_
          simp (maxSteps := 9000000) -implicitDefEqProofs -dsimp (disch := omega) only [go_sem, lt_T, lt_F, le_T, le_F, eq_T, eq_F, and_F, Nat.reduceEqDiff, Nat.reduceAdd, Nat.reduceMul, Nat.reduceLeDiff, Nat.reduceBEq, Nat.reduceBNe, Int.reduceEq, ↓reduceIte, reduceCtorEq]
          refine call_go true M2 ?_
          simp (maxSteps := 9000000) -implicitDefEqProofs -dsimp (disch := omega) only [go_sem, lt_T, lt_F, le_T, le_F, eq_T, eq_F, and_F, ndR_0 a3, Nat.reduceEqDiff, Nat.reduceAdd, Nat.reduceMul, Nat.reduceLeDiff, Nat.reduceBEq, Nat.reduceBNe, Int.reduceEq, ↓reduceIte, reduceCtorEq]
          refine call_go true (l10Own_ok g s) ?_
          simp (maxSteps := 9000000) -implicitDefEqProofs -dsimp (disch := omega) only [go_sem, lt_T, lt_F, le_T, le_F, eq_T, eq_F, and_F, cl, Nat.reduceEqDiff, Nat.reduceAdd, Nat.reduceMul, Nat.reduceLeDiff, Nat.reduceBEq, Nat.reduceBNe, Int.reduceEq, ↓reduceIte, reduceCtorEq]
          refine drawm_go n37_4 a37_4 [(11, .many [] [0, 1])] (by decide +kernel) ?_
          have cA : cut ((g.n.getD a.toNat default).h.map (T.int .i64) ++ [T.int .i64 b]) 0 (((g.n.getD a.toNat default).h.length + 1) * 1) = (g.n.getD a.toNat default).h.map (T.int .i64) ++ [T.int .i64 b] := cut_all (by simp)
          have eC2 : ((ndO g.n).set (a.toNat * 2) T.hole).set (a.toNat * 2) (.sl true 1 ((g.n.getD a.toNat default).h.length + 1) ((g.n.getD a.toNat default).h.map (T.int .i64) ++ [T.int .i64 b])) = ndO (lkN g a b) := by
            rw [List.set_set, ← eC]; simp only [List.length_append, List.length_singleton, List.map_append, List.map_cons, List.map_nil]
          have cA1 : cut ((g.n.getD a.toNat default).h.map (T.int .i64) ++ [T.int .i64 b]) 0 ((g.n.getD a.toNat default).h.length + 1) = (g.n.getD a.toNat default).h.map (T.int .i64) ++ [T.int .i64 b] := cut_all (by simp)
          have hd : g.c.set b.toNat (g.c.getD b.toNat default + 1) = incF g.c b := rfl
          have li : (incF g.c b).length = g.n.length := by rw [incF_len]; exact cl
          simp (maxSteps := 9000000) -implicitDefEqProofs -dsimp (disch := omega) only [go_sem, n37_4, a37_4, lt_T, lt_F, le_T, le_F, eq_T, eq_F, and_F, cl, n0, e1, cA, cA1, eC2, hd, Nat.reduceEqDiff, Nat.reduceAdd, Nat.reduceMul, Nat.reduceLeDiff, Nat.reduceBEq, Nat.reduceBNe, Int.reduceEq, ↓reduceIte, reduceCtorEq]
    · rw [decide_eq_false hB] at M2
      rw [LkRes, if_neg (fun w : LkOk g a b => hB w.2.1)]
      refine meets_go (ir := i37) (fn := Try.f37) (rx := [(.cell 6 (some 3)), (.tmp 7)]) rfl rfl (by rfl) (by rfl) (by exact Nat.le_of_ble_eq_true rfl) ?_
      simp (maxSteps := 9000000) -implicitDefEqProofs -dsimp (disch := omega) only [go_sem, g37_0, g37_1, g37_2, g37_3, g37_4, a37_4, n37_4, g37_5, g37_6, i37, Nat.reduceEqDiff, Nat.reduceAdd, Nat.reduceMul, Nat.reduceLeDiff, Nat.reduceBEq, Nat.reduceBNe, Int.reduceEq, ↓reduceIte, reduceCtorEq]
      refine call_go true M1 ?_
      simp (maxSteps := 9000000) -implicitDefEqProofs -dsimp (disch := omega) only [go_sem, lt_T, lt_F, le_T, le_F, eq_T, eq_F, and_F, Nat.reduceEqDiff, Nat.reduceAdd, Nat.reduceMul, Nat.reduceLeDiff, Nat.reduceBEq, Nat.reduceBNe, Int.reduceEq, ↓reduceIte, reduceCtorEq]
      refine call_go true M2 ?_
      simp (maxSteps := 9000000) -implicitDefEqProofs -dsimp (disch := omega) only [go_sem, lt_T, lt_F, le_T, le_F, eq_T, eq_F, and_F, Nat.reduceEqDiff, Nat.reduceAdd, Nat.reduceMul, Nat.reduceLeDiff, Nat.reduceBEq, Nat.reduceBNe, Int.reduceEq, ↓reduceIte, reduceCtorEq]
  · rw [decide_eq_false hA] at M1
    rw [LkRes, if_neg (fun w : LkOk g a b => hA w.1)]
    refine meets_go (ir := i37) (fn := Try.f37) (rx := [(.cell 6 (some 3)), (.tmp 7)]) rfl rfl (by rfl) (by rfl) (by exact Nat.le_of_ble_eq_true rfl) ?_
    simp (maxSteps := 9000000) -implicitDefEqProofs -dsimp (disch := omega) only [go_sem, g37_0, g37_1, g37_2, g37_3, g37_4, a37_4, n37_4, g37_5, g37_6, i37, Nat.reduceEqDiff, Nat.reduceAdd, Nat.reduceMul, Nat.reduceLeDiff, Nat.reduceBEq, Nat.reduceBNe, Int.reduceEq, ↓reduceIte, reduceCtorEq]
    refine call_go true M1 ?_
    simp (maxSteps := 9000000) -implicitDefEqProofs -dsimp (disch := omega) only [go_sem, lt_T, lt_F, le_T, le_F, eq_T, eq_F, and_F, Nat.reduceEqDiff, Nat.reduceAdd, Nat.reduceMul, Nat.reduceLeDiff, Nat.reduceBEq, Nat.reduceBNe, Int.reduceEq, ↓reduceIte, reduceCtorEq]
end Go.Proofs.YtdhclelfnbjikaaT
