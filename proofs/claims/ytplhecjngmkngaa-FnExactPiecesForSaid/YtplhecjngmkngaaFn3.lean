/- Functions of the program, each with what it returns and leaves. No condition. -/
import Derived.Test.YtplhecjngmkngaaFn2
set_option linter.all false
set_option linter.unusedVariables false
set_option linter.unusedSimpArgs false
set_option linter.unusedSectionVars false
set_option linter.unnecessarySimpa false
set_option linter.deprecated false
/- Functions of the program as contracts: the law of a text's pieces. No condition. -/
set_option maxRecDepth 100000
set_option maxHeartbeats 8000000
set_option linter.unusedSimpArgs false
set_option linter.unusedVariables false
namespace Go.Proofs.YtplhecjngmkngaaT
open Go
theorem markIntSS_nil : Meets Try.prog 10 [.one (.sl false 0 0 []), .one (.int .i64 1)] (.w (.one (.int .i64 1))) [.one .hole, .one .hole] := by
  refine meets_go (ir := i10) (fn := Try.f10) (rx := [(.tmp 4)]) rfl rfl (by rfl) (by rfl) (by exact Nat.le_of_ble_eq_true rfl) ?_
  simp (maxSteps := 9000000) -implicitDefEqProofs -dsimp (disch := omega) only [go_sem, g10_0, g10_1, g10_2, g10_3, g10_4, g10_5, i10, Nat.reduceEqDiff, Nat.reduceAdd, Nat.reduceMul, Nat.reduceLeDiff, Nat.reduceBEq, Nat.reduceBNe, Int.reduceEq, ↓reduceIte, reduceCtorEq]
  refine loop_n 0 (fun i => ⟨[(5, .w (.one (.int .i64 (i : Nat)))), (1, .w (.one (.int .i64 1))), (0, .w (.one .nil))], [], [.one .nil, .one (.int .i64 1)]⟩) (fun i => True) ?_ trivial ?_
  · exact (imp_sub (by simp (maxSteps := 9000000) -implicitDefEqProofs -dsimp (disch := omega) only [go_sem, Nat.reduceEqDiff, Nat.reduceAdd, Nat.reduceMul, Nat.reduceLeDiff, Nat.reduceBEq, Nat.reduceBNe, Int.reduceEq, ↓reduceIte, reduceCtorEq]) (by simp (maxSteps := 9000000) -implicitDefEqProofs -dsimp (disch := omega) only [go_sem, Nat.reduceEqDiff, Nat.reduceAdd, Nat.reduceMul, Nat.reduceLeDiff, Nat.reduceBEq, Nat.reduceBNe, Int.reduceEq, ↓reduceIte, reduceCtorEq]) rfl)
  · intro i hi _
    obtain rfl : i = 0 := by omega
    simp (maxSteps := 9000000) -implicitDefEqProofs -dsimp (disch := omega) only [go_sem, Nat.reduceEqDiff, Nat.reduceAdd, Nat.reduceMul, Nat.reduceLeDiff, Nat.reduceBEq, Nat.reduceBNe, Int.reduceEq, ↓reduceIte, reduceCtorEq]
    refine brP_i (fun h1 => by omega) (fun h1 => ?_)
    simp (maxSteps := 9000000) -implicitDefEqProofs -dsimp (disch := omega) only [go_sem, Nat.reduceEqDiff, Nat.reduceAdd, Nat.reduceMul, Nat.reduceLeDiff, Nat.reduceBEq, Nat.reduceBNe, Int.reduceEq, ↓reduceIte, reduceCtorEq]
theorem heldIntSS_nil : Meets Try.prog 11 [.one (.sl false 0 0 []), .one (.int .i64 1)] (.w (.one (.int .i64 1))) [.one .hole, .one .hole] := by
  refine meets_go (ir := i11) (fn := Try.f11) (rx := [(.tmp 4)]) rfl rfl (by rfl) (by rfl) (by exact Nat.le_of_ble_eq_true rfl) ?_
  simp (maxSteps := 9000000) -implicitDefEqProofs -dsimp (disch := omega) only [go_sem, g11_0, g11_1, g11_2, g11_3, g11_4, g11_5, g11_6, g11_7, i11, Nat.reduceEqDiff, Nat.reduceAdd, Nat.reduceMul, Nat.reduceLeDiff, Nat.reduceBEq, Nat.reduceBNe, Int.reduceEq, ↓reduceIte, reduceCtorEq]
  refine loop_n 0 (fun i => ⟨[(5, .w (.one (.int .i64 (i : Nat)))), (1, .w (.one (.int .i64 1))), (0, .w (.one .nil))], [], [.one .nil, .one (.int .i64 1)]⟩) (fun i => True) ?_ trivial ?_
  · exact (imp_sub (by simp (maxSteps := 9000000) -implicitDefEqProofs -dsimp (disch := omega) only [go_sem, Nat.reduceEqDiff, Nat.reduceAdd, Nat.reduceMul, Nat.reduceLeDiff, Nat.reduceBEq, Nat.reduceBNe, Int.reduceEq, ↓reduceIte, reduceCtorEq]) (by simp (maxSteps := 9000000) -implicitDefEqProofs -dsimp (disch := omega) only [go_sem, Nat.reduceEqDiff, Nat.reduceAdd, Nat.reduceMul, Nat.reduceLeDiff, Nat.reduceBEq, Nat.reduceBNe, Int.reduceEq, ↓reduceIte, reduceCtorEq]) rfl)
  · intro i hi _
    obtain rfl : i = 0 := by omega
    simp (maxSteps := 9000000) -implicitDefEqProofs -dsimp (disch := omega) only [go_sem, Nat.reduceEqDiff, Nat.reduceAdd, Nat.reduceMul, Nat.reduceLeDiff, Nat.reduceBEq, Nat.reduceBNe, Int.reduceEq, ↓reduceIte, reduceCtorEq]
    refine brP_i (fun h1 => by omega) (fun h1 => ?_)
    simp (maxSteps := 9000000) -implicitDefEqProofs -dsimp (disch := omega) only [go_sem, Nat.reduceEqDiff, Nat.reduceAdd, Nat.reduceMul, Nat.reduceLeDiff, Nat.reduceBEq, Nat.reduceBNe, Int.reduceEq, ↓reduceIte, reduceCtorEq]
def g7_0 : List Gop := [⟨none, (some 2), (.mov (.k (.one .nil)))⟩, ⟨none, (some 3), (.mov (.k (.one (.bool .false))))⟩]
def g7_1 : List Gop := [⟨none, (some 4), (.mov (.t 0))⟩, ⟨none, (some 5), (.lent (.t 4))⟩, ⟨none, (some 6), (.bin .gtr (.t 5) (.k (.one (.int .i64 47))))⟩]
def g7_2 : List Gop := [⟨none, (some 2), (.mov (.k (.one .nil)))⟩, ⟨none, (some 3), (.mov (.k (.one (.bool .false))))⟩]
def g7_3 : List Gop := [⟨none, (some 7), (.mov (.t 0))⟩, ⟨none, (some 8), (.call 37 [(.t 7)])⟩, ⟨none, (some 2), (.mov (.t 8))⟩, ⟨none, (some 3), (.mov (.k (.one (.bool .true))))⟩]
def i7 : Ir := (.seq (.region g7_0) (.seq (.seq (.region g7_1) (.cond (.t 6) (.seq (.region g7_2) .ret) .skip)) (.seq (.region g7_3) .ret)))
theorem specPieces_1 (s : ByteArray) (hs : s.size ≤ 47) : Meets Try.prog 7 [.one (.str s)] (.tup [.one (.sl true 1 5 (mxO (encZ (datB (s8 s)) 2 16))), .one (.bool true)]) [.one .hole] := by
  have h := l8Pieces_ok s hs
  have q3 : cut (mxO (encZ (datB (s8 s)) 2 16)) 0 5 = mxO (encZ (datB (s8 s)) 2 16) := mxO_cut (by unfold encZ; rw [times_len, cm_len, datB_len]; exact Nat.le_refl _)
  refine meets_go (ir := i7) (fn := Try.f7) (rx := [(.tmp 2), (.tmp 3)]) rfl rfl (by rfl) (by rfl) (by exact Nat.le_of_ble_eq_true rfl) ?_
  simp (maxSteps := 9000000) -implicitDefEqProofs -dsimp (disch := omega) only [go_sem, g7_0, g7_1, g7_2, g7_3, i7, Nat.reduceEqDiff, Nat.reduceAdd, Nat.reduceMul, Nat.reduceLeDiff, Nat.reduceBEq, Nat.reduceBNe, Int.reduceEq, ↓reduceIte, reduceCtorEq]
  refine brP_i (fun h1 => by omega) (fun h1 => ?_)
  simp (maxSteps := 9000000) -implicitDefEqProofs -dsimp (disch := omega) only [go_sem, Nat.reduceEqDiff, Nat.reduceAdd, Nat.reduceMul, Nat.reduceLeDiff, Nat.reduceBEq, Nat.reduceBNe, Int.reduceEq, ↓reduceIte, reduceCtorEq]
  refine call_go true h ?_
  simp (maxSteps := 9000000) -implicitDefEqProofs -dsimp (disch := omega) only [go_sem, q3, Nat.reduceEqDiff, Nat.reduceAdd, Nat.reduceMul, Nat.reduceLeDiff, Nat.reduceBEq, Nat.reduceBNe, Int.reduceEq, ↓reduceIte, reduceCtorEq]
theorem specPieces_0 (s : ByteArray) (hs : 47 < s.size) (h2 : s.size ≤ 1048576) : Meets Try.prog 7 [.one (.str s)] (.tup [.one (.sl true 0 0 []), .one (.bool false)]) [.one .hole] := by
  refine meets_go (ir := i7) (fn := Try.f7) (rx := [(.tmp 2), (.tmp 3)]) rfl rfl (by rfl) (by rfl) (by exact Nat.le_of_ble_eq_true rfl) ?_
  simp (maxSteps := 9000000) -implicitDefEqProofs -dsimp (disch := omega) only [go_sem, g7_0, g7_1, g7_2, g7_3, i7, Nat.reduceEqDiff, Nat.reduceAdd, Nat.reduceMul, Nat.reduceLeDiff, Nat.reduceBEq, Nat.reduceBNe, Int.reduceEq, ↓reduceIte, reduceCtorEq]
  refine brP_i (fun h1 => ?_) (fun h1 => by omega)
  simp (maxSteps := 9000000) -implicitDefEqProofs -dsimp (disch := omega) only [go_sem, Nat.reduceEqDiff, Nat.reduceAdd, Nat.reduceMul, Nat.reduceLeDiff, Nat.reduceBEq, Nat.reduceBNe, Int.reduceEq, ↓reduceIte, reduceCtorEq]
def g8_0 : List Gop := [⟨none, (some 2), (.mov (.k (.one .nil)))⟩, ⟨none, (some 3), (.mov (.k (.one (.bool .false))))⟩]
def g8_1 : List Gop := [⟨none, (some 4), (.mov (.t 0))⟩, ⟨none, (some 5), (.lent (.t 4))⟩, ⟨none, (some 6), (.bin .geq (.t 5) (.k (.one (.int .i64 48))))⟩]
def g8_2 : List Gop := [⟨none, (some 2), (.mov (.k (.one .nil)))⟩, ⟨none, (some 3), (.mov (.k (.one (.bool .false))))⟩]
def g8_3 : List Gop := [⟨none, (some 7), (.mov (.t 0))⟩, ⟨none, (some 8), (.call 38 [(.t 7)])⟩, ⟨none, (some 2), (.mov (.t 8))⟩, ⟨none, (some 3), (.mov (.k (.one (.bool .true))))⟩]
def i8 : Ir := (.seq (.region g8_0) (.seq (.seq (.region g8_1) (.cond (.t 6) (.seq (.region g8_2) .ret) .skip)) (.seq (.region g8_3) .ret)))
theorem implPieces_1 (s : ByteArray) (hs : s.size ≤ 47) : Meets Try.prog 8 [.one (.str s)] (.tup [.one (.sl true 1 5 (mxO (encZ (datB (s8 s)) 2 16))), .one (.bool true)]) [.one .hole] := by
  have h := piecesFor_ok s hs
  have q3 : cut (mxO (encZ (datB (s8 s)) 2 16)) 0 5 = mxO (encZ (datB (s8 s)) 2 16) := mxO_cut (by unfold encZ; rw [times_len, cm_len, datB_len]; exact Nat.le_refl _)
  refine meets_go (ir := i8) (fn := Try.f8) (rx := [(.tmp 2), (.tmp 3)]) rfl rfl (by rfl) (by rfl) (by exact Nat.le_of_ble_eq_true rfl) ?_
  simp (maxSteps := 9000000) -implicitDefEqProofs -dsimp (disch := omega) only [go_sem, g8_0, g8_1, g8_2, g8_3, i8, Nat.reduceEqDiff, Nat.reduceAdd, Nat.reduceMul, Nat.reduceLeDiff, Nat.reduceBEq, Nat.reduceBNe, Int.reduceEq, ↓reduceIte, reduceCtorEq]
  refine brP_i (fun h1 => by omega) (fun h1 => ?_)
  simp (maxSteps := 9000000) -implicitDefEqProofs -dsimp (disch := omega) only [go_sem, Nat.reduceEqDiff, Nat.reduceAdd, Nat.reduceMul, Nat.reduceLeDiff, Nat.reduceBEq, Nat.reduceBNe, Int.reduceEq, ↓reduceIte, reduceCtorEq]
  refine call_go true h ?_
  simp (maxSteps := 9000000) -implicitDefEqProofs -dsimp (disch := omega) only [go_sem, q3, Nat.reduceEqDiff, Nat.reduceAdd, Nat.reduceMul, Nat.reduceLeDiff, Nat.reduceBEq, Nat.reduceBNe, Int.reduceEq, ↓reduceIte, reduceCtorEq]
theorem implPieces_0 (s : ByteArray) (hs : 47 < s.size) (h2 : s.size ≤ 1048576) : Meets Try.prog 8 [.one (.str s)] (.tup [.one (.sl true 0 0 []), .one (.bool false)]) [.one .hole] := by
  refine meets_go (ir := i8) (fn := Try.f8) (rx := [(.tmp 2), (.tmp 3)]) rfl rfl (by rfl) (by rfl) (by exact Nat.le_of_ble_eq_true rfl) ?_
  simp (maxSteps := 9000000) -implicitDefEqProofs -dsimp (disch := omega) only [go_sem, g8_0, g8_1, g8_2, g8_3, i8, Nat.reduceEqDiff, Nat.reduceAdd, Nat.reduceMul, Nat.reduceLeDiff, Nat.reduceBEq, Nat.reduceBNe, Int.reduceEq, ↓reduceIte, reduceCtorEq]
  refine brP_i (fun h1 => ?_) (fun h1 => by omega)
  simp (maxSteps := 9000000) -implicitDefEqProofs -dsimp (disch := omega) only [go_sem, Nat.reduceEqDiff, Nat.reduceAdd, Nat.reduceMul, Nat.reduceLeDiff, Nat.reduceBEq, Nat.reduceBNe, Int.reduceEq, ↓reduceIte, reduceCtorEq]
def g3_0 : List Gop := [⟨none, (some 2), (.mov (.k (.one (.bool .false))))⟩]
def g3_1 : List Gop := [⟨none, (some 11), (.mov (.t 0))⟩, ⟨none, (some 12), (.lent (.t 11))⟩, ⟨none, (some 13), (.bin .gtr (.t 12) (.k (.one (.int .i64 1048576))))⟩]
def g3_2 : List Gop := [⟨none, (some 2), (.mov (.k (.one (.bool .true))))⟩]
def g3_3 : List Gop := [⟨none, (some 15), (.mov (.t 0))⟩, ⟨none, (some 16), (.call 7 [(.t 15)])⟩, ⟨none, (some 14), (.mov (.t 16))⟩, ⟨none, (some 17), (.ext (.t 14) 0)⟩, ⟨none, (some 18), (.ext (.t 14) 1)⟩, ⟨none, (some 3), (.mov (.t 17))⟩, ⟨none, (some 4), (.mov (.t 18))⟩]
def g3_4 : List Gop := [⟨none, (some 20), (.mov (.t 0))⟩, ⟨none, (some 21), (.call 8 [(.t 20)])⟩, ⟨none, (some 19), (.mov (.t 21))⟩, ⟨none, (some 22), (.ext (.t 19) 0)⟩, ⟨none, (some 23), (.ext (.t 19) 1)⟩, ⟨none, (some 5), (.mov (.t 22))⟩, ⟨none, (some 6), (.mov (.t 23))⟩]
def g3_5 : List Gop := [⟨none, (some 24), (.mov (.t 5))⟩, ⟨none, (some 25), (.mov (.t 3))⟩, ⟨none, (some 26), (.call 9 [(.t 24), (.t 25)])⟩, ⟨none, (some 27), (.un .not (.t 26))⟩, ⟨none, (some 28), (.mov (.t 27))⟩, ⟨(some (28, .false)), (some 29), (.mov (.t 6))⟩, ⟨(some (28, .false)), (some 30), (.mov (.t 4))⟩, ⟨(some (28, .false)), (some 31), (.beq .true (.t 29) (.t 30))⟩, ⟨none, (some 32), (.pick (.t 28) (.k (.one (.bool .true))) (.t 31))⟩]
def g3_6 : List Gop := [⟨none, (some 2), (.mov (.k (.one (.bool .false))))⟩]
def g3_7 : List Gop := [⟨none, (some 7), (.mov (.k (.one (.int .i64 1))))⟩]
def g3_8 : List Gop := [⟨none, (some 33), (.mov (.t 5))⟩, ⟨none, (some 34), (.mov (.t 7))⟩, ⟨none, (some 35), (.call 10 [(.t 33), (.t 34)])⟩, ⟨none, (some 7), (.mov (.t 35))⟩]
def g3_9 : List Gop := [⟨none, (some 8), (.mov (.k (.one (.int .i64 1))))⟩]
def g3_10 : List Gop := [⟨none, (some 36), (.mov (.t 5))⟩, ⟨none, (some 37), (.mov (.t 8))⟩, ⟨none, (some 38), (.call 11 [(.t 36), (.t 37)])⟩, ⟨none, (some 8), (.mov (.t 38))⟩]
def g3_11 : List Gop := [⟨none, (some 39), (.mov (.t 8))⟩, ⟨none, (some 40), (.bin .lss (.t 39) (.k (.one (.int .i64 0))))⟩]
def g3_12 : List Gop := [⟨none, (some 2), (.mov (.k (.one (.bool .false))))⟩]
def g3_13 : List Gop := [⟨none, (some 41), (.mov (.t 8))⟩, ⟨none, (some 42), (.mov (.t 7))⟩, ⟨none, (some 43), (.bin .neq (.t 41) (.t 42))⟩]
def g3_14 : List Gop := [⟨none, (some 2), (.mov (.k (.one (.bool .false))))⟩]
def g3_15 : List Gop := [⟨none, (some 45), (.mov (.t 0))⟩, ⟨none, (some 46), (.call 8 [(.t 45)])⟩, ⟨none, (some 44), (.mov (.t 46))⟩, ⟨none, (some 47), (.ext (.t 44) 0)⟩, ⟨none, (some 48), (.ext (.t 44) 1)⟩, ⟨none, (some 9), (.mov (.t 47))⟩, ⟨none, (some 10), (.mov (.t 48))⟩]
def g3_16 : List Gop := [⟨none, (some 49), (.mov (.t 9))⟩, ⟨none, (some 50), (.mov (.t 3))⟩, ⟨none, (some 51), (.call 9 [(.t 49), (.t 50)])⟩, ⟨none, (some 52), (.un .not (.t 51))⟩, ⟨none, (some 53), (.mov (.t 52))⟩, ⟨(some (53, .false)), (some 54), (.mov (.t 10))⟩, ⟨(some (53, .false)), (some 55), (.mov (.t 4))⟩, ⟨(some (53, .false)), (some 56), (.beq .true (.t 54) (.t 55))⟩, ⟨none, (some 57), (.pick (.t 53) (.k (.one (.bool .true))) (.t 56))⟩]
def g3_17 : List Gop := [⟨none, (some 2), (.mov (.k (.one (.bool .false))))⟩]
def g3_18 : List Gop := [⟨none, (some 8), (.mov (.k (.one (.int .i64 1))))⟩]
def g3_19 : List Gop := [⟨none, (some 58), (.mov (.t 5))⟩, ⟨none, (some 59), (.mov (.t 8))⟩, ⟨none, (some 60), (.call 11 [(.t 58), (.t 59)])⟩, ⟨none, (some 8), (.mov (.t 60))⟩]
def g3_20 : List Gop := [⟨none, (some 61), (.mov (.t 8))⟩, ⟨none, (some 62), (.bin .lss (.t 61) (.k (.one (.int .i64 0))))⟩]
def g3_21 : List Gop := [⟨none, (some 2), (.mov (.k (.one (.bool .false))))⟩]
def g3_22 : List Gop := [⟨none, (some 63), (.mov (.t 8))⟩, ⟨none, (some 64), (.mov (.t 7))⟩, ⟨none, (some 65), (.bin .neq (.t 63) (.t 64))⟩]
def g3_23 : List Gop := [⟨none, (some 2), (.mov (.k (.one (.bool .false))))⟩]
def g3_24 : List Gop := [⟨none, (some 2), (.mov (.k (.one (.bool .true))))⟩]
def i3 : Ir := (.seq (.region g3_0) (.seq (.seq (.region g3_1) (.cond (.t 13) (.seq (.region g3_2) .ret) .skip)) (.seq (.region g3_3) (.seq (.region g3_4) (.seq (.seq (.region g3_5) (.cond (.t 32) (.seq (.region g3_6) .ret) .skip)) (.seq (.region g3_7) (.seq (.region g3_8) (.seq (.region g3_9) (.seq (.region g3_10) (.seq (.seq (.region g3_11) (.cond (.t 40) (.seq (.region g3_12) .ret) .skip)) (.seq (.seq (.region g3_13) (.cond (.t 43) (.seq (.region g3_14) .ret) .skip)) (.seq (.region g3_15) (.seq (.seq (.region g3_16) (.cond (.t 57) (.seq (.region g3_17) .ret) .skip)) (.seq (.region g3_18) (.seq (.region g3_19) (.seq (.seq (.region g3_20) (.cond (.t 62) (.seq (.region g3_21) .ret) .skip)) (.seq (.seq (.region g3_22) (.cond (.t 65) (.seq (.region g3_23) .ret) .skip)) (.seq (.region g3_24) .ret))))))))))))))))))
theorem lawPieces_ok (s : ByteArray) (hs : s.size ≤ 9223372036854775807) : Meets Try.prog 3 [.one (.str s)] (.w (.one (.bool true))) [.one .hole] := by
  by_cases h0 : 1048576 < s.size
  · refine meets_go (ir := i3) (fn := Try.f3) (rx := [(.tmp 2)]) rfl rfl (by rfl) (by rfl) (by exact Nat.le_of_ble_eq_true rfl) ?_
    simp (maxSteps := 9000000) -implicitDefEqProofs -dsimp (disch := omega) only [go_sem, g3_0, g3_1, g3_2, g3_3, g3_4, g3_5, g3_6, g3_7, g3_8, g3_9, g3_10, g3_11, g3_12, g3_13, g3_14, g3_15, g3_16, g3_17, g3_18, g3_19, g3_20, g3_21, g3_22, g3_23, g3_24, i3, Nat.reduceEqDiff, Nat.reduceAdd, Nat.reduceMul, Nat.reduceLeDiff, Nat.reduceBEq, Nat.reduceBNe, Int.reduceEq, ↓reduceIte, reduceCtorEq]
    refine brP_i (fun h1 => ?_) (fun h1 => by omega)
    simp (maxSteps := 9000000) -implicitDefEqProofs -dsimp (disch := omega) only [go_sem, Nat.reduceEqDiff, Nat.reduceAdd, Nat.reduceMul, Nat.reduceLeDiff, Nat.reduceBEq, Nat.reduceBNe, Int.reduceEq, ↓reduceIte, reduceCtorEq]
  by_cases h1 : s.size ≤ 47
  · have S1 := specPieces_1 s h1
    have I1 := implPieces_1 s h1
    have W : Wf (encZ (datB (s8 s)) 2 16) 16 := times_wf fun r hr => (cm_gf (d := (datB (s8 s)).length) (p := 2) (by rw [datB_len]; omega) r hr).2
    have L : (encZ (datB (s8 s)) 2 16).length = 5 := by unfold encZ; rw [times_len, cm_len, datB_len]
    generalize encZ (datB (s8 s)) 2 16 = P at S1 I1 W L
    have E := eqIntSS_ok P (by omega) (fun r hr => by have := (W r hr).1; omega)
    have K := markIntSS_ok P 16 W (by omega) (by omega) 1 (by omega) (by omega)
    have H := heldIntSS_ok 5 16 (by omega) (by omega) 1 (by omega) (by omega)
    rw [L] at E
    simp only [L] at K
    have q1 : cut (mxO P) 0 5 = mxO P := mxO_cut (by omega)
    have q2 : cut (mxR P) 0 5 = mxR P := mxR_cut (by omega)
    have q3 : cut (mxO ((List.range 5).map (mkR 1 16))) 0 5 = mxO ((List.range 5).map (mkR 1 16)) := mxO_cut (by simp)
    have q4 : cut (mxR ((List.range 5).map (mkR 1 16))) 0 5 = mxR ((List.range 5).map (mkR 1 16)) := mxR_cut (by simp)
    generalize (List.range 5).map (mkR 1 16) = Q at K H q3 q4
    have e1 : (1 : Int) + ((5 * 16 : Nat) : Int) = 81 := rfl
    rw [e1] at K H
    refine meets_go (ir := i3) (fn := Try.f3) (rx := [(.tmp 2)]) rfl rfl (by rfl) (by rfl) (by exact Nat.le_of_ble_eq_true rfl) ?_
    simp (maxSteps := 9000000) -implicitDefEqProofs -dsimp (disch := omega) only [go_sem, g3_0, g3_1, g3_2, g3_3, g3_4, g3_5, g3_6, g3_7, g3_8, g3_9, g3_10, g3_11, g3_12, g3_13, g3_14, g3_15, g3_16, g3_17, g3_18, g3_19, g3_20, g3_21, g3_22, g3_23, g3_24, i3, lt_T, lt_F, le_T, le_F, eq_T, eq_F, and_F, Nat.reduceEqDiff, Nat.reduceAdd, Nat.reduceMul, Nat.reduceLeDiff, Nat.reduceBEq, Nat.reduceBNe, Int.reduceEq, ↓reduceIte, reduceCtorEq]
    refine call_go true S1 ?_
    simp (maxSteps := 9000000) -implicitDefEqProofs -dsimp (disch := omega) only [go_sem, lt_T, lt_F, le_T, le_F, eq_T, eq_F, and_F, q1, q2, q3, q4, mxO_ro, beq_self_eq_true, Bool.and_self, Nat.reduceEqDiff, Nat.reduceAdd, Nat.reduceMul, Nat.reduceLeDiff, Nat.reduceBEq, Nat.reduceBNe, Int.reduceEq, ↓reduceIte, reduceCtorEq]
    refine call_go true I1 ?_
    simp (maxSteps := 9000000) -implicitDefEqProofs -dsimp (disch := omega) only [go_sem, lt_T, lt_F, le_T, le_F, eq_T, eq_F, and_F, q1, q2, q3, q4, mxO_ro, beq_self_eq_true, Bool.and_self, Nat.reduceEqDiff, Nat.reduceAdd, Nat.reduceMul, Nat.reduceLeDiff, Nat.reduceBEq, Nat.reduceBNe, Int.reduceEq, ↓reduceIte, reduceCtorEq]
    refine call_go true E ?_
    simp (maxSteps := 9000000) -implicitDefEqProofs -dsimp (disch := omega) only [go_sem, lt_T, lt_F, le_T, le_F, eq_T, eq_F, and_F, q1, q2, q3, q4, mxO_ro, beq_self_eq_true, Bool.and_self, Nat.reduceEqDiff, Nat.reduceAdd, Nat.reduceMul, Nat.reduceLeDiff, Nat.reduceBEq, Nat.reduceBNe, Int.reduceEq, ↓reduceIte, reduceCtorEq]
    refine call_go true K ?_
    simp (maxSteps := 9000000) -implicitDefEqProofs -dsimp (disch := omega) only [go_sem, lt_T, lt_F, le_T, le_F, eq_T, eq_F, and_F, q1, q2, q3, q4, mxO_ro, beq_self_eq_true, Bool.and_self, Nat.reduceEqDiff, Nat.reduceAdd, Nat.reduceMul, Nat.reduceLeDiff, Nat.reduceBEq, Nat.reduceBNe, Int.reduceEq, ↓reduceIte, reduceCtorEq]
    refine call_go true H ?_
    simp (maxSteps := 9000000) -implicitDefEqProofs -dsimp (disch := omega) only [go_sem, lt_T, lt_F, le_T, le_F, eq_T, eq_F, and_F, q1, q2, q3, q4, mxO_ro, beq_self_eq_true, Bool.and_self, Nat.reduceEqDiff, Nat.reduceAdd, Nat.reduceMul, Nat.reduceLeDiff, Nat.reduceBEq, Nat.reduceBNe, Int.reduceEq, ↓reduceIte, reduceCtorEq]
    refine call_go true I1 ?_
    simp (maxSteps := 9000000) -implicitDefEqProofs -dsimp (disch := omega) only [go_sem, lt_T, lt_F, le_T, le_F, eq_T, eq_F, and_F, q1, q2, q3, q4, mxO_ro, beq_self_eq_true, Bool.and_self, Nat.reduceEqDiff, Nat.reduceAdd, Nat.reduceMul, Nat.reduceLeDiff, Nat.reduceBEq, Nat.reduceBNe, Int.reduceEq, ↓reduceIte, reduceCtorEq]
    refine call_go true E ?_
    simp (maxSteps := 9000000) -implicitDefEqProofs -dsimp (disch := omega) only [go_sem, lt_T, lt_F, le_T, le_F, eq_T, eq_F, and_F, q1, q2, q3, q4, mxO_ro, beq_self_eq_true, Bool.and_self, Nat.reduceEqDiff, Nat.reduceAdd, Nat.reduceMul, Nat.reduceLeDiff, Nat.reduceBEq, Nat.reduceBNe, Int.reduceEq, ↓reduceIte, reduceCtorEq]
    refine call_go true H ?_
    simp (maxSteps := 9000000) -implicitDefEqProofs -dsimp (disch := omega) only [go_sem, lt_T, lt_F, le_T, le_F, eq_T, eq_F, and_F, q1, q2, q3, q4, mxO_ro, beq_self_eq_true, Bool.and_self, Nat.reduceEqDiff, Nat.reduceAdd, Nat.reduceMul, Nat.reduceLeDiff, Nat.reduceBEq, Nat.reduceBNe, Int.reduceEq, ↓reduceIte, reduceCtorEq]
  · have S1 := specPieces_0 s (by omega) (by omega)
    have I1 := implPieces_0 s (by omega) (by omega)
    refine meets_go (ir := i3) (fn := Try.f3) (rx := [(.tmp 2)]) rfl rfl (by rfl) (by rfl) (by exact Nat.le_of_ble_eq_true rfl) ?_
    simp (maxSteps := 9000000) -implicitDefEqProofs -dsimp (disch := omega) only [go_sem, g3_0, g3_1, g3_2, g3_3, g3_4, g3_5, g3_6, g3_7, g3_8, g3_9, g3_10, g3_11, g3_12, g3_13, g3_14, g3_15, g3_16, g3_17, g3_18, g3_19, g3_20, g3_21, g3_22, g3_23, g3_24, i3, lt_T, lt_F, le_T, le_F, eq_T, eq_F, and_F, Nat.reduceEqDiff, Nat.reduceAdd, Nat.reduceMul, Nat.reduceLeDiff, Nat.reduceBEq, Nat.reduceBNe, Int.reduceEq, ↓reduceIte, reduceCtorEq]
    refine call_go true S1 ?_
    simp (maxSteps := 9000000) -implicitDefEqProofs -dsimp (disch := omega) only [go_sem, lt_T, lt_F, le_T, le_F, eq_T, eq_F, and_F, Nat.reduceEqDiff, Nat.reduceAdd, Nat.reduceMul, Nat.reduceLeDiff, Nat.reduceBEq, Nat.reduceBNe, Int.reduceEq, ↓reduceIte, reduceCtorEq]
    refine call_go true I1 ?_
    simp (maxSteps := 9000000) -implicitDefEqProofs -dsimp (disch := omega) only [go_sem, lt_T, lt_F, le_T, le_F, eq_T, eq_F, and_F, Nat.reduceEqDiff, Nat.reduceAdd, Nat.reduceMul, Nat.reduceLeDiff, Nat.reduceBEq, Nat.reduceBNe, Int.reduceEq, ↓reduceIte, reduceCtorEq]
    refine call_go true eqIntSS_nil ?_
    simp (maxSteps := 9000000) -implicitDefEqProofs -dsimp (disch := omega) only [go_sem, lt_T, lt_F, le_T, le_F, eq_T, eq_F, and_F, Nat.reduceEqDiff, Nat.reduceAdd, Nat.reduceMul, Nat.reduceLeDiff, Nat.reduceBEq, Nat.reduceBNe, Int.reduceEq, ↓reduceIte, reduceCtorEq]
    refine call_go true markIntSS_nil ?_
    simp (maxSteps := 9000000) -implicitDefEqProofs -dsimp (disch := omega) only [go_sem, lt_T, lt_F, le_T, le_F, eq_T, eq_F, and_F, Nat.reduceEqDiff, Nat.reduceAdd, Nat.reduceMul, Nat.reduceLeDiff, Nat.reduceBEq, Nat.reduceBNe, Int.reduceEq, ↓reduceIte, reduceCtorEq]
    refine call_go true heldIntSS_nil ?_
    simp (maxSteps := 9000000) -implicitDefEqProofs -dsimp (disch := omega) only [go_sem, lt_T, lt_F, le_T, le_F, eq_T, eq_F, and_F, Nat.reduceEqDiff, Nat.reduceAdd, Nat.reduceMul, Nat.reduceLeDiff, Nat.reduceBEq, Nat.reduceBNe, Int.reduceEq, ↓reduceIte, reduceCtorEq]
    refine call_go true I1 ?_
    simp (maxSteps := 9000000) -implicitDefEqProofs -dsimp (disch := omega) only [go_sem, lt_T, lt_F, le_T, le_F, eq_T, eq_F, and_F, Nat.reduceEqDiff, Nat.reduceAdd, Nat.reduceMul, Nat.reduceLeDiff, Nat.reduceBEq, Nat.reduceBNe, Int.reduceEq, ↓reduceIte, reduceCtorEq]
    refine call_go true eqIntSS_nil ?_
    simp (maxSteps := 9000000) -implicitDefEqProofs -dsimp (disch := omega) only [go_sem, lt_T, lt_F, le_T, le_F, eq_T, eq_F, and_F, Nat.reduceEqDiff, Nat.reduceAdd, Nat.reduceMul, Nat.reduceLeDiff, Nat.reduceBEq, Nat.reduceBNe, Int.reduceEq, ↓reduceIte, reduceCtorEq]
    refine call_go true heldIntSS_nil ?_
    simp (maxSteps := 9000000) -implicitDefEqProofs -dsimp (disch := omega) only [go_sem, lt_T, lt_F, le_T, le_F, eq_T, eq_F, and_F, Nat.reduceEqDiff, Nat.reduceAdd, Nat.reduceMul, Nat.reduceLeDiff, Nat.reduceBEq, Nat.reduceBNe, Int.reduceEq, ↓reduceIte, reduceCtorEq]
end Go.Proofs.YtplhecjngmkngaaT
