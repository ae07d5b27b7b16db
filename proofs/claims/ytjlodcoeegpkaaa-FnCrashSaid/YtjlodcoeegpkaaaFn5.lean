/- Functions of the program, each with what it returns and leaves. No condition. -/
import Derived.Test.YtjlodcoeegpkaaaFn4
set_option linter.all false
set_option linter.unusedVariables false
set_option linter.unusedSimpArgs false
set_option linter.unusedSectionVars false
set_option linter.unnecessarySimpa false
set_option linter.deprecated false
/- Functions of the program as contracts: disks drawn for a law. No condition. -/
set_option maxRecDepth 100000
set_option maxHeartbeats 8000000
set_option linter.unusedSimpArgs false
set_option linter.unusedVariables false
namespace Go.Proofs.YtjlodcoeegpkaaaT
open Go Go.RowKit
def Bytes (l : List Int) : Prop := (∀ x ∈ l, 0 ≤ x ∧ x ≤ 255) ∧ (l.length : Int) ≤ 9223372036854775807
theorem Bytes.cu {l : List Int} (h : Bytes l) : (⟨l, 0, 0⟩ : Cu).ok 0 := ⟨h.1, h.2, by simp, by simp, by simp, by simp⟩
def g39_0 : List Gop := [⟨none, (some 2), (.mov (.k (.one (.int .i64 0))))⟩]
def g39_1 : List Gop := [⟨none, (some 4), (.mov (.t 0))⟩, ⟨none, (some 5), (.build [.nil, (.int .i64 0), (.int .u64 0)] [(0, (1, (.t 4)))])⟩, ⟨none, (some 6), (.box (.t 5))⟩, ⟨none, (some 3), (.mov (.t 6))⟩]
def g39_2 : List Gop := [⟨none, (some 7), (.mov (.t 3))⟩, ⟨none, (some 8), (.lit 1 6 [(.int .i64 0)] [(0, (.k (.one (.int .i64 (-1))))), (1, (.k (.one (.int .i64 0)))), (2, (.k (.one (.int .i64 1)))), (3, (.k (.one (.int .i64 5)))), (4, (.k (.one (.int .i64 24)))), (5, (.k (.one (.int .i64 25))))])⟩, ⟨none, (some 9), (.call 83 [(.t 7), (.t 8)])⟩, ⟨none, (some 2), (.mov (.t 9))⟩]
def i39 : Ir := (.seq (.region g39_0) (.seq (.region g39_1) (.seq (.region g39_2) .ret)))
theorem drawNewDisk_ok (code : List Int) (h : Bytes code) : ∃ n, Meets Try.prog 39 [.one (.sl false 1 code.length (code.map (T.int .u8)))] (.w (.one (.int .i64 n))) [.one .hole] := by
  obtain ⟨n, c1, k1, hn, M1⟩ := among_ok ⟨code, 0, 0⟩ 0 [-1, 0, 1, 5, 24, 25] h.cu (by omega) (by decide) (by decide)
  refine ⟨n, ?_⟩
  unfold cuT at *
  refine meets_go (ir := i39) (fn := Try.f39) (rx := [(.tmp 2)]) rfl rfl (by rfl) (by rfl) (by exact Nat.le_of_ble_eq_true rfl) ?_
  simp (maxSteps := 9000000) -implicitDefEqProofs -dsimp (disch := omega) only [go_sem, g39_0, g39_1, g39_2, i39, Nat.reduceEqDiff, Nat.reduceAdd, Nat.reduceMul, Nat.reduceLeDiff, Nat.reduceBEq, Nat.reduceBNe, Int.reduceEq, ↓reduceIte, reduceCtorEq]
  refine call_go false M1 ?_
  simp (maxSteps := 9000000) -implicitDefEqProofs -dsimp (disch := omega) only [go_sem, g39_0, g39_1, g39_2, i39, Nat.reduceEqDiff, Nat.reduceAdd, Nat.reduceMul, Nat.reduceLeDiff, Nat.reduceBEq, Nat.reduceBNe, Int.reduceEq, ↓reduceIte, reduceCtorEq]
def g38_0 : List Gop := [⟨none, (some 2), (.alloc [.nil, .nil, .nil])⟩, ⟨none, (some 3), (.mov (.k (.one (.int .i64 0))))⟩]
def g38_1 : List Gop := [⟨none, (some 6), (.mov (.t 0))⟩, ⟨none, (some 7), (.build [.nil, (.int .i64 0), (.int .u64 0)] [(0, (1, (.t 6)))])⟩, ⟨none, (some 8), (.box (.t 7))⟩, ⟨none, (some 4), (.mov (.t 8))⟩]
def g38_2 : List Gop := [⟨none, (some 9), (.mov (.t 4))⟩, ⟨none, (some 10), (.call 79 [(.t 9)])⟩, ⟨none, (some 5), (.alloc [.nil, .nil, .nil])⟩, ⟨none, none, (.store 3 (.t 5) (.t 10))⟩]
def g38_3 : List Gop := [⟨none, (some 11), (.load (some 3) (.t 5))⟩, ⟨none, (some 12), (.mov (.t 4))⟩, ⟨none, (some 13), (.faddr (.t 5) 0)⟩, ⟨none, (some 14), (.load none (.t 13))⟩, ⟨none, (some 15), (.len (.t 14))⟩, ⟨none, (some 16), (.bin .add (.t 15) (.k (.one (.int .i64 2))))⟩, ⟨none, (some 17), (.call 81 [(.t 12), (.t 16)])⟩, ⟨none, (some 18), (.bin .sub (.t 17) (.k (.one (.int .i64 1))))⟩, ⟨none, none, (.store 3 (.t 2) (.t 11))⟩, ⟨none, (some 3), (.mov (.t 18))⟩]
def a38_3 : List (List Nat) := [[], [], [], [2], [2, 3], [2, 3, 4], [1, 2, 3, 4, 5], [1, 2, 3, 4, 5, 6], [0, 1, 2, 3, 4, 5, 6], [0, 1, 2, 3, 4, 5, 6, 7, 8]]
def n38_3 : Nat := 9 -- of 10
def i38 : Ir := (.seq (.region g38_0) (.seq (.region g38_1) (.seq (.region g38_2) (.seq (.draw [[], [], [], [2], [3], [4], [1, 5], [6], [0, 6, 0], [7, 8, 0, 1, 2, 3, 4, 5, 6, 7, 8]] g38_3) .ret))))
theorem drawReadSector_ok (code : List Int) (hc : Bytes code) : ∃ p h b n, DrOk p h b ∧ Meets Try.prog 38 [.one (.sl false 1 code.length (code.map (T.int .u8)))] (.tup [.agg [(.sl true 1 p.length (p.map T.str)), (.sl true 1 h.length (h.map T.str)), (.sl true 1 b.length (b.map T.bool))], .one (.int .i64 n)]) [.one .hole] := by
  obtain ⟨p, h, b, c1, k1, hd, M1⟩ := disk_ok ⟨code, 0, 0⟩ 0 hc.cu (by omega)
  obtain ⟨n, c2, k2, r2, M2⟩ := pick_ok c1 (0 + 40000) (p.length + 2) k1 (by omega) (by omega) (by have := hd.1; omega)
  refine ⟨p, h, b, n - 1, hd, ?_⟩
  have := hd.1
  have := hd.2.1
  have := hd.2.2.1
  unfold cuT at *
  refine meets_go (ir := i38) (fn := Try.f38) (rx := [(.cell 2 (some 3)), (.tmp 3)]) rfl rfl (by rfl) (by rfl) (by exact Nat.le_of_ble_eq_true rfl) ?_
  simp (maxSteps := 9000000) -implicitDefEqProofs -dsimp (disch := omega) only [go_sem, g38_0, g38_1, g38_2, g38_3, a38_3, n38_3, i38, Nat.reduceEqDiff, Nat.reduceAdd, Nat.reduceMul, Nat.reduceLeDiff, Nat.reduceBEq, Nat.reduceBNe, Int.reduceEq, ↓reduceIte, reduceCtorEq]
  refine call_go false M1 ?_
  simp (maxSteps := 9000000) -implicitDefEqProofs -dsimp (disch := omega) only [go_sem, g38_0, g38_1, g38_2, g38_3, a38_3, n38_3, i38, Nat.reduceEqDiff, Nat.reduceAdd, Nat.reduceMul, Nat.reduceLeDiff, Nat.reduceBEq, Nat.reduceBNe, Int.reduceEq, ↓reduceIte, reduceCtorEq]
  refine drawm_go n38_3 a38_3 [(6, .framed [6]), (8, .framed [])] (by decide +kernel) ?_
  simp (maxSteps := 9000000) -implicitDefEqProofs -dsimp (disch := omega) only [go_sem, g38_0, g38_1, g38_2, g38_3, a38_3, n38_3, i38, Nat.reduceEqDiff, Nat.reduceAdd, Nat.reduceMul, Nat.reduceLeDiff, Nat.reduceBEq, Nat.reduceBNe, Int.reduceEq, ↓reduceIte, reduceCtorEq]
  refine call_go false M2 ?_
  simp (maxSteps := 9000000) -implicitDefEqProofs -dsimp (disch := omega) only [go_sem, g38_0, g38_1, g38_2, g38_3, a38_3, n38_3, i38, lt_T, lt_F, le_T, le_F, eq_T, eq_F, and_F, Nat.reduceEqDiff, Nat.reduceAdd, Nat.reduceMul, Nat.reduceLeDiff, Nat.reduceBEq, Nat.reduceBNe, Int.reduceEq, ↓reduceIte, reduceCtorEq]
def g34_0 : List Gop := [⟨none, (some 2), (.alloc [.nil, .nil, .nil])⟩, ⟨none, (some 3), (.mov (.k (.one .nil)))⟩]
def g34_1 : List Gop := [⟨none, (some 9), (.mov (.t 0))⟩, ⟨none, (some 10), (.build [.nil, (.int .i64 0), (.int .u64 0)] [(0, (1, (.t 9)))])⟩, ⟨none, (some 11), (.box (.t 10))⟩, ⟨none, (some 4), (.mov (.t 11))⟩]
def g34_2 : List Gop := [⟨none, (some 12), (.mov (.t 4))⟩, ⟨none, (some 13), (.call 79 [(.t 12)])⟩, ⟨none, (some 5), (.alloc [.nil, .nil, .nil])⟩, ⟨none, none, (.store 3 (.t 5) (.t 13))⟩]
def g34_3 : List Gop := [⟨none, (some 6), (.mov (.k (.one .nil)))⟩]
def g34_4 : List Gop := [⟨none, (some 14), (.load (some 3) (.t 5))⟩, ⟨none, (some 15), (.call 72 [(.t 14)])⟩, ⟨none, (some 16), (.len (.t 15))⟩, ⟨none, (some 17), (.mov (.k (.one (.int .i64 0))))⟩]
def g34_5 : List Gop := [⟨none, (some 18), (.bin .lss (.t 17) (.t 16))⟩]
def g34_6 : List Gop := [⟨none, (some 19), (.iaddr 1 (.t 15) (.t 17))⟩, ⟨none, (some 20), (.load none (.t 19))⟩, ⟨none, (some 8), (.mov (.t 20))⟩]
def g34_7 : List Gop := [⟨none, (some 21), (.mov (.t 4))⟩, ⟨none, (some 22), (.call 80 [(.t 21), (.k (.one (.int .i64 2)))])⟩]
def g34_8 : List Gop := [⟨none, (some 23), (.mov (.t 6))⟩, ⟨none, (some 24), (.mov (.t 8))⟩, ⟨none, (some 25), (.lit 1 1 [(.int .i64 0)] [(0, (.t 24))])⟩, ⟨none, (some 26), (.app 1 8 [(.int .i64 0)] (.t 23) (.t 25))⟩, ⟨none, (some 6), (.mov (.t 26))⟩]
def g34_9 : List Gop := [⟨none, (some 27), (.bin .add (.t 17) (.k (.one (.int .i64 1))))⟩, ⟨none, (some 17), (.mov (.t 27))⟩]
def g34_10 : List Gop := [⟨none, (some 28), (.mov (.t 4))⟩, ⟨none, (some 29), (.call 80 [(.t 28), (.k (.one (.int .i64 12)))])⟩]
def g34_11 : List Gop := [⟨none, (some 30), (.mov (.t 6))⟩, ⟨none, (some 31), (.mov (.t 4))⟩, ⟨none, (some 32), (.call 81 [(.t 31), (.k (.one (.int .i64 6)))])⟩, ⟨none, (some 33), (.lit 1 1 [(.int .i64 0)] [(0, (.t 32))])⟩, ⟨none, (some 34), (.app 1 8 [(.int .i64 0)] (.t 30) (.t 33))⟩, ⟨none, (some 6), (.mov (.t 34))⟩]
def g34_12 : List Gop := [⟨none, (some 35), (.load (some 3) (.t 5))⟩, ⟨none, (some 36), (.mov (.t 6))⟩, ⟨none, none, (.store 3 (.t 2) (.t 35))⟩, ⟨none, (some 3), (.mov (.t 36))⟩]
def i34 : Ir := (.seq (.region g34_0) (.seq (.region g34_1) (.seq (.region g34_2) (.seq (.region g34_3) (.seq (.seq (.region g34_4) (.block 0 (.loop (.seq (.region g34_5) (.seq (.cond (.t 18) .skip (.exit 0)) (.seq (.block 1 (.seq (.region g34_6) (.seq (.region g34_7) (.cond (.t 22) (.region g34_8) .skip)))) (.region g34_9))))))) (.seq (.seq (.region g34_10) (.cond (.t 29) (.region g34_11) .skip)) (.seq (.region g34_12) .ret)))))))
def acS (code : List Int) (p h : List ByteArray) (b : List Bool) (hl : List Int) (i : Nat) (q : Cu × List Int) : St := ⟨[(17, .w (.one (.int .i64 (i : Nat)))), (16, .w (.one (.int .i64 hl.length))), (15, .w (.one (.hs 7 [] 0 1 hl.length))), (6, .w (.one (.hs 8 [] 0 1 q.2.length))), (5, .w (.one (.hp 6 [] 0))), (4, .w (.one (.hp 2 [] 0))), (2, .w (.one (.hp 1 [] 0)))],
  [(7, (.sl true 1 hl.length (hl.map (T.int .i64)))), (8, (.sl true 1 q.2.length (q.2.map (T.int .i64)))), (6, .bx true [(.sl true 1 p.length (p.map T.str)), (.sl true 1 h.length (h.map T.str)), (.sl true 1 b.length (b.map T.bool))]), (2, cuT q.1), (1, .bx true [.sl true 0 0 [], .sl true 0 0 [], .sl true 0 0 []]), (0, (.sl false 1 code.length (code.map (T.int .u8))))], [.one (.hs 0 [] 0 1 code.length)]⟩
theorem acRound {code : List Int} {p h : List ByteArray} {b : List Bool} {bb : Int} {hl : List Int} {i : Nat} {q : Cu × List Int} (hb : bb ≤ 1000000000) (hl2 : hl.length ≤ 24) (hi : i < hl.length) (hq : q.1.ok (bb + i) ∧ q.2.length ≤ i) : ∃ q' : Cu × List Int, (q'.1.ok (bb + (i + 1 : Nat)) ∧ q'.2.length ≤ i + 1) ∧ Rnd Try.prog (.seq (.region g34_5) (.seq (.cond (.t 18) .skip (.exit 0)) (.seq (.block 1 (.seq (.region g34_6) (.seq (.region g34_7) (.cond (.t 22) (.region g34_8) .skip)))) (.region g34_9)))) (acS code p h b hl i q) (acS code p h b hl (i + 1) q') := by
  obtain ⟨c, kept⟩ := q
  obtain ⟨h1, h2⟩ := hq
  simp only at h1 h2
  obtain ⟨y, c', k1, M⟩ := one_ok c (bb + i) 2 h1 (by omega) (by omega) (by omega)
  have k1' : c'.ok (bb + (i + 1 : Nat)) := k1.mono (by omega)
  cases y with
  | true =>
    refine ⟨(c', kept ++ [hl.getD i default]), ⟨k1', by simp only [List.length_append, List.length_singleton]; omega⟩, rnd_go ?_⟩
    unfold acS cuT at *
    simp (maxSteps := 9000000) -implicitDefEqProofs -dsimp (disch := omega) only [go_sem, g34_0, g34_1, g34_2, g34_3, g34_4, g34_5, g34_6, g34_7, g34_8, g34_9, g34_10, g34_11, g34_12, i34, lt_T, lt_F, le_T, le_F, eq_T, eq_F, and_F, Nat.reduceEqDiff, Nat.reduceAdd, Nat.reduceMul, Nat.reduceLeDiff, Nat.reduceBEq, Nat.reduceBNe, Int.reduceEq, ↓reduceIte, reduceCtorEq]
    refine call_go false M ?_
    simp (maxSteps := 9000000) -implicitDefEqProofs -dsimp (disch := omega) only [go_sem, g34_0, g34_1, g34_2, g34_3, g34_4, g34_5, g34_6, g34_7, g34_8, g34_9, g34_10, g34_11, g34_12, i34, lt_T, lt_F, le_T, le_F, eq_T, eq_F, and_F, Nat.reduceEqDiff, Nat.reduceAdd, Nat.reduceMul, Nat.reduceLeDiff, Nat.reduceBEq, Nat.reduceBNe, Int.reduceEq, ↓reduceIte, reduceCtorEq]
    exact (imp_ren 10 8 rfl rfl).trans (imp_sub (by simp (maxSteps := 9000000) -implicitDefEqProofs -dsimp (disch := omega) only [go_sem, g34_0, g34_1, g34_2, g34_3, g34_4, g34_5, g34_6, g34_7, g34_8, g34_9, g34_10, g34_11, g34_12, i34, Nat.reduceEqDiff, Nat.reduceAdd, Nat.reduceMul, Nat.reduceLeDiff, Nat.reduceBEq, Nat.reduceBNe, Int.reduceEq, ↓reduceIte, reduceCtorEq]) (by simp (maxSteps := 9000000) -implicitDefEqProofs -dsimp (disch := omega) only [go_sem, g34_0, g34_1, g34_2, g34_3, g34_4, g34_5, g34_6, g34_7, g34_8, g34_9, g34_10, g34_11, g34_12, i34, Nat.reduceEqDiff, Nat.reduceAdd, Nat.reduceMul, Nat.reduceLeDiff, Nat.reduceBEq, Nat.reduceBNe, Int.reduceEq, ↓reduceIte, reduceCtorEq]) rfl)
  | false =>
    refine ⟨(c', kept), ⟨k1', by simp only; omega⟩, rnd_go ?_⟩
    unfold acS cuT at *
    simp (maxSteps := 9000000) -implicitDefEqProofs -dsimp (disch := omega) only [go_sem, g34_0, g34_1, g34_2, g34_3, g34_4, g34_5, g34_6, g34_7, g34_8, g34_9, g34_10, g34_11, g34_12, i34, lt_T, lt_F, le_T, le_F, eq_T, eq_F, and_F, Nat.reduceEqDiff, Nat.reduceAdd, Nat.reduceMul, Nat.reduceLeDiff, Nat.reduceBEq, Nat.reduceBNe, Int.reduceEq, ↓reduceIte, reduceCtorEq]
    refine call_go false M ?_
    simp (maxSteps := 9000000) -implicitDefEqProofs -dsimp (disch := omega) only [go_sem, g34_0, g34_1, g34_2, g34_3, g34_4, g34_5, g34_6, g34_7, g34_8, g34_9, g34_10, g34_11, g34_12, i34, lt_T, lt_F, le_T, le_F, eq_T, eq_F, and_F, Nat.reduceEqDiff, Nat.reduceAdd, Nat.reduceMul, Nat.reduceLeDiff, Nat.reduceBEq, Nat.reduceBNe, Int.reduceEq, ↓reduceIte, reduceCtorEq]
    exact (imp_sub (by simp (maxSteps := 9000000) -implicitDefEqProofs -dsimp (disch := omega) only [go_sem, g34_0, g34_1, g34_2, g34_3, g34_4, g34_5, g34_6, g34_7, g34_8, g34_9, g34_10, g34_11, g34_12, i34, Nat.reduceEqDiff, Nat.reduceAdd, Nat.reduceMul, Nat.reduceLeDiff, Nat.reduceBEq, Nat.reduceBNe, Int.reduceEq, ↓reduceIte, reduceCtorEq]) (by simp (maxSteps := 9000000) -implicitDefEqProofs -dsimp (disch := omega) only [go_sem, g34_0, g34_1, g34_2, g34_3, g34_4, g34_5, g34_6, g34_7, g34_8, g34_9, g34_10, g34_11, g34_12, i34, Nat.reduceEqDiff, Nat.reduceAdd, Nat.reduceMul, Nat.reduceLeDiff, Nat.reduceBEq, Nat.reduceBNe, Int.reduceEq, ↓reduceIte, reduceCtorEq]) rfl)
theorem drawAfterCrash_ok (code : List Int) (hc : Bytes code) : ∃ (p h : List ByteArray) (b : List Bool) (kept : List Int), DrOk p h b ∧ kept.length ≤ 25 ∧ Meets Try.prog 34 [.one (.sl false 1 code.length (code.map (T.int .u8)))] (.tup [.agg [(.sl true 1 p.length (p.map T.str)), (.sl true 1 h.length (h.map T.str)), (.sl true 1 b.length (b.map T.bool))], .one (.sl true 1 kept.length (kept.map (T.int .i64)))]) [.one .hole] := by
  obtain ⟨p, h, b, c1, k1, hd, M1⟩ := disk_ok ⟨code, 0, 0⟩ 0 hc.cu (by omega)
  have := hd.1
  have := hd.2.1
  have := hd.2.2.1
  have MH := l7Held_ok p h b (by omega)
  have hle := heldN_le (l := h) (i := h.length)
  generalize heldN h h.length = hl at *
  have hh : hl.length ≤ 24 := by omega
  clear hle
  obtain ⟨f, f0, f1, f2⟩ := chain (P := Try.prog) (b := (.seq (.region g34_5) (.seq (.cond (.t 18) .skip (.exit 0)) (.seq (.block 1 (.seq (.region g34_6) (.seq (.region g34_7) (.cond (.t 22) (.region g34_8) .skip)))) (.region g34_9))))) (S := acS code p h b hl) (I := fun i q => q.1.ok (40000 + (i : Nat)) ∧ q.2.length ≤ i) (a0 := ((c1, []) : Cu × List Int)) hl.length ⟨by simpa using k1, by simp⟩ (fun i q hi hq => acRound (by omega) hh hi hq)
  obtain ⟨g1, g2⟩ := f1 hl.length (Nat.le_refl _)
  have i0 : acS code p h b hl 0 (f 0) = acS code p h b hl 0 (c1, []) := by rw [f0]
  obtain ⟨y, c3, k3, M3⟩ := one_ok (f hl.length).1 (40000 + (hl.length : Nat)) 12 g1 (by omega) (by omega) (by omega)
  obtain ⟨z, c4, k4, r4, M4⟩ := pick_ok c3 (40000 + (hl.length : Nat) + 1) 6 k3 (by omega) (by omega) (by omega)
  cases y with
  | false =>
    refine ⟨p, h, b, (f hl.length).2, hd, by omega, ?_⟩
    unfold cuT at M1 M3 M4
    refine meets_go (ir := i34) (fn := Try.f34) (rx := [(.cell 2 (some 3)), (.tmp 3)]) rfl rfl (by rfl) (by rfl) (by exact Nat.le_of_ble_eq_true rfl) ?_
    simp (maxSteps := 9000000) -implicitDefEqProofs -dsimp (disch := omega) only [go_sem, g34_0, g34_1, g34_2, g34_3, g34_4, g34_5, g34_6, g34_7, g34_8, g34_9, g34_10, g34_11, g34_12, i34, Nat.reduceEqDiff, Nat.reduceAdd, Nat.reduceMul, Nat.reduceLeDiff, Nat.reduceBEq, Nat.reduceBNe, Int.reduceEq, ↓reduceIte, reduceCtorEq]
    refine call_go false M1 ?_
    simp (maxSteps := 9000000) -implicitDefEqProofs -dsimp (disch := omega) only [go_sem, g34_0, g34_1, g34_2, g34_3, g34_4, g34_5, g34_6, g34_7, g34_8, g34_9, g34_10, g34_11, g34_12, i34, Nat.reduceEqDiff, Nat.reduceAdd, Nat.reduceMul, Nat.reduceLeDiff, Nat.reduceBEq, Nat.reduceBNe, Int.reduceEq, ↓reduceIte, reduceCtorEq]
    refine call_go true MH ?_
    simp (maxSteps := 9000000) -implicitDefEqProofs -dsimp (disch := omega) only [go_sem, g34_0, g34_1, g34_2, g34_3, g34_4, g34_5, g34_6, g34_7, g34_8, g34_9, g34_10, g34_11, g34_12, i34, Nat.reduceEqDiff, Nat.reduceAdd, Nat.reduceMul, Nat.reduceLeDiff, Nat.reduceBEq, Nat.reduceBNe, Int.reduceEq, ↓reduceIte, reduceCtorEq]
    refine loop_f hl.length (fun i => acS code p h b hl i (f i)) ?_ f2 ?_
    · rw [i0]
      unfold acS cuT
      exact (imp_adopt 6 8 1 rfl rfl).trans (imp_sub (by simp (maxSteps := 9000000) -implicitDefEqProofs -dsimp (disch := omega) only [go_sem, g34_0, g34_1, g34_2, g34_3, g34_4, g34_5, g34_6, g34_7, g34_8, g34_9, g34_10, g34_11, g34_12, i34, Nat.reduceEqDiff, Nat.reduceAdd, Nat.reduceMul, Nat.reduceLeDiff, Nat.reduceBEq, Nat.reduceBNe, Int.reduceEq, ↓reduceIte, reduceCtorEq]) (by simp (maxSteps := 9000000) -implicitDefEqProofs -dsimp (disch := omega) only [go_sem, g34_0, g34_1, g34_2, g34_3, g34_4, g34_5, g34_6, g34_7, g34_8, g34_9, g34_10, g34_11, g34_12, i34, Nat.reduceEqDiff, Nat.reduceAdd, Nat.reduceMul, Nat.reduceLeDiff, Nat.reduceBEq, Nat.reduceBNe, Int.reduceEq, ↓reduceIte, reduceCtorEq]) rfl)
    · unfold acS cuT
      simp (maxSteps := 9000000) -implicitDefEqProofs -dsimp (disch := omega) only [go_sem, g34_0, g34_1, g34_2, g34_3, g34_4, g34_5, g34_6, g34_7, g34_8, g34_9, g34_10, g34_11, g34_12, i34, lt_T, lt_F, le_T, le_F, eq_T, eq_F, and_F, Nat.reduceEqDiff, Nat.reduceAdd, Nat.reduceMul, Nat.reduceLeDiff, Nat.reduceBEq, Nat.reduceBNe, Int.reduceEq, ↓reduceIte, reduceCtorEq]
      refine call_go false M3 ?_
      simp (maxSteps := 9000000) -implicitDefEqProofs -dsimp (disch := omega) only [go_sem, g34_0, g34_1, g34_2, g34_3, g34_4, g34_5, g34_6, g34_7, g34_8, g34_9, g34_10, g34_11, g34_12, i34, lt_T, lt_F, le_T, le_F, eq_T, eq_F, and_F, Nat.reduceEqDiff, Nat.reduceAdd, Nat.reduceMul, Nat.reduceLeDiff, Nat.reduceBEq, Nat.reduceBNe, Int.reduceEq, ↓reduceIte, reduceCtorEq]
  | true =>
    refine ⟨p, h, b, (f hl.length).2 ++ [z], hd, by simp; omega, ?_⟩
    unfold cuT at M1 M3 M4
    refine meets_go (ir := i34) (fn := Try.f34) (rx := [(.cell 2 (some 3)), (.tmp 3)]) rfl rfl (by rfl) (by rfl) (by exact Nat.le_of_ble_eq_true rfl) ?_
    simp (maxSteps := 9000000) -implicitDefEqProofs -dsimp (disch := omega) only [go_sem, g34_0, g34_1, g34_2, g34_3, g34_4, g34_5, g34_6, g34_7, g34_8, g34_9, g34_10, g34_11, g34_12, i34, Nat.reduceEqDiff, Nat.reduceAdd, Nat.reduceMul, Nat.reduceLeDiff, Nat.reduceBEq, Nat.reduceBNe, Int.reduceEq, ↓reduceIte, reduceCtorEq]
    refine call_go false M1 ?_
    simp (maxSteps := 9000000) -implicitDefEqProofs -dsimp (disch := omega) only [go_sem, g34_0, g34_1, g34_2, g34_3, g34_4, g34_5, g34_6, g34_7, g34_8, g34_9, g34_10, g34_11, g34_12, i34, Nat.reduceEqDiff, Nat.reduceAdd, Nat.reduceMul, Nat.reduceLeDiff, Nat.reduceBEq, Nat.reduceBNe, Int.reduceEq, ↓reduceIte, reduceCtorEq]
    refine call_go true MH ?_
    simp (maxSteps := 9000000) -implicitDefEqProofs -dsimp (disch := omega) only [go_sem, g34_0, g34_1, g34_2, g34_3, g34_4, g34_5, g34_6, g34_7, g34_8, g34_9, g34_10, g34_11, g34_12, i34, Nat.reduceEqDiff, Nat.reduceAdd, Nat.reduceMul, Nat.reduceLeDiff, Nat.reduceBEq, Nat.reduceBNe, Int.reduceEq, ↓reduceIte, reduceCtorEq]
    refine loop_f hl.length (fun i => acS code p h b hl i (f i)) ?_ f2 ?_
    · rw [i0]
      unfold acS cuT
      exact (imp_adopt 6 8 1 rfl rfl).trans (imp_sub (by simp (maxSteps := 9000000) -implicitDefEqProofs -dsimp (disch := omega) only [go_sem, g34_0, g34_1, g34_2, g34_3, g34_4, g34_5, g34_6, g34_7, g34_8, g34_9, g34_10, g34_11, g34_12, i34, Nat.reduceEqDiff, Nat.reduceAdd, Nat.reduceMul, Nat.reduceLeDiff, Nat.reduceBEq, Nat.reduceBNe, Int.reduceEq, ↓reduceIte, reduceCtorEq]) (by simp (maxSteps := 9000000) -implicitDefEqProofs -dsimp (disch := omega) only [go_sem, g34_0, g34_1, g34_2, g34_3, g34_4, g34_5, g34_6, g34_7, g34_8, g34_9, g34_10, g34_11, g34_12, i34, Nat.reduceEqDiff, Nat.reduceAdd, Nat.reduceMul, Nat.reduceLeDiff, Nat.reduceBEq, Nat.reduceBNe, Int.reduceEq, ↓reduceIte, reduceCtorEq]) rfl)
    · unfold acS cuT
      have cc : cut ((f hl.length).2.map (T.int .i64) ++ [T.int .i64 z]) 0 ((f hl.length).2.length + 1) = (f hl.length).2.map (T.int .i64) ++ [T.int .i64 z] := cut_all (by simp)
      simp (maxSteps := 9000000) -implicitDefEqProofs -dsimp (disch := omega) only [go_sem, g34_0, g34_1, g34_2, g34_3, g34_4, g34_5, g34_6, g34_7, g34_8, g34_9, g34_10, g34_11, g34_12, i34, lt_T, lt_F, le_T, le_F, eq_T, eq_F, and_F, Nat.reduceEqDiff, Nat.reduceAdd, Nat.reduceMul, Nat.reduceLeDiff, Nat.reduceBEq, Nat.reduceBNe, Int.reduceEq, ↓reduceIte, reduceCtorEq]
      refine call_go false M3 ?_
      simp (maxSteps := 9000000) -implicitDefEqProofs -dsimp (disch := omega) only [go_sem, g34_0, g34_1, g34_2, g34_3, g34_4, g34_5, g34_6, g34_7, g34_8, g34_9, g34_10, g34_11, g34_12, i34, lt_T, lt_F, le_T, le_F, eq_T, eq_F, and_F, Nat.reduceEqDiff, Nat.reduceAdd, Nat.reduceMul, Nat.reduceLeDiff, Nat.reduceBEq, Nat.reduceBNe, Int.reduceEq, ↓reduceIte, reduceCtorEq]
      refine call_go false M4 ?_
      simp (maxSteps := 9000000) -implicitDefEqProofs -dsimp (disch := omega) only [go_sem, g34_0, g34_1, g34_2, g34_3, g34_4, g34_5, g34_6, g34_7, g34_8, g34_9, g34_10, g34_11, g34_12, i34, lt_T, lt_F, le_T, le_F, eq_T, eq_F, and_F, cc, Nat.reduceEqDiff, Nat.reduceAdd, Nat.reduceMul, Nat.reduceLeDiff, Nat.reduceBEq, Nat.reduceBNe, Int.reduceEq, ↓reduceIte, reduceCtorEq]
      trace_state
end Go.Proofs.YtjlodcoeegpkaaaT
