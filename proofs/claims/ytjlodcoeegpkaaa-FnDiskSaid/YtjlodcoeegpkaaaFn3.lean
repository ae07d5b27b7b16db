/- Functions of the program, each with what it returns and leaves. No condition. -/
import Derived.Test.YtjlodcoeegpkaaaFn2
import Derived.Test.YtjlodcoeegpkaaaFn1
import Derived.Test.YtjlodcoeegpkaaaTree8
import Derived.Test.YtjlodcoeegpkaaaProg
import Derived.KernelRfl
set_option linter.all false
set_option linter.unusedVariables false
set_option linter.unusedSimpArgs false
set_option linter.unusedSectionVars false
set_option linter.unnecessarySimpa false
set_option linter.deprecated false
/- Functions of the program as contracts: steps of a disk, the program's. No condition. -/
set_option maxRecDepth 100000
set_option maxHeartbeats 8000000
set_option linter.unusedSimpArgs false
set_option linter.unusedVariables false
namespace Go.Proofs.YtjlodcoeegpkaaaT
open Go
theorem stepped1 (p h : List ByteArray) (b : List Bool) (k a : Int) (text : ByteArray) (kept : List Int) (hp : p.length ≤ 1048576) (he : h.length = p.length) (hb : b.length = p.length) (hz : b ≠ []) (hk : kept.length ≤ 1048576) (ht : text.size ≤ 1048576) (hs : ∀ x ∈ p, x.size ≤ 1048576) (c1 : k = 1) : Stepped p h b k a text kept := by
  have hh2 : h.length ≤ 1048576 := by omega
  have hb2 : b.length ≤ 1048576 := by omega
  subst c1
  by_cases h0 : 0 ≤ a ∧ a < p.length
  · by_cases h1 : onlyP a text kept true true false
    · have h2 := h1
      simp only [onlyP, true_or, true_and, Bool.false_eq_true, false_or] at h2
      have hok : (stepF p h b 1 a text kept).ok = (!(b.getD a.toNat default) && decide (1 ≤ (text.size : Int) ∧ (text.size : Int) ≤ 28)) := by
        simp only [stepF]
        cases b.getD a.toNat default <;> by_cases h3 : 1 ≤ text.size ∧ text.size ≤ 28 <;> simp [h0, h2, h3] <;> omega
      refine .inl ⟨p, h.set a.toNat text, b, ?_, ?_⟩
      · rw [hok]
        refine meets_go (ir := i85) (fn := Try.f85) (rx := [(.cell 4 (some 3)), (.tmp 5)]) rfl rfl (by rfl) (by rfl) (by exact Nat.le_of_ble_eq_true rfl) ?_
        simp (maxSteps := 9000000) -implicitDefEqProofs -dsimp (disch := omega) only [go_sem, g85_0, g85_1, g85_2, g85_3, g85_4, a85_4, n85_4, g85_5, g85_6, a85_6, n85_6, g85_7, g85_8, g85_9, g85_10, g85_11, g85_12, g85_13, g85_14, g85_15, g85_16, g85_17, a85_17, n85_17, g85_18, g85_19, a85_19, n85_19, g85_20, g85_21, g85_22, g85_23, g85_24, g85_25, a85_25, n85_25, g85_26, g85_27, g85_28, g85_29, g85_30, a85_30, n85_30, g85_31, g85_32, a85_32, n85_32, g85_33, a85_33, n85_33, i85, Nat.reduceEqDiff, Nat.reduceAdd, Nat.reduceMul, Nat.reduceLeDiff, Nat.reduceBEq, Nat.reduceBNe, Int.reduceEq, ↓reduceIte, reduceCtorEq]
        refine call_go true (ownDisk_ok p h b hz hp hh2 hb2) ?_
        simp (maxSteps := 9000000) -implicitDefEqProofs -dsimp (disch := omega) only [go_sem, g85_0, g85_1, g85_2, g85_3, g85_4, a85_4, n85_4, g85_5, g85_6, a85_6, n85_6, g85_7, g85_8, g85_9, g85_10, g85_11, g85_12, g85_13, g85_14, g85_15, g85_16, g85_17, a85_17, n85_17, g85_18, g85_19, a85_19, n85_19, g85_20, g85_21, g85_22, g85_23, g85_24, g85_25, a85_25, n85_25, g85_26, g85_27, g85_28, g85_29, g85_30, a85_30, n85_30, g85_31, g85_32, a85_32, n85_32, g85_33, a85_33, n85_33, i85, lt_T, lt_F, le_T, le_F, eq_T, eq_F, and_F, Nat.reduceEqDiff, Nat.reduceAdd, Nat.reduceMul, Nat.reduceLeDiff, Nat.reduceBEq, Nat.reduceBNe, Int.reduceEq, ↓reduceIte, reduceCtorEq]
        refine call_go true (has_ok p h b a hp hh2 hb2) ?_
        simp (maxSteps := 9000000) -implicitDefEqProofs -dsimp (disch := omega) only [go_sem, g85_0, g85_1, g85_2, g85_3, g85_4, a85_4, n85_4, g85_5, g85_6, a85_6, n85_6, g85_7, g85_8, g85_9, g85_10, g85_11, g85_12, g85_13, g85_14, g85_15, g85_16, g85_17, a85_17, n85_17, g85_18, g85_19, a85_19, n85_19, g85_20, g85_21, g85_22, g85_23, g85_24, g85_25, a85_25, n85_25, g85_26, g85_27, g85_28, g85_29, g85_30, a85_30, n85_30, g85_31, g85_32, a85_32, n85_32, g85_33, a85_33, n85_33, i85, lt_T, lt_F, le_T, le_F, eq_T, eq_F, and_F, h0, Nat.reduceEqDiff, Nat.reduceAdd, Nat.reduceMul, Nat.reduceLeDiff, Nat.reduceBEq, Nat.reduceBNe, Int.reduceEq, ↓reduceIte, reduceCtorEq]
        refine call_go true (isOnly_ok 1 a text kept true true false hk) ?_
        simp (maxSteps := 9000000) -implicitDefEqProofs -dsimp (disch := omega) only [go_sem, g85_0, g85_1, g85_2, g85_3, g85_4, a85_4, n85_4, g85_5, g85_6, a85_6, n85_6, g85_7, g85_8, g85_9, g85_10, g85_11, g85_12, g85_13, g85_14, g85_15, g85_16, g85_17, a85_17, n85_17, g85_18, g85_19, a85_19, n85_19, g85_20, g85_21, g85_22, g85_23, g85_24, g85_25, a85_25, n85_25, g85_26, g85_27, g85_28, g85_29, g85_30, a85_30, n85_30, g85_31, g85_32, a85_32, n85_32, g85_33, a85_33, n85_33, i85, lt_T, lt_F, le_T, le_F, eq_T, eq_F, and_F, h1, Nat.reduceEqDiff, Nat.reduceAdd, Nat.reduceMul, Nat.reduceLeDiff, Nat.reduceBEq, Nat.reduceBNe, Int.reduceEq, ↓reduceIte, reduceCtorEq]
        refine drawm_go n85_17 a85_17 [(14, .framed [])] (by decide +kernel) ?_
        cases hbad : b.getD a.toNat default
        · simp (maxSteps := 9000000) -implicitDefEqProofs -dsimp (disch := omega) only [go_sem, g85_0, g85_1, g85_2, g85_3, g85_4, a85_4, n85_4, g85_5, g85_6, a85_6, n85_6, g85_7, g85_8, g85_9, g85_10, g85_11, g85_12, g85_13, g85_14, g85_15, g85_16, g85_17, a85_17, n85_17, g85_18, g85_19, a85_19, n85_19, g85_20, g85_21, g85_22, g85_23, g85_24, g85_25, a85_25, n85_25, g85_26, g85_27, g85_28, g85_29, g85_30, a85_30, n85_30, g85_31, g85_32, a85_32, n85_32, g85_33, a85_33, n85_33, i85, lt_T, lt_F, le_T, le_F, eq_T, eq_F, and_F, hbad, Nat.reduceEqDiff, Nat.reduceAdd, Nat.reduceMul, Nat.reduceLeDiff, Nat.reduceBEq, Nat.reduceBNe, Int.reduceEq, ↓reduceIte, reduceCtorEq]
          refine calla_go true (within_ok text.size 1 28) ?_
          simp (maxSteps := 9000000) -implicitDefEqProofs -dsimp (disch := omega) only [go_sem, g85_0, g85_1, g85_2, g85_3, g85_4, a85_4, n85_4, g85_5, g85_6, a85_6, n85_6, g85_7, g85_8, g85_9, g85_10, g85_11, g85_12, g85_13, g85_14, g85_15, g85_16, g85_17, a85_17, n85_17, g85_18, g85_19, a85_19, n85_19, g85_20, g85_21, g85_22, g85_23, g85_24, g85_25, a85_25, n85_25, g85_26, g85_27, g85_28, g85_29, g85_30, a85_30, n85_30, g85_31, g85_32, a85_32, n85_32, g85_33, a85_33, n85_33, i85, lt_T, lt_F, le_T, le_F, eq_T, eq_F, and_F, List.length_set, Nat.reduceEqDiff, Nat.reduceAdd, Nat.reduceMul, Nat.reduceLeDiff, Nat.reduceBEq, Nat.reduceBNe, Int.reduceEq, ↓reduceIte, reduceCtorEq]
        · simp (maxSteps := 9000000) -implicitDefEqProofs -dsimp (disch := omega) only [go_sem, g85_0, g85_1, g85_2, g85_3, g85_4, a85_4, n85_4, g85_5, g85_6, a85_6, n85_6, g85_7, g85_8, g85_9, g85_10, g85_11, g85_12, g85_13, g85_14, g85_15, g85_16, g85_17, a85_17, n85_17, g85_18, g85_19, a85_19, n85_19, g85_20, g85_21, g85_22, g85_23, g85_24, g85_25, a85_25, n85_25, g85_26, g85_27, g85_28, g85_29, g85_30, a85_30, n85_30, g85_31, g85_32, a85_32, n85_32, g85_33, a85_33, n85_33, i85, lt_T, lt_F, le_T, le_F, eq_T, eq_F, and_F, hbad, List.length_set, Nat.reduceEqDiff, Nat.reduceAdd, Nat.reduceMul, Nat.reduceLeDiff, Nat.reduceBEq, Nat.reduceBNe, Int.reduceEq, ↓reduceIte, reduceCtorEq]
      · intro h3
        rw [hok] at h3
        simp only [Bool.and_eq_true, Bool.not_eq_true', decide_eq_true_eq] at h3
        simp only [stepF]
        have h4 : 1 ≤ text.size ∧ text.size ≤ 28 := by omega
        simp [h0, h2, h4]
        simpa [List.getD_eq_getElem?_getD] using h3.1
    · refine .inr ⟨?_, ?_⟩
      · simp only [onlyP, true_or, true_and, Bool.false_eq_true, false_or] at h1
        simp only [stepF]
        simp [h0]
        by_cases q1 : kept = []
        · by_cases q2 : text = e0
          · simp_all
          · simp_all
        · simp [q1]
      · refine meets_go (ir := i85) (fn := Try.f85) (rx := [(.cell 4 (some 3)), (.tmp 5)]) rfl rfl (by rfl) (by rfl) (by exact Nat.le_of_ble_eq_true rfl) ?_
        simp (maxSteps := 9000000) -implicitDefEqProofs -dsimp (disch := omega) only [go_sem, g85_0, g85_1, g85_2, g85_3, g85_4, a85_4, n85_4, g85_5, g85_6, a85_6, n85_6, g85_7, g85_8, g85_9, g85_10, g85_11, g85_12, g85_13, g85_14, g85_15, g85_16, g85_17, a85_17, n85_17, g85_18, g85_19, a85_19, n85_19, g85_20, g85_21, g85_22, g85_23, g85_24, g85_25, a85_25, n85_25, g85_26, g85_27, g85_28, g85_29, g85_30, a85_30, n85_30, g85_31, g85_32, a85_32, n85_32, g85_33, a85_33, n85_33, i85, Nat.reduceEqDiff, Nat.reduceAdd, Nat.reduceMul, Nat.reduceLeDiff, Nat.reduceBEq, Nat.reduceBNe, Int.reduceEq, ↓reduceIte, reduceCtorEq]
        refine call_go true (ownDisk_ok p h b hz hp hh2 hb2) ?_
        simp (maxSteps := 9000000) -implicitDefEqProofs -dsimp (disch := omega) only [go_sem, g85_0, g85_1, g85_2, g85_3, g85_4, a85_4, n85_4, g85_5, g85_6, a85_6, n85_6, g85_7, g85_8, g85_9, g85_10, g85_11, g85_12, g85_13, g85_14, g85_15, g85_16, g85_17, a85_17, n85_17, g85_18, g85_19, a85_19, n85_19, g85_20, g85_21, g85_22, g85_23, g85_24, g85_25, a85_25, n85_25, g85_26, g85_27, g85_28, g85_29, g85_30, a85_30, n85_30, g85_31, g85_32, a85_32, n85_32, g85_33, a85_33, n85_33, i85, lt_T, lt_F, le_T, le_F, eq_T, eq_F, and_F, Nat.reduceEqDiff, Nat.reduceAdd, Nat.reduceMul, Nat.reduceLeDiff, Nat.reduceBEq, Nat.reduceBNe, Int.reduceEq, ↓reduceIte, reduceCtorEq]
        refine call_go true (has_ok p h b a hp hh2 hb2) ?_
        simp (maxSteps := 9000000) -implicitDefEqProofs -dsimp (disch := omega) only [go_sem, g85_0, g85_1, g85_2, g85_3, g85_4, a85_4, n85_4, g85_5, g85_6, a85_6, n85_6, g85_7, g85_8, g85_9, g85_10, g85_11, g85_12, g85_13, g85_14, g85_15, g85_16, g85_17, a85_17, n85_17, g85_18, g85_19, a85_19, n85_19, g85_20, g85_21, g85_22, g85_23, g85_24, g85_25, a85_25, n85_25, g85_26, g85_27, g85_28, g85_29, g85_30, a85_30, n85_30, g85_31, g85_32, a85_32, n85_32, g85_33, a85_33, n85_33, i85, lt_T, lt_F, le_T, le_F, eq_T, eq_F, and_F, h0, Nat.reduceEqDiff, Nat.reduceAdd, Nat.reduceMul, Nat.reduceLeDiff, Nat.reduceBEq, Nat.reduceBNe, Int.reduceEq, ↓reduceIte, reduceCtorEq]
        refine call_go true (isOnly_ok 1 a text kept true true false hk) ?_
        simp (maxSteps := 9000000) -implicitDefEqProofs -dsimp (disch := omega) only [go_sem, g85_0, g85_1, g85_2, g85_3, g85_4, a85_4, n85_4, g85_5, g85_6, a85_6, n85_6, g85_7, g85_8, g85_9, g85_10, g85_11, g85_12, g85_13, g85_14, g85_15, g85_16, g85_17, a85_17, n85_17, g85_18, g85_19, a85_19, n85_19, g85_20, g85_21, g85_22, g85_23, g85_24, g85_25, a85_25, n85_25, g85_26, g85_27, g85_28, g85_29, g85_30, a85_30, n85_30, g85_31, g85_32, a85_32, n85_32, g85_33, a85_33, n85_33, i85, lt_T, lt_F, le_T, le_F, eq_T, eq_F, and_F, h1, Nat.reduceEqDiff, Nat.reduceAdd, Nat.reduceMul, Nat.reduceLeDiff, Nat.reduceBEq, Nat.reduceBNe, Int.reduceEq, ↓reduceIte, reduceCtorEq]
  · refine .inr ⟨by simp [stepF, h0], ?_⟩
    refine meets_go (ir := i85) (fn := Try.f85) (rx := [(.cell 4 (some 3)), (.tmp 5)]) rfl rfl (by rfl) (by rfl) (by exact Nat.le_of_ble_eq_true rfl) ?_
    simp (maxSteps := 9000000) -implicitDefEqProofs -dsimp (disch := omega) only [go_sem, g85_0, g85_1, g85_2, g85_3, g85_4, a85_4, n85_4, g85_5, g85_6, a85_6, n85_6, g85_7, g85_8, g85_9, g85_10, g85_11, g85_12, g85_13, g85_14, g85_15, g85_16, g85_17, a85_17, n85_17, g85_18, g85_19, a85_19, n85_19, g85_20, g85_21, g85_22, g85_23, g85_24, g85_25, a85_25, n85_25, g85_26, g85_27, g85_28, g85_29, g85_30, a85_30, n85_30, g85_31, g85_32, a85_32, n85_32, g85_33, a85_33, n85_33, i85, Nat.reduceEqDiff, Nat.reduceAdd, Nat.reduceMul, Nat.reduceLeDiff, Nat.reduceBEq, Nat.reduceBNe, Int.reduceEq, ↓reduceIte, reduceCtorEq]
    refine call_go true (ownDisk_ok p h b hz hp hh2 hb2) ?_
    simp (maxSteps := 9000000) -implicitDefEqProofs -dsimp (disch := omega) only [go_sem, g85_0, g85_1, g85_2, g85_3, g85_4, a85_4, n85_4, g85_5, g85_6, a85_6, n85_6, g85_7, g85_8, g85_9, g85_10, g85_11, g85_12, g85_13, g85_14, g85_15, g85_16, g85_17, a85_17, n85_17, g85_18, g85_19, a85_19, n85_19, g85_20, g85_21, g85_22, g85_23, g85_24, g85_25, a85_25, n85_25, g85_26, g85_27, g85_28, g85_29, g85_30, a85_30, n85_30, g85_31, g85_32, a85_32, n85_32, g85_33, a85_33, n85_33, i85, lt_T, lt_F, le_T, le_F, eq_T, eq_F, and_F, Nat.reduceEqDiff, Nat.reduceAdd, Nat.reduceMul, Nat.reduceLeDiff, Nat.reduceBEq, Nat.reduceBNe, Int.reduceEq, ↓reduceIte, reduceCtorEq]
    refine call_go true (has_ok p h b a hp hh2 hb2) ?_
    simp (maxSteps := 9000000) -implicitDefEqProofs -dsimp (disch := omega) only [go_sem, g85_0, g85_1, g85_2, g85_3, g85_4, a85_4, n85_4, g85_5, g85_6, a85_6, n85_6, g85_7, g85_8, g85_9, g85_10, g85_11, g85_12, g85_13, g85_14, g85_15, g85_16, g85_17, a85_17, n85_17, g85_18, g85_19, a85_19, n85_19, g85_20, g85_21, g85_22, g85_23, g85_24, g85_25, a85_25, n85_25, g85_26, g85_27, g85_28, g85_29, g85_30, a85_30, n85_30, g85_31, g85_32, a85_32, n85_32, g85_33, a85_33, n85_33, i85, lt_T, lt_F, le_T, le_F, eq_T, eq_F, and_F, h0, Nat.reduceEqDiff, Nat.reduceAdd, Nat.reduceMul, Nat.reduceLeDiff, Nat.reduceBEq, Nat.reduceBNe, Int.reduceEq, ↓reduceIte, reduceCtorEq]
theorem stepped5 (p h : List ByteArray) (b : List Bool) (k a : Int) (text : ByteArray) (kept : List Int) (hp : p.length ≤ 1048576) (he : h.length = p.length) (hb : b.length = p.length) (hz : b ≠ []) (hk : kept.length ≤ 1048576) (ht : text.size ≤ 1048576) (hs : ∀ x ∈ p, x.size ≤ 1048576) (c1 : k = 5) : Stepped p h b k a text kept := by
  have hh2 : h.length ≤ 1048576 := by omega
  have hb2 : b.length ≤ 1048576 := by omega
  subst c1
  by_cases h0 : 0 ≤ a ∧ a < p.length
  · by_cases h1 : onlyP a text kept true false false
    · have h2 := h1
      simp only [onlyP, true_or, true_and, Bool.false_eq_true, false_or] at h2
      have hst : stepF p h b 5 a text kept = ⟨p, h.set a.toNat e0, b.set a.toNat true, true⟩ := by
        simp only [stepF]; simp [h0, h2]
      rw [Stepped, hst]
      refine .inl ⟨p, h.set a.toNat e0, b.set a.toNat true, ?_, fun _ => rfl⟩
      · skip
        refine meets_go (ir := i85) (fn := Try.f85) (rx := [(.cell 4 (some 3)), (.tmp 5)]) rfl rfl (by rfl) (by rfl) (by exact Nat.le_of_ble_eq_true rfl) ?_
        simp (maxSteps := 9000000) -implicitDefEqProofs -dsimp (disch := omega) only [go_sem, g85_0, g85_1, g85_2, g85_3, g85_4, a85_4, n85_4, g85_5, g85_6, a85_6, n85_6, g85_7, g85_8, g85_9, g85_10, g85_11, g85_12, g85_13, g85_14, g85_15, g85_16, g85_17, a85_17, n85_17, g85_18, g85_19, a85_19, n85_19, g85_20, g85_21, g85_22, g85_23, g85_24, g85_25, a85_25, n85_25, g85_26, g85_27, g85_28, g85_29, g85_30, a85_30, n85_30, g85_31, g85_32, a85_32, n85_32, g85_33, a85_33, n85_33, i85, Nat.reduceEqDiff, Nat.reduceAdd, Nat.reduceMul, Nat.reduceLeDiff, Nat.reduceBEq, Nat.reduceBNe, Int.reduceEq, ↓reduceIte, reduceCtorEq]
        refine call_go true (ownDisk_ok p h b hz hp hh2 hb2) ?_
        simp (maxSteps := 9000000) -implicitDefEqProofs -dsimp (disch := omega) only [go_sem, g85_0, g85_1, g85_2, g85_3, g85_4, a85_4, n85_4, g85_5, g85_6, a85_6, n85_6, g85_7, g85_8, g85_9, g85_10, g85_11, g85_12, g85_13, g85_14, g85_15, g85_16, g85_17, a85_17, n85_17, g85_18, g85_19, a85_19, n85_19, g85_20, g85_21, g85_22, g85_23, g85_24, g85_25, a85_25, n85_25, g85_26, g85_27, g85_28, g85_29, g85_30, a85_30, n85_30, g85_31, g85_32, a85_32, n85_32, g85_33, a85_33, n85_33, i85, lt_T, lt_F, le_T, le_F, eq_T, eq_F, and_F, Nat.reduceEqDiff, Nat.reduceAdd, Nat.reduceMul, Nat.reduceLeDiff, Nat.reduceBEq, Nat.reduceBNe, Int.reduceEq, ↓reduceIte, reduceCtorEq]
        refine call_go true (has_ok p h b a hp hh2 hb2) ?_
        simp (maxSteps := 9000000) -implicitDefEqProofs -dsimp (disch := omega) only [go_sem, g85_0, g85_1, g85_2, g85_3, g85_4, a85_4, n85_4, g85_5, g85_6, a85_6, n85_6, g85_7, g85_8, g85_9, g85_10, g85_11, g85_12, g85_13, g85_14, g85_15, g85_16, g85_17, a85_17, n85_17, g85_18, g85_19, a85_19, n85_19, g85_20, g85_21, g85_22, g85_23, g85_24, g85_25, a85_25, n85_25, g85_26, g85_27, g85_28, g85_29, g85_30, a85_30, n85_30, g85_31, g85_32, a85_32, n85_32, g85_33, a85_33, n85_33, i85, lt_T, lt_F, le_T, le_F, eq_T, eq_F, and_F, h0, Nat.reduceEqDiff, Nat.reduceAdd, Nat.reduceMul, Nat.reduceLeDiff, Nat.reduceBEq, Nat.reduceBNe, Int.reduceEq, ↓reduceIte, reduceCtorEq]
        refine call_go true (isOnly_ok 5 a text kept true false false hk) ?_
        simp (maxSteps := 9000000) -implicitDefEqProofs -dsimp (disch := omega) only [go_sem, g85_0, g85_1, g85_2, g85_3, g85_4, a85_4, n85_4, g85_5, g85_6, a85_6, n85_6, g85_7, g85_8, g85_9, g85_10, g85_11, g85_12, g85_13, g85_14, g85_15, g85_16, g85_17, a85_17, n85_17, g85_18, g85_19, a85_19, n85_19, g85_20, g85_21, g85_22, g85_23, g85_24, g85_25, a85_25, n85_25, g85_26, g85_27, g85_28, g85_29, g85_30, a85_30, n85_30, g85_31, g85_32, a85_32, n85_32, g85_33, a85_33, n85_33, i85, lt_T, lt_F, le_T, le_F, eq_T, eq_F, and_F, h1, Nat.reduceEqDiff, Nat.reduceAdd, Nat.reduceMul, Nat.reduceLeDiff, Nat.reduceBEq, Nat.reduceBNe, Int.reduceEq, ↓reduceIte, reduceCtorEq]
        refine drawm_go n85_30 a85_30 [(9, .flat)] (by decide +kernel) ?_
        simp (maxSteps := 9000000) -implicitDefEqProofs -dsimp (disch := omega) only [go_sem, g85_0, g85_1, g85_2, g85_3, g85_4, a85_4, n85_4, g85_5, g85_6, a85_6, n85_6, g85_7, g85_8, g85_9, g85_10, g85_11, g85_12, g85_13, g85_14, g85_15, g85_16, g85_17, a85_17, n85_17, g85_18, g85_19, a85_19, n85_19, g85_20, g85_21, g85_22, g85_23, g85_24, g85_25, a85_25, n85_25, g85_26, g85_27, g85_28, g85_29, g85_30, a85_30, n85_30, g85_31, g85_32, a85_32, n85_32, g85_33, a85_33, n85_33, i85, lt_T, lt_F, le_T, le_F, eq_T, eq_F, and_F, List.length_set, Nat.reduceEqDiff, Nat.reduceAdd, Nat.reduceMul, Nat.reduceLeDiff, Nat.reduceBEq, Nat.reduceBNe, Int.reduceEq, ↓reduceIte, reduceCtorEq]
    · refine .inr ⟨?_, ?_⟩
      · simp only [onlyP, true_or, true_and, Bool.false_eq_true, false_or] at h1
        simp only [stepF]
        simp [h0]
        by_cases q1 : kept = []
        · by_cases q2 : text = e0
          · simp_all
          · simp_all
        · simp [q1]
      · refine meets_go (ir := i85) (fn := Try.f85) (rx := [(.cell 4 (some 3)), (.tmp 5)]) rfl rfl (by rfl) (by rfl) (by exact Nat.le_of_ble_eq_true rfl) ?_
        simp (maxSteps := 9000000) -implicitDefEqProofs -dsimp (disch := omega) only [go_sem, g85_0, g85_1, g85_2, g85_3, g85_4, a85_4, n85_4, g85_5, g85_6, a85_6, n85_6, g85_7, g85_8, g85_9, g85_10, g85_11, g85_12, g85_13, g85_14, g85_15, g85_16, g85_17, a85_17, n85_17, g85_18, g85_19, a85_19, n85_19, g85_20, g85_21, g85_22, g85_23, g85_24, g85_25, a85_25, n85_25, g85_26, g85_27, g85_28, g85_29, g85_30, a85_30, n85_30, g85_31, g85_32, a85_32, n85_32, g85_33, a85_33, n85_33, i85, Nat.reduceEqDiff, Nat.reduceAdd, Nat.reduceMul, Nat.reduceLeDiff, Nat.reduceBEq, Nat.reduceBNe, Int.reduceEq, ↓reduceIte, reduceCtorEq]
        refine call_go true (ownDisk_ok p h b hz hp hh2 hb2) ?_
        simp (maxSteps := 9000000) -implicitDefEqProofs -dsimp (disch := omega) only [go_sem, g85_0, g85_1, g85_2, g85_3, g85_4, a85_4, n85_4, g85_5, g85_6, a85_6, n85_6, g85_7, g85_8, g85_9, g85_10, g85_11, g85_12, g85_13, g85_14, g85_15, g85_16, g85_17, a85_17, n85_17, g85_18, g85_19, a85_19, n85_19, g85_20, g85_21, g85_22, g85_23, g85_24, g85_25, a85_25, n85_25, g85_26, g85_27, g85_28, g85_29, g85_30, a85_30, n85_30, g85_31, g85_32, a85_32, n85_32, g85_33, a85_33, n85_33, i85, lt_T, lt_F, le_T, le_F, eq_T, eq_F, and_F, Nat.reduceEqDiff, Nat.reduceAdd, Nat.reduceMul, Nat.reduceLeDiff, Nat.reduceBEq, Nat.reduceBNe, Int.reduceEq, ↓reduceIte, reduceCtorEq]
        refine call_go true (has_ok p h b a hp hh2 hb2) ?_
        simp (maxSteps := 9000000) -implicitDefEqProofs -dsimp (disch := omega) only [go_sem, g85_0, g85_1, g85_2, g85_3, g85_4, a85_4, n85_4, g85_5, g85_6, a85_6, n85_6, g85_7, g85_8, g85_9, g85_10, g85_11, g85_12, g85_13, g85_14, g85_15, g85_16, g85_17, a85_17, n85_17, g85_18, g85_19, a85_19, n85_19, g85_20, g85_21, g85_22, g85_23, g85_24, g85_25, a85_25, n85_25, g85_26, g85_27, g85_28, g85_29, g85_30, a85_30, n85_30, g85_31, g85_32, a85_32, n85_32, g85_33, a85_33, n85_33, i85, lt_T, lt_F, le_T, le_F, eq_T, eq_F, and_F, h0, Nat.reduceEqDiff, Nat.reduceAdd, Nat.reduceMul, Nat.reduceLeDiff, Nat.reduceBEq, Nat.reduceBNe, Int.reduceEq, ↓reduceIte, reduceCtorEq]
        refine call_go true (isOnly_ok 5 a text kept true false false hk) ?_
        simp (maxSteps := 9000000) -implicitDefEqProofs -dsimp (disch := omega) only [go_sem, g85_0, g85_1, g85_2, g85_3, g85_4, a85_4, n85_4, g85_5, g85_6, a85_6, n85_6, g85_7, g85_8, g85_9, g85_10, g85_11, g85_12, g85_13, g85_14, g85_15, g85_16, g85_17, a85_17, n85_17, g85_18, g85_19, a85_19, n85_19, g85_20, g85_21, g85_22, g85_23, g85_24, g85_25, a85_25, n85_25, g85_26, g85_27, g85_28, g85_29, g85_30, a85_30, n85_30, g85_31, g85_32, a85_32, n85_32, g85_33, a85_33, n85_33, i85, lt_T, lt_F, le_T, le_F, eq_T, eq_F, and_F, h1, Nat.reduceEqDiff, Nat.reduceAdd, Nat.reduceMul, Nat.reduceLeDiff, Nat.reduceBEq, Nat.reduceBNe, Int.reduceEq, ↓reduceIte, reduceCtorEq]
  · refine .inr ⟨by simp [stepF, h0], ?_⟩
    refine meets_go (ir := i85) (fn := Try.f85) (rx := [(.cell 4 (some 3)), (.tmp 5)]) rfl rfl (by rfl) (by rfl) (by exact Nat.le_of_ble_eq_true rfl) ?_
    simp (maxSteps := 9000000) -implicitDefEqProofs -dsimp (disch := omega) only [go_sem, g85_0, g85_1, g85_2, g85_3, g85_4, a85_4, n85_4, g85_5, g85_6, a85_6, n85_6, g85_7, g85_8, g85_9, g85_10, g85_11, g85_12, g85_13, g85_14, g85_15, g85_16, g85_17, a85_17, n85_17, g85_18, g85_19, a85_19, n85_19, g85_20, g85_21, g85_22, g85_23, g85_24, g85_25, a85_25, n85_25, g85_26, g85_27, g85_28, g85_29, g85_30, a85_30, n85_30, g85_31, g85_32, a85_32, n85_32, g85_33, a85_33, n85_33, i85, Nat.reduceEqDiff, Nat.reduceAdd, Nat.reduceMul, Nat.reduceLeDiff, Nat.reduceBEq, Nat.reduceBNe, Int.reduceEq, ↓reduceIte, reduceCtorEq]
    refine call_go true (ownDisk_ok p h b hz hp hh2 hb2) ?_
    simp (maxSteps := 9000000) -implicitDefEqProofs -dsimp (disch := omega) only [go_sem, g85_0, g85_1, g85_2, g85_3, g85_4, a85_4, n85_4, g85_5, g85_6, a85_6, n85_6, g85_7, g85_8, g85_9, g85_10, g85_11, g85_12, g85_13, g85_14, g85_15, g85_16, g85_17, a85_17, n85_17, g85_18, g85_19, a85_19, n85_19, g85_20, g85_21, g85_22, g85_23, g85_24, g85_25, a85_25, n85_25, g85_26, g85_27, g85_28, g85_29, g85_30, a85_30, n85_30, g85_31, g85_32, a85_32, n85_32, g85_33, a85_33, n85_33, i85, lt_T, lt_F, le_T, le_F, eq_T, eq_F, and_F, Nat.reduceEqDiff, Nat.reduceAdd, Nat.reduceMul, Nat.reduceLeDiff, Nat.reduceBEq, Nat.reduceBNe, Int.reduceEq, ↓reduceIte, reduceCtorEq]
    refine call_go true (has_ok p h b a hp hh2 hb2) ?_
    simp (maxSteps := 9000000) -implicitDefEqProofs -dsimp (disch := omega) only [go_sem, g85_0, g85_1, g85_2, g85_3, g85_4, a85_4, n85_4, g85_5, g85_6, a85_6, n85_6, g85_7, g85_8, g85_9, g85_10, g85_11, g85_12, g85_13, g85_14, g85_15, g85_16, g85_17, a85_17, n85_17, g85_18, g85_19, a85_19, n85_19, g85_20, g85_21, g85_22, g85_23, g85_24, g85_25, a85_25, n85_25, g85_26, g85_27, g85_28, g85_29, g85_30, a85_30, n85_30, g85_31, g85_32, a85_32, n85_32, g85_33, a85_33, n85_33, i85, lt_T, lt_F, le_T, le_F, eq_T, eq_F, and_F, h0, Nat.reduceEqDiff, Nat.reduceAdd, Nat.reduceMul, Nat.reduceLeDiff, Nat.reduceBEq, Nat.reduceBNe, Int.reduceEq, ↓reduceIte, reduceCtorEq]
theorem stepped6 (p h : List ByteArray) (b : List Bool) (k a : Int) (text : ByteArray) (kept : List Int) (hp : p.length ≤ 1048576) (he : h.length = p.length) (hb : b.length = p.length) (hz : b ≠ []) (hk : kept.length ≤ 1048576) (ht : text.size ≤ 1048576) (hs : ∀ x ∈ p, x.size ≤ 1048576) (c1 : k = 6) : Stepped p h b k a text kept := by
  have hh2 : h.length ≤ 1048576 := by omega
  have hb2 : b.length ≤ 1048576 := by omega
  subst c1
  by_cases h0 : 0 ≤ a ∧ a < p.length
  · by_cases h1 : onlyP a text kept true false false
    · have h2 := h1
      simp only [onlyP, true_or, true_and, Bool.false_eq_true, false_or] at h2
      have hok : (stepF p h b 6 a text kept).ok = b.getD a.toNat default := by
        simp only [stepF]
        cases b.getD a.toNat default <;> simp [h0, h2]
      refine .inl ⟨p.set a.toNat e0, h, b.set a.toNat false, ?_, ?_⟩
      · rw [hok]
        refine meets_go (ir := i85) (fn := Try.f85) (rx := [(.cell 4 (some 3)), (.tmp 5)]) rfl rfl (by rfl) (by rfl) (by exact Nat.le_of_ble_eq_true rfl) ?_
        simp (maxSteps := 9000000) -implicitDefEqProofs -dsimp (disch := omega) only [go_sem, g85_0, g85_1, g85_2, g85_3, g85_4, a85_4, n85_4, g85_5, g85_6, a85_6, n85_6, g85_7, g85_8, g85_9, g85_10, g85_11, g85_12, g85_13, g85_14, g85_15, g85_16, g85_17, a85_17, n85_17, g85_18, g85_19, a85_19, n85_19, g85_20, g85_21, g85_22, g85_23, g85_24, g85_25, a85_25, n85_25, g85_26, g85_27, g85_28, g85_29, g85_30, a85_30, n85_30, g85_31, g85_32, a85_32, n85_32, g85_33, a85_33, n85_33, i85, Nat.reduceEqDiff, Nat.reduceAdd, Nat.reduceMul, Nat.reduceLeDiff, Nat.reduceBEq, Nat.reduceBNe, Int.reduceEq, ↓reduceIte, reduceCtorEq]
        refine call_go true (ownDisk_ok p h b hz hp hh2 hb2) ?_
        simp (maxSteps := 9000000) -implicitDefEqProofs -dsimp (disch := omega) only [go_sem, g85_0, g85_1, g85_2, g85_3, g85_4, a85_4, n85_4, g85_5, g85_6, a85_6, n85_6, g85_7, g85_8, g85_9, g85_10, g85_11, g85_12, g85_13, g85_14, g85_15, g85_16, g85_17, a85_17, n85_17, g85_18, g85_19, a85_19, n85_19, g85_20, g85_21, g85_22, g85_23, g85_24, g85_25, a85_25, n85_25, g85_26, g85_27, g85_28, g85_29, g85_30, a85_30, n85_30, g85_31, g85_32, a85_32, n85_32, g85_33, a85_33, n85_33, i85, lt_T, lt_F, le_T, le_F, eq_T, eq_F, and_F, Nat.reduceEqDiff, Nat.reduceAdd, Nat.reduceMul, Nat.reduceLeDiff, Nat.reduceBEq, Nat.reduceBNe, Int.reduceEq, ↓reduceIte, reduceCtorEq]
        refine call_go true (has_ok p h b a hp hh2 hb2) ?_
        simp (maxSteps := 9000000) -implicitDefEqProofs -dsimp (disch := omega) only [go_sem, g85_0, g85_1, g85_2, g85_3, g85_4, a85_4, n85_4, g85_5, g85_6, a85_6, n85_6, g85_7, g85_8, g85_9, g85_10, g85_11, g85_12, g85_13, g85_14, g85_15, g85_16, g85_17, a85_17, n85_17, g85_18, g85_19, a85_19, n85_19, g85_20, g85_21, g85_22, g85_23, g85_24, g85_25, a85_25, n85_25, g85_26, g85_27, g85_28, g85_29, g85_30, a85_30, n85_30, g85_31, g85_32, a85_32, n85_32, g85_33, a85_33, n85_33, i85, lt_T, lt_F, le_T, le_F, eq_T, eq_F, and_F, h0, Nat.reduceEqDiff, Nat.reduceAdd, Nat.reduceMul, Nat.reduceLeDiff, Nat.reduceBEq, Nat.reduceBNe, Int.reduceEq, ↓reduceIte, reduceCtorEq]
        refine call_go true (isOnly_ok 6 a text kept true false false hk) ?_
        simp (maxSteps := 9000000) -implicitDefEqProofs -dsimp (disch := omega) only [go_sem, g85_0, g85_1, g85_2, g85_3, g85_4, a85_4, n85_4, g85_5, g85_6, a85_6, n85_6, g85_7, g85_8, g85_9, g85_10, g85_11, g85_12, g85_13, g85_14, g85_15, g85_16, g85_17, a85_17, n85_17, g85_18, g85_19, a85_19, n85_19, g85_20, g85_21, g85_22, g85_23, g85_24, g85_25, a85_25, n85_25, g85_26, g85_27, g85_28, g85_29, g85_30, a85_30, n85_30, g85_31, g85_32, a85_32, n85_32, g85_33, a85_33, n85_33, i85, lt_T, lt_F, le_T, le_F, eq_T, eq_F, and_F, h1, Nat.reduceEqDiff, Nat.reduceAdd, Nat.reduceMul, Nat.reduceLeDiff, Nat.reduceBEq, Nat.reduceBNe, Int.reduceEq, ↓reduceIte, reduceCtorEq]
        refine drawm_go n85_32 a85_32 [(9, .flat)] (by decide +kernel) ?_
        simp (maxSteps := 9000000) -implicitDefEqProofs -dsimp (disch := omega) only [go_sem, g85_0, g85_1, g85_2, g85_3, g85_4, a85_4, n85_4, g85_5, g85_6, a85_6, n85_6, g85_7, g85_8, g85_9, g85_10, g85_11, g85_12, g85_13, g85_14, g85_15, g85_16, g85_17, a85_17, n85_17, g85_18, g85_19, a85_19, n85_19, g85_20, g85_21, g85_22, g85_23, g85_24, g85_25, a85_25, n85_25, g85_26, g85_27, g85_28, g85_29, g85_30, a85_30, n85_30, g85_31, g85_32, a85_32, n85_32, g85_33, a85_33, n85_33, i85, lt_T, lt_F, le_T, le_F, eq_T, eq_F, and_F, Nat.reduceEqDiff, Nat.reduceAdd, Nat.reduceMul, Nat.reduceLeDiff, Nat.reduceBEq, Nat.reduceBNe, Int.reduceEq, ↓reduceIte, reduceCtorEq]
        refine drawm_go n85_33 a85_33 [(7, .framed [4, 5])] (by decide +kernel) ?_
        simp (maxSteps := 9000000) -implicitDefEqProofs -dsimp (disch := omega) only [go_sem, g85_0, g85_1, g85_2, g85_3, g85_4, a85_4, n85_4, g85_5, g85_6, a85_6, n85_6, g85_7, g85_8, g85_9, g85_10, g85_11, g85_12, g85_13, g85_14, g85_15, g85_16, g85_17, a85_17, n85_17, g85_18, g85_19, a85_19, n85_19, g85_20, g85_21, g85_22, g85_23, g85_24, g85_25, a85_25, n85_25, g85_26, g85_27, g85_28, g85_29, g85_30, a85_30, n85_30, g85_31, g85_32, a85_32, n85_32, g85_33, a85_33, n85_33, i85, lt_T, lt_F, le_T, le_F, eq_T, eq_F, and_F, List.length_set, Nat.reduceEqDiff, Nat.reduceAdd, Nat.reduceMul, Nat.reduceLeDiff, Nat.reduceBEq, Nat.reduceBNe, Int.reduceEq, ↓reduceIte, reduceCtorEq]
      · intro h3
        rw [hok] at h3
        simp only [stepF]
        simp [h0, h2]
        simpa [List.getD_eq_getElem?_getD] using h3
    · refine .inr ⟨?_, ?_⟩
      · simp only [onlyP, true_or, true_and, Bool.false_eq_true, false_or] at h1
        simp only [stepF]
        simp [h0]
        by_cases q1 : kept = []
        · by_cases q2 : text = e0
          · simp_all
          · simp_all
        · simp [q1]
      · refine meets_go (ir := i85) (fn := Try.f85) (rx := [(.cell 4 (some 3)), (.tmp 5)]) rfl rfl (by rfl) (by rfl) (by exact Nat.le_of_ble_eq_true rfl) ?_
        simp (maxSteps := 9000000) -implicitDefEqProofs -dsimp (disch := omega) only [go_sem, g85_0, g85_1, g85_2, g85_3, g85_4, a85_4, n85_4, g85_5, g85_6, a85_6, n85_6, g85_7, g85_8, g85_9, g85_10, g85_11, g85_12, g85_13, g85_14, g85_15, g85_16, g85_17, a85_17, n85_17, g85_18, g85_19, a85_19, n85_19, g85_20, g85_21, g85_22, g85_23, g85_24, g85_25, a85_25, n85_25, g85_26, g85_27, g85_28, g85_29, g85_30, a85_30, n85_30, g85_31, g85_32, a85_32, n85_32, g85_33, a85_33, n85_33, i85, Nat.reduceEqDiff, Nat.reduceAdd, Nat.reduceMul, Nat.reduceLeDiff, Nat.reduceBEq, Nat.reduceBNe, Int.reduceEq, ↓reduceIte, reduceCtorEq]
        refine call_go true (ownDisk_ok p h b hz hp hh2 hb2) ?_
        simp (maxSteps := 9000000) -implicitDefEqProofs -dsimp (disch := omega) only [go_sem, g85_0, g85_1, g85_2, g85_3, g85_4, a85_4, n85_4, g85_5, g85_6, a85_6, n85_6, g85_7, g85_8, g85_9, g85_10, g85_11, g85_12, g85_13, g85_14, g85_15, g85_16, g85_17, a85_17, n85_17, g85_18, g85_19, a85_19, n85_19, g85_20, g85_21, g85_22, g85_23, g85_24, g85_25, a85_25, n85_25, g85_26, g85_27, g85_28, g85_29, g85_30, a85_30, n85_30, g85_31, g85_32, a85_32, n85_32, g85_33, a85_33, n85_33, i85, lt_T, lt_F, le_T, le_F, eq_T, eq_F, and_F, Nat.reduceEqDiff, Nat.reduceAdd, Nat.reduceMul, Nat.reduceLeDiff, Nat.reduceBEq, Nat.reduceBNe, Int.reduceEq, ↓reduceIte, reduceCtorEq]
        refine call_go true (has_ok p h b a hp hh2 hb2) ?_
        simp (maxSteps := 9000000) -implicitDefEqProofs -dsimp (disch := omega) only [go_sem, g85_0, g85_1, g85_2, g85_3, g85_4, a85_4, n85_4, g85_5, g85_6, a85_6, n85_6, g85_7, g85_8, g85_9, g85_10, g85_11, g85_12, g85_13, g85_14, g85_15, g85_16, g85_17, a85_17, n85_17, g85_18, g85_19, a85_19, n85_19, g85_20, g85_21, g85_22, g85_23, g85_24, g85_25, a85_25, n85_25, g85_26, g85_27, g85_28, g85_29, g85_30, a85_30, n85_30, g85_31, g85_32, a85_32, n85_32, g85_33, a85_33, n85_33, i85, lt_T, lt_F, le_T, le_F, eq_T, eq_F, and_F, h0, Nat.reduceEqDiff, Nat.reduceAdd, Nat.reduceMul, Nat.reduceLeDiff, Nat.reduceBEq, Nat.reduceBNe, Int.reduceEq, ↓reduceIte, reduceCtorEq]
        refine call_go true (isOnly_ok 6 a text kept true false false hk) ?_
        simp (maxSteps := 9000000) -implicitDefEqProofs -dsimp (disch := omega) only [go_sem, g85_0, g85_1, g85_2, g85_3, g85_4, a85_4, n85_4, g85_5, g85_6, a85_6, n85_6, g85_7, g85_8, g85_9, g85_10, g85_11, g85_12, g85_13, g85_14, g85_15, g85_16, g85_17, a85_17, n85_17, g85_18, g85_19, a85_19, n85_19, g85_20, g85_21, g85_22, g85_23, g85_24, g85_25, a85_25, n85_25, g85_26, g85_27, g85_28, g85_29, g85_30, a85_30, n85_30, g85_31, g85_32, a85_32, n85_32, g85_33, a85_33, n85_33, i85, lt_T, lt_F, le_T, le_F, eq_T, eq_F, and_F, h1, Nat.reduceEqDiff, Nat.reduceAdd, Nat.reduceMul, Nat.reduceLeDiff, Nat.reduceBEq, Nat.reduceBNe, Int.reduceEq, ↓reduceIte, reduceCtorEq]
  · refine .inr ⟨by simp [stepF, h0], ?_⟩
    refine meets_go (ir := i85) (fn := Try.f85) (rx := [(.cell 4 (some 3)), (.tmp 5)]) rfl rfl (by rfl) (by rfl) (by exact Nat.le_of_ble_eq_true rfl) ?_
    simp (maxSteps := 9000000) -implicitDefEqProofs -dsimp (disch := omega) only [go_sem, g85_0, g85_1, g85_2, g85_3, g85_4, a85_4, n85_4, g85_5, g85_6, a85_6, n85_6, g85_7, g85_8, g85_9, g85_10, g85_11, g85_12, g85_13, g85_14, g85_15, g85_16, g85_17, a85_17, n85_17, g85_18, g85_19, a85_19, n85_19, g85_20, g85_21, g85_22, g85_23, g85_24, g85_25, a85_25, n85_25, g85_26, g85_27, g85_28, g85_29, g85_30, a85_30, n85_30, g85_31, g85_32, a85_32, n85_32, g85_33, a85_33, n85_33, i85, Nat.reduceEqDiff, Nat.reduceAdd, Nat.reduceMul, Nat.reduceLeDiff, Nat.reduceBEq, Nat.reduceBNe, Int.reduceEq, ↓reduceIte, reduceCtorEq]
    refine call_go true (ownDisk_ok p h b hz hp hh2 hb2) ?_
    simp (maxSteps := 9000000) -implicitDefEqProofs -dsimp (disch := omega) only [go_sem, g85_0, g85_1, g85_2, g85_3, g85_4, a85_4, n85_4, g85_5, g85_6, a85_6, n85_6, g85_7, g85_8, g85_9, g85_10, g85_11, g85_12, g85_13, g85_14, g85_15, g85_16, g85_17, a85_17, n85_17, g85_18, g85_19, a85_19, n85_19, g85_20, g85_21, g85_22, g85_23, g85_24, g85_25, a85_25, n85_25, g85_26, g85_27, g85_28, g85_29, g85_30, a85_30, n85_30, g85_31, g85_32, a85_32, n85_32, g85_33, a85_33, n85_33, i85, lt_T, lt_F, le_T, le_F, eq_T, eq_F, and_F, Nat.reduceEqDiff, Nat.reduceAdd, Nat.reduceMul, Nat.reduceLeDiff, Nat.reduceBEq, Nat.reduceBNe, Int.reduceEq, ↓reduceIte, reduceCtorEq]
    refine call_go true (has_ok p h b a hp hh2 hb2) ?_
    simp (maxSteps := 9000000) -implicitDefEqProofs -dsimp (disch := omega) only [go_sem, g85_0, g85_1, g85_2, g85_3, g85_4, a85_4, n85_4, g85_5, g85_6, a85_6, n85_6, g85_7, g85_8, g85_9, g85_10, g85_11, g85_12, g85_13, g85_14, g85_15, g85_16, g85_17, a85_17, n85_17, g85_18, g85_19, a85_19, n85_19, g85_20, g85_21, g85_22, g85_23, g85_24, g85_25, a85_25, n85_25, g85_26, g85_27, g85_28, g85_29, g85_30, a85_30, n85_30, g85_31, g85_32, a85_32, n85_32, g85_33, a85_33, n85_33, i85, lt_T, lt_F, le_T, le_F, eq_T, eq_F, and_F, h0, Nat.reduceEqDiff, Nat.reduceAdd, Nat.reduceMul, Nat.reduceLeDiff, Nat.reduceBEq, Nat.reduceBNe, Int.reduceEq, ↓reduceIte, reduceCtorEq]
end Go.Proofs.YtjlodcoeegpkaaaT

/- Functions of the program as contracts: steps of a disk, the program's. No condition. -/
set_option maxRecDepth 100000
set_option maxHeartbeats 8000000
set_option linter.unusedSimpArgs false
set_option linter.unusedVariables false
namespace Go.Proofs.YtjlodcoeegpkaaaT
open Go
theorem stepped4 (p h : List ByteArray) (b : List Bool) (k a : Int) (text : ByteArray) (kept : List Int) (hp : p.length ≤ 1048576) (he : h.length = p.length) (hb : b.length = p.length) (hz : b ≠ []) (hk : kept.length ≤ 1048576) (ht : text.size ≤ 1048576) (hs : ∀ x ∈ p, x.size ≤ 1048576) (c1 : k = 4) : Stepped p h b k a text kept := by
  have hh2 : h.length ≤ 1048576 := by omega
  have hb2 : b.length ≤ 1048576 := by omega
  subst c1
  by_cases h0 : 0 ≤ a ∧ a < p.length
  · by_cases h1 : onlyP a text kept true true false
    · have h2 := h1
      simp only [onlyP, true_or, true_and, Bool.false_eq_true, false_or] at h2
      have hz4 : (p.getD a.toNat default).size ≤ 1048576 := hs _ (getD_mem (by omega))
      by_cases h3 : h.getD a.toNat default = e0 ∧ (1 ≤ text.size ∧ text.size ≤ (p.getD a.toNat default).size)
      · have h4 : ¬ p.getD a.toNat default = e0 := fun e => by
          have := h3.2; rw [e] at this; simp only [e0] at this; exact absurd this.2 (by have : (⟨#[]⟩ : ByteArray).size = 0 := rfl; omega)
        have hst : stepF p h b 4 a text kept = ⟨p.set a.toNat (rotF (p.getD a.toNat default) text), h, b, true⟩ := by
          simp only [stepF]
          rw [if_neg (by omega), if_pos ⟨h0, h2⟩, if_neg (by omega), if_pos ⟨trivial, h3.1, h4, h3.2⟩]
        rw [Stepped, hst]
        refine .inl ⟨p.set a.toNat (rotF (p.getD a.toNat default) text), h, b, ?_, fun _ => rfl⟩
        refine meets_go (ir := i85) (fn := Try.f85) (rx := [(.cell 4 (some 3)), (.tmp 5)]) rfl rfl (by rfl) (by rfl) (by exact Nat.le_of_ble_eq_true rfl) ?_
        simp (maxSteps := 9000000) -implicitDefEqProofs -dsimp (disch := omega) only [go_sem, g85_0, g85_1, g85_2, g85_3, g85_4, a85_4, n85_4, g85_5, g85_6, a85_6, n85_6, g85_7, g85_8, g85_9, g85_10, g85_11, g85_12, g85_13, g85_14, g85_15, g85_16, g85_17, a85_17, n85_17, g85_18, g85_19, a85_19, n85_19, g85_20, g85_21, g85_22, g85_23, g85_24, g85_25, a85_25, n85_25, g85_26, g85_27, g85_28, g85_29, g85_30, a85_30, n85_30, g85_31, g85_32, a85_32, n85_32, g85_33, a85_33, n85_33, i85, Nat.reduceEqDiff, Nat.reduceAdd, Nat.reduceMul, Nat.reduceLeDiff, Nat.reduceBEq, Nat.reduceBNe, Int.reduceEq, ↓reduceIte, reduceCtorEq]
        refine call_go true (ownDisk_ok p h b hz hp hh2 hb2) ?_
        simp (maxSteps := 9000000) -implicitDefEqProofs -dsimp (disch := omega) only [go_sem, g85_0, g85_1, g85_2, g85_3, g85_4, a85_4, n85_4, g85_5, g85_6, a85_6, n85_6, g85_7, g85_8, g85_9, g85_10, g85_11, g85_12, g85_13, g85_14, g85_15, g85_16, g85_17, a85_17, n85_17, g85_18, g85_19, a85_19, n85_19, g85_20, g85_21, g85_22, g85_23, g85_24, g85_25, a85_25, n85_25, g85_26, g85_27, g85_28, g85_29, g85_30, a85_30, n85_30, g85_31, g85_32, a85_32, n85_32, g85_33, a85_33, n85_33, i85, lt_T, lt_F, le_T, le_F, eq_T, eq_F, and_F, Nat.reduceEqDiff, Nat.reduceAdd, Nat.reduceMul, Nat.reduceLeDiff, Nat.reduceBEq, Nat.reduceBNe, Int.reduceEq, ↓reduceIte, reduceCtorEq]
        refine call_go true (has_ok p h b a hp hh2 hb2) ?_
        simp (maxSteps := 9000000) -implicitDefEqProofs -dsimp (disch := omega) only [go_sem, g85_0, g85_1, g85_2, g85_3, g85_4, a85_4, n85_4, g85_5, g85_6, a85_6, n85_6, g85_7, g85_8, g85_9, g85_10, g85_11, g85_12, g85_13, g85_14, g85_15, g85_16, g85_17, a85_17, n85_17, g85_18, g85_19, a85_19, n85_19, g85_20, g85_21, g85_22, g85_23, g85_24, g85_25, a85_25, n85_25, g85_26, g85_27, g85_28, g85_29, g85_30, a85_30, n85_30, g85_31, g85_32, a85_32, n85_32, g85_33, a85_33, n85_33, i85, lt_T, lt_F, le_T, le_F, eq_T, eq_F, and_F, h0, Nat.reduceEqDiff, Nat.reduceAdd, Nat.reduceMul, Nat.reduceLeDiff, Nat.reduceBEq, Nat.reduceBNe, Int.reduceEq, ↓reduceIte, reduceCtorEq]
        refine call_go true (isOnly_ok 4 a text kept true true false hk) ?_
        simp (maxSteps := 9000000) -implicitDefEqProofs -dsimp (disch := omega) only [go_sem, g85_0, g85_1, g85_2, g85_3, g85_4, a85_4, n85_4, g85_5, g85_6, a85_6, n85_6, g85_7, g85_8, g85_9, g85_10, g85_11, g85_12, g85_13, g85_14, g85_15, g85_16, g85_17, a85_17, n85_17, g85_18, g85_19, a85_19, n85_19, g85_20, g85_21, g85_22, g85_23, g85_24, g85_25, a85_25, n85_25, g85_26, g85_27, g85_28, g85_29, g85_30, a85_30, n85_30, g85_31, g85_32, a85_32, n85_32, g85_33, a85_33, n85_33, i85, lt_T, lt_F, le_T, le_F, eq_T, eq_F, and_F, h1, Nat.reduceEqDiff, Nat.reduceAdd, Nat.reduceMul, Nat.reduceLeDiff, Nat.reduceBEq, Nat.reduceBNe, Int.reduceEq, ↓reduceIte, reduceCtorEq]
        refine draw_go n85_19 a85_19 (by decide +kernel) ?_
        simp (maxSteps := 9000000) -implicitDefEqProofs -dsimp (disch := omega) only [go_sem, g85_0, g85_1, g85_2, g85_3, g85_4, a85_4, n85_4, g85_5, g85_6, a85_6, n85_6, g85_7, g85_8, g85_9, g85_10, g85_11, g85_12, g85_13, g85_14, g85_15, g85_16, g85_17, a85_17, n85_17, g85_18, g85_19, a85_19, n85_19, g85_20, g85_21, g85_22, g85_23, g85_24, g85_25, a85_25, n85_25, g85_26, g85_27, g85_28, g85_29, g85_30, a85_30, n85_30, g85_31, g85_32, a85_32, n85_32, g85_33, a85_33, n85_33, i85, lt_T, lt_F, le_T, le_F, eq_T, eq_F, and_F, h3.1, Nat.reduceEqDiff, Nat.reduceAdd, Nat.reduceMul, Nat.reduceLeDiff, Nat.reduceBEq, Nat.reduceBNe, Int.reduceEq, ↓reduceIte, reduceCtorEq]
        refine call_go true (within_ok text.size 1 (p.getD a.toNat default).size) ?_
        simp (maxSteps := 9000000) -implicitDefEqProofs -dsimp (disch := omega) only [go_sem, g85_0, g85_1, g85_2, g85_3, g85_4, a85_4, n85_4, g85_5, g85_6, a85_6, n85_6, g85_7, g85_8, g85_9, g85_10, g85_11, g85_12, g85_13, g85_14, g85_15, g85_16, g85_17, a85_17, n85_17, g85_18, g85_19, a85_19, n85_19, g85_20, g85_21, g85_22, g85_23, g85_24, g85_25, a85_25, n85_25, g85_26, g85_27, g85_28, g85_29, g85_30, a85_30, n85_30, g85_31, g85_32, a85_32, n85_32, g85_33, a85_33, n85_33, i85, lt_T, lt_F, le_T, le_F, eq_T, eq_F, and_F, Nat.reduceEqDiff, Nat.reduceAdd, Nat.reduceMul, Nat.reduceLeDiff, Nat.reduceBEq, Nat.reduceBNe, Int.reduceEq, ↓reduceIte, reduceCtorEq]
        refine loop_n text.size (fun i => ⟨[(119, .w (.one (.int .i64 (i : Nat)))), (118, .w (.one (.int .i64 text.size))), (7, .w (.one (.hs 11 [] 0 1 (p.getD a.toNat default).size))), (6, .w (.one (.hp 10 [] 0))), (4, .w (.one (.hp 6 [] 0))), (3, .w (.one (.hp 5 [] 0))), (2, .w (.one (.hp 4 [] 0)))],
          [(11, .sl true 1 (p.getD a.toNat default).size ((rotN (p.getD a.toNat default) text i).map fun c => T.int .u8 (c.toNat : Int))), (10, .bx true [(.sl true 1 p.length (p.map T.str)), (.sl true 1 h.length (h.map T.str)), (.sl true 1 b.length (b.map T.bool))]), (6, .bx true [.sl true 0 0 [], .sl true 0 0 [], .sl true 0 0 []]), (5, .bx true [.int .i64 4, .int .i64 a, .str text, (.sl false 1 kept.length (kept.map (T.int .i64)))]), (4, .bx true [(.sl false 1 p.length (p.map T.str)), (.sl false 1 h.length (h.map T.str)), (.sl false 1 b.length (b.map T.bool))])],
          [.agg [.hs 0 [] 0 1 p.length, .hs 1 [] 0 1 h.length, .hs 2 [] 0 1 b.length], .agg [.int .i64 4, .int .i64 a, .str text, .hs 3 [] 0 1 kept.length]]⟩) (fun i => True) ?_ trivial ?_
        · have e : rotN (p.getD a.toNat default) text 0 = (p.getD a.toNat default).data.toList := mixL_0
          exact (imp_sub (by simp (maxSteps := 9000000) -implicitDefEqProofs -dsimp (disch := omega) only [go_sem, g85_0, g85_1, g85_2, g85_3, g85_4, a85_4, n85_4, g85_5, g85_6, a85_6, n85_6, g85_7, g85_8, g85_9, g85_10, g85_11, g85_12, g85_13, g85_14, g85_15, g85_16, g85_17, a85_17, n85_17, g85_18, g85_19, a85_19, n85_19, g85_20, g85_21, g85_22, g85_23, g85_24, g85_25, a85_25, n85_25, g85_26, g85_27, g85_28, g85_29, g85_30, a85_30, n85_30, g85_31, g85_32, a85_32, n85_32, g85_33, a85_33, n85_33, i85, e, Nat.reduceEqDiff, Nat.reduceAdd, Nat.reduceMul, Nat.reduceLeDiff, Nat.reduceBEq, Nat.reduceBNe, Int.reduceEq, ↓reduceIte, reduceCtorEq]) (by simp (maxSteps := 9000000) -implicitDefEqProofs -dsimp (disch := omega) only [go_sem, g85_0, g85_1, g85_2, g85_3, g85_4, a85_4, n85_4, g85_5, g85_6, a85_6, n85_6, g85_7, g85_8, g85_9, g85_10, g85_11, g85_12, g85_13, g85_14, g85_15, g85_16, g85_17, a85_17, n85_17, g85_18, g85_19, a85_19, n85_19, g85_20, g85_21, g85_22, g85_23, g85_24, g85_25, a85_25, n85_25, g85_26, g85_27, g85_28, g85_29, g85_30, a85_30, n85_30, g85_31, g85_32, a85_32, n85_32, g85_33, a85_33, n85_33, i85, e, Nat.reduceEqDiff, Nat.reduceAdd, Nat.reduceMul, Nat.reduceLeDiff, Nat.reduceBEq, Nat.reduceBNe, Int.reduceEq, ↓reduceIte, reduceCtorEq]) rfl)
        · intro i hi _
          have q := rotN_len (s := p.getD a.toNat default) (m := text) (i := i)
          have hts := h3.2
          simp (maxSteps := 9000000) -implicitDefEqProofs -dsimp (disch := omega) only [go_sem, g85_0, g85_1, g85_2, g85_3, g85_4, a85_4, n85_4, g85_5, g85_6, a85_6, n85_6, g85_7, g85_8, g85_9, g85_10, g85_11, g85_12, g85_13, g85_14, g85_15, g85_16, g85_17, a85_17, n85_17, g85_18, g85_19, a85_19, n85_19, g85_20, g85_21, g85_22, g85_23, g85_24, g85_25, a85_25, n85_25, g85_26, g85_27, g85_28, g85_29, g85_30, a85_30, n85_30, g85_31, g85_32, a85_32, n85_32, g85_33, a85_33, n85_33, i85, Nat.reduceEqDiff, Nat.reduceAdd, Nat.reduceMul, Nat.reduceLeDiff, Nat.reduceBEq, Nat.reduceBNe, Int.reduceEq, ↓reduceIte, reduceCtorEq]
          refine brP_i (fun h5 => ?_) (fun h5 => ?_)
          · have g1 : (rotN (p.getD a.toNat default) text i).getD i default = (p.getD a.toNat default).data.toList.getD i default := mixL_get (by rw [ba_len]; omega)
            have s1 : (rotN (p.getD a.toNat default) text i).set i ((p.getD a.toNat default).data.toList.getD i default ^^^ text.data.toList.getD i default) = rotN (p.getD a.toNat default) text (i + 1) := mixL_set (g := rotG (p.getD a.toNat default) text) (by rw [ba_len]; omega)
            simp (maxSteps := 9000000) -implicitDefEqProofs -dsimp (disch := omega) only [go_sem, g85_0, g85_1, g85_2, g85_3, g85_4, a85_4, n85_4, g85_5, g85_6, a85_6, n85_6, g85_7, g85_8, g85_9, g85_10, g85_11, g85_12, g85_13, g85_14, g85_15, g85_16, g85_17, a85_17, n85_17, g85_18, g85_19, a85_19, n85_19, g85_20, g85_21, g85_22, g85_23, g85_24, g85_25, a85_25, n85_25, g85_26, g85_27, g85_28, g85_29, g85_30, a85_30, n85_30, g85_31, g85_32, a85_32, n85_32, g85_33, a85_33, n85_33, i85, Nat.reduceEqDiff, Nat.reduceAdd, Nat.reduceMul, Nat.reduceLeDiff, Nat.reduceBEq, Nat.reduceBNe, Int.reduceEq, ↓reduceIte, reduceCtorEq]
            refine draw_go n85_25 a85_25 (by decide +kernel) ?_
            simp (maxSteps := 9000000) -implicitDefEqProofs -dsimp (disch := omega) only [go_sem, g85_0, g85_1, g85_2, g85_3, g85_4, a85_4, n85_4, g85_5, g85_6, a85_6, n85_6, g85_7, g85_8, g85_9, g85_10, g85_11, g85_12, g85_13, g85_14, g85_15, g85_16, g85_17, a85_17, n85_17, g85_18, g85_19, a85_19, n85_19, g85_20, g85_21, g85_22, g85_23, g85_24, g85_25, a85_25, n85_25, g85_26, g85_27, g85_28, g85_29, g85_30, a85_30, n85_30, g85_31, g85_32, a85_32, n85_32, g85_33, a85_33, n85_33, i85, g1, Nat.reduceEqDiff, Nat.reduceAdd, Nat.reduceMul, Nat.reduceLeDiff, Nat.reduceBEq, Nat.reduceBNe, Int.reduceEq, ↓reduceIte, reduceCtorEq]
            exact ⟨by omega, (imp_sub (by simp (maxSteps := 9000000) -implicitDefEqProofs -dsimp (disch := omega) only [go_sem, g85_0, g85_1, g85_2, g85_3, g85_4, a85_4, n85_4, g85_5, g85_6, a85_6, n85_6, g85_7, g85_8, g85_9, g85_10, g85_11, g85_12, g85_13, g85_14, g85_15, g85_16, g85_17, a85_17, n85_17, g85_18, g85_19, a85_19, n85_19, g85_20, g85_21, g85_22, g85_23, g85_24, g85_25, a85_25, n85_25, g85_26, g85_27, g85_28, g85_29, g85_30, a85_30, n85_30, g85_31, g85_32, a85_32, n85_32, g85_33, a85_33, n85_33, i85, s1, Nat.reduceEqDiff, Nat.reduceAdd, Nat.reduceMul, Nat.reduceLeDiff, Nat.reduceBEq, Nat.reduceBNe, Int.reduceEq, ↓reduceIte, reduceCtorEq]) (by simp (maxSteps := 9000000) -implicitDefEqProofs -dsimp (disch := omega) only [go_sem, g85_0, g85_1, g85_2, g85_3, g85_4, a85_4, n85_4, g85_5, g85_6, a85_6, n85_6, g85_7, g85_8, g85_9, g85_10, g85_11, g85_12, g85_13, g85_14, g85_15, g85_16, g85_17, a85_17, n85_17, g85_18, g85_19, a85_19, n85_19, g85_20, g85_21, g85_22, g85_23, g85_24, g85_25, a85_25, n85_25, g85_26, g85_27, g85_28, g85_29, g85_30, a85_30, n85_30, g85_31, g85_32, a85_32, n85_32, g85_33, a85_33, n85_33, i85, s1, Nat.reduceEqDiff, Nat.reduceAdd, Nat.reduceMul, Nat.reduceLeDiff, Nat.reduceBEq, Nat.reduceBNe, Int.reduceEq, ↓reduceIte, reduceCtorEq]) rfl)⟩
          · obtain rfl : i = text.size := by omega
            have e : (⟨(rotN (p.getD a.toNat default) text text.size).toArray⟩ : ByteArray) = rotF (p.getD a.toNat default) text := rfl
            simp (maxSteps := 9000000) -implicitDefEqProofs -dsimp (disch := omega) only [go_sem, g85_0, g85_1, g85_2, g85_3, g85_4, a85_4, n85_4, g85_5, g85_6, a85_6, n85_6, g85_7, g85_8, g85_9, g85_10, g85_11, g85_12, g85_13, g85_14, g85_15, g85_16, g85_17, a85_17, n85_17, g85_18, g85_19, a85_19, n85_19, g85_20, g85_21, g85_22, g85_23, g85_24, g85_25, a85_25, n85_25, g85_26, g85_27, g85_28, g85_29, g85_30, a85_30, n85_30, g85_31, g85_32, a85_32, n85_32, g85_33, a85_33, n85_33, i85, cells, e, List.length_set, Nat.reduceEqDiff, Nat.reduceAdd, Nat.reduceMul, Nat.reduceLeDiff, Nat.reduceBEq, Nat.reduceBNe, Int.reduceEq, ↓reduceIte, reduceCtorEq]
      · have hst : (stepF p h b 4 a text kept).ok = false := by
          simp only [stepF]
          rw [if_neg (by omega), if_pos ⟨h0, h2⟩, if_neg (by omega), if_neg (fun q => h3 ⟨q.2.1, q.2.2.2⟩), if_neg (by omega), if_neg (by omega)]
        refine .inr ⟨hst, ?_⟩
        refine meets_go (ir := i85) (fn := Try.f85) (rx := [(.cell 4 (some 3)), (.tmp 5)]) rfl rfl (by rfl) (by rfl) (by exact Nat.le_of_ble_eq_true rfl) ?_
        simp (maxSteps := 9000000) -implicitDefEqProofs -dsimp (disch := omega) only [go_sem, g85_0, g85_1, g85_2, g85_3, g85_4, a85_4, n85_4, g85_5, g85_6, a85_6, n85_6, g85_7, g85_8, g85_9, g85_10, g85_11, g85_12, g85_13, g85_14, g85_15, g85_16, g85_17, a85_17, n85_17, g85_18, g85_19, a85_19, n85_19, g85_20, g85_21, g85_22, g85_23, g85_24, g85_25, a85_25, n85_25, g85_26, g85_27, g85_28, g85_29, g85_30, a85_30, n85_30, g85_31, g85_32, a85_32, n85_32, g85_33, a85_33, n85_33, i85, Nat.reduceEqDiff, Nat.reduceAdd, Nat.reduceMul, Nat.reduceLeDiff, Nat.reduceBEq, Nat.reduceBNe, Int.reduceEq, ↓reduceIte, reduceCtorEq]
        refine call_go true (ownDisk_ok p h b hz hp hh2 hb2) ?_
        simp (maxSteps := 9000000) -implicitDefEqProofs -dsimp (disch := omega) only [go_sem, g85_0, g85_1, g85_2, g85_3, g85_4, a85_4, n85_4, g85_5, g85_6, a85_6, n85_6, g85_7, g85_8, g85_9, g85_10, g85_11, g85_12, g85_13, g85_14, g85_15, g85_16, g85_17, a85_17, n85_17, g85_18, g85_19, a85_19, n85_19, g85_20, g85_21, g85_22, g85_23, g85_24, g85_25, a85_25, n85_25, g85_26, g85_27, g85_28, g85_29, g85_30, a85_30, n85_30, g85_31, g85_32, a85_32, n85_32, g85_33, a85_33, n85_33, i85, lt_T, lt_F, le_T, le_F, eq_T, eq_F, and_F, Nat.reduceEqDiff, Nat.reduceAdd, Nat.reduceMul, Nat.reduceLeDiff, Nat.reduceBEq, Nat.reduceBNe, Int.reduceEq, ↓reduceIte, reduceCtorEq]
        refine call_go true (has_ok p h b a hp hh2 hb2) ?_
        simp (maxSteps := 9000000) -implicitDefEqProofs -dsimp (disch := omega) only [go_sem, g85_0, g85_1, g85_2, g85_3, g85_4, a85_4, n85_4, g85_5, g85_6, a85_6, n85_6, g85_7, g85_8, g85_9, g85_10, g85_11, g85_12, g85_13, g85_14, g85_15, g85_16, g85_17, a85_17, n85_17, g85_18, g85_19, a85_19, n85_19, g85_20, g85_21, g85_22, g85_23, g85_24, g85_25, a85_25, n85_25, g85_26, g85_27, g85_28, g85_29, g85_30, a85_30, n85_30, g85_31, g85_32, a85_32, n85_32, g85_33, a85_33, n85_33, i85, lt_T, lt_F, le_T, le_F, eq_T, eq_F, and_F, h0, Nat.reduceEqDiff, Nat.reduceAdd, Nat.reduceMul, Nat.reduceLeDiff, Nat.reduceBEq, Nat.reduceBNe, Int.reduceEq, ↓reduceIte, reduceCtorEq]
        refine call_go true (isOnly_ok 4 a text kept true true false hk) ?_
        simp (maxSteps := 9000000) -implicitDefEqProofs -dsimp (disch := omega) only [go_sem, g85_0, g85_1, g85_2, g85_3, g85_4, a85_4, n85_4, g85_5, g85_6, a85_6, n85_6, g85_7, g85_8, g85_9, g85_10, g85_11, g85_12, g85_13, g85_14, g85_15, g85_16, g85_17, a85_17, n85_17, g85_18, g85_19, a85_19, n85_19, g85_20, g85_21, g85_22, g85_23, g85_24, g85_25, a85_25, n85_25, g85_26, g85_27, g85_28, g85_29, g85_30, a85_30, n85_30, g85_31, g85_32, a85_32, n85_32, g85_33, a85_33, n85_33, i85, lt_T, lt_F, le_T, le_F, eq_T, eq_F, and_F, h1, Nat.reduceEqDiff, Nat.reduceAdd, Nat.reduceMul, Nat.reduceLeDiff, Nat.reduceBEq, Nat.reduceBNe, Int.reduceEq, ↓reduceIte, reduceCtorEq]
        by_cases h5 : h.getD a.toNat default = e0
        · have h6 : ¬ (1 ≤ (text.size : Int) ∧ (text.size : Int) ≤ (p.getD a.toNat default).size) := fun q => h3 ⟨h5, by omega⟩
          refine draw_go n85_19 a85_19 (by decide +kernel) ?_
          simp (maxSteps := 9000000) -implicitDefEqProofs -dsimp (disch := omega) only [go_sem, g85_0, g85_1, g85_2, g85_3, g85_4, a85_4, n85_4, g85_5, g85_6, a85_6, n85_6, g85_7, g85_8, g85_9, g85_10, g85_11, g85_12, g85_13, g85_14, g85_15, g85_16, g85_17, a85_17, n85_17, g85_18, g85_19, a85_19, n85_19, g85_20, g85_21, g85_22, g85_23, g85_24, g85_25, a85_25, n85_25, g85_26, g85_27, g85_28, g85_29, g85_30, a85_30, n85_30, g85_31, g85_32, a85_32, n85_32, g85_33, a85_33, n85_33, i85, lt_T, lt_F, le_T, le_F, eq_T, eq_F, and_F, h5, Nat.reduceEqDiff, Nat.reduceAdd, Nat.reduceMul, Nat.reduceLeDiff, Nat.reduceBEq, Nat.reduceBNe, Int.reduceEq, ↓reduceIte, reduceCtorEq]
          refine call_go true (within_ok text.size 1 (p.getD a.toNat default).size) ?_
          simp (maxSteps := 9000000) -implicitDefEqProofs -dsimp (disch := omega) only [go_sem, g85_0, g85_1, g85_2, g85_3, g85_4, a85_4, n85_4, g85_5, g85_6, a85_6, n85_6, g85_7, g85_8, g85_9, g85_10, g85_11, g85_12, g85_13, g85_14, g85_15, g85_16, g85_17, a85_17, n85_17, g85_18, g85_19, a85_19, n85_19, g85_20, g85_21, g85_22, g85_23, g85_24, g85_25, a85_25, n85_25, g85_26, g85_27, g85_28, g85_29, g85_30, a85_30, n85_30, g85_31, g85_32, a85_32, n85_32, g85_33, a85_33, n85_33, i85, lt_T, lt_F, le_T, le_F, eq_T, eq_F, and_F, h6, Nat.reduceEqDiff, Nat.reduceAdd, Nat.reduceMul, Nat.reduceLeDiff, Nat.reduceBEq, Nat.reduceBNe, Int.reduceEq, ↓reduceIte, reduceCtorEq]
        · refine draw_go n85_19 a85_19 (by decide +kernel) ?_
          simp (maxSteps := 9000000) -implicitDefEqProofs -dsimp (disch := omega) only [go_sem, g85_0, g85_1, g85_2, g85_3, g85_4, a85_4, n85_4, g85_5, g85_6, a85_6, n85_6, g85_7, g85_8, g85_9, g85_10, g85_11, g85_12, g85_13, g85_14, g85_15, g85_16, g85_17, a85_17, n85_17, g85_18, g85_19, a85_19, n85_19, g85_20, g85_21, g85_22, g85_23, g85_24, g85_25, a85_25, n85_25, g85_26, g85_27, g85_28, g85_29, g85_30, a85_30, n85_30, g85_31, g85_32, a85_32, n85_32, g85_33, a85_33, n85_33, i85, lt_T, lt_F, le_T, le_F, eq_T, eq_F, and_F, h5, Nat.reduceEqDiff, Nat.reduceAdd, Nat.reduceMul, Nat.reduceLeDiff, Nat.reduceBEq, Nat.reduceBNe, Int.reduceEq, ↓reduceIte, reduceCtorEq]
    · refine .inr ⟨?_, ?_⟩
      · simp only [onlyP, true_or, true_and, Bool.false_eq_true, false_or] at h1
        simp only [stepF]
        simp [h0]
        by_cases q1 : kept = []
        · by_cases q2 : text = e0
          · simp_all
          · simp_all
        · simp [q1]
      · refine meets_go (ir := i85) (fn := Try.f85) (rx := [(.cell 4 (some 3)), (.tmp 5)]) rfl rfl (by rfl) (by rfl) (by exact Nat.le_of_ble_eq_true rfl) ?_
        simp (maxSteps := 9000000) -implicitDefEqProofs -dsimp (disch := omega) only [go_sem, g85_0, g85_1, g85_2, g85_3, g85_4, a85_4, n85_4, g85_5, g85_6, a85_6, n85_6, g85_7, g85_8, g85_9, g85_10, g85_11, g85_12, g85_13, g85_14, g85_15, g85_16, g85_17, a85_17, n85_17, g85_18, g85_19, a85_19, n85_19, g85_20, g85_21, g85_22, g85_23, g85_24, g85_25, a85_25, n85_25, g85_26, g85_27, g85_28, g85_29, g85_30, a85_30, n85_30, g85_31, g85_32, a85_32, n85_32, g85_33, a85_33, n85_33, i85, Nat.reduceEqDiff, Nat.reduceAdd, Nat.reduceMul, Nat.reduceLeDiff, Nat.reduceBEq, Nat.reduceBNe, Int.reduceEq, ↓reduceIte, reduceCtorEq]
        refine call_go true (ownDisk_ok p h b hz hp hh2 hb2) ?_
        simp (maxSteps := 9000000) -implicitDefEqProofs -dsimp (disch := omega) only [go_sem, g85_0, g85_1, g85_2, g85_3, g85_4, a85_4, n85_4, g85_5, g85_6, a85_6, n85_6, g85_7, g85_8, g85_9, g85_10, g85_11, g85_12, g85_13, g85_14, g85_15, g85_16, g85_17, a85_17, n85_17, g85_18, g85_19, a85_19, n85_19, g85_20, g85_21, g85_22, g85_23, g85_24, g85_25, a85_25, n85_25, g85_26, g85_27, g85_28, g85_29, g85_30, a85_30, n85_30, g85_31, g85_32, a85_32, n85_32, g85_33, a85_33, n85_33, i85, lt_T, lt_F, le_T, le_F, eq_T, eq_F, and_F, Nat.reduceEqDiff, Nat.reduceAdd, Nat.reduceMul, Nat.reduceLeDiff, Nat.reduceBEq, Nat.reduceBNe, Int.reduceEq, ↓reduceIte, reduceCtorEq]
        refine call_go true (has_ok p h b a hp hh2 hb2) ?_
        simp (maxSteps := 9000000) -implicitDefEqProofs -dsimp (disch := omega) only [go_sem, g85_0, g85_1, g85_2, g85_3, g85_4, a85_4, n85_4, g85_5, g85_6, a85_6, n85_6, g85_7, g85_8, g85_9, g85_10, g85_11, g85_12, g85_13, g85_14, g85_15, g85_16, g85_17, a85_17, n85_17, g85_18, g85_19, a85_19, n85_19, g85_20, g85_21, g85_22, g85_23, g85_24, g85_25, a85_25, n85_25, g85_26, g85_27, g85_28, g85_29, g85_30, a85_30, n85_30, g85_31, g85_32, a85_32, n85_32, g85_33, a85_33, n85_33, i85, lt_T, lt_F, le_T, le_F, eq_T, eq_F, and_F, h0, Nat.reduceEqDiff, Nat.reduceAdd, Nat.reduceMul, Nat.reduceLeDiff, Nat.reduceBEq, Nat.reduceBNe, Int.reduceEq, ↓reduceIte, reduceCtorEq]
        refine call_go true (isOnly_ok 4 a text kept true true false hk) ?_
        simp (maxSteps := 9000000) -implicitDefEqProofs -dsimp (disch := omega) only [go_sem, g85_0, g85_1, g85_2, g85_3, g85_4, a85_4, n85_4, g85_5, g85_6, a85_6, n85_6, g85_7, g85_8, g85_9, g85_10, g85_11, g85_12, g85_13, g85_14, g85_15, g85_16, g85_17, a85_17, n85_17, g85_18, g85_19, a85_19, n85_19, g85_20, g85_21, g85_22, g85_23, g85_24, g85_25, a85_25, n85_25, g85_26, g85_27, g85_28, g85_29, g85_30, a85_30, n85_30, g85_31, g85_32, a85_32, n85_32, g85_33, a85_33, n85_33, i85, lt_T, lt_F, le_T, le_F, eq_T, eq_F, and_F, h1, Nat.reduceEqDiff, Nat.reduceAdd, Nat.reduceMul, Nat.reduceLeDiff, Nat.reduceBEq, Nat.reduceBNe, Int.reduceEq, ↓reduceIte, reduceCtorEq]
  · refine .inr ⟨by simp [stepF, h0], ?_⟩
    refine meets_go (ir := i85) (fn := Try.f85) (rx := [(.cell 4 (some 3)), (.tmp 5)]) rfl rfl (by rfl) (by rfl) (by exact Nat.le_of_ble_eq_true rfl) ?_
    simp (maxSteps := 9000000) -implicitDefEqProofs -dsimp (disch := omega) only [go_sem, g85_0, g85_1, g85_2, g85_3, g85_4, a85_4, n85_4, g85_5, g85_6, a85_6, n85_6, g85_7, g85_8, g85_9, g85_10, g85_11, g85_12, g85_13, g85_14, g85_15, g85_16, g85_17, a85_17, n85_17, g85_18, g85_19, a85_19, n85_19, g85_20, g85_21, g85_22, g85_23, g85_24, g85_25, a85_25, n85_25, g85_26, g85_27, g85_28, g85_29, g85_30, a85_30, n85_30, g85_31, g85_32, a85_32, n85_32, g85_33, a85_33, n85_33, i85, Nat.reduceEqDiff, Nat.reduceAdd, Nat.reduceMul, Nat.reduceLeDiff, Nat.reduceBEq, Nat.reduceBNe, Int.reduceEq, ↓reduceIte, reduceCtorEq]
    refine call_go true (ownDisk_ok p h b hz hp hh2 hb2) ?_
    simp (maxSteps := 9000000) -implicitDefEqProofs -dsimp (disch := omega) only [go_sem, g85_0, g85_1, g85_2, g85_3, g85_4, a85_4, n85_4, g85_5, g85_6, a85_6, n85_6, g85_7, g85_8, g85_9, g85_10, g85_11, g85_12, g85_13, g85_14, g85_15, g85_16, g85_17, a85_17, n85_17, g85_18, g85_19, a85_19, n85_19, g85_20, g85_21, g85_22, g85_23, g85_24, g85_25, a85_25, n85_25, g85_26, g85_27, g85_28, g85_29, g85_30, a85_30, n85_30, g85_31, g85_32, a85_32, n85_32, g85_33, a85_33, n85_33, i85, lt_T, lt_F, le_T, le_F, eq_T, eq_F, and_F, Nat.reduceEqDiff, Nat.reduceAdd, Nat.reduceMul, Nat.reduceLeDiff, Nat.reduceBEq, Nat.reduceBNe, Int.reduceEq, ↓reduceIte, reduceCtorEq]
    refine call_go true (has_ok p h b a hp hh2 hb2) ?_
    simp (maxSteps := 9000000) -implicitDefEqProofs -dsimp (disch := omega) only [go_sem, g85_0, g85_1, g85_2, g85_3, g85_4, a85_4, n85_4, g85_5, g85_6, a85_6, n85_6, g85_7, g85_8, g85_9, g85_10, g85_11, g85_12, g85_13, g85_14, g85_15, g85_16, g85_17, a85_17, n85_17, g85_18, g85_19, a85_19, n85_19, g85_20, g85_21, g85_22, g85_23, g85_24, g85_25, a85_25, n85_25, g85_26, g85_27, g85_28, g85_29, g85_30, a85_30, n85_30, g85_31, g85_32, a85_32, n85_32, g85_33, a85_33, n85_33, i85, lt_T, lt_F, le_T, le_F, eq_T, eq_F, and_F, h0, Nat.reduceEqDiff, Nat.reduceAdd, Nat.reduceMul, Nat.reduceLeDiff, Nat.reduceBEq, Nat.reduceBNe, Int.reduceEq, ↓reduceIte, reduceCtorEq]
theorem stepped_ok (p h : List ByteArray) (b : List Bool) (k a : Int) (text : ByteArray) (kept : List Int) (hp : p.length ≤ 1048576) (he : h.length = p.length) (hb : b.length = p.length) (hz : b ≠ []) (hk : kept.length ≤ 1048576) (ht : text.size ≤ 1048576) (hs : ∀ x ∈ p, x.size ≤ 1048576) : Stepped p h b k a text kept := by
  by_cases k1 : k = 1
  · exact stepped1 p h b k a text kept hp he hb hz hk ht hs k1
  by_cases k2 : k = 2
  · exact stepped2 p h b k a text kept hp he hb hz hk ht hs k2
  by_cases k3 : k = 3
  · exact stepped3 p h b k a text kept hp he hb hz hk ht hs k3
  by_cases k4 : k = 4
  · exact stepped4 p h b k a text kept hp he hb hz hk ht hs k4
  by_cases k5 : k = 5
  · exact stepped5 p h b k a text kept hp he hb hz hk ht hs k5
  by_cases k6 : k = 6
  · exact stepped6 p h b k a text kept hp he hb hz hk ht hs k6
  exact stepped0 p h b k a text kept hp he hb hz hk ht hs (by simp [k1, k2, k3, k4, k5, k6])
theorem l7Step_ok (p h : List ByteArray) (b : List Bool) (k a : Int) (text : ByteArray) (kept : List Int) (hp : p.length ≤ 1048576) (he : h.length = p.length) (hb : b.length = p.length) (hk : kept.length ≤ 1048576) (ht : text.size ≤ 1048576) (hs : ∀ x ∈ p, x.size ≤ 1048576) :
    Meets Try.prog 86 [.agg [(.sl true 1 p.length (p.map T.str)), (.sl true 1 h.length (h.map T.str)), (.sl true 1 b.length (b.map T.bool))], .agg [.int .i64 k, .int .i64 a, .str text, (.sl false 1 kept.length (kept.map (T.int .i64)))]] (.tup [.agg [(.sl true 1 ((stepF p h b k a text kept).p).length (((stepF p h b k a text kept).p).map T.str)), (.sl true 1 ((stepF p h b k a text kept).h).length (((stepF p h b k a text kept).h).map T.str)), (.sl true 1 ((stepF p h b k a text kept).b).length (((stepF p h b k a text kept).b).map T.bool))], .one (.bool (stepF p h b k a text kept).ok)]) [.agg [.hole, .hole, .hole], .agg [.hole, .hole, .hole, .hole]] := by
  by_cases c1 : k = 2 ∨ k = 3
  · exact l7StepA_ok p h b k a text kept hp he hb hk ht hs c1
  · exact l7StepB_ok p h b k a text kept hp he hb hk ht hs c1
end Go.Proofs.YtjlodcoeegpkaaaT

/- Functions of the program as contracts: a step of a disk. No condition. -/
set_option maxRecDepth 100000
set_option maxHeartbeats 8000000
set_option linter.unusedSimpArgs false
set_option linter.unusedVariables false
namespace Go.Proofs.YtjlodcoeegpkaaaT
open Go
/-- what a step of a disk comes to -/
noncomputable def StepRes (p h : List ByteArray) (b : List Bool) (k a : Int) (text : ByteArray) (kept : List Int) : TV :=
  open Classical in if GoodD p h b ∧ (stepF p h b k a text kept).ok = true then .tup [.agg [(.sl true 1 ((stepF p h b k a text kept).p).length (((stepF p h b k a text kept).p).map T.str)), (.sl true 1 ((stepF p h b k a text kept).h).length (((stepF p h b k a text kept).h).map T.str)), (.sl true 1 ((stepF p h b k a text kept).b).length (((stepF p h b k a text kept).b).map T.bool))], .one (.bool true)] else .tup [.agg [.sl true 0 0 [], .sl true 0 0 [], .sl true 0 0 []], .one (.bool false)]
theorem stepF_len (p h : List ByteArray) (b : List Bool) (k a : Int) (text : ByteArray) (kept : List Int) : (stepF p h b k a text kept).p.length = p.length ∧ (stepF p h b k a text kept).h.length = h.length ∧ (stepF p h b k a text kept).b.length = b.length := by
  generalize hD : stepF p h b k a text kept = D
  unfold stepF at hD
  repeat' split at hD
  all_goals (subst hD; simp [crashP, crashH])
def g44_0 : List Gop := [⟨none, (some 2), (.box (.t 0))⟩, ⟨none, (some 3), (.box (.t 1))⟩, ⟨none, (some 4), (.alloc [.nil, .nil, .nil])⟩, ⟨none, (some 5), (.mov (.k (.one (.bool .false))))⟩]
def g44_1 : List Gop := [⟨none, (some 8), (.load (some 3) (.t 2))⟩, ⟨none, (some 9), (.call 21 [(.t 8)])⟩, ⟨none, (some 10), (.un .not (.t 9))⟩]
def g44_2 : List Gop := [⟨none, (some 11), (.build [.nil, .nil, .nil] [])⟩, ⟨none, none, (.store 3 (.t 4) (.t 11))⟩, ⟨none, (some 5), (.mov (.k (.one (.bool .false))))⟩]
def g44_3 : List Gop := [⟨none, (some 13), (.load (some 3) (.t 2))⟩, ⟨none, (some 14), (.load (some 4) (.t 3))⟩, ⟨none, (some 15), (.call 85 [(.t 13), (.t 14)])⟩, ⟨none, (some 12), (.mov (.t 15))⟩, ⟨none, (some 16), (.ext (.t 12) 0)⟩, ⟨none, (some 17), (.ext (.t 12) 1)⟩, ⟨none, (some 6), (.alloc [.nil, .nil, .nil])⟩, ⟨none, none, (.store 3 (.t 6) (.t 16))⟩, ⟨none, (some 7), (.mov (.t 17))⟩]
def g44_4 : List Gop := [⟨none, (some 18), (.mov (.t 7))⟩, ⟨none, (some 19), (.un .not (.t 18))⟩]
def g44_5 : List Gop := [⟨none, (some 20), (.build [.nil, .nil, .nil] [])⟩, ⟨none, none, (.store 3 (.t 4) (.t 20))⟩, ⟨none, (some 5), (.mov (.k (.one (.bool .false))))⟩]
def g44_6 : List Gop := [⟨none, (some 21), (.load (some 3) (.t 6))⟩, ⟨none, none, (.store 3 (.t 4) (.t 21))⟩, ⟨none, (some 5), (.mov (.k (.one (.bool .true))))⟩]
def i44 : Ir := (.seq (.region g44_0) (.seq (.seq (.region g44_1) (.cond (.t 10) (.seq (.region g44_2) .ret) .skip)) (.seq (.region g44_3) (.seq (.seq (.region g44_4) (.cond (.t 19) (.seq (.region g44_5) .ret) .skip)) (.seq (.region g44_6) .ret)))))
theorem implStepDisk_ok (p h : List ByteArray) (b : List Bool) (k a : Int) (text : ByteArray) (kept : List Int) (hp : p.length ≤ 1048576) (hh : h.length ≤ 1048576) (hb : b.length ≤ 1048576) (hk : kept.length ≤ 1048576) (ht : text.size ≤ 1048576) (hs : ∀ x ∈ p, x.size ≤ 1048576) :
    Meets Try.prog 44 [.agg [(.sl false 1 p.length (p.map T.str)), (.sl false 1 h.length (h.map T.str)), (.sl false 1 b.length (b.map T.bool))], .agg [.int .i64 k, .int .i64 a, .str text, (.sl false 1 kept.length (kept.map (T.int .i64)))]] (StepRes p h b k a text kept) [.agg [.hole, .hole, .hole], .agg [.hole, .hole, .hole, .hole]] := by
  by_cases hg : GoodD p h b
  · have hst := stepped_ok p h b k a text kept hp hg.2.1 hg.2.2.1 (fun e => by have := hg.2.2.1; rw [e] at this; have := hg.1; simp only [List.length_nil] at *; omega) hk ht hs
    rcases hst with ⟨p', h', b', hM, hD⟩ | ⟨hno, hM⟩
    · cases hok : (stepF p h b k a text kept).ok with
      | true =>
        rw [StepRes, if_pos ⟨hg, hok⟩, hD hok]
        rw [hok] at hM
        refine meets_go (ir := i44) (fn := Try.f44) (rx := [(.cell 4 (some 3)), (.tmp 5)]) rfl rfl (by rfl) (by rfl) (by exact Nat.le_of_ble_eq_true rfl) ?_
        simp (maxSteps := 9000000) -implicitDefEqProofs -dsimp (disch := omega) only [go_sem, g44_0, g44_1, g44_2, g44_3, g44_4, g44_5, g44_6, i44, Nat.reduceEqDiff, Nat.reduceAdd, Nat.reduceMul, Nat.reduceLeDiff, Nat.reduceBEq, Nat.reduceBNe, Int.reduceEq, ↓reduceIte, reduceCtorEq]
        refine call_go true (implGoodDisk_ok p h b (by omega) (by omega) (by omega)) ?_
        simp (maxSteps := 9000000) -implicitDefEqProofs -dsimp (disch := omega) only [go_sem, g44_0, g44_1, g44_2, g44_3, g44_4, g44_5, g44_6, i44, hg, Nat.reduceEqDiff, Nat.reduceAdd, Nat.reduceMul, Nat.reduceLeDiff, Nat.reduceBEq, Nat.reduceBNe, Int.reduceEq, ↓reduceIte, reduceCtorEq]
        refine call_go true hM ?_
        simp (maxSteps := 9000000) -implicitDefEqProofs -dsimp (disch := omega) only [go_sem, g44_0, g44_1, g44_2, g44_3, g44_4, g44_5, g44_6, i44, Nat.reduceEqDiff, Nat.reduceAdd, Nat.reduceMul, Nat.reduceLeDiff, Nat.reduceBEq, Nat.reduceBNe, Int.reduceEq, ↓reduceIte, reduceCtorEq]
      | false =>
        rw [StepRes, if_neg (fun q => by rw [hok] at q; exact absurd q.2 (by simp))]
        rw [hok] at hM
        refine meets_go (ir := i44) (fn := Try.f44) (rx := [(.cell 4 (some 3)), (.tmp 5)]) rfl rfl (by rfl) (by rfl) (by exact Nat.le_of_ble_eq_true rfl) ?_
        simp (maxSteps := 9000000) -implicitDefEqProofs -dsimp (disch := omega) only [go_sem, g44_0, g44_1, g44_2, g44_3, g44_4, g44_5, g44_6, i44, Nat.reduceEqDiff, Nat.reduceAdd, Nat.reduceMul, Nat.reduceLeDiff, Nat.reduceBEq, Nat.reduceBNe, Int.reduceEq, ↓reduceIte, reduceCtorEq]
        refine call_go true (implGoodDisk_ok p h b (by omega) (by omega) (by omega)) ?_
        simp (maxSteps := 9000000) -implicitDefEqProofs -dsimp (disch := omega) only [go_sem, g44_0, g44_1, g44_2, g44_3, g44_4, g44_5, g44_6, i44, hg, Nat.reduceEqDiff, Nat.reduceAdd, Nat.reduceMul, Nat.reduceLeDiff, Nat.reduceBEq, Nat.reduceBNe, Int.reduceEq, ↓reduceIte, reduceCtorEq]
        refine call_go true hM ?_
        simp (maxSteps := 9000000) -implicitDefEqProofs -dsimp (disch := omega) only [go_sem, g44_0, g44_1, g44_2, g44_3, g44_4, g44_5, g44_6, i44, Nat.reduceEqDiff, Nat.reduceAdd, Nat.reduceMul, Nat.reduceLeDiff, Nat.reduceBEq, Nat.reduceBNe, Int.reduceEq, ↓reduceIte, reduceCtorEq]
    · rw [StepRes, if_neg (fun q => by rw [hno] at q; exact absurd q.2 (by simp))]
      refine meets_go (ir := i44) (fn := Try.f44) (rx := [(.cell 4 (some 3)), (.tmp 5)]) rfl rfl (by rfl) (by rfl) (by exact Nat.le_of_ble_eq_true rfl) ?_
      simp (maxSteps := 9000000) -implicitDefEqProofs -dsimp (disch := omega) only [go_sem, g44_0, g44_1, g44_2, g44_3, g44_4, g44_5, g44_6, i44, Nat.reduceEqDiff, Nat.reduceAdd, Nat.reduceMul, Nat.reduceLeDiff, Nat.reduceBEq, Nat.reduceBNe, Int.reduceEq, ↓reduceIte, reduceCtorEq]
      refine call_go true (implGoodDisk_ok p h b (by omega) (by omega) (by omega)) ?_
      simp (maxSteps := 9000000) -implicitDefEqProofs -dsimp (disch := omega) only [go_sem, g44_0, g44_1, g44_2, g44_3, g44_4, g44_5, g44_6, i44, hg, Nat.reduceEqDiff, Nat.reduceAdd, Nat.reduceMul, Nat.reduceLeDiff, Nat.reduceBEq, Nat.reduceBNe, Int.reduceEq, ↓reduceIte, reduceCtorEq]
      refine call_go true hM ?_
      simp (maxSteps := 9000000) -implicitDefEqProofs -dsimp (disch := omega) only [go_sem, g44_0, g44_1, g44_2, g44_3, g44_4, g44_5, g44_6, i44, Nat.reduceEqDiff, Nat.reduceAdd, Nat.reduceMul, Nat.reduceLeDiff, Nat.reduceBEq, Nat.reduceBNe, Int.reduceEq, ↓reduceIte, reduceCtorEq]
  · rw [StepRes, if_neg (fun q => hg q.1)]
    refine meets_go (ir := i44) (fn := Try.f44) (rx := [(.cell 4 (some 3)), (.tmp 5)]) rfl rfl (by rfl) (by rfl) (by exact Nat.le_of_ble_eq_true rfl) ?_
    simp (maxSteps := 9000000) -implicitDefEqProofs -dsimp (disch := omega) only [go_sem, g44_0, g44_1, g44_2, g44_3, g44_4, g44_5, g44_6, i44, Nat.reduceEqDiff, Nat.reduceAdd, Nat.reduceMul, Nat.reduceLeDiff, Nat.reduceBEq, Nat.reduceBNe, Int.reduceEq, ↓reduceIte, reduceCtorEq]
    refine call_go true (implGoodDisk_ok p h b (by omega) (by omega) (by omega)) ?_
    simp (maxSteps := 9000000) -implicitDefEqProofs -dsimp (disch := omega) only [go_sem, g44_0, g44_1, g44_2, g44_3, g44_4, g44_5, g44_6, i44, hg, Nat.reduceEqDiff, Nat.reduceAdd, Nat.reduceMul, Nat.reduceLeDiff, Nat.reduceBEq, Nat.reduceBNe, Int.reduceEq, ↓reduceIte, reduceCtorEq]
def g46_0 : List Gop := [⟨none, (some 2), (.box (.t 0))⟩, ⟨none, (some 3), (.box (.t 1))⟩, ⟨none, (some 4), (.alloc [.nil, .nil, .nil])⟩, ⟨none, (some 5), (.mov (.k (.one (.bool .false))))⟩]
def g46_1 : List Gop := [⟨none, (some 8), (.load (some 3) (.t 2))⟩, ⟨none, (some 9), (.call 19 [(.t 8)])⟩, ⟨none, (some 10), (.un .not (.t 9))⟩]
def g46_2 : List Gop := [⟨none, (some 11), (.build [.nil, .nil, .nil] [])⟩, ⟨none, none, (.store 3 (.t 4) (.t 11))⟩, ⟨none, (some 5), (.mov (.k (.one (.bool .false))))⟩]
def g46_3 : List Gop := [⟨none, (some 13), (.load (some 3) (.t 2))⟩, ⟨none, (some 14), (.call 76 [(.t 13)])⟩, ⟨none, (some 15), (.load (some 4) (.t 3))⟩, ⟨none, (some 16), (.call 86 [(.t 14), (.t 15)])⟩, ⟨none, (some 12), (.mov (.t 16))⟩, ⟨none, (some 17), (.ext (.t 12) 0)⟩, ⟨none, (some 18), (.ext (.t 12) 1)⟩, ⟨none, (some 6), (.alloc [.nil, .nil, .nil])⟩, ⟨none, none, (.store 3 (.t 6) (.t 17))⟩, ⟨none, (some 7), (.mov (.t 18))⟩]
def a46_3 : List (List Nat) := [[], [0], [], [0, 1, 2], [0, 1, 2, 3], [0, 1, 2, 3, 4], [0, 1, 2, 3, 4], [], [0, 1, 2, 3, 4, 5, 7], [0, 1, 2, 3, 4, 5, 6, 7, 8]]
def n46_3 : Nat := 9 -- of 10
def g46_4 : List Gop := [⟨none, (some 19), (.mov (.t 7))⟩, ⟨none, (some 20), (.un .not (.t 19))⟩]
def g46_5 : List Gop := [⟨none, (some 21), (.build [.nil, .nil, .nil] [])⟩, ⟨none, none, (.store 3 (.t 4) (.t 21))⟩, ⟨none, (some 5), (.mov (.k (.one (.bool .false))))⟩]
def g46_6 : List Gop := [⟨none, (some 22), (.load (some 3) (.t 6))⟩, ⟨none, (some 23), (.call 76 [(.t 22)])⟩, ⟨none, none, (.store 3 (.t 4) (.t 23))⟩, ⟨none, (some 5), (.mov (.k (.one (.bool .true))))⟩]
def i46 : Ir := (.seq (.region g46_0) (.seq (.seq (.region g46_1) (.cond (.t 10) (.seq (.region g46_2) .ret) .skip)) (.seq (.draw [[], [0], [], [1, 2, 1], [3], [4], [4], [], [7, 5, 3, 0, 1, 2, 3, 4, 5, 7], [6, 8, 0, 1, 2, 3, 4, 5, 6, 7, 8]] g46_3) (.seq (.seq (.region g46_4) (.cond (.t 20) (.seq (.region g46_5) .ret) .skip)) (.seq (.region g46_6) .ret)))))
theorem specStepDisk_ok (p h : List ByteArray) (b : List Bool) (k a : Int) (text : ByteArray) (kept : List Int) (hp : p.length ≤ 1048576) (hh : h.length ≤ 1048576) (hb : b.length ≤ 1048576) (hk : kept.length ≤ 1048576) (ht : text.size ≤ 1048576) (hs : ∀ x ∈ p, x.size ≤ 1048576) :
    Meets Try.prog 46 [.agg [(.sl false 1 p.length (p.map T.str)), (.sl false 1 h.length (h.map T.str)), (.sl false 1 b.length (b.map T.bool))], .agg [.int .i64 k, .int .i64 a, .str text, (.sl false 1 kept.length (kept.map (T.int .i64)))]] (StepRes p h b k a text kept) [.agg [.hole, .hole, .hole], .agg [.hole, .hole, .hole, .hole]] := by
  by_cases hg : GoodD p h b
  · refine meets_go (ir := i46) (fn := Try.f46) (rx := [(.cell 4 (some 3)), (.tmp 5)]) rfl rfl (by rfl) (by rfl) (by exact Nat.le_of_ble_eq_true rfl) ?_
    simp (maxSteps := 9000000) -implicitDefEqProofs -dsimp (disch := omega) only [go_sem, g46_0, g46_1, g46_2, g46_3, a46_3, n46_3, g46_4, g46_5, g46_6, i46, Nat.reduceEqDiff, Nat.reduceAdd, Nat.reduceMul, Nat.reduceLeDiff, Nat.reduceBEq, Nat.reduceBNe, Int.reduceEq, ↓reduceIte, reduceCtorEq]
    refine call_go true (specGoodDisk_ok p h b (by omega) (by omega) (by omega)) ?_
    simp (maxSteps := 9000000) -implicitDefEqProofs -dsimp (disch := omega) only [go_sem, g46_0, g46_1, g46_2, g46_3, a46_3, n46_3, g46_4, g46_5, g46_6, i46, hg, Nat.reduceEqDiff, Nat.reduceAdd, Nat.reduceMul, Nat.reduceLeDiff, Nat.reduceBEq, Nat.reduceBNe, Int.reduceEq, ↓reduceIte, reduceCtorEq]
    refine drawm_go n46_3 a46_3 [(3, .framed []), (8, .framed [])] (by decide +kernel) ?_
    simp (maxSteps := 9000000) -implicitDefEqProofs -dsimp (disch := omega) only [go_sem, g46_0, g46_1, g46_2, g46_3, a46_3, n46_3, g46_4, g46_5, g46_6, i46, Nat.reduceEqDiff, Nat.reduceAdd, Nat.reduceMul, Nat.reduceLeDiff, Nat.reduceBEq, Nat.reduceBNe, Int.reduceEq, ↓reduceIte, reduceCtorEq]
    refine calla_go true (l7Own_ok p h b hp hh hb) ?_
    simp (maxSteps := 9000000) -implicitDefEqProofs -dsimp (disch := omega) only [go_sem, g46_0, g46_1, g46_2, g46_3, a46_3, n46_3, g46_4, g46_5, g46_6, i46, Nat.reduceEqDiff, Nat.reduceAdd, Nat.reduceMul, Nat.reduceLeDiff, Nat.reduceBEq, Nat.reduceBNe, Int.reduceEq, ↓reduceIte, reduceCtorEq]
    refine call_go true (l7Step_ok p h b k a text kept hp hg.2.1 hg.2.2.1 hk ht hs) ?_
    obtain ⟨q1, q2, q3⟩ := stepF_len p h b k a text kept
    cases hok : (stepF p h b k a text kept).ok with
    | true =>
      rw [StepRes, if_pos ⟨hg, hok⟩]
      simp (maxSteps := 9000000) -implicitDefEqProofs -dsimp (disch := omega) only [go_sem, g46_0, g46_1, g46_2, g46_3, a46_3, n46_3, g46_4, g46_5, g46_6, i46, hok, Nat.reduceEqDiff, Nat.reduceAdd, Nat.reduceMul, Nat.reduceLeDiff, Nat.reduceBEq, Nat.reduceBNe, Int.reduceEq, ↓reduceIte, reduceCtorEq]
      refine call_go true (l7Own_ok (stepF p h b k a text kept).p (stepF p h b k a text kept).h (stepF p h b k a text kept).b (by omega) (by omega) (by omega)) ?_
      simp (maxSteps := 9000000) -implicitDefEqProofs -dsimp (disch := omega) only [go_sem, g46_0, g46_1, g46_2, g46_3, a46_3, n46_3, g46_4, g46_5, g46_6, i46, Nat.reduceEqDiff, Nat.reduceAdd, Nat.reduceMul, Nat.reduceLeDiff, Nat.reduceBEq, Nat.reduceBNe, Int.reduceEq, ↓reduceIte, reduceCtorEq]
    | false =>
      rw [StepRes, if_neg (fun q => by rw [hok] at q; exact absurd q.2 (by simp))]
      simp (maxSteps := 9000000) -implicitDefEqProofs -dsimp (disch := omega) only [go_sem, g46_0, g46_1, g46_2, g46_3, a46_3, n46_3, g46_4, g46_5, g46_6, i46, hok, Nat.reduceEqDiff, Nat.reduceAdd, Nat.reduceMul, Nat.reduceLeDiff, Nat.reduceBEq, Nat.reduceBNe, Int.reduceEq, ↓reduceIte, reduceCtorEq]
  · rw [StepRes, if_neg (fun q => hg q.1)]
    refine meets_go (ir := i46) (fn := Try.f46) (rx := [(.cell 4 (some 3)), (.tmp 5)]) rfl rfl (by rfl) (by rfl) (by exact Nat.le_of_ble_eq_true rfl) ?_
    simp (maxSteps := 9000000) -implicitDefEqProofs -dsimp (disch := omega) only [go_sem, g46_0, g46_1, g46_2, g46_3, a46_3, n46_3, g46_4, g46_5, g46_6, i46, Nat.reduceEqDiff, Nat.reduceAdd, Nat.reduceMul, Nat.reduceLeDiff, Nat.reduceBEq, Nat.reduceBNe, Int.reduceEq, ↓reduceIte, reduceCtorEq]
    refine call_go true (specGoodDisk_ok p h b (by omega) (by omega) (by omega)) ?_
    simp (maxSteps := 9000000) -implicitDefEqProofs -dsimp (disch := omega) only [go_sem, g46_0, g46_1, g46_2, g46_3, a46_3, n46_3, g46_4, g46_5, g46_6, i46, hg, Nat.reduceEqDiff, Nat.reduceAdd, Nat.reduceMul, Nat.reduceLeDiff, Nat.reduceBEq, Nat.reduceBNe, Int.reduceEq, ↓reduceIte, reduceCtorEq]
end Go.Proofs.YtjlodcoeegpkaaaT

/- Functions of the program as contracts: what the law asks of disks and steps. No condition. -/
set_option maxRecDepth 100000
set_option maxHeartbeats 8000000
set_option linter.unusedSimpArgs false
set_option linter.unusedVariables false
namespace Go.Proofs.YtjlodcoeegpkaaaT
open Go
end Go.Proofs.YtjlodcoeegpkaaaT

/- Functions of the program as contracts: what the law marks and counts. No condition. -/
set_option maxRecDepth 100000
set_option maxHeartbeats 8000000
set_option linter.unusedSimpArgs false
set_option linter.unusedVariables false
namespace Go.Proofs.YtjlodcoeegpkaaaT
open Go
end Go.Proofs.YtjlodcoeegpkaaaT

/- Functions of the program as contracts: what the law marks and counts. No condition. -/
set_option maxRecDepth 100000
set_option maxHeartbeats 8000000
set_option linter.unusedSimpArgs false
set_option linter.unusedVariables false
namespace Go.Proofs.YtjlodcoeegpkaaaT
open Go
end Go.Proofs.YtjlodcoeegpkaaaT

/- What a disk and its steps read as. No condition. -/
set_option maxRecDepth 100000
set_option maxHeartbeats 8000000
set_option linter.unusedSimpArgs false
set_option linter.unusedVariables false
namespace Go.Proofs.YtjlodcoeegpkaaaT
open Go Go.RowKit
theorem flat_one {α : Type} {c : α → T} {l : List α} : (l.map fun s => [c s]).flatten = l.map c := by
  induction l with
  | nil => rfl
  | cons x l ih => simp only [List.map_cons, List.flatten_cons, ih, List.cons_append, List.nil_append]
end Go.Proofs.YtjlodcoeegpkaaaT

/- Functions of the program as contracts: rows of a disk's steps. No condition. -/
set_option maxRecDepth 100000
set_option maxHeartbeats 8000000
set_option linter.unusedSimpArgs false
set_option linter.unusedVariables false
namespace Go.Proofs.YtjlodcoeegpkaaaT
open Go Go.RowKit
/-- a disk's step -/
structure Stp where
  k : Int
  a : Int
  t : ByteArray
  h : List Int
  deriving Inhabited
def stR (l : List Stp) : List T := rows4 (fun x => .int .i64 x.k) (fun x => .int .i64 x.a) (fun x => .str x.t) (fun x => (.sl false 1 x.h.length (x.h.map (T.int .i64)))) l
def stO (l : List Stp) : List T := rows4 (fun x => .int .i64 x.k) (fun x => .int .i64 x.a) (fun x => .str x.t) (fun x => (.sl true 1 x.h.length (x.h.map (T.int .i64)))) l
def LS (l : List Stp) : T := .sl false 4 l.length (stR l)
def OL (l : List Stp) : T := .sl true 4 l.length (stO l)
theorem stR_0 {l : List Stp} {i : Nat} (h : i < l.length) : (stR l)[i * 4]? = some (.int .i64 (l.getD i default).k) := rows4_0 h
theorem stR_1 {l : List Stp} {i : Nat} (h : i < l.length) : (stR l)[i * 4 + 1]? = some (.int .i64 (l.getD i default).a) := rows4_1 h
theorem stR_2 {l : List Stp} {i : Nat} (h : i < l.length) : (stR l)[i * 4 + 1 + 1]? = some (.str (l.getD i default).t) := rows4_2' h
theorem stR_3 {l : List Stp} {i : Nat} (h : i < l.length) : (stR l)[i * 4 + 1 + 1 + 1]? = some (.sl false 1 ((l.getD i default).h).length (((l.getD i default).h).map (T.int .i64))) := rows4_3' h
theorem stO_cut {l : List Stp} : cut (stO l) 0 (l.length * 4) = stO l := rows4_cut rfl
theorem stR_cut {l : List Stp} : cut (stR l) 0 (l.length * 4) = stR l := rows4_cut rfl
theorem stO_0 {l : List Stp} {i : Nat} (h : i < l.length) : (stO l)[i * 4]? = some (.int .i64 (l.getD i default).k) := rows4_0 h
theorem stO_1 {l : List Stp} {i : Nat} (h : i < l.length) : (stO l)[i * 4 + 1]? = some (.int .i64 (l.getD i default).a) := rows4_1 h
theorem stO_2 {l : List Stp} {i : Nat} (h : i < l.length) : (stO l)[i * 4 + 2]? = some (.str (l.getD i default).t) := rows4_2 h
theorem stO_3 {l : List Stp} {i : Nat} (h : i < l.length) : (stO l)[i * 4 + 3]? = some (.sl true 1 ((l.getD i default).h).length (((l.getD i default).h).map (T.int .i64))) := rows4_3 h
end Go.Proofs.YtjlodcoeegpkaaaT
