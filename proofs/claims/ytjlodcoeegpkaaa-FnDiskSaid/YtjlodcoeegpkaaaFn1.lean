/- Functions of the program, each with what it returns and leaves. No condition. -/
import Derived.Test.YtjlodcoeegpkaaaTree7
import Derived.Test.YtjlodcoeegpkaaaProg
import Derived.Test.YtjlodcoeegpkaaaShelf
set_option linter.all false
set_option linter.unusedVariables false
set_option linter.unusedSimpArgs false
set_option linter.unusedSectionVars false
set_option linter.unnecessarySimpa false
set_option linter.deprecated false
/- Functions of the program as contracts: comparisons of numbers and rows. No condition. -/
set_option maxRecDepth 100000
set_option maxHeartbeats 4000000
set_option linter.unusedSimpArgs false
set_option linter.unusedVariables false
namespace Go.Proofs.YtjlodcoeegpkaaaT
open Go
def g58_0 : List Gop := [⟨none, (some 6), (.mov (.k (.one (.bool .false))))⟩]
def g58_1 : List Gop := [⟨none, (some 7), (.mov (.t 0))⟩, ⟨none, (some 8), (.mov (.t 1))⟩, ⟨none, (some 9), (.bin .geq (.t 7) (.t 8))⟩, ⟨none, (some 10), (.mov (.t 9))⟩, ⟨(some (10, .true)), (some 11), (.mov (.t 0))⟩, ⟨(some (10, .true)), (some 12), (.mov (.t 2))⟩, ⟨(some (10, .true)), (some 13), (.bin .leq (.t 11) (.t 12))⟩, ⟨none, (some 14), (.pick (.t 10) (.t 13) (.k (.one (.bool .false))))⟩, ⟨none, (some 6), (.mov (.t 14))⟩]
def i58 : Ir := (.seq (.region g58_0) (.seq (.region g58_1) .ret))
theorem l1In_ok (x lo hi : Int) : Meets Try.prog 58 [.one (.int .i64 x), .one (.int .i64 lo), .one (.int .i64 hi)] (.w (.one (.bool (decide (lo ≤ x ∧ x ≤ hi))))) [.one .hole, .one .hole, .one .hole] := by
  refine meets_go (ir := i58) (fn := Try.f58) (rx := [(.tmp 6)]) rfl rfl (by rfl) (by rfl) (by exact Nat.le_of_ble_eq_true rfl) ?_
  by_cases h : lo ≤ x <;> simp (maxSteps := 9000000) -implicitDefEqProofs -dsimp (disch := omega) only [go_sem, g58_0, g58_1, i58, h, Nat.reduceEqDiff, Nat.reduceAdd, Nat.reduceMul, Nat.reduceLeDiff, Nat.reduceBEq, Nat.reduceBNe, Int.reduceEq, ↓reduceIte, reduceCtorEq]
def g59_0 : List Gop := [⟨none, (some 6), (.mov (.k (.one (.bool .false))))⟩]
def g59_1 : List Gop := [⟨none, (some 7), (.mov (.t 0))⟩, ⟨none, (some 8), (.mov (.t 1))⟩, ⟨none, (some 9), (.bin .geq (.t 7) (.t 8))⟩, ⟨none, (some 10), (.mov (.t 9))⟩, ⟨(some (10, .true)), (some 11), (.mov (.t 0))⟩, ⟨(some (10, .true)), (some 12), (.mov (.t 2))⟩, ⟨(some (10, .true)), (some 13), (.bin .leq (.t 11) (.t 12))⟩, ⟨none, (some 14), (.pick (.t 10) (.t 13) (.k (.one (.bool .false))))⟩, ⟨none, (some 6), (.mov (.t 14))⟩]
def i59 : Ir := (.seq (.region g59_0) (.seq (.region g59_1) .ret))
theorem within_ok (x lo hi : Int) : Meets Try.prog 59 [.one (.int .i64 x), .one (.int .i64 lo), .one (.int .i64 hi)] (.w (.one (.bool (decide (lo ≤ x ∧ x ≤ hi))))) [.one .hole, .one .hole, .one .hole] := by
  refine meets_go (ir := i59) (fn := Try.f59) (rx := [(.tmp 6)]) rfl rfl (by rfl) (by rfl) (by exact Nat.le_of_ble_eq_true rfl) ?_
  by_cases h : lo ≤ x <;> simp (maxSteps := 9000000) -implicitDefEqProofs -dsimp (disch := omega) only [go_sem, g59_0, g59_1, i59, h, Nat.reduceEqDiff, Nat.reduceAdd, Nat.reduceMul, Nat.reduceLeDiff, Nat.reduceBEq, Nat.reduceBNe, Int.reduceEq, ↓reduceIte, reduceCtorEq]
end Go.Proofs.YtjlodcoeegpkaaaT

/- Functions of the program as contracts: rows told anew, their sizes. No condition. -/
set_option maxRecDepth 100000
set_option maxHeartbeats 4000000
set_option linter.unusedSimpArgs false
set_option linter.unusedVariables false
namespace Go.Proofs.YtjlodcoeegpkaaaT
open Go
def g64_0 : List Gop := [⟨none, (some 4), (.mov (.k (.one (.int .i64 0))))⟩]
def g64_1 : List Gop := [⟨none, (some 5), (.mov (.t 1))⟩, ⟨none, (some 6), (.mov (.t 0))⟩, ⟨none, (some 7), (.len (.t 6))⟩, ⟨none, (some 8), (.bin .sub (.t 5) (.t 7))⟩, ⟨none, (some 1), (.mov (.t 8))⟩]
def g64_2 : List Gop := [⟨none, (some 9), (.mov (.t 1))⟩, ⟨none, (some 10), (.bin .lss (.t 9) (.k (.one (.int .i64 0))))⟩]
def g64_3 : List Gop := [⟨none, (some 4), (.mov (.k (.one (.int .i64 (-1)))))⟩]
def g64_4 : List Gop := [⟨none, (some 11), (.mov (.t 1))⟩, ⟨none, (some 4), (.mov (.t 11))⟩]
def i64 : Ir := (.seq (.region g64_0) (.seq (.region g64_1) (.seq (.seq (.region g64_2) (.cond (.t 10) (.seq (.region g64_3) .ret) .skip)) (.seq (.region g64_4) .ret))))
end Go.Proofs.YtjlodcoeegpkaaaT

/- Functions of the program as contracts: marks. No condition. -/
set_option maxRecDepth 100000
set_option maxHeartbeats 4000000
set_option linter.unusedSimpArgs false
set_option linter.unusedVariables false
namespace Go.Proofs.YtjlodcoeegpkaaaT
open Go
end Go.Proofs.YtjlodcoeegpkaaaT

/- Functions of the program as contracts: disks that are good, copies, what is held. No condition. -/
set_option maxRecDepth 100000
set_option maxHeartbeats 4000000
set_option linter.unusedSimpArgs false
set_option linter.unusedVariables false
namespace Go.Proofs.YtjlodcoeegpkaaaT
open Go
abbrev e0 : ByteArray := ⟨#[]⟩
def g89_0 : List Gop := [⟨none, (some 4), (.mov (.k (.one (.bool .false))))⟩]
def g89_1 : List Gop := [⟨none, (some 7), (.mov (.t 0))⟩, ⟨none, (some 8), (.len (.t 7))⟩, ⟨none, (some 9), (.mov (.k (.one (.int .i64 0))))⟩]
def g89_2 : List Gop := [⟨none, (some 10), (.bin .lss (.t 9) (.t 8))⟩]
def g89_3 : List Gop := [⟨none, (some 11), (.iaddr 1 (.t 7) (.t 9))⟩, ⟨none, (some 12), (.load none (.t 11))⟩, ⟨none, (some 6), (.mov (.t 12))⟩]
def g89_4 : List Gop := [⟨none, (some 13), (.mov (.t 6))⟩, ⟨none, (some 14), (.mov (.t 1))⟩, ⟨none, (some 15), (.bin .eql (.t 13) (.t 14))⟩]
def g89_5 : List Gop := [⟨none, (some 4), (.mov (.k (.one (.bool .true))))⟩]
def g89_6 : List Gop := [⟨none, (some 16), (.bin .add (.t 9) (.k (.one (.int .i64 1))))⟩, ⟨none, (some 9), (.mov (.t 16))⟩]
def g89_7 : List Gop := [⟨none, (some 4), (.mov (.k (.one (.bool .false))))⟩]
def i89 : Ir := (.seq (.region g89_0) (.seq (.seq (.region g89_1) (.block 0 (.loop (.seq (.region g89_2) (.seq (.cond (.t 10) .skip (.exit 0)) (.seq (.block 1 (.seq (.region g89_3) (.seq (.region g89_4) (.cond (.t 15) (.seq (.region g89_5) .ret) .skip)))) (.region g89_6))))))) (.seq (.region g89_7) .ret)))
theorem l1Has_ok (l : List Int) (x : Int) (hl : l.length ≤ 9223372036854775807) : Meets Try.prog 89 [.one (.sl false 1 l.length (l.map (T.int .i64))), .one (.int .i64 x)] (.w (.one (.bool (decide (x ∈ l))))) [.one .hole, .one .hole] := by
  refine meets_go (ir := i89) (fn := Try.f89) (rx := [(.tmp 4)]) rfl rfl (by rfl) (by rfl) (by exact Nat.le_of_ble_eq_true rfl) ?_
  simp (maxSteps := 9000000) -implicitDefEqProofs -dsimp (disch := omega) only [go_sem, g89_0, g89_1, g89_2, g89_3, g89_4, g89_5, g89_6, g89_7, i89, Nat.reduceEqDiff, Nat.reduceAdd, Nat.reduceMul, Nat.reduceLeDiff, Nat.reduceBEq, Nat.reduceBNe, Int.reduceEq, ↓reduceIte, reduceCtorEq]
  refine loop_n l.length (fun i => ⟨[(9, .w (.one (.int .i64 (i : Nat)))), (8, .w (.one (.int .i64 l.length))), (7, .w (.one (.hs 0 [] 0 1 l.length))), (4, .w (.one (.bool false))), (1, .w (.one (.int .i64 x)))], [(0, (.sl false 1 l.length (l.map (T.int .i64))))], [.one (.hs 0 [] 0 1 l.length), .one (.int .i64 x)]⟩) (fun i => ∀ j, j < i → l.getD j 0 ≠ x) ?_ ?_ ?_
  · exact (imp_sub (by simp (maxSteps := 9000000) -implicitDefEqProofs -dsimp (disch := omega) only [go_sem, g89_0, g89_1, g89_2, g89_3, g89_4, g89_5, g89_6, g89_7, i89, Nat.reduceEqDiff, Nat.reduceAdd, Nat.reduceMul, Nat.reduceLeDiff, Nat.reduceBEq, Nat.reduceBNe, Int.reduceEq, ↓reduceIte, reduceCtorEq]) (by simp (maxSteps := 9000000) -implicitDefEqProofs -dsimp (disch := omega) only [go_sem, g89_0, g89_1, g89_2, g89_3, g89_4, g89_5, g89_6, g89_7, i89, Nat.reduceEqDiff, Nat.reduceAdd, Nat.reduceMul, Nat.reduceLeDiff, Nat.reduceBEq, Nat.reduceBNe, Int.reduceEq, ↓reduceIte, reduceCtorEq]) rfl)
  · intro j hj; omega
  · intro i hi hJ
    simp (maxSteps := 9000000) -implicitDefEqProofs -dsimp (disch := omega) only [go_sem, g89_0, g89_1, g89_2, g89_3, g89_4, g89_5, g89_6, g89_7, i89, Nat.reduceEqDiff, Nat.reduceAdd, Nat.reduceMul, Nat.reduceLeDiff, Nat.reduceBEq, Nat.reduceBNe, Int.reduceEq, ↓reduceIte, reduceCtorEq]
    refine brP_i (fun h => ?_) (fun h => ?_)
    · simp (maxSteps := 9000000) -implicitDefEqProofs -dsimp (disch := omega) only [go_sem, g89_0, g89_1, g89_2, g89_3, g89_4, g89_5, g89_6, g89_7, i89, Nat.reduceEqDiff, Nat.reduceAdd, Nat.reduceMul, Nat.reduceLeDiff, Nat.reduceBEq, Nat.reduceBNe, Int.reduceEq, ↓reduceIte, reduceCtorEq]
      refine brP_i (fun h2 => ?_) (fun h2 => ?_)
      · simp (maxSteps := 9000000) -implicitDefEqProofs -dsimp (disch := omega) only [go_sem, g89_0, g89_1, g89_2, g89_3, g89_4, g89_5, g89_6, g89_7, i89, Nat.reduceEqDiff, Nat.reduceAdd, Nat.reduceMul, Nat.reduceLeDiff, Nat.reduceBEq, Nat.reduceBNe, Int.reduceEq, ↓reduceIte, reduceCtorEq]
        have : x ∈ l := by
          rw [List.getD_eq_getElem?_getD, List.getElem?_eq_getElem (by omega)] at h2
          exact h2 ▸ List.getElem_mem _
        exact need_i (by simp [this]) (by simp (maxSteps := 9000000) -implicitDefEqProofs -dsimp (disch := omega) only [go_sem, g89_0, g89_1, g89_2, g89_3, g89_4, g89_5, g89_6, g89_7, i89, Nat.reduceEqDiff, Nat.reduceAdd, Nat.reduceMul, Nat.reduceLeDiff, Nat.reduceBEq, Nat.reduceBNe, Int.reduceEq, ↓reduceIte, reduceCtorEq])
      · simp (maxSteps := 9000000) -implicitDefEqProofs -dsimp (disch := omega) only [go_sem, g89_0, g89_1, g89_2, g89_3, g89_4, g89_5, g89_6, g89_7, i89, Nat.reduceEqDiff, Nat.reduceAdd, Nat.reduceMul, Nat.reduceLeDiff, Nat.reduceBEq, Nat.reduceBNe, Int.reduceEq, ↓reduceIte, reduceCtorEq]
        refine ⟨⟨by omega, fun j hj => ?_⟩, (imp_sub (by simp (maxSteps := 9000000) -implicitDefEqProofs -dsimp (disch := omega) only [go_sem, g89_0, g89_1, g89_2, g89_3, g89_4, g89_5, g89_6, g89_7, i89, Nat.reduceEqDiff, Nat.reduceAdd, Nat.reduceMul, Nat.reduceLeDiff, Nat.reduceBEq, Nat.reduceBNe, Int.reduceEq, ↓reduceIte, reduceCtorEq]) (by simp (maxSteps := 9000000) -implicitDefEqProofs -dsimp (disch := omega) only [go_sem, g89_0, g89_1, g89_2, g89_3, g89_4, g89_5, g89_6, g89_7, i89, Nat.reduceEqDiff, Nat.reduceAdd, Nat.reduceMul, Nat.reduceLeDiff, Nat.reduceBEq, Nat.reduceBNe, Int.reduceEq, ↓reduceIte, reduceCtorEq]) rfl)⟩
        rcases Nat.lt_succ_iff_lt_or_eq.1 hj with h3 | rfl
        · exact hJ j h3
        · exact h2
    · simp (maxSteps := 9000000) -implicitDefEqProofs -dsimp (disch := omega) only [go_sem, g89_0, g89_1, g89_2, g89_3, g89_4, g89_5, g89_6, g89_7, i89, Nat.reduceEqDiff, Nat.reduceAdd, Nat.reduceMul, Nat.reduceLeDiff, Nat.reduceBEq, Nat.reduceBNe, Int.reduceEq, ↓reduceIte, reduceCtorEq]
      have : x ∉ l := by
        intro hx
        obtain ⟨j, hj, e⟩ := List.getElem_of_mem hx
        refine hJ j (by omega) ?_
        rw [List.getD_eq_getElem?_getD, List.getElem?_eq_getElem hj]; exact e
      exact need_i (by simp [this]) (by simp (maxSteps := 9000000) -implicitDefEqProofs -dsimp (disch := omega) only [go_sem, g89_0, g89_1, g89_2, g89_3, g89_4, g89_5, g89_6, g89_7, i89, Nat.reduceEqDiff, Nat.reduceAdd, Nat.reduceMul, Nat.reduceLeDiff, Nat.reduceBEq, Nat.reduceBNe, Int.reduceEq, ↓reduceIte, reduceCtorEq])
def GoodAt (p h : List ByteArray) (b : List Bool) (k : Nat) : Prop := (p.getD k default).size ≤ 28 ∧ (h.getD k default).size ≤ 28 ∧ (b.getD k default = true → h.getD k default = e0)
def GoodD (p h : List ByteArray) (b : List Bool) : Prop := (1 ≤ p.length ∧ p.length ≤ 24) ∧ h.length = p.length ∧ b.length = p.length ∧ ∀ k, k < p.length → GoodAt p h b k
noncomputable instance (p h : List ByteArray) (b : List Bool) : Decidable (GoodD p h b) := Classical.propDecidable _
def g19_0 : List Gop := [⟨none, (some 1), (.box (.t 0))⟩, ⟨none, (some 2), (.mov (.k (.one (.bool .false))))⟩]
def g19_1 : List Gop := [⟨none, (some 5), (.faddr (.t 1) 0)⟩, ⟨none, (some 6), (.load none (.t 5))⟩, ⟨none, (some 7), (.len (.t 6))⟩, ⟨none, (some 3), (.mov (.t 7))⟩]
def g19_2 : List Gop := [⟨none, (some 8), (.mov (.t 3))⟩, ⟨none, (some 9), (.call 58 [(.t 8), (.k (.one (.int .i64 1))), (.k (.one (.int .i64 24)))])⟩, ⟨none, (some 10), (.un .not (.t 9))⟩, ⟨none, (some 11), (.mov (.t 10))⟩, ⟨(some (11, .false)), (some 12), (.faddr (.t 1) 1)⟩, ⟨(some (11, .false)), (some 13), (.load none (.t 12))⟩, ⟨(some (11, .false)), (some 14), (.len (.t 13))⟩, ⟨(some (11, .false)), (some 15), (.mov (.t 3))⟩, ⟨(some (11, .false)), (some 16), (.bin .neq (.t 14) (.t 15))⟩, ⟨none, (some 17), (.pick (.t 11) (.k (.one (.bool .true))) (.t 16))⟩, ⟨none, (some 18), (.mov (.t 17))⟩, ⟨(some (18, .false)), (some 19), (.faddr (.t 1) 2)⟩, ⟨(some (18, .false)), (some 20), (.load none (.t 19))⟩, ⟨(some (18, .false)), (some 21), (.len (.t 20))⟩, ⟨(some (18, .false)), (some 22), (.mov (.t 3))⟩, ⟨(some (18, .false)), (some 23), (.bin .neq (.t 21) (.t 22))⟩, ⟨none, (some 24), (.pick (.t 18) (.k (.one (.bool .true))) (.t 23))⟩]
def g19_3 : List Gop := [⟨none, (some 2), (.mov (.k (.one (.bool .false))))⟩]
def g19_4 : List Gop := [⟨none, (some 25), (.faddr (.t 1) 0)⟩, ⟨none, (some 26), (.load none (.t 25))⟩, ⟨none, (some 27), (.len (.t 26))⟩, ⟨none, (some 28), (.mov (.k (.one (.int .i64 0))))⟩]
def g19_5 : List Gop := [⟨none, (some 29), (.bin .lss (.t 28) (.t 27))⟩]
def g19_6 : List Gop := [⟨none, (some 30), (.mov (.t 28))⟩, ⟨none, (some 4), (.mov (.t 30))⟩]
def g19_7 : List Gop := [⟨none, (some 31), (.faddr (.t 1) 0)⟩, ⟨none, (some 32), (.load none (.t 31))⟩, ⟨none, (some 33), (.mov (.t 4))⟩, ⟨none, (some 34), (.iaddr 1 (.t 32) (.t 33))⟩, ⟨none, (some 35), (.load none (.t 34))⟩, ⟨none, (some 36), (.lent (.t 35))⟩, ⟨none, (some 37), (.bin .gtr (.t 36) (.k (.one (.int .i64 28))))⟩, ⟨none, (some 38), (.mov (.t 37))⟩, ⟨(some (38, .false)), (some 39), (.faddr (.t 1) 1)⟩, ⟨(some (38, .false)), (some 40), (.load none (.t 39))⟩, ⟨(some (38, .false)), (some 41), (.mov (.t 4))⟩, ⟨(some (38, .false)), (some 42), (.iaddr 1 (.t 40) (.t 41))⟩, ⟨(some (38, .false)), (some 43), (.load none (.t 42))⟩, ⟨(some (38, .false)), (some 44), (.lent (.t 43))⟩, ⟨(some (38, .false)), (some 45), (.bin .gtr (.t 44) (.k (.one (.int .i64 28))))⟩, ⟨none, (some 46), (.pick (.t 38) (.k (.one (.bool .true))) (.t 45))⟩, ⟨none, (some 47), (.mov (.t 46))⟩, ⟨(some (47, .false)), (some 48), (.faddr (.t 1) 2)⟩, ⟨(some (47, .false)), (some 49), (.load none (.t 48))⟩, ⟨(some (47, .false)), (some 50), (.mov (.t 4))⟩, ⟨(some (47, .false)), (some 51), (.iaddr 1 (.t 49) (.t 50))⟩, ⟨(some (47, .false)), (some 52), (.load none (.t 51))⟩, ⟨(some (47, .false)), (some 53), (.mov (.t 52))⟩, ⟨(some (53, .true)), (some 54), (.faddr (.t 1) 1)⟩, ⟨(some (53, .true)), (some 55), (.load none (.t 54))⟩, ⟨(some (53, .true)), (some 56), (.mov (.t 4))⟩, ⟨(some (53, .true)), (some 57), (.iaddr 1 (.t 55) (.t 56))⟩, ⟨(some (53, .true)), (some 58), (.load none (.t 57))⟩, ⟨(some (53, .true)), (some 59), (.bin .neq (.t 58) (.k (.one (.str ⟨#[]⟩))))⟩, ⟨(some (47, .false)), (some 60), (.pick (.t 53) (.t 59) (.k (.one (.bool .false))))⟩, ⟨none, (some 61), (.pick (.t 47) (.k (.one (.bool .true))) (.t 60))⟩]
def g19_8 : List Gop := [⟨none, (some 2), (.mov (.k (.one (.bool .false))))⟩]
def g19_9 : List Gop := [⟨none, (some 62), (.bin .add (.t 28) (.k (.one (.int .i64 1))))⟩, ⟨none, (some 28), (.mov (.t 62))⟩]
def g19_10 : List Gop := [⟨none, (some 2), (.mov (.k (.one (.bool .true))))⟩]
def i19 : Ir := (.seq (.region g19_0) (.seq (.region g19_1) (.seq (.seq (.region g19_2) (.cond (.t 24) (.seq (.region g19_3) .ret) .skip)) (.seq (.seq (.region g19_4) (.block 0 (.loop (.seq (.region g19_5) (.seq (.cond (.t 29) .skip (.exit 0)) (.seq (.block 1 (.seq (.region g19_6) (.seq (.region g19_7) (.cond (.t 61) (.seq (.region g19_8) .ret) .skip)))) (.region g19_9))))))) (.seq (.region g19_10) .ret)))))
theorem specGoodDisk_ok (p h : List ByteArray) (b : List Bool) (hp : p.length ≤ 9223372036854775807) (hh : h.length ≤ 9223372036854775807) (hb : b.length ≤ 9223372036854775807) : Meets Try.prog 19 [.agg [(.sl false 1 p.length (p.map T.str)), (.sl false 1 h.length (h.map T.str)), (.sl false 1 b.length (b.map T.bool))]] (.w (.one (.bool (decide (GoodD p h b))))) [.agg [.hole, .hole, .hole]] := by
  refine meets_go (ir := i19) (fn := Try.f19) (rx := [(.tmp 2)]) rfl rfl (by rfl) (by rfl) (by exact Nat.le_of_ble_eq_true rfl) ?_
  simp (maxSteps := 9000000) -implicitDefEqProofs -dsimp (disch := omega) only [go_sem, g19_0, g19_1, g19_2, g19_3, g19_4, g19_5, g19_6, g19_7, g19_8, g19_9, g19_10, i19, Nat.reduceEqDiff, Nat.reduceAdd, Nat.reduceMul, Nat.reduceLeDiff, Nat.reduceBEq, Nat.reduceBNe, Int.reduceEq, ↓reduceIte, reduceCtorEq]
  refine call_go true (l1In_ok p.length 1 24) ?_
  repeat' (first | simp (maxSteps := 9000000) -implicitDefEqProofs -dsimp (disch := omega) only [go_sem, g19_0, g19_1, g19_2, g19_3, g19_4, g19_5, g19_6, g19_7, g19_8, g19_9, g19_10, i19, lt_T, lt_F, le_T, le_F, eq_T, eq_F, and_F, Nat.reduceEqDiff, Nat.reduceAdd, Nat.reduceMul, Nat.reduceLeDiff, Nat.reduceBEq, Nat.reduceBNe, Int.reduceEq, ↓reduceIte, reduceCtorEq] | (refine brP_i ?_ ?_ <;> intro hbr <;> try simp -implicitDefEqProofs -dsimp only [hbr]) | (refine br_i ?_ ?_ <;> intro hbr <;> try simp -implicitDefEqProofs -dsimp only [hbr]))
  · refine loop_n p.length (fun i => ⟨[(28, .w (.one (.int .i64 (i : Nat)))), (27, .w (.one (.int .i64 p.length))), (1, .w (.one (.hp 3 [] 0)))], [(3, .bx true [(.sl false 1 p.length (p.map T.str)), (.sl false 1 h.length (h.map T.str)), (.sl false 1 b.length (b.map T.bool))])], [.agg [.hs 0 [] 0 1 p.length, .hs 1 [] 0 1 h.length, .hs 2 [] 0 1 b.length]]⟩) (fun i => ∀ j, j < i → GoodAt p h b j) ?_ ?_ ?_
    · exact (imp_sub (by simp (maxSteps := 9000000) -implicitDefEqProofs -dsimp (disch := omega) only [go_sem, g19_0, g19_1, g19_2, g19_3, g19_4, g19_5, g19_6, g19_7, g19_8, g19_9, g19_10, i19, Nat.reduceEqDiff, Nat.reduceAdd, Nat.reduceMul, Nat.reduceLeDiff, Nat.reduceBEq, Nat.reduceBNe, Int.reduceEq, ↓reduceIte, reduceCtorEq]) (by simp (maxSteps := 9000000) -implicitDefEqProofs -dsimp (disch := omega) only [go_sem, g19_0, g19_1, g19_2, g19_3, g19_4, g19_5, g19_6, g19_7, g19_8, g19_9, g19_10, i19, Nat.reduceEqDiff, Nat.reduceAdd, Nat.reduceMul, Nat.reduceLeDiff, Nat.reduceBEq, Nat.reduceBNe, Int.reduceEq, ↓reduceIte, reduceCtorEq]) rfl)
    · intro j hj; omega
    · intro i hi hJ
      repeat' (first | simp (maxSteps := 9000000) -implicitDefEqProofs -dsimp (disch := omega) only [go_sem, g19_0, g19_1, g19_2, g19_3, g19_4, g19_5, g19_6, g19_7, g19_8, g19_9, g19_10, i19, lt_T, lt_F, le_T, le_F, eq_T, eq_F, and_F, Nat.reduceEqDiff, Nat.reduceAdd, Nat.reduceMul, Nat.reduceLeDiff, Nat.reduceBEq, Nat.reduceBNe, Int.reduceEq, ↓reduceIte, reduceCtorEq] | (refine brP_i ?_ ?_ <;> intro hbr <;> try simp -implicitDefEqProofs -dsimp only [hbr]) | (refine br_i ?_ ?_ <;> intro hbr <;> try simp -implicitDefEqProofs -dsimp only [hbr]))
      all_goals first
        | (refine ⟨⟨by omega, fun j hj => ?_⟩, (imp_sub (by simp (maxSteps := 9000000) -implicitDefEqProofs -dsimp (disch := omega) only [go_sem, g19_0, g19_1, g19_2, g19_3, g19_4, g19_5, g19_6, g19_7, g19_8, g19_9, g19_10, i19, Nat.reduceEqDiff, Nat.reduceAdd, Nat.reduceMul, Nat.reduceLeDiff, Nat.reduceBEq, Nat.reduceBNe, Int.reduceEq, ↓reduceIte, reduceCtorEq]) (by simp (maxSteps := 9000000) -implicitDefEqProofs -dsimp (disch := omega) only [go_sem, g19_0, g19_1, g19_2, g19_3, g19_4, g19_5, g19_6, g19_7, g19_8, g19_9, g19_10, i19, Nat.reduceEqDiff, Nat.reduceAdd, Nat.reduceMul, Nat.reduceLeDiff, Nat.reduceBEq, Nat.reduceBNe, Int.reduceEq, ↓reduceIte, reduceCtorEq]) rfl)⟩
           rcases Nat.lt_succ_iff_lt_or_eq.1 hj with h3 | rfl
           · exact hJ j h3
           · refine ⟨by omega, by omega, fun hb => ?_⟩; simp_all)
        | (refine need_i ?_ (by simp (maxSteps := 9000000) -implicitDefEqProofs -dsimp (disch := omega) only [go_sem, g19_0, g19_1, g19_2, g19_3, g19_4, g19_5, g19_6, g19_7, g19_8, g19_9, g19_10, i19, Nat.reduceEqDiff, Nat.reduceAdd, Nat.reduceMul, Nat.reduceLeDiff, Nat.reduceBEq, Nat.reduceBNe, Int.reduceEq, ↓reduceIte, reduceCtorEq])
           rw [decide_eq_true (show GoodD p h b from ⟨by omega, by omega, by omega, fun k hk => hJ k (by omega)⟩)])
        | (refine need_i ?_ (by simp (maxSteps := 9000000) -implicitDefEqProofs -dsimp (disch := omega) only [go_sem, g19_0, g19_1, g19_2, g19_3, g19_4, g19_5, g19_6, g19_7, g19_8, g19_9, g19_10, i19, Nat.reduceEqDiff, Nat.reduceAdd, Nat.reduceMul, Nat.reduceLeDiff, Nat.reduceBEq, Nat.reduceBNe, Int.reduceEq, ↓reduceIte, reduceCtorEq])
           rw [decide_eq_false]
           intro hg
           have := hg.2.2.2 i (by omega)
           unfold GoodAt at this
           simp_all <;> omega)
  all_goals (refine need_i ?_ (by simp (maxSteps := 9000000) -implicitDefEqProofs -dsimp (disch := omega) only [go_sem, g19_0, g19_1, g19_2, g19_3, g19_4, g19_5, g19_6, g19_7, g19_8, g19_9, g19_10, i19, Nat.reduceEqDiff, Nat.reduceAdd, Nat.reduceMul, Nat.reduceLeDiff, Nat.reduceBEq, Nat.reduceBNe, Int.reduceEq, ↓reduceIte, reduceCtorEq]); rw [decide_eq_false]; rintro ⟨q1, q2, q3, _⟩; omega)
def g21_0 : List Gop := [⟨none, (some 1), (.box (.t 0))⟩, ⟨none, (some 2), (.mov (.k (.one (.bool .false))))⟩]
def g21_1 : List Gop := [⟨none, (some 6), (.faddr (.t 1) 0)⟩, ⟨none, (some 7), (.load none (.t 6))⟩, ⟨none, (some 8), (.len (.t 7))⟩, ⟨none, (some 3), (.mov (.t 8))⟩]
def g21_2 : List Gop := [⟨none, (some 9), (.mov (.t 3))⟩, ⟨none, (some 10), (.call 59 [(.t 9), (.k (.one (.int .i64 1))), (.k (.one (.int .i64 24)))])⟩, ⟨none, (some 11), (.un .not (.t 10))⟩, ⟨none, (some 12), (.mov (.t 11))⟩, ⟨(some (12, .false)), (some 13), (.faddr (.t 1) 1)⟩, ⟨(some (12, .false)), (some 14), (.load none (.t 13))⟩, ⟨(some (12, .false)), (some 15), (.len (.t 14))⟩, ⟨(some (12, .false)), (some 16), (.mov (.t 3))⟩, ⟨(some (12, .false)), (some 17), (.bin .neq (.t 15) (.t 16))⟩, ⟨none, (some 18), (.pick (.t 12) (.k (.one (.bool .true))) (.t 17))⟩, ⟨none, (some 19), (.mov (.t 18))⟩, ⟨(some (19, .false)), (some 20), (.faddr (.t 1) 2)⟩, ⟨(some (19, .false)), (some 21), (.load none (.t 20))⟩, ⟨(some (19, .false)), (some 22), (.len (.t 21))⟩, ⟨(some (19, .false)), (some 23), (.mov (.t 3))⟩, ⟨(some (19, .false)), (some 24), (.bin .neq (.t 22) (.t 23))⟩, ⟨none, (some 25), (.pick (.t 19) (.k (.one (.bool .true))) (.t 24))⟩]
def g21_3 : List Gop := [⟨none, (some 2), (.mov (.k (.one (.bool .false))))⟩]
def g21_4 : List Gop := [⟨none, (some 26), (.faddr (.t 1) 0)⟩, ⟨none, (some 27), (.load none (.t 26))⟩, ⟨none, (some 28), (.len (.t 27))⟩, ⟨none, (some 29), (.mov (.k (.one (.int .i64 0))))⟩]
def g21_5 : List Gop := [⟨none, (some 30), (.bin .lss (.t 29) (.t 28))⟩]
def g21_6 : List Gop := [⟨none, (some 31), (.mov (.t 29))⟩, ⟨none, (some 32), (.iaddr 1 (.t 27) (.t 29))⟩, ⟨none, (some 33), (.load none (.t 32))⟩, ⟨none, (some 4), (.mov (.t 31))⟩, ⟨none, (some 5), (.mov (.t 33))⟩]
def g21_7 : List Gop := [⟨none, (some 34), (.mov (.t 5))⟩, ⟨none, (some 35), (.lent (.t 34))⟩, ⟨none, (some 36), (.bin .gtr (.t 35) (.k (.one (.int .i64 28))))⟩, ⟨none, (some 37), (.mov (.t 36))⟩, ⟨(some (37, .false)), (some 38), (.faddr (.t 1) 1)⟩, ⟨(some (37, .false)), (some 39), (.load none (.t 38))⟩, ⟨(some (37, .false)), (some 40), (.mov (.t 4))⟩, ⟨(some (37, .false)), (some 41), (.iaddr 1 (.t 39) (.t 40))⟩, ⟨(some (37, .false)), (some 42), (.load none (.t 41))⟩, ⟨(some (37, .false)), (some 43), (.lent (.t 42))⟩, ⟨(some (37, .false)), (some 44), (.bin .gtr (.t 43) (.k (.one (.int .i64 28))))⟩, ⟨none, (some 45), (.pick (.t 37) (.k (.one (.bool .true))) (.t 44))⟩, ⟨none, (some 46), (.mov (.t 45))⟩, ⟨(some (46, .false)), (some 47), (.faddr (.t 1) 2)⟩, ⟨(some (46, .false)), (some 48), (.load none (.t 47))⟩, ⟨(some (46, .false)), (some 49), (.mov (.t 4))⟩, ⟨(some (46, .false)), (some 50), (.iaddr 1 (.t 48) (.t 49))⟩, ⟨(some (46, .false)), (some 51), (.load none (.t 50))⟩, ⟨(some (46, .false)), (some 52), (.mov (.t 51))⟩, ⟨(some (52, .true)), (some 53), (.faddr (.t 1) 1)⟩, ⟨(some (52, .true)), (some 54), (.load none (.t 53))⟩, ⟨(some (52, .true)), (some 55), (.mov (.t 4))⟩, ⟨(some (52, .true)), (some 56), (.iaddr 1 (.t 54) (.t 55))⟩, ⟨(some (52, .true)), (some 57), (.load none (.t 56))⟩, ⟨(some (52, .true)), (some 58), (.bin .neq (.t 57) (.k (.one (.str ⟨#[]⟩))))⟩, ⟨(some (46, .false)), (some 59), (.pick (.t 52) (.t 58) (.k (.one (.bool .false))))⟩, ⟨none, (some 60), (.pick (.t 46) (.k (.one (.bool .true))) (.t 59))⟩]
def g21_8 : List Gop := [⟨none, (some 2), (.mov (.k (.one (.bool .false))))⟩]
def g21_9 : List Gop := [⟨none, (some 61), (.bin .add (.t 29) (.k (.one (.int .i64 1))))⟩, ⟨none, (some 29), (.mov (.t 61))⟩]
def g21_10 : List Gop := [⟨none, (some 2), (.mov (.k (.one (.bool .true))))⟩]
def i21 : Ir := (.seq (.region g21_0) (.seq (.region g21_1) (.seq (.seq (.region g21_2) (.cond (.t 25) (.seq (.region g21_3) .ret) .skip)) (.seq (.seq (.region g21_4) (.block 0 (.loop (.seq (.region g21_5) (.seq (.cond (.t 30) .skip (.exit 0)) (.seq (.block 1 (.seq (.region g21_6) (.seq (.region g21_7) (.cond (.t 60) (.seq (.region g21_8) .ret) .skip)))) (.region g21_9))))))) (.seq (.region g21_10) .ret)))))
theorem implGoodDisk_ok (p h : List ByteArray) (b : List Bool) (hp : p.length ≤ 9223372036854775807) (hh : h.length ≤ 9223372036854775807) (hb : b.length ≤ 9223372036854775807) : Meets Try.prog 21 [.agg [(.sl false 1 p.length (p.map T.str)), (.sl false 1 h.length (h.map T.str)), (.sl false 1 b.length (b.map T.bool))]] (.w (.one (.bool (decide (GoodD p h b))))) [.agg [.hole, .hole, .hole]] := by
  refine meets_go (ir := i21) (fn := Try.f21) (rx := [(.tmp 2)]) rfl rfl (by rfl) (by rfl) (by exact Nat.le_of_ble_eq_true rfl) ?_
  simp (maxSteps := 9000000) -implicitDefEqProofs -dsimp (disch := omega) only [go_sem, g21_0, g21_1, g21_2, g21_3, g21_4, g21_5, g21_6, g21_7, g21_8, g21_9, g21_10, i21, Nat.reduceEqDiff, Nat.reduceAdd, Nat.reduceMul, Nat.reduceLeDiff, Nat.reduceBEq, Nat.reduceBNe, Int.reduceEq, ↓reduceIte, reduceCtorEq]
  refine call_go true (within_ok p.length 1 24) ?_
  repeat' (first | simp (maxSteps := 9000000) -implicitDefEqProofs -dsimp (disch := omega) only [go_sem, g21_0, g21_1, g21_2, g21_3, g21_4, g21_5, g21_6, g21_7, g21_8, g21_9, g21_10, i21, lt_T, lt_F, le_T, le_F, eq_T, eq_F, and_F, Nat.reduceEqDiff, Nat.reduceAdd, Nat.reduceMul, Nat.reduceLeDiff, Nat.reduceBEq, Nat.reduceBNe, Int.reduceEq, ↓reduceIte, reduceCtorEq] | (refine brP_i ?_ ?_ <;> intro hbr <;> try simp -implicitDefEqProofs -dsimp only [hbr]) | (refine br_i ?_ ?_ <;> intro hbr <;> try simp -implicitDefEqProofs -dsimp only [hbr]))
  · refine loop_n p.length (fun i => ⟨[(29, .w (.one (.int .i64 (i : Nat)))), (28, .w (.one (.int .i64 p.length))), (27, .w (.one (.hs 3 [0] 0 1 p.length))), (1, .w (.one (.hp 3 [] 0)))], [(3, .bx true [(.sl false 1 p.length (p.map T.str)), (.sl false 1 h.length (h.map T.str)), (.sl false 1 b.length (b.map T.bool))])], [.agg [.hs 0 [] 0 1 p.length, .hs 1 [] 0 1 h.length, .hs 2 [] 0 1 b.length]]⟩) (fun i => ∀ j, j < i → GoodAt p h b j) ?_ ?_ ?_
    · exact (imp_sub (by simp (maxSteps := 9000000) -implicitDefEqProofs -dsimp (disch := omega) only [go_sem, g21_0, g21_1, g21_2, g21_3, g21_4, g21_5, g21_6, g21_7, g21_8, g21_9, g21_10, i21, Nat.reduceEqDiff, Nat.reduceAdd, Nat.reduceMul, Nat.reduceLeDiff, Nat.reduceBEq, Nat.reduceBNe, Int.reduceEq, ↓reduceIte, reduceCtorEq]) (by simp (maxSteps := 9000000) -implicitDefEqProofs -dsimp (disch := omega) only [go_sem, g21_0, g21_1, g21_2, g21_3, g21_4, g21_5, g21_6, g21_7, g21_8, g21_9, g21_10, i21, Nat.reduceEqDiff, Nat.reduceAdd, Nat.reduceMul, Nat.reduceLeDiff, Nat.reduceBEq, Nat.reduceBNe, Int.reduceEq, ↓reduceIte, reduceCtorEq]) rfl)
    · intro j hj; omega
    · intro i hi hJ
      repeat' (first | simp (maxSteps := 9000000) -implicitDefEqProofs -dsimp (disch := omega) only [go_sem, g21_0, g21_1, g21_2, g21_3, g21_4, g21_5, g21_6, g21_7, g21_8, g21_9, g21_10, i21, lt_T, lt_F, le_T, le_F, eq_T, eq_F, and_F, Nat.reduceEqDiff, Nat.reduceAdd, Nat.reduceMul, Nat.reduceLeDiff, Nat.reduceBEq, Nat.reduceBNe, Int.reduceEq, ↓reduceIte, reduceCtorEq] | (refine brP_i ?_ ?_ <;> intro hbr <;> try simp -implicitDefEqProofs -dsimp only [hbr]) | (refine br_i ?_ ?_ <;> intro hbr <;> try simp -implicitDefEqProofs -dsimp only [hbr]))
      all_goals first
        | (refine ⟨⟨by omega, fun j hj => ?_⟩, (imp_sub (by simp (maxSteps := 9000000) -implicitDefEqProofs -dsimp (disch := omega) only [go_sem, g21_0, g21_1, g21_2, g21_3, g21_4, g21_5, g21_6, g21_7, g21_8, g21_9, g21_10, i21, Nat.reduceEqDiff, Nat.reduceAdd, Nat.reduceMul, Nat.reduceLeDiff, Nat.reduceBEq, Nat.reduceBNe, Int.reduceEq, ↓reduceIte, reduceCtorEq]) (by simp (maxSteps := 9000000) -implicitDefEqProofs -dsimp (disch := omega) only [go_sem, g21_0, g21_1, g21_2, g21_3, g21_4, g21_5, g21_6, g21_7, g21_8, g21_9, g21_10, i21, Nat.reduceEqDiff, Nat.reduceAdd, Nat.reduceMul, Nat.reduceLeDiff, Nat.reduceBEq, Nat.reduceBNe, Int.reduceEq, ↓reduceIte, reduceCtorEq]) rfl)⟩
           rcases Nat.lt_succ_iff_lt_or_eq.1 hj with h3 | rfl
           · exact hJ j h3
           · refine ⟨by omega, by omega, fun hb => ?_⟩; simp_all)
        | (refine need_i ?_ (by simp (maxSteps := 9000000) -implicitDefEqProofs -dsimp (disch := omega) only [go_sem, g21_0, g21_1, g21_2, g21_3, g21_4, g21_5, g21_6, g21_7, g21_8, g21_9, g21_10, i21, Nat.reduceEqDiff, Nat.reduceAdd, Nat.reduceMul, Nat.reduceLeDiff, Nat.reduceBEq, Nat.reduceBNe, Int.reduceEq, ↓reduceIte, reduceCtorEq])
           rw [decide_eq_true (show GoodD p h b from ⟨by omega, by omega, by omega, fun k hk => hJ k (by omega)⟩)])
        | (refine need_i ?_ (by simp (maxSteps := 9000000) -implicitDefEqProofs -dsimp (disch := omega) only [go_sem, g21_0, g21_1, g21_2, g21_3, g21_4, g21_5, g21_6, g21_7, g21_8, g21_9, g21_10, i21, Nat.reduceEqDiff, Nat.reduceAdd, Nat.reduceMul, Nat.reduceLeDiff, Nat.reduceBEq, Nat.reduceBNe, Int.reduceEq, ↓reduceIte, reduceCtorEq])
           rw [decide_eq_false]
           intro hg
           have := hg.2.2.2 i (by omega)
           unfold GoodAt at this
           simp_all <;> omega)
  all_goals (refine need_i ?_ (by simp (maxSteps := 9000000) -implicitDefEqProofs -dsimp (disch := omega) only [go_sem, g21_0, g21_1, g21_2, g21_3, g21_4, g21_5, g21_6, g21_7, g21_8, g21_9, g21_10, i21, Nat.reduceEqDiff, Nat.reduceAdd, Nat.reduceMul, Nat.reduceLeDiff, Nat.reduceBEq, Nat.reduceBNe, Int.reduceEq, ↓reduceIte, reduceCtorEq]); rw [decide_eq_false]; rintro ⟨q1, q2, q3, _⟩; omega)
end Go.Proofs.YtjlodcoeegpkaaaT

/- Functions of the program as contracts: copies of disks, what is held. No condition. -/
set_option maxRecDepth 100000
set_option maxHeartbeats 4000000
set_option linter.unusedSimpArgs false
set_option linter.unusedVariables false
namespace Go.Proofs.YtjlodcoeegpkaaaT
open Go
theorem cloneStr_ok (l : List ByteArray) (hl : l.length ≤ 1048576) : Meets Try.prog 100 [.one (.sl false 1 l.length (l.map T.str))] (.w (.one (.sl true 1 l.length (l.map T.str)))) [.one .hole] := by
  refine clone_meets fStr (e := 9) (fun hz b o c w hc => ?_) (fun hz a c w => ?_)
  · refine (Try.slices_Clone_string b o l.length c l w (Nat.le_refl _) (by omega) (fun j hj => ?_)).mono ?_
    · have := hc j (l.getD j ByteArray.empty) (by simp [List.getD_eq_getElem?_getD, hj])
      exact this
    · rintro e w' ⟨v, rfl, ho, _, hb⟩
      rw [List.take_length] at ho
      exact ⟨v, rfl, ho, hb⟩
  · cases a with
    | none =>
      refine (Try.slices_Clone_string_nil _ _ _).mono ?_
      rintro e w' ⟨rfl, rfl⟩
      exact ⟨_, rfl, ⟨rfl, .inl ⟨rfl, rfl⟩⟩, .refl _ _⟩
    | some a =>
      refine (Try.slices_Clone_string_zero a c w).mono ?_
      rintro e w' ⟨v, rfl, ho, _, hb⟩
      exact ⟨v, rfl, ho, hb⟩
theorem cloneBool_ok (l : List Bool) (hz : l ≠ []) (hl : l.length ≤ 1048576) : Meets Try.prog 101 [.one (.sl false 1 l.length (l.map T.bool))] (.w (.one (.sl true 1 l.length (l.map T.bool)))) [.one .hole] := by
  refine clone_meets fBool (e := 4) (fun _ b o c w hc => ?_) (fun h => absurd h hz)
  have hI : (Try.prog.info? 4).map (fun i => (i.zero, i.size, i.bytes)) = some (some (.bool false), 1, 1) := by kernel_rfl
  obtain ⟨i0, hi, he⟩ := Option.map_eq_some_iff.1 hI
  simp only [Prod.mk.injEq] at he
  obtain ⟨h0, h1, h2⟩ := he
  refine (Try.slices_Clone_f101 i0 (.bool false) 1 1 hi h0 h1 h2 rfl (by omega) Try.sizeOf4 b o l.length c (l.map Value.bool) w (by simp) (by unfold maxLen; omega) (by omega) (fun j u hu => ?_) (fun u hu => ?_)).mono ?_
  · rw [List.getElem?_map] at hu
    obtain ⟨x, hx, rfl⟩ := Option.map_eq_some_iff.1 hu
    exact hc j x hx
  · obtain ⟨x, _, rfl⟩ := List.mem_map.1 hu
    rfl
  · rintro e w' ⟨v, rfl, ho, _, hb⟩
    exact ⟨v, rfl, ho, hb⟩
def g76_0 : List Gop := [⟨none, (some 1), (.box (.t 0))⟩, ⟨none, (some 2), (.alloc [.nil, .nil, .nil])⟩]
def g76_1 : List Gop := [⟨none, (some 3), (.lit 1 0 [(.str ⟨#[]⟩)] [])⟩, ⟨none, (some 4), (.faddr (.t 1) 0)⟩, ⟨none, (some 5), (.load none (.t 4))⟩, ⟨none, (some 6), (.app 1 16 [(.str ⟨#[]⟩)] (.t 3) (.t 5))⟩, ⟨none, (some 7), (.lit 1 0 [(.str ⟨#[]⟩)] [])⟩, ⟨none, (some 8), (.faddr (.t 1) 1)⟩, ⟨none, (some 9), (.load none (.t 8))⟩, ⟨none, (some 10), (.app 1 16 [(.str ⟨#[]⟩)] (.t 7) (.t 9))⟩, ⟨none, (some 11), (.lit 1 0 [(.bool .false)] [])⟩, ⟨none, (some 12), (.faddr (.t 1) 2)⟩, ⟨none, (some 13), (.load none (.t 12))⟩, ⟨none, (some 14), (.app 1 1 [(.bool .false)] (.t 11) (.t 13))⟩, ⟨none, (some 15), (.build [.nil, .nil, .nil] [(0, (1, (.t 6))), (1, (1, (.t 10))), (2, (1, (.t 14)))])⟩, ⟨none, none, (.store 3 (.t 2) (.t 15))⟩]
def a76_1 : List (List Nat) := [[], [], [1], [0, 1, 2], [], [], [5], [0, 1, 2, 3, 4, 5, 6], [], [], [9], [0, 1, 2, 3, 4, 5, 6, 7, 8, 9, 10], [0, 1, 2, 3, 4, 5, 6, 7, 8, 9, 10, 11], [0, 1, 2, 3, 4, 5, 6, 7, 8, 9, 10, 11, 12]]
def n76_1 : Nat := 11 -- of 14
def i76 : Ir := (.seq (.region g76_0) (.seq (.draw [[], [], [1], [0, 2], [], [], [5], [4, 6, 3], [], [], [9], [8, 10, 7], [3, 7, 11], [12, 11, 0, 1, 2, 3, 4, 5, 6, 7, 8, 9, 10, 11, 12]] g76_1) .ret))
theorem l7Own_ok (p h : List ByteArray) (b : List Bool) (hp : p.length ≤ 1048576) (hh : h.length ≤ 1048576) (hb : b.length ≤ 1048576) : Meets Try.prog 76 [.agg [(.sl false 1 p.length (p.map T.str)), (.sl false 1 h.length (h.map T.str)), (.sl false 1 b.length (b.map T.bool))]] (.w (.agg [(.sl true 1 p.length (p.map T.str)), (.sl true 1 h.length (h.map T.str)), (.sl true 1 b.length (b.map T.bool))])) [.agg [.hole, .hole, .hole]] := by
  refine meets_go (ir := i76) (fn := Try.f76) (rx := [(.cell 2 (some 3))]) rfl rfl (by rfl) (by rfl) (by exact Nat.le_of_ble_eq_true rfl) ?_
  simp (maxSteps := 9000000) -implicitDefEqProofs -dsimp (disch := omega) only [go_sem, g76_0, g76_1, a76_1, n76_1, i76, Nat.reduceEqDiff, Nat.reduceAdd, Nat.reduceMul, Nat.reduceLeDiff, Nat.reduceBEq, Nat.reduceBNe, Int.reduceEq, ↓reduceIte, reduceCtorEq]
  refine draw_go n76_1 a76_1 (by decide +kernel) ?_
  simp (maxSteps := 9000000) -implicitDefEqProofs -dsimp (disch := omega) only [go_sem, g76_0, g76_1, a76_1, n76_1, i76, Nat.reduceEqDiff, Nat.reduceAdd, Nat.reduceMul, Nat.reduceLeDiff, Nat.reduceBEq, Nat.reduceBNe, Int.reduceEq, ↓reduceIte, reduceCtorEq]
def g93_0 : List Gop := [⟨none, (some 1), (.box (.t 0))⟩, ⟨none, (some 2), (.alloc [.nil, .nil, .nil])⟩]
def g93_1 : List Gop := [⟨none, (some 3), (.faddr (.t 1) 0)⟩, ⟨none, (some 4), (.load none (.t 3))⟩, ⟨none, (some 5), (.call 100 [(.t 4)])⟩, ⟨none, (some 6), (.faddr (.t 1) 1)⟩, ⟨none, (some 7), (.load none (.t 6))⟩, ⟨none, (some 8), (.call 100 [(.t 7)])⟩, ⟨none, (some 9), (.faddr (.t 1) 2)⟩, ⟨none, (some 10), (.load none (.t 9))⟩, ⟨none, (some 11), (.call 101 [(.t 10)])⟩, ⟨none, (some 12), (.build [.nil, .nil, .nil] [(0, (1, (.t 5))), (1, (1, (.t 8))), (2, (1, (.t 11)))])⟩, ⟨none, none, (.store 3 (.t 2) (.t 12))⟩]
def a93_1 : List (List Nat) := [[], [0], [0, 1], [], [3], [0, 1, 2, 3, 4], [], [6], [0, 1, 2, 3, 4, 5, 6, 7], [0, 1, 2, 3, 4, 5, 6, 7, 8], [0, 1, 2, 3, 4, 5, 6, 7, 8, 9]]
def n93_1 : Nat := 8 -- of 11
def i93 : Ir := (.seq (.region g93_0) (.seq (.draw [[], [0], [1], [], [3], [4, 2], [], [6], [7, 5], [2, 5, 8], [9, 8, 0, 1, 2, 3, 4, 5, 6, 7, 8, 9]] g93_1) .ret))
theorem ownDisk_ok (p h : List ByteArray) (b : List Bool) (hz : b ≠ []) (hp : p.length ≤ 1048576) (hh : h.length ≤ 1048576) (hb : b.length ≤ 1048576) : Meets Try.prog 93 [.agg [(.sl false 1 p.length (p.map T.str)), (.sl false 1 h.length (h.map T.str)), (.sl false 1 b.length (b.map T.bool))]] (.w (.agg [(.sl true 1 p.length (p.map T.str)), (.sl true 1 h.length (h.map T.str)), (.sl true 1 b.length (b.map T.bool))])) [.agg [.hole, .hole, .hole]] := by
  refine meets_go (ir := i93) (fn := Try.f93) (rx := [(.cell 2 (some 3))]) rfl rfl (by rfl) (by rfl) (by exact Nat.le_of_ble_eq_true rfl) ?_
  simp (maxSteps := 9000000) -implicitDefEqProofs -dsimp (disch := omega) only [go_sem, g93_0, g93_1, a93_1, n93_1, i93, Nat.reduceEqDiff, Nat.reduceAdd, Nat.reduceMul, Nat.reduceLeDiff, Nat.reduceBEq, Nat.reduceBNe, Int.reduceEq, ↓reduceIte, reduceCtorEq]
  refine draw_go n93_1 a93_1 (by decide +kernel) ?_
  simp (maxSteps := 9000000) -implicitDefEqProofs -dsimp (disch := omega) only [go_sem, g93_0, g93_1, a93_1, n93_1, i93, Nat.reduceEqDiff, Nat.reduceAdd, Nat.reduceMul, Nat.reduceLeDiff, Nat.reduceBEq, Nat.reduceBNe, Int.reduceEq, ↓reduceIte, reduceCtorEq]
  refine calla_go true (cloneStr_ok p hp) ?_
  simp (maxSteps := 9000000) -implicitDefEqProofs -dsimp (disch := omega) only [go_sem, g93_0, g93_1, a93_1, n93_1, i93, Nat.reduceEqDiff, Nat.reduceAdd, Nat.reduceMul, Nat.reduceLeDiff, Nat.reduceBEq, Nat.reduceBNe, Int.reduceEq, ↓reduceIte, reduceCtorEq]
  refine calla_go true (cloneStr_ok h hh) ?_
  simp (maxSteps := 9000000) -implicitDefEqProofs -dsimp (disch := omega) only [go_sem, g93_0, g93_1, a93_1, n93_1, i93, Nat.reduceEqDiff, Nat.reduceAdd, Nat.reduceMul, Nat.reduceLeDiff, Nat.reduceBEq, Nat.reduceBNe, Int.reduceEq, ↓reduceIte, reduceCtorEq]
  refine call_go true (cloneBool_ok b hz hb) ?_
  simp (maxSteps := 9000000) -implicitDefEqProofs -dsimp (disch := omega) only [go_sem, g93_0, g93_1, a93_1, n93_1, i93, Nat.reduceEqDiff, Nat.reduceAdd, Nat.reduceMul, Nat.reduceLeDiff, Nat.reduceBEq, Nat.reduceBNe, Int.reduceEq, ↓reduceIte, reduceCtorEq]
def g69_0 : List Gop := [⟨none, (some 2), (.box (.t 0))⟩, ⟨none, (some 4), (.mov (.k (.one (.bool .false))))⟩]
def g69_1 : List Gop := [⟨none, (some 5), (.mov (.t 1))⟩, ⟨none, (some 6), (.bin .geq (.t 5) (.k (.one (.int .i64 0))))⟩, ⟨none, (some 7), (.mov (.t 6))⟩, ⟨(some (7, .true)), (some 8), (.mov (.t 1))⟩, ⟨(some (7, .true)), (some 9), (.faddr (.t 2) 0)⟩, ⟨(some (7, .true)), (some 10), (.load none (.t 9))⟩, ⟨(some (7, .true)), (some 11), (.len (.t 10))⟩, ⟨(some (7, .true)), (some 12), (.bin .lss (.t 8) (.t 11))⟩, ⟨none, (some 13), (.pick (.t 7) (.t 12) (.k (.one (.bool .false))))⟩, ⟨none, (some 4), (.mov (.t 13))⟩]
def i69 : Ir := (.seq (.region g69_0) (.seq (.region g69_1) .ret))
theorem l7There_ok (p h : List ByteArray) (b : List Bool) (x : Int) (hp : p.length ≤ 1048576) (hh : h.length ≤ 1048576) (hb : b.length ≤ 1048576) : Meets Try.prog 69 [.agg [(.sl false 1 p.length (p.map T.str)), (.sl false 1 h.length (h.map T.str)), (.sl false 1 b.length (b.map T.bool))], .one (.int .i64 x)] (.w (.one (.bool (decide (0 ≤ x ∧ x < p.length))))) [.agg [.hole, .hole, .hole], .one .hole] := by
  refine meets_go (ir := i69) (fn := Try.f69) (rx := [(.tmp 4)]) rfl rfl (by rfl) (by rfl) (by exact Nat.le_of_ble_eq_true rfl) ?_
  repeat' (first | simp (maxSteps := 9000000) -implicitDefEqProofs -dsimp (disch := omega) only [go_sem, g69_0, g69_1, i69, lt_T, lt_F, le_T, le_F, eq_T, eq_F, and_F, Nat.reduceEqDiff, Nat.reduceAdd, Nat.reduceMul, Nat.reduceLeDiff, Nat.reduceBEq, Nat.reduceBNe, Int.reduceEq, ↓reduceIte, reduceCtorEq] | (refine brP_i ?_ ?_ <;> intro hbr <;> try simp -implicitDefEqProofs -dsimp only [hbr]) | (refine br_i ?_ ?_ <;> intro hbr <;> try simp -implicitDefEqProofs -dsimp only [hbr]))
def g71_0 : List Gop := [⟨none, (some 2), (.box (.t 0))⟩, ⟨none, (some 4), (.mov (.k (.one (.bool .false))))⟩]
def g71_1 : List Gop := [⟨none, (some 5), (.mov (.t 1))⟩, ⟨none, (some 6), (.faddr (.t 2) 0)⟩, ⟨none, (some 7), (.load none (.t 6))⟩, ⟨none, (some 8), (.len (.t 7))⟩, ⟨none, (some 9), (.bin .sub (.t 8) (.k (.one (.int .i64 1))))⟩, ⟨none, (some 10), (.call 59 [(.t 5), (.k (.one (.int .i64 0))), (.t 9)])⟩, ⟨none, (some 4), (.mov (.t 10))⟩]
def i71 : Ir := (.seq (.region g71_0) (.seq (.region g71_1) .ret))
theorem has_ok (p h : List ByteArray) (b : List Bool) (x : Int) (hp : p.length ≤ 1048576) (hh : h.length ≤ 1048576) (hb : b.length ≤ 1048576) : Meets Try.prog 71 [.agg [(.sl false 1 p.length (p.map T.str)), (.sl false 1 h.length (h.map T.str)), (.sl false 1 b.length (b.map T.bool))], .one (.int .i64 x)] (.w (.one (.bool (decide (0 ≤ x ∧ x < p.length))))) [.agg [.hole, .hole, .hole], .one .hole] := by
  refine meets_go (ir := i71) (fn := Try.f71) (rx := [(.tmp 4)]) rfl rfl (by rfl) (by rfl) (by exact Nat.le_of_ble_eq_true rfl) ?_
  simp (maxSteps := 9000000) -implicitDefEqProofs -dsimp (disch := omega) only [go_sem, g71_0, g71_1, i71, Nat.reduceEqDiff, Nat.reduceAdd, Nat.reduceMul, Nat.reduceLeDiff, Nat.reduceBEq, Nat.reduceBNe, Int.reduceEq, ↓reduceIte, reduceCtorEq]
  refine call_go true (within_ok x 0 (p.length - 1)) ?_
  simp (maxSteps := 9000000) -implicitDefEqProofs -dsimp (disch := omega) only [go_sem, g71_0, g71_1, i71, Nat.reduceEqDiff, Nat.reduceAdd, Nat.reduceMul, Nat.reduceLeDiff, Nat.reduceBEq, Nat.reduceBNe, Int.reduceEq, ↓reduceIte, reduceCtorEq]
  exact need_i (res_dec (by omega)) (by simp (maxSteps := 9000000) -implicitDefEqProofs -dsimp (disch := omega) only [go_sem, g71_0, g71_1, i71, Nat.reduceEqDiff, Nat.reduceAdd, Nat.reduceMul, Nat.reduceLeDiff, Nat.reduceBEq, Nat.reduceBNe, Int.reduceEq, ↓reduceIte, reduceCtorEq])
def heldN (l : List ByteArray) (i : Nat) : List Int := ((List.range i).filter fun j => decide (¬ l.getD j default = e0)).map fun (j : Nat) => (j : Int)
theorem heldN_0 (l : List ByteArray) : heldN l 0 = [] := rfl
theorem heldN_no {l : List ByteArray} {i : Nat} (h : l.getD i default = ⟨#[]⟩) : heldN l (i + 1) = heldN l i := by
  simp only [heldN, List.range_succ, List.filter_append, List.map_append]
  rw [show List.filter (fun j => decide ¬l.getD j default = e0) [i] = [] from by simp only [List.filter_cons, List.filter_nil, h]; simp]
  simp
theorem heldN_yes {l : List ByteArray} {i : Nat} (h : ¬ l.getD i default = ⟨#[]⟩) : heldN l (i + 1) = heldN l i ++ [(i : Int)] := by
  simp only [heldN, List.range_succ, List.filter_append, List.map_append]
  rw [show List.filter (fun j => decide ¬l.getD j default = e0) [i] = [i] from by simp only [List.filter_cons, List.filter_nil]; rw [if_pos (by simpa using h)]]
  simp
theorem heldN_le {l : List ByteArray} {i : Nat} : (heldN l i).length ≤ i := by
  have := List.length_filter_le (fun j => decide (¬ l.getD j default = e0)) (List.range i)
  simpa [heldN] using this
def g72_0 : List Gop := [⟨none, (some 1), (.box (.t 0))⟩, ⟨none, (some 2), (.mov (.k (.one .nil)))⟩]
def g72_1 : List Gop := [⟨none, (some 3), (.mov (.k (.one .nil)))⟩]
def g72_2 : List Gop := [⟨none, (some 6), (.faddr (.t 1) 1)⟩, ⟨none, (some 7), (.load none (.t 6))⟩, ⟨none, (some 8), (.len (.t 7))⟩, ⟨none, (some 9), (.mov (.k (.one (.int .i64 0))))⟩]
def g72_3 : List Gop := [⟨none, (some 10), (.bin .lss (.t 9) (.t 8))⟩]
def g72_4 : List Gop := [⟨none, (some 11), (.mov (.t 9))⟩, ⟨none, (some 12), (.iaddr 1 (.t 7) (.t 9))⟩, ⟨none, (some 13), (.load none (.t 12))⟩, ⟨none, (some 4), (.mov (.t 11))⟩, ⟨none, (some 5), (.mov (.t 13))⟩]
def g72_5 : List Gop := [⟨none, (some 14), (.mov (.t 5))⟩, ⟨none, (some 15), (.bin .neq (.t 14) (.k (.one (.str ⟨#[]⟩))))⟩]
def g72_6 : List Gop := [⟨none, (some 16), (.mov (.t 3))⟩, ⟨none, (some 17), (.mov (.t 4))⟩, ⟨none, (some 18), (.lit 1 1 [(.int .i64 0)] [(0, (.t 17))])⟩, ⟨none, (some 19), (.app 1 8 [(.int .i64 0)] (.t 16) (.t 18))⟩, ⟨none, (some 3), (.mov (.t 19))⟩]
def g72_7 : List Gop := [⟨none, (some 20), (.bin .add (.t 9) (.k (.one (.int .i64 1))))⟩, ⟨none, (some 9), (.mov (.t 20))⟩]
def g72_8 : List Gop := [⟨none, (some 21), (.mov (.t 3))⟩, ⟨none, (some 2), (.mov (.t 21))⟩]
def i72 : Ir := (.seq (.region g72_0) (.seq (.region g72_1) (.seq (.seq (.region g72_2) (.block 0 (.loop (.seq (.region g72_3) (.seq (.cond (.t 10) .skip (.exit 0)) (.seq (.block 1 (.seq (.region g72_4) (.seq (.region g72_5) (.cond (.t 15) (.region g72_6) .skip)))) (.region g72_7))))))) (.seq (.region g72_8) .ret))))
theorem l7Held_ok (a b : List ByteArray) (c : List Bool) (hl : b.length ≤ 1048576) : Meets Try.prog 72 [.agg [(.sl false 1 a.length (a.map T.str)), (.sl false 1 b.length (b.map T.str)), (.sl false 1 c.length (c.map T.bool))]] (.w (.one (.sl true 1 (heldN b b.length).length ((heldN b b.length).map (T.int .i64))))) [.agg [.hole, .hole, .hole]] := by
  refine meets_go (ir := i72) (fn := Try.f72) (rx := [(.tmp 2)]) rfl rfl (by rfl) (by rfl) (by exact Nat.le_of_ble_eq_true rfl) ?_
  simp (maxSteps := 9000000) -implicitDefEqProofs -dsimp (disch := omega) only [go_sem, g72_0, g72_1, g72_2, g72_3, g72_4, g72_5, g72_6, g72_7, g72_8, i72, Nat.reduceEqDiff, Nat.reduceAdd, Nat.reduceMul, Nat.reduceLeDiff, Nat.reduceBEq, Nat.reduceBNe, Int.reduceEq, ↓reduceIte, reduceCtorEq]
  refine loop_n b.length (fun i => ⟨[(9, .w (.one (.int .i64 (i : Nat)))), (8, .w (.one (.int .i64 b.length))), (7, .w (.one (.hs 3 [1] 0 1 b.length))), (3, .w (.one (.hs 4 [] 0 1 (heldN b i).length))), (1, .w (.one (.hp 3 [] 0)))],
    [(4, (.sl true 1 (heldN b i).length ((heldN b i).map (T.int .i64)))), (3, .bx true [(.sl false 1 a.length (a.map T.str)), (.sl false 1 b.length (b.map T.str)), (.sl false 1 c.length (c.map T.bool))])], [.agg [.hs 0 [] 0 1 a.length, .hs 1 [] 0 1 b.length, .hs 2 [] 0 1 c.length]]⟩) (fun i => True) ?_ trivial ?_
  · exact (imp_adopt 3 4 1 rfl rfl).trans (imp_sub (by simp (maxSteps := 9000000) -implicitDefEqProofs -dsimp (disch := omega) only [go_sem, g72_0, g72_1, g72_2, g72_3, g72_4, g72_5, g72_6, g72_7, g72_8, i72, heldN_0, Nat.reduceEqDiff, Nat.reduceAdd, Nat.reduceMul, Nat.reduceLeDiff, Nat.reduceBEq, Nat.reduceBNe, Int.reduceEq, ↓reduceIte, reduceCtorEq]) (by simp (maxSteps := 9000000) -implicitDefEqProofs -dsimp (disch := omega) only [go_sem, g72_0, g72_1, g72_2, g72_3, g72_4, g72_5, g72_6, g72_7, g72_8, i72, heldN_0, Nat.reduceEqDiff, Nat.reduceAdd, Nat.reduceMul, Nat.reduceLeDiff, Nat.reduceBEq, Nat.reduceBNe, Int.reduceEq, ↓reduceIte, reduceCtorEq]) rfl)
  · intro i hi hJ
    have hle := heldN_le (l := b) (i := i)
    simp (maxSteps := 9000000) -implicitDefEqProofs -dsimp (disch := omega) only [go_sem, g72_0, g72_1, g72_2, g72_3, g72_4, g72_5, g72_6, g72_7, g72_8, i72, Nat.reduceEqDiff, Nat.reduceAdd, Nat.reduceMul, Nat.reduceLeDiff, Nat.reduceBEq, Nat.reduceBNe, Int.reduceEq, ↓reduceIte, reduceCtorEq]
    refine brP_i (fun h => ?_) (fun h => ?_)
    · simp (maxSteps := 9000000) -implicitDefEqProofs -dsimp (disch := omega) only [go_sem, g72_0, g72_1, g72_2, g72_3, g72_4, g72_5, g72_6, g72_7, g72_8, i72, Nat.reduceEqDiff, Nat.reduceAdd, Nat.reduceMul, Nat.reduceLeDiff, Nat.reduceBEq, Nat.reduceBNe, Int.reduceEq, ↓reduceIte, reduceCtorEq]
      refine brP_i (fun h2 => ?_) (fun h2 => ?_)
      · simp (maxSteps := 9000000) -implicitDefEqProofs -dsimp (disch := omega) only [go_sem, g72_0, g72_1, g72_2, g72_3, g72_4, g72_5, g72_6, g72_7, g72_8, i72, Nat.reduceEqDiff, Nat.reduceAdd, Nat.reduceMul, Nat.reduceLeDiff, Nat.reduceBEq, Nat.reduceBNe, Int.reduceEq, ↓reduceIte, reduceCtorEq]
        exact ⟨by omega, (imp_sub (by simp (maxSteps := 9000000) -implicitDefEqProofs -dsimp (disch := omega) only [go_sem, g72_0, g72_1, g72_2, g72_3, g72_4, g72_5, g72_6, g72_7, g72_8, i72, heldN_no h2, Nat.reduceEqDiff, Nat.reduceAdd, Nat.reduceMul, Nat.reduceLeDiff, Nat.reduceBEq, Nat.reduceBNe, Int.reduceEq, ↓reduceIte, reduceCtorEq]) (by simp (maxSteps := 9000000) -implicitDefEqProofs -dsimp (disch := omega) only [go_sem, g72_0, g72_1, g72_2, g72_3, g72_4, g72_5, g72_6, g72_7, g72_8, i72, heldN_no h2, Nat.reduceEqDiff, Nat.reduceAdd, Nat.reduceMul, Nat.reduceLeDiff, Nat.reduceBEq, Nat.reduceBNe, Int.reduceEq, ↓reduceIte, reduceCtorEq]) rfl)⟩
      · simp (maxSteps := 9000000) -implicitDefEqProofs -dsimp (disch := omega) only [go_sem, g72_0, g72_1, g72_2, g72_3, g72_4, g72_5, g72_6, g72_7, g72_8, i72, Nat.reduceEqDiff, Nat.reduceAdd, Nat.reduceMul, Nat.reduceLeDiff, Nat.reduceBEq, Nat.reduceBNe, Int.reduceEq, ↓reduceIte, reduceCtorEq]
        exact ⟨by omega, (imp_ren 6 4 rfl rfl).trans (imp_sub (by simp (maxSteps := 9000000) -implicitDefEqProofs -dsimp (disch := omega) only [go_sem, g72_0, g72_1, g72_2, g72_3, g72_4, g72_5, g72_6, g72_7, g72_8, i72, heldN_yes h2, Nat.reduceEqDiff, Nat.reduceAdd, Nat.reduceMul, Nat.reduceLeDiff, Nat.reduceBEq, Nat.reduceBNe, Int.reduceEq, ↓reduceIte, reduceCtorEq]) (by simp (maxSteps := 9000000) -implicitDefEqProofs -dsimp (disch := omega) only [go_sem, g72_0, g72_1, g72_2, g72_3, g72_4, g72_5, g72_6, g72_7, g72_8, i72, heldN_yes h2, Nat.reduceEqDiff, Nat.reduceAdd, Nat.reduceMul, Nat.reduceLeDiff, Nat.reduceBEq, Nat.reduceBNe, Int.reduceEq, ↓reduceIte, reduceCtorEq]) rfl)⟩
    · obtain rfl : i = b.length := by omega
      simp (maxSteps := 9000000) -implicitDefEqProofs -dsimp (disch := omega) only [go_sem, g72_0, g72_1, g72_2, g72_3, g72_4, g72_5, g72_6, g72_7, g72_8, i72, Nat.reduceEqDiff, Nat.reduceAdd, Nat.reduceMul, Nat.reduceLeDiff, Nat.reduceBEq, Nat.reduceBNe, Int.reduceEq, ↓reduceIte, reduceCtorEq]
def g73_0 : List Gop := [⟨none, (some 1), (.box (.t 0))⟩, ⟨none, (some 2), (.mov (.k (.one .nil)))⟩]
def g73_1 : List Gop := [⟨none, (some 6), (.lit 1 0 [(.int .i64 0)] [])⟩, ⟨none, (some 3), (.mov (.t 6))⟩]
def g73_2 : List Gop := [⟨none, (some 7), (.faddr (.t 1) 1)⟩, ⟨none, (some 8), (.load none (.t 7))⟩, ⟨none, (some 9), (.len (.t 8))⟩, ⟨none, (some 10), (.mov (.k (.one (.int .i64 0))))⟩]
def g73_3 : List Gop := [⟨none, (some 11), (.bin .lss (.t 10) (.t 9))⟩]
def g73_4 : List Gop := [⟨none, (some 12), (.mov (.t 10))⟩, ⟨none, (some 13), (.iaddr 1 (.t 8) (.t 10))⟩, ⟨none, (some 14), (.load none (.t 13))⟩, ⟨none, (some 4), (.mov (.t 12))⟩, ⟨none, (some 5), (.mov (.t 14))⟩]
def g73_5 : List Gop := [⟨none, (some 15), (.mov (.t 5))⟩, ⟨none, (some 16), (.bin .neq (.t 15) (.k (.one (.str ⟨#[]⟩))))⟩]
def g73_6 : List Gop := [⟨none, (some 17), (.mov (.t 3))⟩, ⟨none, (some 18), (.mov (.t 4))⟩, ⟨none, (some 19), (.lit 1 1 [(.int .i64 0)] [(0, (.t 18))])⟩, ⟨none, (some 20), (.app 1 8 [(.int .i64 0)] (.t 17) (.t 19))⟩, ⟨none, (some 3), (.mov (.t 20))⟩]
def g73_7 : List Gop := [⟨none, (some 21), (.bin .add (.t 10) (.k (.one (.int .i64 1))))⟩, ⟨none, (some 10), (.mov (.t 21))⟩]
def g73_8 : List Gop := [⟨none, (some 22), (.mov (.t 3))⟩, ⟨none, (some 2), (.mov (.t 22))⟩]
def i73 : Ir := (.seq (.region g73_0) (.seq (.region g73_1) (.seq (.seq (.region g73_2) (.block 0 (.loop (.seq (.region g73_3) (.seq (.cond (.t 11) .skip (.exit 0)) (.seq (.block 1 (.seq (.region g73_4) (.seq (.region g73_5) (.cond (.t 16) (.region g73_6) .skip)))) (.region g73_7))))))) (.seq (.region g73_8) .ret))))
theorem heldIn_ok (a b : List ByteArray) (c : List Bool) (hl : b.length ≤ 1048576) : Meets Try.prog 73 [.agg [(.sl false 1 a.length (a.map T.str)), (.sl false 1 b.length (b.map T.str)), (.sl false 1 c.length (c.map T.bool))]] (.w (.one (.sl true 1 (heldN b b.length).length ((heldN b b.length).map (T.int .i64))))) [.agg [.hole, .hole, .hole]] := by
  refine meets_go (ir := i73) (fn := Try.f73) (rx := [(.tmp 2)]) rfl rfl (by rfl) (by rfl) (by exact Nat.le_of_ble_eq_true rfl) ?_
  simp (maxSteps := 9000000) -implicitDefEqProofs -dsimp (disch := omega) only [go_sem, g73_0, g73_1, g73_2, g73_3, g73_4, g73_5, g73_6, g73_7, g73_8, i73, Nat.reduceEqDiff, Nat.reduceAdd, Nat.reduceMul, Nat.reduceLeDiff, Nat.reduceBEq, Nat.reduceBNe, Int.reduceEq, ↓reduceIte, reduceCtorEq]
  refine loop_n b.length (fun i => ⟨[(10, .w (.one (.int .i64 (i : Nat)))), (9, .w (.one (.int .i64 b.length))), (8, .w (.one (.hs 3 [1] 0 1 b.length))), (3, .w (.one (.hs 4 [] 0 1 (heldN b i).length))), (1, .w (.one (.hp 3 [] 0)))],
    [(4, (.sl true 1 (heldN b i).length ((heldN b i).map (T.int .i64)))), (3, .bx true [(.sl false 1 a.length (a.map T.str)), (.sl false 1 b.length (b.map T.str)), (.sl false 1 c.length (c.map T.bool))])], [.agg [.hs 0 [] 0 1 a.length, .hs 1 [] 0 1 b.length, .hs 2 [] 0 1 c.length]]⟩) (fun i => True) ?_ trivial ?_
  · exact (imp_adopt 3 4 1 rfl rfl).trans (imp_sub (by simp (maxSteps := 9000000) -implicitDefEqProofs -dsimp (disch := omega) only [go_sem, g73_0, g73_1, g73_2, g73_3, g73_4, g73_5, g73_6, g73_7, g73_8, i73, heldN_0, Nat.reduceEqDiff, Nat.reduceAdd, Nat.reduceMul, Nat.reduceLeDiff, Nat.reduceBEq, Nat.reduceBNe, Int.reduceEq, ↓reduceIte, reduceCtorEq]) (by simp (maxSteps := 9000000) -implicitDefEqProofs -dsimp (disch := omega) only [go_sem, g73_0, g73_1, g73_2, g73_3, g73_4, g73_5, g73_6, g73_7, g73_8, i73, heldN_0, Nat.reduceEqDiff, Nat.reduceAdd, Nat.reduceMul, Nat.reduceLeDiff, Nat.reduceBEq, Nat.reduceBNe, Int.reduceEq, ↓reduceIte, reduceCtorEq]) rfl)
  · intro i hi hJ
    have hle := heldN_le (l := b) (i := i)
    simp (maxSteps := 9000000) -implicitDefEqProofs -dsimp (disch := omega) only [go_sem, g73_0, g73_1, g73_2, g73_3, g73_4, g73_5, g73_6, g73_7, g73_8, i73, Nat.reduceEqDiff, Nat.reduceAdd, Nat.reduceMul, Nat.reduceLeDiff, Nat.reduceBEq, Nat.reduceBNe, Int.reduceEq, ↓reduceIte, reduceCtorEq]
    refine brP_i (fun h => ?_) (fun h => ?_)
    · simp (maxSteps := 9000000) -implicitDefEqProofs -dsimp (disch := omega) only [go_sem, g73_0, g73_1, g73_2, g73_3, g73_4, g73_5, g73_6, g73_7, g73_8, i73, Nat.reduceEqDiff, Nat.reduceAdd, Nat.reduceMul, Nat.reduceLeDiff, Nat.reduceBEq, Nat.reduceBNe, Int.reduceEq, ↓reduceIte, reduceCtorEq]
      refine brP_i (fun h2 => ?_) (fun h2 => ?_)
      · simp (maxSteps := 9000000) -implicitDefEqProofs -dsimp (disch := omega) only [go_sem, g73_0, g73_1, g73_2, g73_3, g73_4, g73_5, g73_6, g73_7, g73_8, i73, Nat.reduceEqDiff, Nat.reduceAdd, Nat.reduceMul, Nat.reduceLeDiff, Nat.reduceBEq, Nat.reduceBNe, Int.reduceEq, ↓reduceIte, reduceCtorEq]
        exact ⟨by omega, (imp_sub (by simp (maxSteps := 9000000) -implicitDefEqProofs -dsimp (disch := omega) only [go_sem, g73_0, g73_1, g73_2, g73_3, g73_4, g73_5, g73_6, g73_7, g73_8, i73, heldN_no h2, Nat.reduceEqDiff, Nat.reduceAdd, Nat.reduceMul, Nat.reduceLeDiff, Nat.reduceBEq, Nat.reduceBNe, Int.reduceEq, ↓reduceIte, reduceCtorEq]) (by simp (maxSteps := 9000000) -implicitDefEqProofs -dsimp (disch := omega) only [go_sem, g73_0, g73_1, g73_2, g73_3, g73_4, g73_5, g73_6, g73_7, g73_8, i73, heldN_no h2, Nat.reduceEqDiff, Nat.reduceAdd, Nat.reduceMul, Nat.reduceLeDiff, Nat.reduceBEq, Nat.reduceBNe, Int.reduceEq, ↓reduceIte, reduceCtorEq]) rfl)⟩
      · simp (maxSteps := 9000000) -implicitDefEqProofs -dsimp (disch := omega) only [go_sem, g73_0, g73_1, g73_2, g73_3, g73_4, g73_5, g73_6, g73_7, g73_8, i73, Nat.reduceEqDiff, Nat.reduceAdd, Nat.reduceMul, Nat.reduceLeDiff, Nat.reduceBEq, Nat.reduceBNe, Int.reduceEq, ↓reduceIte, reduceCtorEq]
        exact ⟨by omega, (imp_ren 6 4 rfl rfl).trans (imp_sub (by simp (maxSteps := 9000000) -implicitDefEqProofs -dsimp (disch := omega) only [go_sem, g73_0, g73_1, g73_2, g73_3, g73_4, g73_5, g73_6, g73_7, g73_8, i73, heldN_yes h2, Nat.reduceEqDiff, Nat.reduceAdd, Nat.reduceMul, Nat.reduceLeDiff, Nat.reduceBEq, Nat.reduceBNe, Int.reduceEq, ↓reduceIte, reduceCtorEq]) (by simp (maxSteps := 9000000) -implicitDefEqProofs -dsimp (disch := omega) only [go_sem, g73_0, g73_1, g73_2, g73_3, g73_4, g73_5, g73_6, g73_7, g73_8, i73, heldN_yes h2, Nat.reduceEqDiff, Nat.reduceAdd, Nat.reduceMul, Nat.reduceLeDiff, Nat.reduceBEq, Nat.reduceBNe, Int.reduceEq, ↓reduceIte, reduceCtorEq]) rfl)⟩
    · obtain rfl : i = b.length := by omega
      simp (maxSteps := 9000000) -implicitDefEqProofs -dsimp (disch := omega) only [go_sem, g73_0, g73_1, g73_2, g73_3, g73_4, g73_5, g73_6, g73_7, g73_8, i73, Nat.reduceEqDiff, Nat.reduceAdd, Nat.reduceMul, Nat.reduceLeDiff, Nat.reduceBEq, Nat.reduceBNe, Int.reduceEq, ↓reduceIte, reduceCtorEq]
end Go.Proofs.YtjlodcoeegpkaaaT

/- Functions of the program as contracts: what can be kept. No condition. -/
set_option maxRecDepth 100000
set_option maxHeartbeats 4000000
set_option linter.unusedSimpArgs false
set_option linter.unusedVariables false
namespace Go.Proofs.YtjlodcoeegpkaaaT
open Go
theorem mem_heldN {h : List ByteArray} {x : Int} {n : Nat} : x ∈ heldN h n ↔ 0 ≤ x ∧ x < n ∧ ¬ h.getD x.toNat default = e0 := by
  simp only [heldN, List.mem_map, List.mem_filter, List.mem_range, decide_eq_true_eq]
  constructor
  · rintro ⟨j, ⟨h1, h2⟩, rfl⟩
    exact ⟨by omega, by omega, by simpa using h2⟩
  · rintro ⟨h1, h2, h3⟩
    exact ⟨x.toNat, ⟨by omega, h3⟩, by omega⟩
def KeptAt (h : List ByteArray) (kept : List Int) (i : Nat) : Prop := kept.getD i default ∈ heldN h h.length ∧ (0 < i → kept.getD (i - 1) default < kept.getD i default)
def KeptOk (h : List ByteArray) (kept : List Int) : Prop := ∀ i, i < kept.length → KeptAt h kept i
noncomputable instance (h : List ByteArray) (kept : List Int) : Decidable (KeptOk h kept) := Classical.propDecidable _
def RiseAt (kept : List Int) (n : Int) (i : Nat) : Prop := (0 ≤ kept.getD i default ∧ kept.getD i default ≤ n - 1) ∧ (0 < i → kept.getD (i - 1) default < kept.getD i default)
def Rise (kept : List Int) (n : Int) : Prop := ∀ i, i < kept.length → RiseAt kept n i
noncomputable instance (kept : List Int) (n : Int) : Decidable (Rise kept n) := Classical.propDecidable _
def g74_0 : List Gop := [⟨none, (some 2), (.box (.t 0))⟩, ⟨none, (some 4), (.mov (.k (.one (.bool .false))))⟩]
def g74_1 : List Gop := [⟨none, (some 8), (.load (some 3) (.t 2))⟩, ⟨none, (some 9), (.call 72 [(.t 8)])⟩, ⟨none, (some 5), (.mov (.t 9))⟩]
def g74_2 : List Gop := [⟨none, (some 10), (.mov (.t 1))⟩, ⟨none, (some 11), (.len (.t 10))⟩, ⟨none, (some 12), (.mov (.k (.one (.int .i64 0))))⟩]
def g74_3 : List Gop := [⟨none, (some 13), (.bin .lss (.t 12) (.t 11))⟩]
def g74_4 : List Gop := [⟨none, (some 14), (.mov (.t 12))⟩, ⟨none, (some 15), (.iaddr 1 (.t 10) (.t 12))⟩, ⟨none, (some 16), (.load none (.t 15))⟩, ⟨none, (some 6), (.mov (.t 14))⟩, ⟨none, (some 7), (.mov (.t 16))⟩]
def g74_5 : List Gop := [⟨none, (some 17), (.mov (.t 5))⟩, ⟨none, (some 18), (.mov (.t 7))⟩, ⟨none, (some 19), (.call 89 [(.t 17), (.t 18)])⟩, ⟨none, (some 20), (.un .not (.t 19))⟩, ⟨none, (some 21), (.mov (.t 20))⟩, ⟨(some (21, .false)), (some 22), (.mov (.t 6))⟩, ⟨(some (21, .false)), (some 23), (.bin .gtr (.t 22) (.k (.one (.int .i64 0))))⟩, ⟨(some (21, .false)), (some 24), (.mov (.t 23))⟩, ⟨(some (24, .true)), (some 25), (.mov (.t 1))⟩, ⟨(some (24, .true)), (some 26), (.mov (.t 6))⟩, ⟨(some (24, .true)), (some 27), (.bin .sub (.t 26) (.k (.one (.int .i64 1))))⟩, ⟨(some (24, .true)), (some 28), (.iaddr 1 (.t 25) (.t 27))⟩, ⟨(some (24, .true)), (some 29), (.load none (.t 28))⟩, ⟨(some (24, .true)), (some 30), (.mov (.t 7))⟩, ⟨(some (24, .true)), (some 31), (.bin .geq (.t 29) (.t 30))⟩, ⟨(some (21, .false)), (some 32), (.pick (.t 24) (.t 31) (.k (.one (.bool .false))))⟩, ⟨none, (some 33), (.pick (.t 21) (.k (.one (.bool .true))) (.t 32))⟩]
def g74_6 : List Gop := [⟨none, (some 4), (.mov (.k (.one (.bool .false))))⟩]
def g74_7 : List Gop := [⟨none, (some 34), (.bin .add (.t 12) (.k (.one (.int .i64 1))))⟩, ⟨none, (some 12), (.mov (.t 34))⟩]
def g74_8 : List Gop := [⟨none, (some 4), (.mov (.k (.one (.bool .true))))⟩]
def i74 : Ir := (.seq (.region g74_0) (.seq (.region g74_1) (.seq (.seq (.region g74_2) (.block 0 (.loop (.seq (.region g74_3) (.seq (.cond (.t 13) .skip (.exit 0)) (.seq (.block 1 (.seq (.region g74_4) (.seq (.region g74_5) (.cond (.t 33) (.seq (.region g74_6) .ret) .skip)))) (.region g74_7))))))) (.seq (.region g74_8) .ret))))
theorem l7Kept_ok (p h : List ByteArray) (b : List Bool) (kept : List Int) (hh : h.length ≤ 1048576) (hk : kept.length ≤ 1048576) : Meets Try.prog 74 [.agg [(.sl false 1 p.length (p.map T.str)), (.sl false 1 h.length (h.map T.str)), (.sl false 1 b.length (b.map T.bool))], .one (.sl false 1 kept.length (kept.map (T.int .i64)))] (.w (.one (.bool (decide (KeptOk h kept))))) [.agg [.hole, .hole, .hole], .one .hole] := by
  refine meets_go (ir := i74) (fn := Try.f74) (rx := [(.tmp 4)]) rfl rfl (by rfl) (by rfl) (by exact Nat.le_of_ble_eq_true rfl) ?_
  simp (maxSteps := 9000000) -implicitDefEqProofs -dsimp (disch := omega) only [go_sem, g74_0, g74_1, g74_2, g74_3, g74_4, g74_5, g74_6, g74_7, g74_8, i74, Nat.reduceEqDiff, Nat.reduceAdd, Nat.reduceMul, Nat.reduceLeDiff, Nat.reduceBEq, Nat.reduceBNe, Int.reduceEq, ↓reduceIte, reduceCtorEq]
  refine call_go true (l7Held_ok p h b hh) ?_
  simp (maxSteps := 9000000) -implicitDefEqProofs -dsimp (disch := omega) only [go_sem, g74_0, g74_1, g74_2, g74_3, g74_4, g74_5, g74_6, g74_7, g74_8, i74, Nat.reduceEqDiff, Nat.reduceAdd, Nat.reduceMul, Nat.reduceLeDiff, Nat.reduceBEq, Nat.reduceBNe, Int.reduceEq, ↓reduceIte, reduceCtorEq]
  have hle := heldN_le (l := h) (i := h.length)
  refine loop_n kept.length (fun i => ⟨[(12, .w (.one (.int .i64 (i : Nat)))), (11, .w (.one (.int .i64 kept.length))), (10, .w (.one (.hs 3 [] 0 1 kept.length))), (5, .w (.one (.hs 5 [] 0 1 (heldN h h.length).length))), (1, .w (.one (.hs 3 [] 0 1 kept.length)))],
    [(5, (.sl true 1 (heldN h h.length).length ((heldN h h.length).map (T.int .i64)))), (3, (.sl false 1 kept.length (kept.map (T.int .i64))))], [.agg [.hs 0 [] 0 1 p.length, .hs 1 [] 0 1 h.length, .hs 2 [] 0 1 b.length], .one (.hs 3 [] 0 1 kept.length)]⟩) (fun i => ∀ j, j < i → KeptAt h kept j) ?_ ?_ ?_
  · exact (imp_sub (by simp (maxSteps := 9000000) -implicitDefEqProofs -dsimp (disch := omega) only [go_sem, g74_0, g74_1, g74_2, g74_3, g74_4, g74_5, g74_6, g74_7, g74_8, i74, Nat.reduceEqDiff, Nat.reduceAdd, Nat.reduceMul, Nat.reduceLeDiff, Nat.reduceBEq, Nat.reduceBNe, Int.reduceEq, ↓reduceIte, reduceCtorEq]) (by simp (maxSteps := 9000000) -implicitDefEqProofs -dsimp (disch := omega) only [go_sem, g74_0, g74_1, g74_2, g74_3, g74_4, g74_5, g74_6, g74_7, g74_8, i74, Nat.reduceEqDiff, Nat.reduceAdd, Nat.reduceMul, Nat.reduceLeDiff, Nat.reduceBEq, Nat.reduceBNe, Int.reduceEq, ↓reduceIte, reduceCtorEq]) rfl)
  · intro j hj; omega
  · intro i hi hJ
    simp (maxSteps := 9000000) -implicitDefEqProofs -dsimp (disch := omega) only [go_sem, g74_0, g74_1, g74_2, g74_3, g74_4, g74_5, g74_6, g74_7, g74_8, i74, Nat.reduceEqDiff, Nat.reduceAdd, Nat.reduceMul, Nat.reduceLeDiff, Nat.reduceBEq, Nat.reduceBNe, Int.reduceEq, ↓reduceIte, reduceCtorEq]
    refine brP_i (fun h1 => ?_) (fun h1 => ?_)
    · simp (maxSteps := 9000000) -implicitDefEqProofs -dsimp (disch := omega) only [go_sem, g74_0, g74_1, g74_2, g74_3, g74_4, g74_5, g74_6, g74_7, g74_8, i74, Nat.reduceEqDiff, Nat.reduceAdd, Nat.reduceMul, Nat.reduceLeDiff, Nat.reduceBEq, Nat.reduceBNe, Int.reduceEq, ↓reduceIte, reduceCtorEq]
      refine call_go true (l1Has_ok (heldN h h.length) (kept.getD i default) (by omega)) ?_
      have ht : (((i : Int) - 1).toNat) = i - 1 := by omega
      repeat' (first | simp (maxSteps := 9000000) -implicitDefEqProofs -dsimp (disch := omega) only [go_sem, g74_0, g74_1, g74_2, g74_3, g74_4, g74_5, g74_6, g74_7, g74_8, i74, lt_T, lt_F, le_T, le_F, eq_T, eq_F, and_F, ht, Nat.reduceEqDiff, Nat.reduceAdd, Nat.reduceMul, Nat.reduceLeDiff, Nat.reduceBEq, Nat.reduceBNe, Int.reduceEq, ↓reduceIte, reduceCtorEq] | (refine brP_i ?_ ?_ <;> intro hbr <;> try simp -implicitDefEqProofs -dsimp only [hbr]) | (refine br_i ?_ ?_ <;> intro hbr <;> try simp -implicitDefEqProofs -dsimp only [hbr]))
      · exact need_i (res_F fun hk => by have := (hk i (by omega)).2 (by omega); omega) (by simp (maxSteps := 9000000) -implicitDefEqProofs -dsimp (disch := omega) only [go_sem, g74_0, g74_1, g74_2, g74_3, g74_4, g74_5, g74_6, g74_7, g74_8, i74, Nat.reduceEqDiff, Nat.reduceAdd, Nat.reduceMul, Nat.reduceLeDiff, Nat.reduceBEq, Nat.reduceBNe, Int.reduceEq, ↓reduceIte, reduceCtorEq])
      · exact ⟨⟨by omega, all_succ hJ ⟨by assumption, fun _ => by omega⟩⟩, (imp_sub (by simp (maxSteps := 9000000) -implicitDefEqProofs -dsimp (disch := omega) only [go_sem, g74_0, g74_1, g74_2, g74_3, g74_4, g74_5, g74_6, g74_7, g74_8, i74, Nat.reduceEqDiff, Nat.reduceAdd, Nat.reduceMul, Nat.reduceLeDiff, Nat.reduceBEq, Nat.reduceBNe, Int.reduceEq, ↓reduceIte, reduceCtorEq]) (by simp (maxSteps := 9000000) -implicitDefEqProofs -dsimp (disch := omega) only [go_sem, g74_0, g74_1, g74_2, g74_3, g74_4, g74_5, g74_6, g74_7, g74_8, i74, Nat.reduceEqDiff, Nat.reduceAdd, Nat.reduceMul, Nat.reduceLeDiff, Nat.reduceBEq, Nat.reduceBNe, Int.reduceEq, ↓reduceIte, reduceCtorEq]) rfl)⟩
      · exact ⟨⟨by omega, all_succ hJ ⟨by assumption, fun _ => by omega⟩⟩, (imp_sub (by simp (maxSteps := 9000000) -implicitDefEqProofs -dsimp (disch := omega) only [go_sem, g74_0, g74_1, g74_2, g74_3, g74_4, g74_5, g74_6, g74_7, g74_8, i74, Nat.reduceEqDiff, Nat.reduceAdd, Nat.reduceMul, Nat.reduceLeDiff, Nat.reduceBEq, Nat.reduceBNe, Int.reduceEq, ↓reduceIte, reduceCtorEq]) (by simp (maxSteps := 9000000) -implicitDefEqProofs -dsimp (disch := omega) only [go_sem, g74_0, g74_1, g74_2, g74_3, g74_4, g74_5, g74_6, g74_7, g74_8, i74, Nat.reduceEqDiff, Nat.reduceAdd, Nat.reduceMul, Nat.reduceLeDiff, Nat.reduceBEq, Nat.reduceBNe, Int.reduceEq, ↓reduceIte, reduceCtorEq]) rfl)⟩
      · exact need_i (res_F fun hk => absurd (hk i (by omega)).1 (by assumption)) (by simp (maxSteps := 9000000) -implicitDefEqProofs -dsimp (disch := omega) only [go_sem, g74_0, g74_1, g74_2, g74_3, g74_4, g74_5, g74_6, g74_7, g74_8, i74, Nat.reduceEqDiff, Nat.reduceAdd, Nat.reduceMul, Nat.reduceLeDiff, Nat.reduceBEq, Nat.reduceBNe, Int.reduceEq, ↓reduceIte, reduceCtorEq])
    · simp (maxSteps := 9000000) -implicitDefEqProofs -dsimp (disch := omega) only [go_sem, g74_0, g74_1, g74_2, g74_3, g74_4, g74_5, g74_6, g74_7, g74_8, i74, Nat.reduceEqDiff, Nat.reduceAdd, Nat.reduceMul, Nat.reduceLeDiff, Nat.reduceBEq, Nat.reduceBNe, Int.reduceEq, ↓reduceIte, reduceCtorEq]
      exact need_i (res_T fun j hj => hJ j (by omega)) (by simp (maxSteps := 9000000) -implicitDefEqProofs -dsimp (disch := omega) only [go_sem, g74_0, g74_1, g74_2, g74_3, g74_4, g74_5, g74_6, g74_7, g74_8, i74, Nat.reduceEqDiff, Nat.reduceAdd, Nat.reduceMul, Nat.reduceLeDiff, Nat.reduceBEq, Nat.reduceBNe, Int.reduceEq, ↓reduceIte, reduceCtorEq])
def g90_0 : List Gop := [⟨none, (some 4), (.mov (.k (.one (.bool .false))))⟩]
def g90_1 : List Gop := [⟨none, (some 7), (.mov (.t 0))⟩, ⟨none, (some 8), (.len (.t 7))⟩, ⟨none, (some 9), (.mov (.k (.one (.int .i64 0))))⟩]
def g90_2 : List Gop := [⟨none, (some 10), (.bin .lss (.t 9) (.t 8))⟩]
def g90_3 : List Gop := [⟨none, (some 11), (.mov (.t 9))⟩, ⟨none, (some 12), (.iaddr 1 (.t 7) (.t 9))⟩, ⟨none, (some 13), (.load none (.t 12))⟩, ⟨none, (some 5), (.mov (.t 11))⟩, ⟨none, (some 6), (.mov (.t 13))⟩]
def g90_4 : List Gop := [⟨none, (some 14), (.mov (.t 6))⟩, ⟨none, (some 15), (.mov (.t 1))⟩, ⟨none, (some 16), (.bin .sub (.t 15) (.k (.one (.int .i64 1))))⟩, ⟨none, (some 17), (.call 59 [(.t 14), (.k (.one (.int .i64 0))), (.t 16)])⟩, ⟨none, (some 18), (.un .not (.t 17))⟩, ⟨none, (some 19), (.mov (.t 18))⟩, ⟨(some (19, .false)), (some 20), (.mov (.t 5))⟩, ⟨(some (19, .false)), (some 21), (.bin .gtr (.t 20) (.k (.one (.int .i64 0))))⟩, ⟨(some (19, .false)), (some 22), (.mov (.t 21))⟩, ⟨(some (22, .true)), (some 23), (.mov (.t 6))⟩, ⟨(some (22, .true)), (some 24), (.mov (.t 0))⟩, ⟨(some (22, .true)), (some 25), (.mov (.t 5))⟩, ⟨(some (22, .true)), (some 26), (.bin .sub (.t 25) (.k (.one (.int .i64 1))))⟩, ⟨(some (22, .true)), (some 27), (.iaddr 1 (.t 24) (.t 26))⟩, ⟨(some (22, .true)), (some 28), (.load none (.t 27))⟩, ⟨(some (22, .true)), (some 29), (.bin .leq (.t 23) (.t 28))⟩, ⟨(some (19, .false)), (some 30), (.pick (.t 22) (.t 29) (.k (.one (.bool .false))))⟩, ⟨none, (some 31), (.pick (.t 19) (.k (.one (.bool .true))) (.t 30))⟩]
def g90_5 : List Gop := [⟨none, (some 4), (.mov (.k (.one (.bool .false))))⟩]
def g90_6 : List Gop := [⟨none, (some 32), (.bin .add (.t 9) (.k (.one (.int .i64 1))))⟩, ⟨none, (some 9), (.mov (.t 32))⟩]
def g90_7 : List Gop := [⟨none, (some 4), (.mov (.k (.one (.bool .true))))⟩]
def i90 : Ir := (.seq (.region g90_0) (.seq (.seq (.region g90_1) (.block 0 (.loop (.seq (.region g90_2) (.seq (.cond (.t 10) .skip (.exit 0)) (.seq (.block 1 (.seq (.region g90_3) (.seq (.region g90_4) (.cond (.t 31) (.seq (.region g90_5) .ret) .skip)))) (.region g90_6))))))) (.seq (.region g90_7) .ret)))
theorem isRising_ok (kept : List Int) (n : Int) (hn : 0 ≤ n ∧ n ≤ 1048576) (hk : kept.length ≤ 1048576) : Meets Try.prog 90 [.one (.sl false 1 kept.length (kept.map (T.int .i64))), .one (.int .i64 n)] (.w (.one (.bool (decide (Rise kept n))))) [.one .hole, .one .hole] := by
  refine meets_go (ir := i90) (fn := Try.f90) (rx := [(.tmp 4)]) rfl rfl (by rfl) (by rfl) (by exact Nat.le_of_ble_eq_true rfl) ?_
  simp (maxSteps := 9000000) -implicitDefEqProofs -dsimp (disch := omega) only [go_sem, g90_0, g90_1, g90_2, g90_3, g90_4, g90_5, g90_6, g90_7, i90, Nat.reduceEqDiff, Nat.reduceAdd, Nat.reduceMul, Nat.reduceLeDiff, Nat.reduceBEq, Nat.reduceBNe, Int.reduceEq, ↓reduceIte, reduceCtorEq]
  refine loop_n kept.length (fun i => ⟨[(9, .w (.one (.int .i64 (i : Nat)))), (8, .w (.one (.int .i64 kept.length))), (7, .w (.one (.hs 0 [] 0 1 kept.length))), (1, .w (.one (.int .i64 n))), (0, .w (.one (.hs 0 [] 0 1 kept.length)))],
    [(0, (.sl false 1 kept.length (kept.map (T.int .i64))))], [.one (.hs 0 [] 0 1 kept.length), .one (.int .i64 n)]⟩) (fun i => ∀ j, j < i → RiseAt kept n j) ?_ ?_ ?_
  · exact (imp_sub (by simp (maxSteps := 9000000) -implicitDefEqProofs -dsimp (disch := omega) only [go_sem, g90_0, g90_1, g90_2, g90_3, g90_4, g90_5, g90_6, g90_7, i90, Nat.reduceEqDiff, Nat.reduceAdd, Nat.reduceMul, Nat.reduceLeDiff, Nat.reduceBEq, Nat.reduceBNe, Int.reduceEq, ↓reduceIte, reduceCtorEq]) (by simp (maxSteps := 9000000) -implicitDefEqProofs -dsimp (disch := omega) only [go_sem, g90_0, g90_1, g90_2, g90_3, g90_4, g90_5, g90_6, g90_7, i90, Nat.reduceEqDiff, Nat.reduceAdd, Nat.reduceMul, Nat.reduceLeDiff, Nat.reduceBEq, Nat.reduceBNe, Int.reduceEq, ↓reduceIte, reduceCtorEq]) rfl)
  · intro j hj; omega
  · intro i hi hJ
    simp (maxSteps := 9000000) -implicitDefEqProofs -dsimp (disch := omega) only [go_sem, g90_0, g90_1, g90_2, g90_3, g90_4, g90_5, g90_6, g90_7, i90, Nat.reduceEqDiff, Nat.reduceAdd, Nat.reduceMul, Nat.reduceLeDiff, Nat.reduceBEq, Nat.reduceBNe, Int.reduceEq, ↓reduceIte, reduceCtorEq]
    refine brP_i (fun h1 => ?_) (fun h1 => ?_)
    · simp (maxSteps := 9000000) -implicitDefEqProofs -dsimp (disch := omega) only [go_sem, g90_0, g90_1, g90_2, g90_3, g90_4, g90_5, g90_6, g90_7, i90, Nat.reduceEqDiff, Nat.reduceAdd, Nat.reduceMul, Nat.reduceLeDiff, Nat.reduceBEq, Nat.reduceBNe, Int.reduceEq, ↓reduceIte, reduceCtorEq]
      refine call_go true (within_ok (kept.getD i default) 0 (n - 1)) ?_
      have ht : (((i : Int) - 1).toNat) = i - 1 := by omega
      repeat' (first | simp (maxSteps := 9000000) -implicitDefEqProofs -dsimp (disch := omega) only [go_sem, g90_0, g90_1, g90_2, g90_3, g90_4, g90_5, g90_6, g90_7, i90, lt_T, lt_F, le_T, le_F, eq_T, eq_F, and_F, ht, Nat.reduceEqDiff, Nat.reduceAdd, Nat.reduceMul, Nat.reduceLeDiff, Nat.reduceBEq, Nat.reduceBNe, Int.reduceEq, ↓reduceIte, reduceCtorEq] | (refine brP_i ?_ ?_ <;> intro hbr <;> try simp -implicitDefEqProofs -dsimp only [hbr]) | (refine br_i ?_ ?_ <;> intro hbr <;> try simp -implicitDefEqProofs -dsimp only [hbr]))
      · exact need_i (res_F fun hk => by have := (hk i (by omega)).2 (by omega); omega) (by simp (maxSteps := 9000000) -implicitDefEqProofs -dsimp (disch := omega) only [go_sem, g90_0, g90_1, g90_2, g90_3, g90_4, g90_5, g90_6, g90_7, i90, Nat.reduceEqDiff, Nat.reduceAdd, Nat.reduceMul, Nat.reduceLeDiff, Nat.reduceBEq, Nat.reduceBNe, Int.reduceEq, ↓reduceIte, reduceCtorEq])
      · exact ⟨⟨by omega, all_succ hJ ⟨by omega, fun _ => by omega⟩⟩, (imp_sub (by simp (maxSteps := 9000000) -implicitDefEqProofs -dsimp (disch := omega) only [go_sem, g90_0, g90_1, g90_2, g90_3, g90_4, g90_5, g90_6, g90_7, i90, Nat.reduceEqDiff, Nat.reduceAdd, Nat.reduceMul, Nat.reduceLeDiff, Nat.reduceBEq, Nat.reduceBNe, Int.reduceEq, ↓reduceIte, reduceCtorEq]) (by simp (maxSteps := 9000000) -implicitDefEqProofs -dsimp (disch := omega) only [go_sem, g90_0, g90_1, g90_2, g90_3, g90_4, g90_5, g90_6, g90_7, i90, Nat.reduceEqDiff, Nat.reduceAdd, Nat.reduceMul, Nat.reduceLeDiff, Nat.reduceBEq, Nat.reduceBNe, Int.reduceEq, ↓reduceIte, reduceCtorEq]) rfl)⟩
      · exact ⟨⟨by omega, all_succ hJ ⟨by omega, fun _ => by omega⟩⟩, (imp_sub (by simp (maxSteps := 9000000) -implicitDefEqProofs -dsimp (disch := omega) only [go_sem, g90_0, g90_1, g90_2, g90_3, g90_4, g90_5, g90_6, g90_7, i90, Nat.reduceEqDiff, Nat.reduceAdd, Nat.reduceMul, Nat.reduceLeDiff, Nat.reduceBEq, Nat.reduceBNe, Int.reduceEq, ↓reduceIte, reduceCtorEq]) (by simp (maxSteps := 9000000) -implicitDefEqProofs -dsimp (disch := omega) only [go_sem, g90_0, g90_1, g90_2, g90_3, g90_4, g90_5, g90_6, g90_7, i90, Nat.reduceEqDiff, Nat.reduceAdd, Nat.reduceMul, Nat.reduceLeDiff, Nat.reduceBEq, Nat.reduceBNe, Int.reduceEq, ↓reduceIte, reduceCtorEq]) rfl)⟩
      · exact need_i (res_F fun hk => by have := (hk i (by omega)).1; omega) (by simp (maxSteps := 9000000) -implicitDefEqProofs -dsimp (disch := omega) only [go_sem, g90_0, g90_1, g90_2, g90_3, g90_4, g90_5, g90_6, g90_7, i90, Nat.reduceEqDiff, Nat.reduceAdd, Nat.reduceMul, Nat.reduceLeDiff, Nat.reduceBEq, Nat.reduceBNe, Int.reduceEq, ↓reduceIte, reduceCtorEq])
    · simp (maxSteps := 9000000) -implicitDefEqProofs -dsimp (disch := omega) only [go_sem, g90_0, g90_1, g90_2, g90_3, g90_4, g90_5, g90_6, g90_7, i90, Nat.reduceEqDiff, Nat.reduceAdd, Nat.reduceMul, Nat.reduceLeDiff, Nat.reduceBEq, Nat.reduceBNe, Int.reduceEq, ↓reduceIte, reduceCtorEq]
      exact need_i (res_T fun j hj => hJ j (by omega)) (by simp (maxSteps := 9000000) -implicitDefEqProofs -dsimp (disch := omega) only [go_sem, g90_0, g90_1, g90_2, g90_3, g90_4, g90_5, g90_6, g90_7, i90, Nat.reduceEqDiff, Nat.reduceAdd, Nat.reduceMul, Nat.reduceLeDiff, Nat.reduceBEq, Nat.reduceBNe, Int.reduceEq, ↓reduceIte, reduceCtorEq])
def g99_0 : List Gop := [⟨none, (some 4), (.mov (.k (.one (.int .i64 0))))⟩]
def g99_1 : List Gop := [⟨none, (some 6), (.mov (.t 0))⟩, ⟨none, (some 7), (.len (.t 6))⟩, ⟨none, (some 8), (.mov (.k (.one (.int .i64 0))))⟩]
def g99_2 : List Gop := [⟨none, (some 9), (.bin .lss (.t 8) (.t 7))⟩]
def g99_3 : List Gop := [⟨none, (some 10), (.mov (.t 8))⟩, ⟨none, (some 5), (.mov (.t 10))⟩]
def g99_4 : List Gop := [⟨none, (some 11), (.mov (.t 1))⟩, ⟨none, (some 12), (.mov (.t 0))⟩, ⟨none, (some 13), (.mov (.t 5))⟩, ⟨none, (some 14), (.iaddr 1 (.t 12) (.t 13))⟩, ⟨none, (some 15), (.load none (.t 14))⟩, ⟨none, (some 16), (.callv (.t 11) [(.t 15)])⟩]
def g99_5 : List Gop := [⟨none, (some 17), (.mov (.t 5))⟩, ⟨none, (some 4), (.mov (.t 17))⟩]
def g99_6 : List Gop := [⟨none, (some 18), (.bin .add (.t 8) (.k (.one (.int .i64 1))))⟩, ⟨none, (some 8), (.mov (.t 18))⟩]
def g99_7 : List Gop := [⟨none, (some 4), (.mov (.k (.one (.int .i64 (-1)))))⟩]
def i99 : Ir := (.seq (.region g99_0) (.seq (.seq (.region g99_1) (.block 0 (.loop (.seq (.region g99_2) (.seq (.cond (.t 9) .skip (.exit 0)) (.seq (.block 1 (.seq (.region g99_3) (.seq (.region g99_4) (.cond (.t 16) (.seq (.region g99_5) .ret) .skip)))) (.region g99_6))))))) (.seq (.region g99_7) .ret)))
theorem indexFunc_ok (l : List Int) (f : FuncId) (cs : List T) (pr : Int → Bool) (hl : l.length ≤ 1048576) (hb : ∃ fn, Try.prog.funcs[f]? = some fn ∧ fn.body.isSome ∧ (fn.name != "runtime.NumGoroutine") = true)
    (hM : ∀ x ∈ l, Meets Try.prog f [.one (.int .i64 x), .one (.bx false cs)] (.w (.one (.bool (pr x)))) [.one .hole, .one .hole]) : ∃ n : Int, Meets Try.prog 99 [.one (.sl false 1 l.length (l.map (T.int .i64))), .one (.fn f [.bx false cs])] (.w (.one (.int .i64 n))) [.one .hole, .one .hole] ∧ (0 ≤ n ↔ l.any pr = true) := by
  have key : ∀ n : Nat, n ≤ l.length → (∀ j, j < n → pr (l.getD j default) = false) → (n < l.length → pr (l.getD n default) = true) → Meets Try.prog 99 [.one (.sl false 1 l.length (l.map (T.int .i64))), .one (.fn f [.bx false cs])] (.w (.one (.int .i64 (if n < l.length then (n : Int) else -1)))) [.one .hole, .one .hole] := by
    intro n hn h0 h1
    refine meets_go (ir := i99) (fn := Try.f99) (rx := [(.tmp 4)]) rfl rfl (by rfl) (by rfl) (by exact Nat.le_of_ble_eq_true rfl) ?_
    simp (maxSteps := 9000000) -implicitDefEqProofs -dsimp (disch := omega) only [go_sem, g99_0, g99_1, g99_2, g99_3, g99_4, g99_5, g99_6, g99_7, i99, Nat.reduceEqDiff, Nat.reduceAdd, Nat.reduceMul, Nat.reduceLeDiff, Nat.reduceBEq, Nat.reduceBNe, Int.reduceEq, ↓reduceIte, reduceCtorEq]
    refine loop_n n (fun i => ⟨[(8, .w (.one (.int .i64 (i : Nat)))), (7, .w (.one (.int .i64 l.length))), (0, .w (.one (.hs 0 [] 0 1 l.length))), (1, .w (.one (.fn f [.hp 1 [] 0])))],
      [(1, .bx false cs), (0, (.sl false 1 l.length (l.map (T.int .i64))))], [.one (.hs 0 [] 0 1 l.length), .one (.fn f [.hp 1 [] 0])]⟩) (fun i => True) ?_ trivial ?_
    · exact (imp_sub (by simp (maxSteps := 9000000) -implicitDefEqProofs -dsimp (disch := omega) only [go_sem, g99_0, g99_1, g99_2, g99_3, g99_4, g99_5, g99_6, g99_7, i99, Nat.reduceEqDiff, Nat.reduceAdd, Nat.reduceMul, Nat.reduceLeDiff, Nat.reduceBEq, Nat.reduceBNe, Int.reduceEq, ↓reduceIte, reduceCtorEq]) (by simp (maxSteps := 9000000) -implicitDefEqProofs -dsimp (disch := omega) only [go_sem, g99_0, g99_1, g99_2, g99_3, g99_4, g99_5, g99_6, g99_7, i99, Nat.reduceEqDiff, Nat.reduceAdd, Nat.reduceMul, Nat.reduceLeDiff, Nat.reduceBEq, Nat.reduceBNe, Int.reduceEq, ↓reduceIte, reduceCtorEq]) rfl)
    · intro i hi _
      simp (maxSteps := 9000000) -implicitDefEqProofs -dsimp (disch := omega) only [go_sem, g99_0, g99_1, g99_2, g99_3, g99_4, g99_5, g99_6, g99_7, i99, Nat.reduceEqDiff, Nat.reduceAdd, Nat.reduceMul, Nat.reduceLeDiff, Nat.reduceBEq, Nat.reduceBNe, Int.reduceEq, ↓reduceIte, reduceCtorEq]
      refine brP_i (fun h2 => ?_) (fun h2 => ?_)
      · simp (maxSteps := 9000000) -implicitDefEqProofs -dsimp (disch := omega) only [go_sem, g99_0, g99_1, g99_2, g99_3, g99_4, g99_5, g99_6, g99_7, i99, Nat.reduceEqDiff, Nat.reduceAdd, Nat.reduceMul, Nat.reduceLeDiff, Nat.reduceBEq, Nat.reduceBNe, Int.reduceEq, ↓reduceIte, reduceCtorEq]
        refine callv_go true hb (hM (l.getD i default) (getD_mem (by omega))) ?_
        simp (maxSteps := 9000000) -implicitDefEqProofs -dsimp (disch := omega) only [go_sem, g99_0, g99_1, g99_2, g99_3, g99_4, g99_5, g99_6, g99_7, i99, Nat.reduceEqDiff, Nat.reduceAdd, Nat.reduceMul, Nat.reduceLeDiff, Nat.reduceBEq, Nat.reduceBNe, Int.reduceEq, ↓reduceIte, reduceCtorEq]
        refine ⟨[.hp 1 [] 0], ?_⟩
        by_cases e : i < n
        · simp (maxSteps := 9000000) -implicitDefEqProofs -dsimp (disch := omega) only [go_sem, g99_0, g99_1, g99_2, g99_3, g99_4, g99_5, g99_6, g99_7, i99, h0 i e, Nat.reduceEqDiff, Nat.reduceAdd, Nat.reduceMul, Nat.reduceLeDiff, Nat.reduceBEq, Nat.reduceBNe, Int.reduceEq, ↓reduceIte, reduceCtorEq]
          exact ⟨by omega, (imp_sub (by simp (maxSteps := 9000000) -implicitDefEqProofs -dsimp (disch := omega) only [go_sem, g99_0, g99_1, g99_2, g99_3, g99_4, g99_5, g99_6, g99_7, i99, Nat.reduceEqDiff, Nat.reduceAdd, Nat.reduceMul, Nat.reduceLeDiff, Nat.reduceBEq, Nat.reduceBNe, Int.reduceEq, ↓reduceIte, reduceCtorEq]) (by simp (maxSteps := 9000000) -implicitDefEqProofs -dsimp (disch := omega) only [go_sem, g99_0, g99_1, g99_2, g99_3, g99_4, g99_5, g99_6, g99_7, i99, Nat.reduceEqDiff, Nat.reduceAdd, Nat.reduceMul, Nat.reduceLeDiff, Nat.reduceBEq, Nat.reduceBNe, Int.reduceEq, ↓reduceIte, reduceCtorEq]) rfl)⟩
        · obtain rfl : i = n := by omega
          simp (maxSteps := 9000000) -implicitDefEqProofs -dsimp (disch := omega) only [go_sem, g99_0, g99_1, g99_2, g99_3, g99_4, g99_5, g99_6, g99_7, i99, h1 (by omega), Nat.reduceEqDiff, Nat.reduceAdd, Nat.reduceMul, Nat.reduceLeDiff, Nat.reduceBEq, Nat.reduceBNe, Int.reduceEq, ↓reduceIte, reduceCtorEq]
          exact need_i (by rw [if_pos (by omega)]) (by simp (maxSteps := 9000000) -implicitDefEqProofs -dsimp (disch := omega) only [go_sem, g99_0, g99_1, g99_2, g99_3, g99_4, g99_5, g99_6, g99_7, i99, Nat.reduceEqDiff, Nat.reduceAdd, Nat.reduceMul, Nat.reduceLeDiff, Nat.reduceBEq, Nat.reduceBNe, Int.reduceEq, ↓reduceIte, reduceCtorEq])
      · simp (maxSteps := 9000000) -implicitDefEqProofs -dsimp (disch := omega) only [go_sem, g99_0, g99_1, g99_2, g99_3, g99_4, g99_5, g99_6, g99_7, i99, Nat.reduceEqDiff, Nat.reduceAdd, Nat.reduceMul, Nat.reduceLeDiff, Nat.reduceBEq, Nat.reduceBNe, Int.reduceEq, ↓reduceIte, reduceCtorEq]
        exact need_i (by rw [if_neg (by omega)]) (by simp (maxSteps := 9000000) -implicitDefEqProofs -dsimp (disch := omega) only [go_sem, g99_0, g99_1, g99_2, g99_3, g99_4, g99_5, g99_6, g99_7, i99, Nat.reduceEqDiff, Nat.reduceAdd, Nat.reduceMul, Nat.reduceLeDiff, Nat.reduceBEq, Nat.reduceBNe, Int.reduceEq, ↓reduceIte, reduceCtorEq])
  have least : ∃ n : Nat, n ≤ l.length ∧ (∀ j, j < n → pr (l.getD j default) = false) ∧ (n < l.length → pr (l.getD n default) = true) := by
    have : ∀ k, k ≤ l.length → (∀ j, j < k → pr (l.getD j default) = false) ∨ ∃ n : Nat, n < k ∧ (∀ j, j < n → pr (l.getD j default) = false) ∧ pr (l.getD n default) = true := by
      intro k
      induction k with
      | zero => intro _; exact .inl fun j hj => by omega
      | succ k ih =>
        intro hk
        rcases ih (by omega) with h | ⟨n, h1, h2, h3⟩
        · cases hp : pr (l.getD k default) with
          | false => exact .inl (all_succ h hp)
          | true => exact .inr ⟨k, by omega, h, hp⟩
        · exact .inr ⟨n, by omega, h2, h3⟩
    rcases this l.length (Nat.le_refl _) with h | ⟨n, h1, h2, h3⟩
    · exact ⟨l.length, Nat.le_refl _, h, fun h => by omega⟩
    · exact ⟨n, by omega, h2, fun _ => h3⟩
  obtain ⟨n, h1, h2, h3⟩ := least
  refine ⟨_, key n h1 h2 h3, ?_⟩
  split
  · rename_i hn
    exact ⟨fun _ => List.any_eq_true.2 ⟨_, getD_mem hn, h3 hn⟩, fun _ => by omega⟩
  · rename_i hn
    refine ⟨fun h => by omega, fun h => ?_⟩
    obtain ⟨x, hx, hp⟩ := List.any_eq_true.1 h
    obtain ⟨j, hj, rfl⟩ := mem_getD hx
    rw [h2 j (by omega)] at hp; simp at hp
def g91_0 : List Gop := [⟨none, (some 4), (.mov (.k (.one (.bool .false))))⟩]
def g91_1 : List Gop := [⟨none, (some 5), (.mov (.t 0))⟩, ⟨none, (some 6), (.mov (.t 1))⟩, ⟨none, (some 7), (.call 99 [(.t 5), (.t 6)])⟩, ⟨none, (some 8), (.bin .geq (.t 7) (.k (.one (.int .i64 0))))⟩, ⟨none, (some 4), (.mov (.t 8))⟩]
def i91 : Ir := (.seq (.region g91_0) (.seq (.region g91_1) .ret))
theorem containsFunc_ok (l : List Int) (f : FuncId) (cs : List T) (pr : Int → Bool) (hl : l.length ≤ 1048576) (hb : ∃ fn, Try.prog.funcs[f]? = some fn ∧ fn.body.isSome ∧ (fn.name != "runtime.NumGoroutine") = true)
    (hM : ∀ x ∈ l, Meets Try.prog f [.one (.int .i64 x), .one (.bx false cs)] (.w (.one (.bool (pr x)))) [.one .hole, .one .hole]) : Meets Try.prog 91 [.one (.sl false 1 l.length (l.map (T.int .i64))), .one (.fn f [.bx false cs])] (.w (.one (.bool (l.any pr)))) [.one .hole, .one .hole] := by
  obtain ⟨n, hI, hn⟩ := indexFunc_ok l f cs pr hl hb hM
  refine meets_go (ir := i91) (fn := Try.f91) (rx := [(.tmp 4)]) rfl rfl (by rfl) (by rfl) (by exact Nat.le_of_ble_eq_true rfl) ?_
  simp (maxSteps := 9000000) -implicitDefEqProofs -dsimp (disch := omega) only [go_sem, g91_0, g91_1, i91, Nat.reduceEqDiff, Nat.reduceAdd, Nat.reduceMul, Nat.reduceLeDiff, Nat.reduceBEq, Nat.reduceBNe, Int.reduceEq, ↓reduceIte, reduceCtorEq]
  refine call_go false hI ?_
  simp (maxSteps := 9000000) -implicitDefEqProofs -dsimp (disch := omega) only [go_sem, g91_0, g91_1, i91, Nat.reduceEqDiff, Nat.reduceAdd, Nat.reduceMul, Nat.reduceLeDiff, Nat.reduceBEq, Nat.reduceBNe, Int.reduceEq, ↓reduceIte, reduceCtorEq]
  exact need_i (by rw [show (l.any pr) = decide (0 ≤ n) from by rw [Bool.eq_iff_iff, decide_eq_true_eq]; exact hn.symm]) (by simp (maxSteps := 9000000) -implicitDefEqProofs -dsimp (disch := omega) only [go_sem, g91_0, g91_1, i91, Nat.reduceEqDiff, Nat.reduceAdd, Nat.reduceMul, Nat.reduceLeDiff, Nat.reduceBEq, Nat.reduceBNe, Int.reduceEq, ↓reduceIte, reduceCtorEq])
def g92_0 : List Gop := [⟨none, (some 3), (.mov (.k (.one (.bool .false))))⟩]
def g92_1 : List Gop := [⟨none, (some 4), (.faddr (.t 1) 1)⟩, ⟨none, (some 5), (.load none (.t 4))⟩, ⟨none, (some 6), (.mov (.t 0))⟩, ⟨none, (some 7), (.iaddr 1 (.t 5) (.t 6))⟩, ⟨none, (some 8), (.load none (.t 7))⟩, ⟨none, (some 9), (.bin .eql (.t 8) (.k (.one (.str ⟨#[]⟩))))⟩, ⟨none, (some 3), (.mov (.t 9))⟩]
def i92 : Ir := (.seq (.region g92_0) (.seq (.region g92_1) .ret))
theorem unheld_ok (p h : List ByteArray) (b : List Bool) (x : Int) (hx : 0 ≤ x ∧ x < h.length) : Meets Try.prog 92 [.one (.int .i64 x), .one (.bx false [(.sl false 1 p.length (p.map T.str)), (.sl false 1 h.length (h.map T.str)), (.sl false 1 b.length (b.map T.bool))])] (.w (.one (.bool (decide (h.getD x.toNat default = e0))))) [.one .hole, .one .hole] := by
  refine meets_go (ir := i92) (fn := Try.f92) (rx := [(.tmp 3)]) rfl rfl (by rfl) (by rfl) (by exact Nat.le_of_ble_eq_true rfl) ?_
  simp (maxSteps := 9000000) -implicitDefEqProofs -dsimp (disch := omega) only [go_sem, g92_0, g92_1, i92, Nat.reduceEqDiff, Nat.reduceAdd, Nat.reduceMul, Nat.reduceLeDiff, Nat.reduceBEq, Nat.reduceBNe, Int.reduceEq, ↓reduceIte, reduceCtorEq]
def g77_0 : List Gop := [⟨none, (some 2), (.box (.t 0))⟩, ⟨none, (some 4), (.mov (.k (.one (.bool .false))))⟩]
def g77_1 : List Gop := [⟨none, (some 5), (.mov (.t 1))⟩, ⟨none, (some 6), (.faddr (.t 2) 0)⟩, ⟨none, (some 7), (.load none (.t 6))⟩, ⟨none, (some 8), (.len (.t 7))⟩, ⟨none, (some 9), (.call 90 [(.t 5), (.t 8)])⟩, ⟨none, (some 10), (.mov (.t 9))⟩, ⟨(some (10, .true)), (some 11), (.mov (.t 1))⟩, ⟨(some (10, .true)), (some 12), (.mkf 92 [(.t 2)])⟩, ⟨(some (10, .true)), (some 13), (.call 91 [(.t 11), (.t 12)])⟩, ⟨(some (10, .true)), (some 14), (.un .not (.t 13))⟩, ⟨none, (some 15), (.pick (.t 10) (.t 14) (.k (.one (.bool .false))))⟩, ⟨none, (some 4), (.mov (.t 15))⟩]
def i77 : Ir := (.seq (.region g77_0) (.seq (.region g77_1) .ret))
theorem areHeld_ok (p h : List ByteArray) (b : List Bool) (kept : List Int) (hp : p.length ≤ 1048576) (he : h.length = p.length) (hk : kept.length ≤ 1048576) : Meets Try.prog 77 [.agg [(.sl false 1 p.length (p.map T.str)), (.sl false 1 h.length (h.map T.str)), (.sl false 1 b.length (b.map T.bool))], .one (.sl false 1 kept.length (kept.map (T.int .i64)))] (.w (.one (.bool (decide (KeptOk h kept))))) [.agg [.hole, .hole, .hole], .one .hole] := by
  have hiff : KeptOk h kept ↔ Rise kept p.length ∧ ¬ kept.any (fun x => decide (h.getD x.toNat default = e0)) = true := by
    constructor
    · intro hk
      refine ⟨fun i hi => ?_, fun ha => ?_⟩
      · obtain ⟨h1, h2⟩ := hk i hi
        have := mem_heldN.1 h1
        exact ⟨⟨this.1, by omega⟩, h2⟩
      · obtain ⟨x, hx, hp⟩ := List.any_eq_true.1 ha
        obtain ⟨j, hj, rfl⟩ := mem_getD hx
        exact (mem_heldN.1 (hk j hj).1).2.2 (of_decide_eq_true hp)
    · rintro ⟨h1, h2⟩ i hi
      obtain ⟨h3, h4⟩ := h1 i hi
      refine ⟨mem_heldN.2 ⟨h3.1, by omega, fun e => h2 (List.any_eq_true.2 ⟨_, getD_mem hi, decide_eq_true e⟩)⟩, h4⟩
  refine meets_go (ir := i77) (fn := Try.f77) (rx := [(.tmp 4)]) rfl rfl (by rfl) (by rfl) (by exact Nat.le_of_ble_eq_true rfl) ?_
  simp (maxSteps := 9000000) -implicitDefEqProofs -dsimp (disch := omega) only [go_sem, g77_0, g77_1, i77, Nat.reduceEqDiff, Nat.reduceAdd, Nat.reduceMul, Nat.reduceLeDiff, Nat.reduceBEq, Nat.reduceBNe, Int.reduceEq, ↓reduceIte, reduceCtorEq]
  refine call_go true (isRising_ok kept p.length ⟨by omega, by omega⟩ hk) ?_
  simp (maxSteps := 9000000) -implicitDefEqProofs -dsimp (disch := omega) only [go_sem, g77_0, g77_1, i77, Nat.reduceEqDiff, Nat.reduceAdd, Nat.reduceMul, Nat.reduceLeDiff, Nat.reduceBEq, Nat.reduceBNe, Int.reduceEq, ↓reduceIte, reduceCtorEq]
  by_cases h1 : Rise kept p.length
  · simp (maxSteps := 9000000) -implicitDefEqProofs -dsimp (disch := omega) only [go_sem, g77_0, g77_1, i77, h1, Nat.reduceEqDiff, Nat.reduceAdd, Nat.reduceMul, Nat.reduceLeDiff, Nat.reduceBEq, Nat.reduceBNe, Int.reduceEq, ↓reduceIte, reduceCtorEq]
    refine call_go true (containsFunc_ok kept 92 [(.sl false 1 p.length (p.map T.str)), (.sl false 1 h.length (h.map T.str)), (.sl false 1 b.length (b.map T.bool))] (fun x => decide (h.getD x.toNat default = e0)) hk ⟨_, rfl, rfl, by decide⟩ (fun x hx => unheld_ok p h b x ?_)) ?_
    · obtain ⟨j, hj, rfl⟩ := mem_getD hx
      have := (h1 j hj).1; omega
    · simp (maxSteps := 9000000) -implicitDefEqProofs -dsimp (disch := omega) only [go_sem, g77_0, g77_1, i77, Nat.reduceEqDiff, Nat.reduceAdd, Nat.reduceMul, Nat.reduceLeDiff, Nat.reduceBEq, Nat.reduceBNe, Int.reduceEq, ↓reduceIte, reduceCtorEq]
      refine need_i ?_ (by simp (maxSteps := 9000000) -implicitDefEqProofs -dsimp (disch := omega) only [go_sem, g77_0, g77_1, i77, Nat.reduceEqDiff, Nat.reduceAdd, Nat.reduceMul, Nat.reduceLeDiff, Nat.reduceBEq, Nat.reduceBNe, Int.reduceEq, ↓reduceIte, reduceCtorEq])
      rw [show decide (KeptOk h kept) = !(kept.any fun x => decide (h.getD x.toNat default = e0)) from ?_]
      rw [Bool.eq_iff_iff, decide_eq_true_eq, hiff]
      simp [h1]
  · simp (maxSteps := 9000000) -implicitDefEqProofs -dsimp (disch := omega) only [go_sem, g77_0, g77_1, i77, h1, Nat.reduceEqDiff, Nat.reduceAdd, Nat.reduceMul, Nat.reduceLeDiff, Nat.reduceBEq, Nat.reduceBNe, Int.reduceEq, ↓reduceIte, reduceCtorEq]
    exact need_i (res_F fun h => h1 (hiff.1 h).1) (by simp (maxSteps := 9000000) -implicitDefEqProofs -dsimp (disch := omega) only [go_sem, g77_0, g77_1, i77, Nat.reduceEqDiff, Nat.reduceAdd, Nat.reduceMul, Nat.reduceLeDiff, Nat.reduceBEq, Nat.reduceBNe, Int.reduceEq, ↓reduceIte, reduceCtorEq])
end Go.Proofs.YtjlodcoeegpkaaaT
