/- Functions of the program, each with what it returns and leaves. No condition. -/
import Derived.Test.YtjlodcoeegpkaaaFn1
import Derived.Test.YtjlodcoeegpkaaaFn2
import Derived.Test.YtjlodcoeegpkaaaTree8
set_option linter.all false
set_option linter.unusedVariables false
set_option linter.unusedSimpArgs false
set_option linter.unusedSectionVars false
set_option linter.unnecessarySimpa false
set_option linter.deprecated false
/- Functions of the program as contracts: what draws from a code. No condition. -/
set_option maxRecDepth 100000
set_option maxHeartbeats 8000000
set_option linter.unusedSimpArgs false
set_option linter.unusedVariables false
namespace Go.Proofs.YtjlodcoeegpkaaaT
open Go Go.RowKit
/-- a cursor over a code -/
structure Cu where
  code : List Int
  at_ : Int
  seed : Int
def Cu.ok (c : Cu) (b : Int) : Prop := (∀ x ∈ c.code, 0 ≤ x ∧ x ≤ 255) ∧ (c.code.length : Int) ≤ 9223372036854775807 ∧ 0 ≤ c.at_ ∧ c.at_ ≤ b ∧ 0 ≤ c.seed ∧ c.seed < 18446744073709551616
def cuT (c : Cu) : T := .bx true [(.sl false 1 c.code.length (c.code.map (T.int .u8))), .int .i64 c.at_, .int .u64 c.seed]
def seedF (s b : Int) : Int := IntKind.u64.wrap (IntKind.u64.wrap (IntKind.u64.wrap (s * 6364136223846793005) + IntKind.u64.wrap b) + 1442695040888963407)
theorem u64_lo {x : Int} : 0 ≤ IntKind.u64.wrap x ∧ IntKind.u64.wrap x < 18446744073709551616 := by
  constructor <;> simp [IntKind.wrap, IntKind.bits, IntKind.signed] <;> omega
def outF (s : Int) : Int := IntKind.i64.wrap (IntKind.u64.wrap ((BitVec.ofInt IntKind.u64.bits (s.fdiv (2 ^ min (Int.toNat 40) 64)) &&& BitVec.ofInt IntKind.u64.bits 255).toNat : Int))
theorem outF_in {s : Int} : 0 ≤ outF s ∧ outF s ≤ 255 := by
  have h : (BitVec.ofInt IntKind.u64.bits (s.fdiv (2 ^ min (Int.toNat 40) 64)) &&& BitVec.ofInt IntKind.u64.bits 255).toNat ≤ 255 := by
    rw [BitVec.toNat_and]
    exact Nat.le_trans Nat.and_le_right (by decide)
  unfold outF
  generalize (BitVec.ofInt IntKind.u64.bits (s.fdiv (2 ^ min (Int.toNat 40) 64)) &&& BitVec.ofInt IntKind.u64.bits 255).toNat = z at h
  have e : IntKind.u64.wrap (z : Int) = z := by simp [IntKind.wrap, IntKind.bits, IntKind.signed]; omega
  rw [e, wrap_in (by omega)]
  omega
def g95_0 : List Gop := [⟨none, (some 2), (.mov (.k (.one (.int .i64 0))))⟩]
def g95_1 : List Gop := [⟨none, (some 3), (.mov (.k (.one (.int .i64 0))))⟩]
def g95_2 : List Gop := [⟨none, (some 4), (.mov (.t 0))⟩, ⟨none, (some 5), (.nilc (.t 4))⟩, ⟨none, (some 6), (.faddr (.t 5) 1)⟩, ⟨none, (some 7), (.load none (.t 6))⟩, ⟨none, (some 8), (.mov (.t 0))⟩, ⟨none, (some 9), (.nilc (.t 8))⟩, ⟨none, (some 10), (.faddr (.t 9) 0)⟩, ⟨none, (some 11), (.load none (.t 10))⟩, ⟨none, (some 12), (.len (.t 11))⟩, ⟨none, (some 13), (.bin .lss (.t 7) (.t 12))⟩]
def a95_2 : List (List Nat) := [[], [0], [0, 1], [0, 1, 2], [], [4], [4, 5], [4, 5, 6], [4, 5, 6, 7], [0, 1, 2, 3, 4, 5, 6, 7, 8]]
def n95_2 : Nat := 9 -- of 10
def g95_3 : List Gop := [⟨none, (some 14), (.mov (.t 0))⟩, ⟨none, (some 15), (.nilc (.t 14))⟩, ⟨none, (some 16), (.faddr (.t 15) 0)⟩, ⟨none, (some 17), (.load none (.t 16))⟩, ⟨none, (some 18), (.mov (.t 0))⟩, ⟨none, (some 19), (.nilc (.t 18))⟩, ⟨none, (some 20), (.faddr (.t 19) 1)⟩, ⟨none, (some 21), (.load none (.t 20))⟩, ⟨none, (some 22), (.iaddr 1 (.t 17) (.t 21))⟩, ⟨none, (some 23), (.load none (.t 22))⟩, ⟨none, (some 24), (.cvi .i64 (.t 23))⟩, ⟨none, (some 3), (.mov (.t 24))⟩]
def a95_3 : List (List Nat) := [[], [0], [0, 1], [0, 1, 2], [], [4], [4, 5], [4, 5, 6], [0, 1, 2, 3, 4, 5, 6, 7], [0, 1, 2, 3, 4, 5, 6, 7, 8], [0, 1, 2, 3, 4, 5, 6, 7, 8, 9], [0, 1, 2, 3, 4, 5, 6, 7, 8, 9, 10]]
def n95_3 : Nat := 8 -- of 12
def g95_4 : List Gop := [⟨none, (some 25), (.mov (.t 0))⟩, ⟨none, (some 26), (.nilc (.t 25))⟩, ⟨none, (some 27), (.faddr (.t 26) 1)⟩, ⟨none, (some 28), (.load none (.t 27))⟩, ⟨none, (some 29), (.bin .add (.t 28) (.k (.one (.int .i64 1))))⟩, ⟨none, (some 30), (.nilc (.t 25))⟩, ⟨none, (some 31), (.faddr (.t 30) 1)⟩, ⟨none, none, (.store 1 (.t 31) (.t 29))⟩]
def g95_5 : List Gop := [⟨none, (some 32), (.mov (.t 0))⟩, ⟨none, (some 33), (.mov (.t 0))⟩, ⟨none, (some 34), (.nilc (.t 33))⟩, ⟨none, (some 35), (.faddr (.t 34) 2)⟩, ⟨none, (some 36), (.load none (.t 35))⟩, ⟨none, (some 37), (.bin .mul (.t 36) (.k (.one (.int .u64 6364136223846793005))))⟩, ⟨none, (some 38), (.mov (.t 3))⟩, ⟨none, (some 39), (.cvi .u64 (.t 38))⟩, ⟨none, (some 40), (.bin .add (.t 37) (.t 39))⟩, ⟨none, (some 41), (.bin .add (.t 40) (.k (.one (.int .u64 1442695040888963407))))⟩, ⟨none, (some 42), (.nilc (.t 32))⟩, ⟨none, (some 43), (.faddr (.t 42) 2)⟩, ⟨none, none, (.store 1 (.t 43) (.t 41))⟩]
def g95_6 : List Gop := [⟨none, (some 44), (.mov (.t 0))⟩, ⟨none, (some 45), (.nilc (.t 44))⟩, ⟨none, (some 46), (.faddr (.t 45) 1)⟩, ⟨none, (some 47), (.load none (.t 46))⟩, ⟨none, (some 48), (.mov (.t 0))⟩, ⟨none, (some 49), (.nilc (.t 48))⟩, ⟨none, (some 50), (.faddr (.t 49) 0)⟩, ⟨none, (some 51), (.load none (.t 50))⟩, ⟨none, (some 52), (.len (.t 51))⟩, ⟨none, (some 53), (.bin .leq (.t 47) (.t 52))⟩]
def a95_6 : List (List Nat) := [[], [0], [0, 1], [0, 1, 2], [], [4], [4, 5], [4, 5, 6], [4, 5, 6, 7], [0, 1, 2, 3, 4, 5, 6, 7, 8]]
def n95_6 : Nat := 9 -- of 10
def g95_7 : List Gop := [⟨none, (some 54), (.mov (.t 3))⟩, ⟨none, (some 2), (.mov (.t 54))⟩]
def g95_8 : List Gop := [⟨none, (some 55), (.mov (.t 0))⟩, ⟨none, (some 56), (.nilc (.t 55))⟩, ⟨none, (some 57), (.faddr (.t 56) 2)⟩, ⟨none, (some 58), (.load none (.t 57))⟩, ⟨none, (some 59), (.bin .shr (.t 58) (.k (.one (.int .u64 40))))⟩, ⟨none, (some 60), (.bin .and (.t 59) (.k (.one (.int .u64 255))))⟩, ⟨none, (some 61), (.cvi .i64 (.t 60))⟩, ⟨none, (some 2), (.mov (.t 61))⟩]
def i95 : Ir := (.seq (.region g95_0) (.seq (.region g95_1) (.seq (.seq (.draw [[], [0], [1], [2], [], [4], [5], [6], [7], [3, 8]] g95_2) (.cond (.t 13) (.draw [[], [0], [1], [2], [], [4], [5], [6], [3, 7], [8], [9], [10, 0, 1, 2, 3, 4, 5, 6, 7, 8, 9, 10]] g95_3) .skip)) (.seq (.region g95_4) (.seq (.region g95_5) (.seq (.seq (.draw [[], [0], [1], [2], [], [4], [5], [6], [7], [3, 8]] g95_6) (.cond (.t 53) (.seq (.region g95_7) .ret) .skip)) (.seq (.region g95_8) .ret)))))))
theorem next_ok (c : Cu) (b : Int) (hc : c.ok b) (hb : b ≤ 1125899906842624) : ∃ x c', c'.ok (b + 1) ∧ (0 ≤ x ∧ x ≤ 255) ∧ Meets Try.prog 95 [.one (cuT c)] (.w (.one (.int .i64 x))) [.one (cuT c')] := by
  obtain ⟨code, at_, seed⟩ := c
  obtain ⟨h1, h2, h3, h4, h5, h6⟩ := hc
  simp only at h1 h2 h3 h4 h5 h6
  by_cases hlt : at_ < code.length
  · have e1 : (at_.toNat : Int) = at_ := Int.toNat_of_nonneg h3
    have l1 : at_.toNat < code.length := by omega
    obtain ⟨g1, g2⟩ := h1 _ (getD_mem l1)
    refine ⟨code.getD at_.toNat default, ⟨code, at_ + 1, seedF seed (code.getD at_.toNat default)⟩, ⟨h1, h2, by simp only; omega, by simp only; omega, u64_lo.1, u64_lo.2⟩, ⟨g1, g2⟩, ?_⟩
    unfold cuT seedF
    refine meets_go (ir := i95) (fn := Try.f95) (rx := [(.tmp 2)]) rfl rfl (by rfl) (by rfl) (by exact Nat.le_of_ble_eq_true rfl) ?_
    simp (maxSteps := 9000000) -implicitDefEqProofs -dsimp (disch := omega) only [go_sem, g95_0, g95_1, g95_2, a95_2, n95_2, g95_3, a95_3, n95_3, g95_4, g95_5, g95_6, a95_6, n95_6, g95_7, g95_8, i95, Nat.reduceEqDiff, Nat.reduceAdd, Nat.reduceMul, Nat.reduceLeDiff, Nat.reduceBEq, Nat.reduceBNe, Int.reduceEq, ↓reduceIte, reduceCtorEq]
    refine draw_go n95_2 a95_2 (by decide +kernel) ?_
    simp (maxSteps := 9000000) -implicitDefEqProofs -dsimp (disch := omega) only [go_sem, g95_0, g95_1, g95_2, a95_2, n95_2, g95_3, a95_3, n95_3, g95_4, g95_5, g95_6, a95_6, n95_6, g95_7, g95_8, i95, lt_T, lt_F, le_T, le_F, eq_T, eq_F, and_F, Nat.reduceEqDiff, Nat.reduceAdd, Nat.reduceMul, Nat.reduceLeDiff, Nat.reduceBEq, Nat.reduceBNe, Int.reduceEq, ↓reduceIte, reduceCtorEq]
    refine draw_go n95_3 a95_3 (by decide +kernel) ?_
    simp (maxSteps := 9000000) -implicitDefEqProofs -dsimp (disch := omega) only [go_sem, g95_0, g95_1, g95_2, a95_2, n95_2, g95_3, a95_3, n95_3, g95_4, g95_5, g95_6, a95_6, n95_6, g95_7, g95_8, i95, lt_T, lt_F, le_T, le_F, eq_T, eq_F, and_F, Nat.reduceEqDiff, Nat.reduceAdd, Nat.reduceMul, Nat.reduceLeDiff, Nat.reduceBEq, Nat.reduceBNe, Int.reduceEq, ↓reduceIte, reduceCtorEq]
    refine draw_go n95_6 a95_6 (by decide +kernel) ?_
    simp (maxSteps := 9000000) -implicitDefEqProofs -dsimp (disch := omega) only [go_sem, g95_0, g95_1, g95_2, a95_2, n95_2, g95_3, a95_3, n95_3, g95_4, g95_5, g95_6, a95_6, n95_6, g95_7, g95_8, i95, lt_T, lt_F, le_T, le_F, eq_T, eq_F, and_F, Nat.reduceEqDiff, Nat.reduceAdd, Nat.reduceMul, Nat.reduceLeDiff, Nat.reduceBEq, Nat.reduceBNe, Int.reduceEq, ↓reduceIte, reduceCtorEq]
  · refine ⟨outF (seedF seed 0), ⟨code, at_ + 1, seedF seed 0⟩, ⟨h1, h2, by simp only; omega, by simp only; omega, u64_lo.1, u64_lo.2⟩, outF_in, ?_⟩
    unfold cuT outF seedF
    refine meets_go (ir := i95) (fn := Try.f95) (rx := [(.tmp 2)]) rfl rfl (by rfl) (by rfl) (by exact Nat.le_of_ble_eq_true rfl) ?_
    simp (maxSteps := 9000000) -implicitDefEqProofs -dsimp (disch := omega) only [go_sem, g95_0, g95_1, g95_2, a95_2, n95_2, g95_3, a95_3, n95_3, g95_4, g95_5, g95_6, a95_6, n95_6, g95_7, g95_8, i95, Nat.reduceEqDiff, Nat.reduceAdd, Nat.reduceMul, Nat.reduceLeDiff, Nat.reduceBEq, Nat.reduceBNe, Int.reduceEq, ↓reduceIte, reduceCtorEq]
    refine draw_go n95_2 a95_2 (by decide +kernel) ?_
    simp (maxSteps := 9000000) -implicitDefEqProofs -dsimp (disch := omega) only [go_sem, g95_0, g95_1, g95_2, a95_2, n95_2, g95_3, a95_3, n95_3, g95_4, g95_5, g95_6, a95_6, n95_6, g95_7, g95_8, i95, lt_T, lt_F, le_T, le_F, eq_T, eq_F, and_F, Nat.reduceEqDiff, Nat.reduceAdd, Nat.reduceMul, Nat.reduceLeDiff, Nat.reduceBEq, Nat.reduceBNe, Int.reduceEq, ↓reduceIte, reduceCtorEq]
    refine draw_go n95_6 a95_6 (by decide +kernel) ?_
    simp (maxSteps := 9000000) -implicitDefEqProofs -dsimp (disch := omega) only [go_sem, g95_0, g95_1, g95_2, a95_2, n95_2, g95_3, a95_3, n95_3, g95_4, g95_5, g95_6, a95_6, n95_6, g95_7, g95_8, i95, lt_T, lt_F, le_T, le_F, eq_T, eq_F, and_F, Nat.reduceEqDiff, Nat.reduceAdd, Nat.reduceMul, Nat.reduceLeDiff, Nat.reduceBEq, Nat.reduceBNe, Int.reduceEq, ↓reduceIte, reduceCtorEq]
def g81_0 : List Gop := [⟨none, (some 4), (.mov (.k (.one (.int .i64 0))))⟩]
def g81_1 : List Gop := [⟨none, (some 6), (.mov (.t 1))⟩, ⟨none, (some 7), (.bin .leq (.t 6) (.k (.one (.int .i64 1))))⟩]
def g81_2 : List Gop := [⟨none, (some 4), (.mov (.k (.one (.int .i64 0))))⟩]
def g81_3 : List Gop := [⟨none, (some 8), (.mov (.t 0))⟩, ⟨none, (some 9), (.call 95 [(.t 8)])⟩, ⟨none, (some 5), (.mov (.t 9))⟩]
def g81_4 : List Gop := [⟨none, (some 10), (.mov (.t 1))⟩, ⟨none, (some 11), (.bin .gtr (.t 10) (.k (.one (.int .i64 200))))⟩]
def g81_5 : List Gop := [⟨none, (some 12), (.mov (.t 5))⟩, ⟨none, (some 13), (.bin .mul (.t 12) (.k (.one (.int .i64 256))))⟩, ⟨none, (some 14), (.mov (.t 0))⟩, ⟨none, (some 15), (.call 95 [(.t 14)])⟩, ⟨none, (some 16), (.bin .add (.t 13) (.t 15))⟩, ⟨none, (some 5), (.mov (.t 16))⟩]
def g81_6 : List Gop := [⟨none, (some 17), (.mov (.t 5))⟩, ⟨none, (some 18), (.mov (.t 1))⟩, ⟨none, (some 19), (.bin .rem (.t 17) (.t 18))⟩, ⟨none, (some 4), (.mov (.t 19))⟩]
def i81 : Ir := (.seq (.region g81_0) (.seq (.seq (.region g81_1) (.cond (.t 7) (.seq (.region g81_2) .ret) .skip)) (.seq (.region g81_3) (.seq (.seq (.region g81_4) (.cond (.t 11) (.region g81_5) .skip)) (.seq (.region g81_6) .ret)))))
theorem pick_ok (c : Cu) (b n : Int) (hc : c.ok b) (hb : b ≤ 1125899906842624) (hn : 1 ≤ n) (hn2 : n ≤ 200) : ∃ x c', c'.ok (b + 1) ∧ (0 ≤ x ∧ x < n) ∧ Meets Try.prog 81 [.one (cuT c), .one (.int .i64 n)] (.w (.one (.int .i64 x))) [.one (cuT c'), .one .hole] := by
  by_cases h1 : n = 1
  · subst h1
    obtain ⟨q1, q2, q3, q4, q5, q6⟩ := hc
    refine ⟨0, c, ⟨q1, q2, q3, by omega, q5, q6⟩, by omega, ?_⟩
    unfold cuT
    refine meets_go (ir := i81) (fn := Try.f81) (rx := [(.tmp 4)]) rfl rfl (by rfl) (by rfl) (by exact Nat.le_of_ble_eq_true rfl) ?_
    simp (maxSteps := 9000000) -implicitDefEqProofs -dsimp (disch := omega) only [go_sem, g81_0, g81_1, g81_2, g81_3, g81_4, g81_5, g81_6, i81, lt_T, lt_F, le_T, le_F, eq_T, eq_F, and_F, Nat.reduceEqDiff, Nat.reduceAdd, Nat.reduceMul, Nat.reduceLeDiff, Nat.reduceBEq, Nat.reduceBNe, Int.reduceEq, ↓reduceIte, reduceCtorEq]
  · obtain ⟨x, c', k1, k2, M⟩ := next_ok c b hc hb
    have e : 0 ≤ x.tmod n ∧ x.tmod n < n := by
      rw [Int.tmod_eq_emod_of_nonneg k2.1]
      exact ⟨Int.emod_nonneg _ (by omega), Int.emod_lt_of_pos _ (by omega)⟩
    refine ⟨x.tmod n, c', k1, e, ?_⟩
    unfold cuT at *
    refine meets_go (ir := i81) (fn := Try.f81) (rx := [(.tmp 4)]) rfl rfl (by rfl) (by rfl) (by exact Nat.le_of_ble_eq_true rfl) ?_
    simp (maxSteps := 9000000) -implicitDefEqProofs -dsimp (disch := omega) only [go_sem, g81_0, g81_1, g81_2, g81_3, g81_4, g81_5, g81_6, i81, lt_T, lt_F, le_T, le_F, eq_T, eq_F, and_F, Nat.reduceEqDiff, Nat.reduceAdd, Nat.reduceMul, Nat.reduceLeDiff, Nat.reduceBEq, Nat.reduceBNe, Int.reduceEq, ↓reduceIte, reduceCtorEq]
    refine call_go false M ?_
    simp (maxSteps := 9000000) -implicitDefEqProofs -dsimp (disch := omega) only [go_sem, g81_0, g81_1, g81_2, g81_3, g81_4, g81_5, g81_6, i81, lt_T, lt_F, le_T, le_F, eq_T, eq_F, and_F, Nat.reduceEqDiff, Nat.reduceAdd, Nat.reduceMul, Nat.reduceLeDiff, Nat.reduceBEq, Nat.reduceBNe, Int.reduceEq, ↓reduceIte, reduceCtorEq]
def g80_0 : List Gop := [⟨none, (some 4), (.mov (.k (.one (.bool .false))))⟩]
def g80_1 : List Gop := [⟨none, (some 5), (.mov (.t 0))⟩, ⟨none, (some 6), (.mov (.t 1))⟩, ⟨none, (some 7), (.call 81 [(.t 5), (.t 6)])⟩, ⟨none, (some 8), (.bin .eql (.t 7) (.k (.one (.int .i64 0))))⟩, ⟨none, (some 4), (.mov (.t 8))⟩]
def i80 : Ir := (.seq (.region g80_0) (.seq (.region g80_1) .ret))
theorem one_ok (c : Cu) (b n : Int) (hc : c.ok b) (hb : b ≤ 1125899906842624) (hn : 1 ≤ n) (hn2 : n ≤ 200) : ∃ y c', c'.ok (b + 1) ∧ Meets Try.prog 80 [.one (cuT c), .one (.int .i64 n)] (.w (.one (.bool y))) [.one (cuT c'), .one .hole] := by
  obtain ⟨x, c', k1, k2, M⟩ := pick_ok c b n hc hb hn hn2
  refine ⟨decide (x = 0), c', k1, ?_⟩
  unfold cuT at *
  refine meets_go (ir := i80) (fn := Try.f80) (rx := [(.tmp 4)]) rfl rfl (by rfl) (by rfl) (by exact Nat.le_of_ble_eq_true rfl) ?_
  simp (maxSteps := 9000000) -implicitDefEqProofs -dsimp (disch := omega) only [go_sem, g80_0, g80_1, i80, Nat.reduceEqDiff, Nat.reduceAdd, Nat.reduceMul, Nat.reduceLeDiff, Nat.reduceBEq, Nat.reduceBNe, Int.reduceEq, ↓reduceIte, reduceCtorEq]
  refine call_go false M ?_
  simp (maxSteps := 9000000) -implicitDefEqProofs -dsimp (disch := omega) only [go_sem, g80_0, g80_1, i80, Nat.reduceEqDiff, Nat.reduceAdd, Nat.reduceMul, Nat.reduceLeDiff, Nat.reduceBEq, Nat.reduceBNe, Int.reduceEq, ↓reduceIte, reduceCtorEq]
def g96_0 : List Gop := [⟨none, (some 4), (.mov (.k (.one (.str ⟨#[]⟩))))⟩]
def g96_1 : List Gop := [⟨none, (some 5), (.mov (.t 1))⟩, ⟨none, (some 6), (.mov (.t 0))⟩, ⟨none, (some 7), (.mov (.t 1))⟩, ⟨none, (some 8), (.len (.t 7))⟩, ⟨none, (some 9), (.call 81 [(.t 6), (.t 8)])⟩, ⟨none, (some 10), (.iaddr 1 (.t 5) (.t 9))⟩, ⟨none, (some 11), (.load none (.t 10))⟩, ⟨none, (some 4), (.mov (.t 11))⟩]
def i96 : Ir := (.seq (.region g96_0) (.seq (.region g96_1) .ret))
theorem of_ok (c : Cu) (b : Int) (l : List ByteArray) (hc : c.ok b) (hb : b ≤ 1125899906842624) (hn : 1 ≤ l.length) (hn2 : l.length ≤ 200) : ∃ y c', c'.ok (b + 1) ∧ y ∈ l ∧ Meets Try.prog 96 [.one (cuT c), .one (.sl true 1 l.length (l.map T.str))] (.w (.one (.str y))) [.one (cuT c'), .one .hole] := by
  obtain ⟨x, c', k1, k2, M⟩ := pick_ok c b l.length hc hb (by omega) (by omega)
  have e1 : (x.toNat : Int) = x := Int.toNat_of_nonneg k2.1
  have e2 : x.toNat < l.length := by omega
  refine ⟨l.getD x.toNat default, c', k1, getD_mem e2, ?_⟩
  unfold cuT at *
  refine meets_go (ir := i96) (fn := Try.f96) (rx := [(.tmp 4)]) rfl rfl (by rfl) (by rfl) (by exact Nat.le_of_ble_eq_true rfl) ?_
  simp (maxSteps := 9000000) -implicitDefEqProofs -dsimp (disch := omega) only [go_sem, g96_0, g96_1, i96, Nat.reduceEqDiff, Nat.reduceAdd, Nat.reduceMul, Nat.reduceLeDiff, Nat.reduceBEq, Nat.reduceBNe, Int.reduceEq, ↓reduceIte, reduceCtorEq]
  refine call_go false M ?_
  simp (maxSteps := 9000000) -implicitDefEqProofs -dsimp (disch := omega) only [go_sem, g96_0, g96_1, i96, Nat.reduceEqDiff, Nat.reduceAdd, Nat.reduceMul, Nat.reduceLeDiff, Nat.reduceBEq, Nat.reduceBNe, Int.reduceEq, ↓reduceIte, reduceCtorEq]
def g83_0 : List Gop := [⟨none, (some 4), (.mov (.k (.one (.int .i64 0))))⟩]
def g83_1 : List Gop := [⟨none, (some 5), (.mov (.t 1))⟩, ⟨none, (some 6), (.mov (.t 0))⟩, ⟨none, (some 7), (.mov (.t 1))⟩, ⟨none, (some 8), (.len (.t 7))⟩, ⟨none, (some 9), (.call 81 [(.t 6), (.t 8)])⟩, ⟨none, (some 10), (.iaddr 1 (.t 5) (.t 9))⟩, ⟨none, (some 11), (.load none (.t 10))⟩, ⟨none, (some 4), (.mov (.t 11))⟩]
def i83 : Ir := (.seq (.region g83_0) (.seq (.region g83_1) .ret))
theorem among_ok (c : Cu) (b : Int) (l : List Int) (hc : c.ok b) (hb : b ≤ 1125899906842624) (hn : 1 ≤ l.length) (hn2 : l.length ≤ 200) : ∃ y c', c'.ok (b + 1) ∧ y ∈ l ∧ Meets Try.prog 83 [.one (cuT c), .one (.sl true 1 l.length (l.map (T.int .i64)))] (.w (.one (.int .i64 y))) [.one (cuT c'), .one .hole] := by
  obtain ⟨x, c', k1, k2, M⟩ := pick_ok c b l.length hc hb (by omega) (by omega)
  have e1 : (x.toNat : Int) = x := Int.toNat_of_nonneg k2.1
  have e2 : x.toNat < l.length := by omega
  refine ⟨l.getD x.toNat default, c', k1, getD_mem e2, ?_⟩
  unfold cuT at *
  refine meets_go (ir := i83) (fn := Try.f83) (rx := [(.tmp 4)]) rfl rfl (by rfl) (by rfl) (by exact Nat.le_of_ble_eq_true rfl) ?_
  simp (maxSteps := 9000000) -implicitDefEqProofs -dsimp (disch := omega) only [go_sem, g83_0, g83_1, i83, Nat.reduceEqDiff, Nat.reduceAdd, Nat.reduceMul, Nat.reduceLeDiff, Nat.reduceBEq, Nat.reduceBNe, Int.reduceEq, ↓reduceIte, reduceCtorEq]
  refine call_go false M ?_
  simp (maxSteps := 9000000) -implicitDefEqProofs -dsimp (disch := omega) only [go_sem, g83_0, g83_1, i83, Nat.reduceEqDiff, Nat.reduceAdd, Nat.reduceMul, Nat.reduceLeDiff, Nat.reduceBEq, Nat.reduceBNe, Int.reduceEq, ↓reduceIte, reduceCtorEq]
end Go.Proofs.YtjlodcoeegpkaaaT

/- Functions of the program as contracts: steps drawn from a code. No condition. -/
set_option maxRecDepth 100000
set_option maxHeartbeats 8000000
set_option linter.unusedSimpArgs false
set_option linter.unusedVariables false
namespace Go.Proofs.YtjlodcoeegpkaaaT
open Go Go.RowKit
theorem Cu.ok.mono {c : Cu} {b b' : Int} (h : c.ok b) (hb : b ≤ b') : c.ok b' := by
  obtain ⟨q1, q2, q3, q4, q5, q6⟩ := h
  exact ⟨q1, q2, q3, by omega, q5, q6⟩
def dkT (m : Nat) (d : Dk) : T := .bx true [.sl true 1 m (d.p.map T.str), .sl true 1 m (d.h.map T.str), .sl true 1 m (d.b.map T.bool)]
def stX (x : Stp) : T := .bx true [.int .i64 x.k, .int .i64 x.a, .str x.t, (.sl true 1 x.h.length (x.h.map (T.int .i64)))]
def drS (r n : Int) (m : Nat) (c : Cu) (d : Dk) (l : List Stp) : St := ⟨[(6, .w (.one (.int .i64 r))), (5, .w (.one (.hs 2 [] 0 4 l.length))), (7, .w (.one (.hp 1 [] 0))), (8, .w (.one (.bool true))), (0, .w (.one (.hp 0 [] 0))), (1, .w (.one (.int .i64 n)))],
  [(0, cuT c), (1, dkT m d), (2, .sl true 4 l.length (stO l))], [.one (.hp 0 [] 0), .one (.int .i64 n)]⟩
def drX (r n : Int) (m : Nat) (c : Cu) (d : Dk) (l : List Stp) (x : Stp) : St := ⟨[(9, .w (.one (.hp 3 [] 0))), (6, .w (.one (.int .i64 r))), (5, .w (.one (.hs 2 [] 0 4 l.length))), (7, .w (.one (.hp 1 [] 0))), (8, .w (.one (.bool true))), (0, .w (.one (.hp 0 [] 0))), (1, .w (.one (.int .i64 n)))],
  [(3, stX x), (0, cuT c), (1, dkT m d), (2, .sl true 4 l.length (stO l))], [.one (.hp 0 [] 0), .one (.int .i64 n)]⟩
def g84_0 : List Gop := [⟨none, (some 4), (.mov (.k (.one .nil)))⟩]
def g84_1 : List Gop := [⟨none, (some 5), (.mov (.k (.one .nil)))⟩]
def g84_2 : List Gop := [⟨none, (some 14), (.mov (.t 0))⟩, ⟨none, (some 15), (.call 81 [(.t 14), (.k (.one (.int .i64 20)))])⟩, ⟨none, (some 6), (.mov (.t 15))⟩]
def g84_3 : List Gop := [⟨none, (some 16), (.mov (.t 0))⟩, ⟨none, (some 17), (.call 80 [(.t 16), (.k (.one (.int .i64 12)))])⟩]
def g84_4 : List Gop := [⟨none, (some 18), (.mov (.t 0))⟩, ⟨none, (some 19), (.call 81 [(.t 18), (.k (.one (.int .i64 7)))])⟩, ⟨none, (some 20), (.bin .add (.k (.one (.int .i64 75))) (.t 19))⟩, ⟨none, (some 6), (.mov (.t 20))⟩]
def g84_5 : List Gop := [⟨none, (some 22), (.mov (.t 1))⟩, ⟨none, (some 23), (.call 13 [(.t 22)])⟩, ⟨none, (some 21), (.mov (.t 23))⟩, ⟨none, (some 24), (.ext (.t 21) 0)⟩, ⟨none, (some 25), (.ext (.t 21) 1)⟩, ⟨none, (some 7), (.alloc [.nil, .nil, .nil])⟩, ⟨none, none, (.store 3 (.t 7) (.t 24))⟩, ⟨none, (some 8), (.mov (.t 25))⟩]
def g84_6 : List Gop := [⟨none, (some 26), (.mov (.t 6))⟩, ⟨none, (some 27), (.bin .gtr (.t 26) (.k (.one (.int .i64 0))))⟩]
def g84_7 : List Gop := [⟨none, (some 30), (.mov (.t 0))⟩, ⟨none, (some 31), (.lit 1 9 [(.int .i64 0)] [(0, (.k (.one (.int .i64 1)))), (1, (.k (.one (.int .i64 1)))), (2, (.k (.one (.int .i64 1)))), (3, (.k (.one (.int .i64 1)))), (4, (.k (.one (.int .i64 2)))), (5, (.k (.one (.int .i64 3)))), (6, (.k (.one (.int .i64 4)))), (7, (.k (.one (.int .i64 5)))), (8, (.k (.one (.int .i64 6))))])⟩, ⟨none, (some 32), (.call 83 [(.t 30), (.t 31)])⟩, ⟨none, (some 33), (.build [(.int .i64 0), (.int .i64 0), (.str ⟨#[]⟩), .nil] [(0, (1, (.t 32)))])⟩, ⟨none, (some 9), (.alloc [(.int .i64 0), (.int .i64 0), (.str ⟨#[]⟩), .nil])⟩, ⟨none, none, (.store 4 (.t 9) (.t 33))⟩]
def g84_8 : List Gop := [⟨none, (some 34), (.faddr (.t 9) 0)⟩, ⟨none, (some 35), (.load none (.t 34))⟩]
def g84_9 : List Gop := [⟨none, (some 37), (.bin .eql (.t 35) (.k (.one (.int .i64 1))))⟩, ⟨none, (some 36), (.mov (.t 37))⟩]
def g84_10 : List Gop := [⟨none, (some 38), (.mov (.t 0))⟩, ⟨none, (some 39), (.mov (.t 1))⟩, ⟨none, (some 40), (.bin .add (.t 39) (.k (.one (.int .i64 1))))⟩, ⟨none, (some 41), (.call 81 [(.t 38), (.t 40)])⟩, ⟨none, (some 42), (.faddr (.t 9) 1)⟩, ⟨none, none, (.store 1 (.t 42) (.t 41))⟩]
def g84_11 : List Gop := [⟨none, (some 43), (.mov (.t 0))⟩, ⟨none, (some 44), (.lit 1 3 [(.str ⟨#[]⟩)] [(0, (.k (.one (.str ⟨#[111, 110, 101]⟩)))), (1, (.k (.one (.str ⟨#[116, 119, 111]⟩)))), (2, (.k (.one (.str ⟨#[97, 110, 111, 116, 104, 101, 114]⟩))))])⟩, ⟨none, (some 45), (.call 96 [(.t 43), (.t 44)])⟩, ⟨none, (some 46), (.faddr (.t 9) 2)⟩, ⟨none, none, (.store 1 (.t 46) (.t 45))⟩]
def g84_12 : List Gop := [⟨none, (some 48), (.bin .eql (.t 35) (.k (.one (.int .i64 3))))⟩, ⟨none, (some 47), (.mov (.t 48))⟩]
def g84_13 : List Gop := [⟨none, (some 49), (.load (some 3) (.t 7))⟩, ⟨none, (some 50), (.call 72 [(.t 49)])⟩, ⟨none, (some 51), (.len (.t 50))⟩, ⟨none, (some 52), (.mov (.k (.one (.int .i64 0))))⟩]
def g84_14 : List Gop := [⟨none, (some 53), (.bin .lss (.t 52) (.t 51))⟩]
def g84_15 : List Gop := [⟨none, (some 54), (.iaddr 1 (.t 50) (.t 52))⟩, ⟨none, (some 55), (.load none (.t 54))⟩, ⟨none, (some 11), (.mov (.t 55))⟩]
def g84_16 : List Gop := [⟨none, (some 56), (.mov (.t 0))⟩, ⟨none, (some 57), (.call 80 [(.t 56), (.k (.one (.int .i64 2)))])⟩]
def g84_17 : List Gop := [⟨none, (some 58), (.faddr (.t 9) 3)⟩, ⟨none, (some 59), (.load none (.t 58))⟩, ⟨none, (some 60), (.mov (.t 11))⟩, ⟨none, (some 61), (.lit 1 1 [(.int .i64 0)] [(0, (.t 60))])⟩, ⟨none, (some 62), (.app 1 8 [(.int .i64 0)] (.t 59) (.t 61))⟩, ⟨none, (some 63), (.faddr (.t 9) 3)⟩, ⟨none, none, (.store 1 (.t 63) (.t 62))⟩]
def g84_18 : List Gop := [⟨none, (some 64), (.bin .add (.t 52) (.k (.one (.int .i64 1))))⟩, ⟨none, (some 52), (.mov (.t 64))⟩]
def g84_19 : List Gop := [⟨none, (some 66), (.bin .eql (.t 35) (.k (.one (.int .i64 4))))⟩, ⟨none, (some 65), (.mov (.t 66))⟩]
def g84_20 : List Gop := [⟨none, (some 67), (.mov (.t 0))⟩, ⟨none, (some 68), (.mov (.t 1))⟩, ⟨none, (some 69), (.call 81 [(.t 67), (.t 68)])⟩, ⟨none, (some 70), (.faddr (.t 9) 1)⟩, ⟨none, none, (.store 1 (.t 70) (.t 69))⟩]
def g84_21 : List Gop := [⟨none, (some 71), (.mov (.t 0))⟩, ⟨none, (some 72), (.lit 1 3 [(.str ⟨#[]⟩)] [(0, (.k (.one (.str ⟨#[1]⟩)))), (1, (.k (.one (.str ⟨#[0, 128]⟩)))), (2, (.k (.one (.str ⟨#[255, 255]⟩))))])⟩, ⟨none, (some 73), (.call 96 [(.t 71), (.t 72)])⟩, ⟨none, (some 74), (.faddr (.t 9) 2)⟩, ⟨none, none, (.store 1 (.t 74) (.t 73))⟩]
def g84_22 : List Gop := [⟨none, (some 76), (.bin .eql (.t 35) (.k (.one (.int .i64 5))))⟩, ⟨none, (some 75), (.mov (.t 76))⟩]
def g84_23 : List Gop := [⟨none, (some 77), (.bin .eql (.t 35) (.k (.one (.int .i64 6))))⟩, ⟨none, (some 75), (.mov (.t 77))⟩]
def g84_24 : List Gop := [⟨none, (some 78), (.mov (.t 0))⟩, ⟨none, (some 79), (.mov (.t 1))⟩, ⟨none, (some 80), (.call 81 [(.t 78), (.t 79)])⟩, ⟨none, (some 81), (.faddr (.t 9) 1)⟩, ⟨none, none, (.store 1 (.t 81) (.t 80))⟩]
def g84_25 : List Gop := [⟨none, (some 82), (.mov (.t 0))⟩, ⟨none, (some 83), (.call 80 [(.t 82), (.k (.one (.int .i64 60)))])⟩]
def g84_26 : List Gop := [⟨none, (some 84), (.mov (.t 0))⟩, ⟨none, (some 85), (.call 81 [(.t 84), (.k (.one (.int .i64 8)))])⟩, ⟨none, (some 86), (.mov (.t 0))⟩, ⟨none, (some 87), (.call 81 [(.t 86), (.k (.one (.int .i64 30)))])⟩, ⟨none, (some 88), (.bin .sub (.t 87) (.k (.one (.int .i64 1))))⟩, ⟨none, (some 89), (.mov (.t 0))⟩, ⟨none, (some 90), (.lit 1 2 [(.str ⟨#[]⟩)] [(0, (.k (.one (.str ⟨#[]⟩)))), (1, (.k (.one (.str ⟨#[97, 32, 116, 101, 120, 116, 32, 111, 102, 32, 109, 111, 114, 101, 32, 116, 104, 97, 110, 32, 50, 56, 32, 98, 121, 116, 101, 115, 32, 46, 46]⟩))))])⟩, ⟨none, (some 91), (.call 96 [(.t 89), (.t 90)])⟩, ⟨none, (some 92), (.build [(.int .i64 0), (.int .i64 0), (.str ⟨#[]⟩), .nil] [(0, (1, (.t 85))), (1, (1, (.t 88))), (2, (1, (.t 91)))])⟩, ⟨none, none, (.store 4 (.t 9) (.t 92))⟩]
def g84_27 : List Gop := [⟨none, (some 93), (.mov (.t 8))⟩]
def g84_28 : List Gop := [⟨none, (some 95), (.load (some 3) (.t 7))⟩, ⟨none, (some 96), (.call 76 [(.t 95)])⟩, ⟨none, (some 97), (.load (some 4) (.t 9))⟩, ⟨none, (some 98), (.call 86 [(.t 96), (.t 97)])⟩, ⟨none, (some 94), (.mov (.t 98))⟩, ⟨none, (some 99), (.ext (.t 94) 0)⟩, ⟨none, (some 100), (.ext (.t 94) 1)⟩, ⟨none, (some 12), (.alloc [.nil, .nil, .nil])⟩, ⟨none, none, (.store 3 (.t 12) (.t 99))⟩, ⟨none, (some 13), (.mov (.t 100))⟩]
def a84_28 : List (List Nat) := [[], [0], [], [0, 1, 2], [0, 1, 2, 3], [0, 1, 2, 3, 4], [0, 1, 2, 3, 4], [], [0, 1, 2, 3, 4, 5, 7], [0, 1, 2, 3, 4, 5, 6, 7, 8]]
def n84_28 : Nat := 9 -- of 10
def g84_29 : List Gop := [⟨none, (some 101), (.mov (.t 13))⟩]
def g84_30 : List Gop := [⟨none, (some 102), (.load (some 3) (.t 12))⟩, ⟨none, none, (.store 3 (.t 7) (.t 102))⟩]
def g84_31 : List Gop := [⟨none, (some 103), (.mov (.t 5))⟩, ⟨none, (some 104), (.load (some 4) (.t 9))⟩, ⟨none, (some 105), (.lit 4 1 [(.int .i64 0), (.int .i64 0), (.str ⟨#[]⟩), .nil] [(0, (.t 104))])⟩, ⟨none, (some 106), (.app 4 56 [(.int .i64 0), (.int .i64 0), (.str ⟨#[]⟩), .nil] (.t 103) (.t 105))⟩, ⟨none, (some 5), (.mov (.t 106))⟩]
def g84_32 : List Gop := [⟨none, (some 28), (.mov (.t 6))⟩, ⟨none, (some 29), (.bin .sub (.t 28) (.k (.one (.int .i64 1))))⟩, ⟨none, (some 6), (.mov (.t 29))⟩]
def g84_33 : List Gop := [⟨none, (some 107), (.mov (.t 5))⟩, ⟨none, (some 4), (.mov (.t 107))⟩]
def i84 : Ir := (.seq (.region g84_0) (.seq (.region g84_1) (.seq (.region g84_2) (.seq (.seq (.region g84_3) (.cond (.t 17) (.region g84_4) .skip)) (.seq (.region g84_5) (.seq (.block 0 (.loop (.seq (.seq (.region g84_6) (.cond (.t 27) .skip (.exit 0))) (.seq (.block 1 (.seq (.region g84_7) (.seq (.seq (.region g84_8) (.block 2 (.seq (.region g84_9) (.cond (.t 36) (.seq (.region g84_10) (.region g84_11)) (.seq (.region g84_12) (.cond (.t 47) (.seq (.region g84_13) (.block 3 (.loop (.seq (.region g84_14) (.seq (.cond (.t 53) .skip (.exit 3)) (.seq (.block 4 (.seq (.region g84_15) (.seq (.region g84_16) (.cond (.t 57) (.region g84_17) .skip)))) (.region g84_18))))))) (.seq (.region g84_19) (.cond (.t 65) (.seq (.region g84_20) (.region g84_21)) (.seq (.seq (.region g84_22) (.cond (.t 75) .skip (.region g84_23))) (.cond (.t 75) (.region g84_24) .skip)))))))))) (.seq (.seq (.region g84_25) (.cond (.t 83) (.region g84_26) .skip)) (.seq (.seq (.region g84_27) (.cond (.t 93) (.seq (.draw [[], [0], [], [1, 2, 1], [3], [4], [4], [], [7, 5, 3, 0, 1, 2, 3, 4, 5, 7], [6, 8, 0, 1, 2, 3, 4, 5, 6, 7, 8]] g84_28) (.seq (.region g84_29) (.cond (.t 101) (.region g84_30) .skip))) .skip)) (.region g84_31)))))) (.region g84_32))))) (.seq (.region g84_33) .ret)))))))
def swI : Ir := (.seq (.region g84_8) (.block 2 (.seq (.region g84_9) (.cond (.t 36) (.seq (.region g84_10) (.region g84_11)) (.seq (.region g84_12) (.cond (.t 47) (.seq (.region g84_13) (.block 3 (.loop (.seq (.region g84_14) (.seq (.cond (.t 53) .skip (.exit 3)) (.seq (.block 4 (.seq (.region g84_15) (.seq (.region g84_16) (.cond (.t 57) (.region g84_17) .skip)))) (.region g84_18))))))) (.seq (.region g84_19) (.cond (.t 65) (.seq (.region g84_20) (.region g84_21)) (.seq (.seq (.region g84_22) (.cond (.t 75) .skip (.region g84_23))) (.cond (.t 75) (.region g84_24) .skip))))))))))
def oneI : Ir := (.seq (.region g84_25) (.cond (.t 83) (.region g84_26) .skip))
def stpI : Ir := (.seq (.region g84_27) (.cond (.t 93) (.seq (.draw [[], [0], [], [1, 2, 1], [3], [4], [4], [], [7, 5, 3, 0, 1, 2, 3, 4, 5, 7], [6, 8, 0, 1, 2, 3, 4, 5, 6, 7, 8]] g84_28) (.seq (.region g84_29) (.cond (.t 101) (.region g84_30) .skip))) .skip))
theorem body_eq : ((.seq (.seq (.region g84_6) (.cond (.t 27) .skip (.exit 0))) (.seq (.block 1 (.seq (.region g84_7) (.seq (.seq (.region g84_8) (.block 2 (.seq (.region g84_9) (.cond (.t 36) (.seq (.region g84_10) (.region g84_11)) (.seq (.region g84_12) (.cond (.t 47) (.seq (.region g84_13) (.block 3 (.loop (.seq (.region g84_14) (.seq (.cond (.t 53) .skip (.exit 3)) (.seq (.block 4 (.seq (.region g84_15) (.seq (.region g84_16) (.cond (.t 57) (.region g84_17) .skip)))) (.region g84_18))))))) (.seq (.region g84_19) (.cond (.t 65) (.seq (.region g84_20) (.region g84_21)) (.seq (.seq (.region g84_22) (.cond (.t 75) .skip (.region g84_23))) (.cond (.t 75) (.region g84_24) .skip)))))))))) (.seq (.seq (.region g84_25) (.cond (.t 83) (.region g84_26) .skip)) (.seq (.seq (.region g84_27) (.cond (.t 93) (.seq (.draw [[], [0], [], [1, 2, 1], [3], [4], [4], [], [7, 5, 3, 0, 1, 2, 3, 4, 5, 7], [6, 8, 0, 1, 2, 3, 4, 5, 6, 7, 8]] g84_28) (.seq (.region g84_29) (.cond (.t 101) (.region g84_30) .skip))) .skip)) (.region g84_31)))))) (.region g84_32))) : Ir) = .seq (.seq (.region g84_6) (.cond (.t 27) .skip (.exit 0))) (.seq (.block 1 (.seq (.region g84_7) (.seq swI (.seq oneI (.seq stpI (.region g84_31)))))) (.region g84_32)) := rfl
section
variable {r n : Int} {m : Nat} {c : Cu} {d : Dk} {l : List Stp}
theorem dr6 (hr : 0 < r) : Rnd Try.prog (.seq (.region g84_6) (.cond (.t 27) .skip (.exit 0))) (drS r n m c d l) (drS r n m c d l) := by
  refine rnd_go ?_
  unfold drS
  simp (maxSteps := 9000000) -implicitDefEqProofs -dsimp (disch := omega) only [go_sem, g84_0, g84_1, g84_2, g84_3, g84_4, g84_5, g84_6, g84_7, g84_8, g84_9, g84_10, g84_11, g84_12, g84_13, g84_14, g84_15, g84_16, g84_17, g84_18, g84_19, g84_20, g84_21, g84_22, g84_23, g84_24, g84_25, g84_26, g84_27, g84_28, a84_28, n84_28, g84_29, g84_30, g84_31, g84_32, g84_33, i84, lt_T, lt_F, le_T, le_F, eq_T, eq_F, and_F, Nat.reduceEqDiff, Nat.reduceAdd, Nat.reduceMul, Nat.reduceLeDiff, Nat.reduceBEq, Nat.reduceBNe, Int.reduceEq, ↓reduceIte, reduceCtorEq]
  exact (imp_sub (by simp (maxSteps := 9000000) -implicitDefEqProofs -dsimp (disch := omega) only [go_sem, g84_0, g84_1, g84_2, g84_3, g84_4, g84_5, g84_6, g84_7, g84_8, g84_9, g84_10, g84_11, g84_12, g84_13, g84_14, g84_15, g84_16, g84_17, g84_18, g84_19, g84_20, g84_21, g84_22, g84_23, g84_24, g84_25, g84_26, g84_27, g84_28, a84_28, n84_28, g84_29, g84_30, g84_31, g84_32, g84_33, i84, Nat.reduceEqDiff, Nat.reduceAdd, Nat.reduceMul, Nat.reduceLeDiff, Nat.reduceBEq, Nat.reduceBNe, Int.reduceEq, ↓reduceIte, reduceCtorEq]) (by simp (maxSteps := 9000000) -implicitDefEqProofs -dsimp (disch := omega) only [go_sem, g84_0, g84_1, g84_2, g84_3, g84_4, g84_5, g84_6, g84_7, g84_8, g84_9, g84_10, g84_11, g84_12, g84_13, g84_14, g84_15, g84_16, g84_17, g84_18, g84_19, g84_20, g84_21, g84_22, g84_23, g84_24, g84_25, g84_26, g84_27, g84_28, a84_28, n84_28, g84_29, g84_30, g84_31, g84_32, g84_33, i84, Nat.reduceEqDiff, Nat.reduceAdd, Nat.reduceMul, Nat.reduceLeDiff, Nat.reduceBEq, Nat.reduceBNe, Int.reduceEq, ↓reduceIte, reduceCtorEq]) rfl)
theorem dr32 (hr : 0 < r) (hr2 : r ≤ 1000) : Rnd Try.prog (.region g84_32) (drS r n m c d l) (drS (r - 1) n m c d l) := by
  refine rnd_go ?_
  unfold drS
  simp (maxSteps := 9000000) -implicitDefEqProofs -dsimp (disch := omega) only [go_sem, g84_0, g84_1, g84_2, g84_3, g84_4, g84_5, g84_6, g84_7, g84_8, g84_9, g84_10, g84_11, g84_12, g84_13, g84_14, g84_15, g84_16, g84_17, g84_18, g84_19, g84_20, g84_21, g84_22, g84_23, g84_24, g84_25, g84_26, g84_27, g84_28, a84_28, n84_28, g84_29, g84_30, g84_31, g84_32, g84_33, i84, lt_T, lt_F, le_T, le_F, eq_T, eq_F, and_F, Nat.reduceEqDiff, Nat.reduceAdd, Nat.reduceMul, Nat.reduceLeDiff, Nat.reduceBEq, Nat.reduceBNe, Int.reduceEq, ↓reduceIte, reduceCtorEq]
  exact (imp_sub (by simp (maxSteps := 9000000) -implicitDefEqProofs -dsimp (disch := omega) only [go_sem, g84_0, g84_1, g84_2, g84_3, g84_4, g84_5, g84_6, g84_7, g84_8, g84_9, g84_10, g84_11, g84_12, g84_13, g84_14, g84_15, g84_16, g84_17, g84_18, g84_19, g84_20, g84_21, g84_22, g84_23, g84_24, g84_25, g84_26, g84_27, g84_28, a84_28, n84_28, g84_29, g84_30, g84_31, g84_32, g84_33, i84, Nat.reduceEqDiff, Nat.reduceAdd, Nat.reduceMul, Nat.reduceLeDiff, Nat.reduceBEq, Nat.reduceBNe, Int.reduceEq, ↓reduceIte, reduceCtorEq]) (by simp (maxSteps := 9000000) -implicitDefEqProofs -dsimp (disch := omega) only [go_sem, g84_0, g84_1, g84_2, g84_3, g84_4, g84_5, g84_6, g84_7, g84_8, g84_9, g84_10, g84_11, g84_12, g84_13, g84_14, g84_15, g84_16, g84_17, g84_18, g84_19, g84_20, g84_21, g84_22, g84_23, g84_24, g84_25, g84_26, g84_27, g84_28, a84_28, n84_28, g84_29, g84_30, g84_31, g84_32, g84_33, i84, Nat.reduceEqDiff, Nat.reduceAdd, Nat.reduceMul, Nat.reduceLeDiff, Nat.reduceBEq, Nat.reduceBNe, Int.reduceEq, ↓reduceIte, reduceCtorEq]) rfl)
theorem dr7 {b : Int} (hc : c.ok b) (hb : b ≤ 1125899906842624) : ∃ k c', c'.ok (b + 1) ∧ k ∈ [1, 1, 1, 1, 2, 3, 4, 5, 6] ∧ Rnd Try.prog (.region g84_7) (drS r n m c d l) (drX r n m c' d l ⟨k, 0, ⟨#[]⟩, []⟩) := by
  obtain ⟨k, c', h1, h2, M⟩ := among_ok c b [1, 1, 1, 1, 2, 3, 4, 5, 6] hc hb (by decide) (by decide)
  refine ⟨k, c', h1, h2, rnd_go ?_⟩
  unfold drS drX cuT dkT stX at *
  simp (maxSteps := 9000000) -implicitDefEqProofs -dsimp (disch := omega) only [go_sem, g84_0, g84_1, g84_2, g84_3, g84_4, g84_5, g84_6, g84_7, g84_8, g84_9, g84_10, g84_11, g84_12, g84_13, g84_14, g84_15, g84_16, g84_17, g84_18, g84_19, g84_20, g84_21, g84_22, g84_23, g84_24, g84_25, g84_26, g84_27, g84_28, a84_28, n84_28, g84_29, g84_30, g84_31, g84_32, g84_33, i84, lt_T, lt_F, le_T, le_F, eq_T, eq_F, and_F, Nat.reduceEqDiff, Nat.reduceAdd, Nat.reduceMul, Nat.reduceLeDiff, Nat.reduceBEq, Nat.reduceBNe, Int.reduceEq, ↓reduceIte, reduceCtorEq]
  refine call_go false M ?_
  simp (maxSteps := 9000000) -implicitDefEqProofs -dsimp (disch := omega) only [go_sem, g84_0, g84_1, g84_2, g84_3, g84_4, g84_5, g84_6, g84_7, g84_8, g84_9, g84_10, g84_11, g84_12, g84_13, g84_14, g84_15, g84_16, g84_17, g84_18, g84_19, g84_20, g84_21, g84_22, g84_23, g84_24, g84_25, g84_26, g84_27, g84_28, a84_28, n84_28, g84_29, g84_30, g84_31, g84_32, g84_33, i84, lt_T, lt_F, le_T, le_F, eq_T, eq_F, and_F, Nat.reduceEqDiff, Nat.reduceAdd, Nat.reduceMul, Nat.reduceLeDiff, Nat.reduceBEq, Nat.reduceBNe, Int.reduceEq, ↓reduceIte, reduceCtorEq]
  exact (imp_fix 4 [] 3 1 rfl rfl rfl).trans ((imp_ren 4 3 rfl rfl).trans (imp_sub (by simp (maxSteps := 9000000) -implicitDefEqProofs -dsimp (disch := omega) only [go_sem, g84_0, g84_1, g84_2, g84_3, g84_4, g84_5, g84_6, g84_7, g84_8, g84_9, g84_10, g84_11, g84_12, g84_13, g84_14, g84_15, g84_16, g84_17, g84_18, g84_19, g84_20, g84_21, g84_22, g84_23, g84_24, g84_25, g84_26, g84_27, g84_28, a84_28, n84_28, g84_29, g84_30, g84_31, g84_32, g84_33, i84, Nat.reduceEqDiff, Nat.reduceAdd, Nat.reduceMul, Nat.reduceLeDiff, Nat.reduceBEq, Nat.reduceBNe, Int.reduceEq, ↓reduceIte, reduceCtorEq]) (by simp (maxSteps := 9000000) -implicitDefEqProofs -dsimp (disch := omega) only [go_sem, g84_0, g84_1, g84_2, g84_3, g84_4, g84_5, g84_6, g84_7, g84_8, g84_9, g84_10, g84_11, g84_12, g84_13, g84_14, g84_15, g84_16, g84_17, g84_18, g84_19, g84_20, g84_21, g84_22, g84_23, g84_24, g84_25, g84_26, g84_27, g84_28, a84_28, n84_28, g84_29, g84_30, g84_31, g84_32, g84_33, i84, Nat.reduceEqDiff, Nat.reduceAdd, Nat.reduceMul, Nat.reduceLeDiff, Nat.reduceBEq, Nat.reduceBNe, Int.reduceEq, ↓reduceIte, reduceCtorEq]) rfl))
def inS (r n : Int) (m : Nat) (d : Dk) (l : List Stp) (hl : List Int) (i : Nat) (q : Cu × List Int) : St := ⟨[(52, .w (.one (.int .i64 (i : Nat)))), (51, .w (.one (.int .i64 hl.length))), (50, .w (.one (.hs 4 [] 0 1 hl.length))), (9, .w (.one (.hp 3 [] 0))), (6, .w (.one (.int .i64 r))), (5, .w (.one (.hs 2 [] 0 4 l.length))), (7, .w (.one (.hp 1 [] 0))), (8, .w (.one (.bool true))), (0, .w (.one (.hp 0 [] 0))), (1, .w (.one (.int .i64 n)))],
  [(4, (.sl true 1 hl.length (hl.map (T.int .i64)))), (3, stX ⟨3, 0, ⟨#[]⟩, q.2⟩), (0, cuT q.1), (1, dkT m d), (2, .sl true 4 l.length (stO l))], [.one (.hp 0 [] 0), .one (.int .i64 n)]⟩
theorem drIn {b : Int} {hl : List Int} {i : Nat} {q : Cu × List Int} (hb : b ≤ 1000000000) (hl2 : hl.length ≤ 24) (hi : i < hl.length) (hq : q.1.ok (b + i) ∧ q.2.length ≤ i) : ∃ q' : Cu × List Int, (q'.1.ok (b + (i + 1 : Nat)) ∧ q'.2.length ≤ i + 1) ∧ Rnd Try.prog (.seq (.region g84_14) (.seq (.cond (.t 53) .skip (.exit 3)) (.seq (.block 4 (.seq (.region g84_15) (.seq (.region g84_16) (.cond (.t 57) (.region g84_17) .skip)))) (.region g84_18)))) (inS r n m d l hl i q) (inS r n m d l hl (i + 1) q') := by
  obtain ⟨c, kept⟩ := q
  obtain ⟨h1, h2⟩ := hq
  simp only at h1 h2
  obtain ⟨y, c', k1, M⟩ := one_ok c (b + i) 2 h1 (by omega) (by omega) (by omega)
  have k1' : c'.ok (b + (i + 1 : Nat)) := k1.mono (by omega)
  cases y with
  | true =>
    refine ⟨(c', kept ++ [hl.getD i default]), ⟨k1', by simp only [List.length_append, List.length_singleton]; omega⟩, rnd_go ?_⟩
    unfold inS cuT dkT stX at *
    simp (maxSteps := 9000000) -implicitDefEqProofs -dsimp (disch := omega) only [go_sem, g84_0, g84_1, g84_2, g84_3, g84_4, g84_5, g84_6, g84_7, g84_8, g84_9, g84_10, g84_11, g84_12, g84_13, g84_14, g84_15, g84_16, g84_17, g84_18, g84_19, g84_20, g84_21, g84_22, g84_23, g84_24, g84_25, g84_26, g84_27, g84_28, a84_28, n84_28, g84_29, g84_30, g84_31, g84_32, g84_33, i84, lt_T, lt_F, le_T, le_F, eq_T, eq_F, and_F, Nat.reduceEqDiff, Nat.reduceAdd, Nat.reduceMul, Nat.reduceLeDiff, Nat.reduceBEq, Nat.reduceBNe, Int.reduceEq, ↓reduceIte, reduceCtorEq]
    refine call_go false M ?_
    simp (maxSteps := 9000000) -implicitDefEqProofs -dsimp (disch := omega) only [go_sem, g84_0, g84_1, g84_2, g84_3, g84_4, g84_5, g84_6, g84_7, g84_8, g84_9, g84_10, g84_11, g84_12, g84_13, g84_14, g84_15, g84_16, g84_17, g84_18, g84_19, g84_20, g84_21, g84_22, g84_23, g84_24, g84_25, g84_26, g84_27, g84_28, a84_28, n84_28, g84_29, g84_30, g84_31, g84_32, g84_33, i84, lt_T, lt_F, le_T, le_F, eq_T, eq_F, and_F, Nat.reduceEqDiff, Nat.reduceAdd, Nat.reduceMul, Nat.reduceLeDiff, Nat.reduceBEq, Nat.reduceBNe, Int.reduceEq, ↓reduceIte, reduceCtorEq]
    have cc : cut (kept.map (T.int .i64) ++ [T.int .i64 (hl.getD i default)]) 0 (kept.length + 1) = kept.map (T.int .i64) ++ [T.int .i64 (hl.getD i default)] := cut_all (by simp)
    exact (imp_sub (by simp (maxSteps := 9000000) -implicitDefEqProofs -dsimp (disch := omega) only [go_sem, g84_0, g84_1, g84_2, g84_3, g84_4, g84_5, g84_6, g84_7, g84_8, g84_9, g84_10, g84_11, g84_12, g84_13, g84_14, g84_15, g84_16, g84_17, g84_18, g84_19, g84_20, g84_21, g84_22, g84_23, g84_24, g84_25, g84_26, g84_27, g84_28, a84_28, n84_28, g84_29, g84_30, g84_31, g84_32, g84_33, i84, cc, Nat.reduceEqDiff, Nat.reduceAdd, Nat.reduceMul, Nat.reduceLeDiff, Nat.reduceBEq, Nat.reduceBNe, Int.reduceEq, ↓reduceIte, reduceCtorEq]) (by simp (maxSteps := 9000000) -implicitDefEqProofs -dsimp (disch := omega) only [go_sem, g84_0, g84_1, g84_2, g84_3, g84_4, g84_5, g84_6, g84_7, g84_8, g84_9, g84_10, g84_11, g84_12, g84_13, g84_14, g84_15, g84_16, g84_17, g84_18, g84_19, g84_20, g84_21, g84_22, g84_23, g84_24, g84_25, g84_26, g84_27, g84_28, a84_28, n84_28, g84_29, g84_30, g84_31, g84_32, g84_33, i84, cc, Nat.reduceEqDiff, Nat.reduceAdd, Nat.reduceMul, Nat.reduceLeDiff, Nat.reduceBEq, Nat.reduceBNe, Int.reduceEq, ↓reduceIte, reduceCtorEq]) rfl)
  | false =>
    refine ⟨(c', kept), ⟨k1', by simp only; omega⟩, rnd_go ?_⟩
    unfold inS cuT dkT stX at *
    simp (maxSteps := 9000000) -implicitDefEqProofs -dsimp (disch := omega) only [go_sem, g84_0, g84_1, g84_2, g84_3, g84_4, g84_5, g84_6, g84_7, g84_8, g84_9, g84_10, g84_11, g84_12, g84_13, g84_14, g84_15, g84_16, g84_17, g84_18, g84_19, g84_20, g84_21, g84_22, g84_23, g84_24, g84_25, g84_26, g84_27, g84_28, a84_28, n84_28, g84_29, g84_30, g84_31, g84_32, g84_33, i84, lt_T, lt_F, le_T, le_F, eq_T, eq_F, and_F, Nat.reduceEqDiff, Nat.reduceAdd, Nat.reduceMul, Nat.reduceLeDiff, Nat.reduceBEq, Nat.reduceBNe, Int.reduceEq, ↓reduceIte, reduceCtorEq]
    refine call_go false M ?_
    simp (maxSteps := 9000000) -implicitDefEqProofs -dsimp (disch := omega) only [go_sem, g84_0, g84_1, g84_2, g84_3, g84_4, g84_5, g84_6, g84_7, g84_8, g84_9, g84_10, g84_11, g84_12, g84_13, g84_14, g84_15, g84_16, g84_17, g84_18, g84_19, g84_20, g84_21, g84_22, g84_23, g84_24, g84_25, g84_26, g84_27, g84_28, a84_28, n84_28, g84_29, g84_30, g84_31, g84_32, g84_33, i84, lt_T, lt_F, le_T, le_F, eq_T, eq_F, and_F, Nat.reduceEqDiff, Nat.reduceAdd, Nat.reduceMul, Nat.reduceLeDiff, Nat.reduceBEq, Nat.reduceBNe, Int.reduceEq, ↓reduceIte, reduceCtorEq]
    exact (imp_sub (by simp (maxSteps := 9000000) -implicitDefEqProofs -dsimp (disch := omega) only [go_sem, g84_0, g84_1, g84_2, g84_3, g84_4, g84_5, g84_6, g84_7, g84_8, g84_9, g84_10, g84_11, g84_12, g84_13, g84_14, g84_15, g84_16, g84_17, g84_18, g84_19, g84_20, g84_21, g84_22, g84_23, g84_24, g84_25, g84_26, g84_27, g84_28, a84_28, n84_28, g84_29, g84_30, g84_31, g84_32, g84_33, i84, Nat.reduceEqDiff, Nat.reduceAdd, Nat.reduceMul, Nat.reduceLeDiff, Nat.reduceBEq, Nat.reduceBNe, Int.reduceEq, ↓reduceIte, reduceCtorEq]) (by simp (maxSteps := 9000000) -implicitDefEqProofs -dsimp (disch := omega) only [go_sem, g84_0, g84_1, g84_2, g84_3, g84_4, g84_5, g84_6, g84_7, g84_8, g84_9, g84_10, g84_11, g84_12, g84_13, g84_14, g84_15, g84_16, g84_17, g84_18, g84_19, g84_20, g84_21, g84_22, g84_23, g84_24, g84_25, g84_26, g84_27, g84_28, a84_28, n84_28, g84_29, g84_30, g84_31, g84_32, g84_33, i84, Nat.reduceEqDiff, Nat.reduceAdd, Nat.reduceMul, Nat.reduceLeDiff, Nat.reduceBEq, Nat.reduceBNe, Int.reduceEq, ↓reduceIte, reduceCtorEq]) rfl)
theorem drSw {b k : Int} (hc : c.ok b) (hb : b ≤ 1000000000) (hn : 1 ≤ n ∧ n ≤ 24) (hm : DInv m d) (hm2 : m ≤ 24) (hk : k ∈ [1, 1, 1, 1, 2, 3, 4, 5, 6]) : ∃ x c', c'.ok (b + 100) ∧ (x.t.size ≤ 31 ∧ x.h.length ≤ 24) ∧ Rnd Try.prog swI (drX r n m c d l ⟨k, 0, ⟨#[]⟩, []⟩) (drX r n m c' d l x) := by
  have hk' : k = 1 ∨ k = 2 ∨ k = 3 ∨ k = 4 ∨ k = 5 ∨ k = 6 := by simpa using hk
  clear hk
  rcases hk' with rfl | rfl | rfl | rfl | rfl | rfl
  · obtain ⟨a, c1, k1, _, M1⟩ := pick_ok c b (n + 1) hc (by omega) (by omega) (by omega)
    obtain ⟨t, c2, k2, ht, M2⟩ := of_ok c1 (b + 1) [⟨#[111, 110, 101]⟩, ⟨#[116, 119, 111]⟩, ⟨#[97, 110, 111, 116, 104, 101, 114]⟩] k1 (by omega) (by decide) (by decide)
    have hs : t.size ≤ 31 := by
      simp only [List.mem_cons, List.not_mem_nil, or_false] at ht
      rcases ht with rfl | rfl | rfl <;> decide
    refine ⟨⟨1, a, t, []⟩, c2, k2.mono (by omega), ⟨hs, by simp⟩, rnd_go ?_⟩
    unfold drX cuT dkT stX swI at *
    simp (maxSteps := 9000000) -implicitDefEqProofs -dsimp (disch := omega) only [go_sem, g84_0, g84_1, g84_2, g84_3, g84_4, g84_5, g84_6, g84_7, g84_8, g84_9, g84_10, g84_11, g84_12, g84_13, g84_14, g84_15, g84_16, g84_17, g84_18, g84_19, g84_20, g84_21, g84_22, g84_23, g84_24, g84_25, g84_26, g84_27, g84_28, a84_28, n84_28, g84_29, g84_30, g84_31, g84_32, g84_33, i84, lt_T, lt_F, le_T, le_F, eq_T, eq_F, and_F, Nat.reduceEqDiff, Nat.reduceAdd, Nat.reduceMul, Nat.reduceLeDiff, Nat.reduceBEq, Nat.reduceBNe, Int.reduceEq, ↓reduceIte, reduceCtorEq]
    refine call_go false M1 ?_
    simp (maxSteps := 9000000) -implicitDefEqProofs -dsimp (disch := omega) only [go_sem, g84_0, g84_1, g84_2, g84_3, g84_4, g84_5, g84_6, g84_7, g84_8, g84_9, g84_10, g84_11, g84_12, g84_13, g84_14, g84_15, g84_16, g84_17, g84_18, g84_19, g84_20, g84_21, g84_22, g84_23, g84_24, g84_25, g84_26, g84_27, g84_28, a84_28, n84_28, g84_29, g84_30, g84_31, g84_32, g84_33, i84, lt_T, lt_F, le_T, le_F, eq_T, eq_F, and_F, Nat.reduceEqDiff, Nat.reduceAdd, Nat.reduceMul, Nat.reduceLeDiff, Nat.reduceBEq, Nat.reduceBNe, Int.reduceEq, ↓reduceIte, reduceCtorEq]
    refine call_go false M2 ?_
    simp (maxSteps := 9000000) -implicitDefEqProofs -dsimp (disch := omega) only [go_sem, g84_0, g84_1, g84_2, g84_3, g84_4, g84_5, g84_6, g84_7, g84_8, g84_9, g84_10, g84_11, g84_12, g84_13, g84_14, g84_15, g84_16, g84_17, g84_18, g84_19, g84_20, g84_21, g84_22, g84_23, g84_24, g84_25, g84_26, g84_27, g84_28, a84_28, n84_28, g84_29, g84_30, g84_31, g84_32, g84_33, i84, lt_T, lt_F, le_T, le_F, eq_T, eq_F, and_F, Nat.reduceEqDiff, Nat.reduceAdd, Nat.reduceMul, Nat.reduceLeDiff, Nat.reduceBEq, Nat.reduceBNe, Int.reduceEq, ↓reduceIte, reduceCtorEq]
    exact (imp_sub (by simp (maxSteps := 9000000) -implicitDefEqProofs -dsimp (disch := omega) only [go_sem, g84_0, g84_1, g84_2, g84_3, g84_4, g84_5, g84_6, g84_7, g84_8, g84_9, g84_10, g84_11, g84_12, g84_13, g84_14, g84_15, g84_16, g84_17, g84_18, g84_19, g84_20, g84_21, g84_22, g84_23, g84_24, g84_25, g84_26, g84_27, g84_28, a84_28, n84_28, g84_29, g84_30, g84_31, g84_32, g84_33, i84, Nat.reduceEqDiff, Nat.reduceAdd, Nat.reduceMul, Nat.reduceLeDiff, Nat.reduceBEq, Nat.reduceBNe, Int.reduceEq, ↓reduceIte, reduceCtorEq]) (by simp (maxSteps := 9000000) -implicitDefEqProofs -dsimp (disch := omega) only [go_sem, g84_0, g84_1, g84_2, g84_3, g84_4, g84_5, g84_6, g84_7, g84_8, g84_9, g84_10, g84_11, g84_12, g84_13, g84_14, g84_15, g84_16, g84_17, g84_18, g84_19, g84_20, g84_21, g84_22, g84_23, g84_24, g84_25, g84_26, g84_27, g84_28, a84_28, n84_28, g84_29, g84_30, g84_31, g84_32, g84_33, i84, Nat.reduceEqDiff, Nat.reduceAdd, Nat.reduceMul, Nat.reduceLeDiff, Nat.reduceBEq, Nat.reduceBNe, Int.reduceEq, ↓reduceIte, reduceCtorEq]) rfl)
  · refine ⟨_, c, hc.mono (by omega), ⟨by decide, by decide⟩, rnd_go (s' := drX r n m c d l ⟨2, 0, ⟨#[]⟩, []⟩) ?_⟩
    unfold drX cuT dkT stX swI at *
    simp (maxSteps := 9000000) -implicitDefEqProofs -dsimp (disch := omega) only [go_sem, g84_0, g84_1, g84_2, g84_3, g84_4, g84_5, g84_6, g84_7, g84_8, g84_9, g84_10, g84_11, g84_12, g84_13, g84_14, g84_15, g84_16, g84_17, g84_18, g84_19, g84_20, g84_21, g84_22, g84_23, g84_24, g84_25, g84_26, g84_27, g84_28, a84_28, n84_28, g84_29, g84_30, g84_31, g84_32, g84_33, i84, lt_T, lt_F, le_T, le_F, eq_T, eq_F, and_F, Nat.reduceEqDiff, Nat.reduceAdd, Nat.reduceMul, Nat.reduceLeDiff, Nat.reduceBEq, Nat.reduceBNe, Int.reduceEq, ↓reduceIte, reduceCtorEq]
    exact (imp_sub (by simp (maxSteps := 9000000) -implicitDefEqProofs -dsimp (disch := omega) only [go_sem, g84_0, g84_1, g84_2, g84_3, g84_4, g84_5, g84_6, g84_7, g84_8, g84_9, g84_10, g84_11, g84_12, g84_13, g84_14, g84_15, g84_16, g84_17, g84_18, g84_19, g84_20, g84_21, g84_22, g84_23, g84_24, g84_25, g84_26, g84_27, g84_28, a84_28, n84_28, g84_29, g84_30, g84_31, g84_32, g84_33, i84, Nat.reduceEqDiff, Nat.reduceAdd, Nat.reduceMul, Nat.reduceLeDiff, Nat.reduceBEq, Nat.reduceBNe, Int.reduceEq, ↓reduceIte, reduceCtorEq]) (by simp (maxSteps := 9000000) -implicitDefEqProofs -dsimp (disch := omega) only [go_sem, g84_0, g84_1, g84_2, g84_3, g84_4, g84_5, g84_6, g84_7, g84_8, g84_9, g84_10, g84_11, g84_12, g84_13, g84_14, g84_15, g84_16, g84_17, g84_18, g84_19, g84_20, g84_21, g84_22, g84_23, g84_24, g84_25, g84_26, g84_27, g84_28, a84_28, n84_28, g84_29, g84_30, g84_31, g84_32, g84_33, i84, Nat.reduceEqDiff, Nat.reduceAdd, Nat.reduceMul, Nat.reduceLeDiff, Nat.reduceBEq, Nat.reduceBNe, Int.reduceEq, ↓reduceIte, reduceCtorEq]) rfl)
  · have hh : (heldN d.h d.h.length).length ≤ 24 := by have := heldN_le (l := d.h) (i := d.h.length); have := hm.2.1; omega
    have MH := l7Held_ok d.p d.h d.b (by have := hm.2.1; omega)
    rw [hm.1, hm.2.1, hm.2.2.1] at MH
    rw [hm.2.1] at hh
    have cp : cut (d.p.map T.str) 0 m = d.p.map T.str := cut_all (by simp [hm.1])
    have ch : cut (d.h.map T.str) 0 m = d.h.map T.str := cut_all (by simp [hm.2.1])
    have cb : cut (d.b.map T.bool) 0 m = d.b.map T.bool := cut_all (by simp [hm.2.2.1])
    generalize heldN d.h m = hl at *
    obtain ⟨f, f0, f1, f2⟩ := chain (P := Try.prog) (b := (.seq (.region g84_14) (.seq (.cond (.t 53) .skip (.exit 3)) (.seq (.block 4 (.seq (.region g84_15) (.seq (.region g84_16) (.cond (.t 57) (.region g84_17) .skip)))) (.region g84_18))))) (S := inS r n m d l hl) (I := fun i q => q.1.ok (b + (i : Nat)) ∧ q.2.length ≤ i) (a0 := ((c, []) : Cu × List Int)) hl.length ⟨by simpa using hc, by simp⟩ (fun i q hi hq => drIn hb hh hi hq)
    obtain ⟨g1, g2⟩ := f1 hl.length (Nat.le_refl _)
    refine ⟨⟨3, 0, ⟨#[]⟩, (f hl.length).2⟩, (f hl.length).1, g1.mono (by omega), ⟨by simp only; decide, by simp only; omega⟩, rnd_go ?_⟩
    have i0 : inS r n m d l hl 0 (f 0) = inS r n m d l hl 0 (c, []) := by rw [f0]
    unfold drX swI
    simp (maxSteps := 9000000) -implicitDefEqProofs -dsimp (disch := omega) only [go_sem, g84_0, g84_1, g84_2, g84_3, g84_4, g84_5, g84_6, g84_7, g84_8, g84_9, g84_10, g84_11, g84_12, g84_13, g84_14, g84_15, g84_16, g84_17, g84_18, g84_19, g84_20, g84_21, g84_22, g84_23, g84_24, g84_25, g84_26, g84_27, g84_28, a84_28, n84_28, g84_29, g84_30, g84_31, g84_32, g84_33, i84, lt_T, lt_F, le_T, le_F, eq_T, eq_F, and_F, cuT, dkT, stX, Nat.reduceEqDiff, Nat.reduceAdd, Nat.reduceMul, Nat.reduceLeDiff, Nat.reduceBEq, Nat.reduceBNe, Int.reduceEq, ↓reduceIte, reduceCtorEq]
    refine call_go true MH ?_
    simp (maxSteps := 9000000) -implicitDefEqProofs -dsimp (disch := omega) only [go_sem, g84_0, g84_1, g84_2, g84_3, g84_4, g84_5, g84_6, g84_7, g84_8, g84_9, g84_10, g84_11, g84_12, g84_13, g84_14, g84_15, g84_16, g84_17, g84_18, g84_19, g84_20, g84_21, g84_22, g84_23, g84_24, g84_25, g84_26, g84_27, g84_28, a84_28, n84_28, g84_29, g84_30, g84_31, g84_32, g84_33, i84, lt_T, lt_F, le_T, le_F, eq_T, eq_F, and_F, cp, ch, cb, Nat.reduceEqDiff, Nat.reduceAdd, Nat.reduceMul, Nat.reduceLeDiff, Nat.reduceBEq, Nat.reduceBNe, Int.reduceEq, ↓reduceIte, reduceCtorEq]
    refine loop_f hl.length (fun i => inS r n m d l hl i (f i)) ?_ f2 ?_
    · rw [i0]
      unfold inS cuT dkT stX
      exact (imp_sub (by simp (maxSteps := 9000000) -implicitDefEqProofs -dsimp (disch := omega) only [go_sem, g84_0, g84_1, g84_2, g84_3, g84_4, g84_5, g84_6, g84_7, g84_8, g84_9, g84_10, g84_11, g84_12, g84_13, g84_14, g84_15, g84_16, g84_17, g84_18, g84_19, g84_20, g84_21, g84_22, g84_23, g84_24, g84_25, g84_26, g84_27, g84_28, a84_28, n84_28, g84_29, g84_30, g84_31, g84_32, g84_33, i84, Nat.reduceEqDiff, Nat.reduceAdd, Nat.reduceMul, Nat.reduceLeDiff, Nat.reduceBEq, Nat.reduceBNe, Int.reduceEq, ↓reduceIte, reduceCtorEq]) (by simp (maxSteps := 9000000) -implicitDefEqProofs -dsimp (disch := omega) only [go_sem, g84_0, g84_1, g84_2, g84_3, g84_4, g84_5, g84_6, g84_7, g84_8, g84_9, g84_10, g84_11, g84_12, g84_13, g84_14, g84_15, g84_16, g84_17, g84_18, g84_19, g84_20, g84_21, g84_22, g84_23, g84_24, g84_25, g84_26, g84_27, g84_28, a84_28, n84_28, g84_29, g84_30, g84_31, g84_32, g84_33, i84, Nat.reduceEqDiff, Nat.reduceAdd, Nat.reduceMul, Nat.reduceLeDiff, Nat.reduceBEq, Nat.reduceBNe, Int.reduceEq, ↓reduceIte, reduceCtorEq]) rfl)
    · unfold inS cuT dkT stX
      simp (maxSteps := 9000000) -implicitDefEqProofs -dsimp (disch := omega) only [go_sem, g84_0, g84_1, g84_2, g84_3, g84_4, g84_5, g84_6, g84_7, g84_8, g84_9, g84_10, g84_11, g84_12, g84_13, g84_14, g84_15, g84_16, g84_17, g84_18, g84_19, g84_20, g84_21, g84_22, g84_23, g84_24, g84_25, g84_26, g84_27, g84_28, a84_28, n84_28, g84_29, g84_30, g84_31, g84_32, g84_33, i84, lt_T, lt_F, le_T, le_F, eq_T, eq_F, and_F, Nat.reduceEqDiff, Nat.reduceAdd, Nat.reduceMul, Nat.reduceLeDiff, Nat.reduceBEq, Nat.reduceBNe, Int.reduceEq, ↓reduceIte, reduceCtorEq]
      exact (imp_sub (by simp (maxSteps := 9000000) -implicitDefEqProofs -dsimp (disch := omega) only [go_sem, g84_0, g84_1, g84_2, g84_3, g84_4, g84_5, g84_6, g84_7, g84_8, g84_9, g84_10, g84_11, g84_12, g84_13, g84_14, g84_15, g84_16, g84_17, g84_18, g84_19, g84_20, g84_21, g84_22, g84_23, g84_24, g84_25, g84_26, g84_27, g84_28, a84_28, n84_28, g84_29, g84_30, g84_31, g84_32, g84_33, i84, Nat.reduceEqDiff, Nat.reduceAdd, Nat.reduceMul, Nat.reduceLeDiff, Nat.reduceBEq, Nat.reduceBNe, Int.reduceEq, ↓reduceIte, reduceCtorEq]) (by simp (maxSteps := 9000000) -implicitDefEqProofs -dsimp (disch := omega) only [go_sem, g84_0, g84_1, g84_2, g84_3, g84_4, g84_5, g84_6, g84_7, g84_8, g84_9, g84_10, g84_11, g84_12, g84_13, g84_14, g84_15, g84_16, g84_17, g84_18, g84_19, g84_20, g84_21, g84_22, g84_23, g84_24, g84_25, g84_26, g84_27, g84_28, a84_28, n84_28, g84_29, g84_30, g84_31, g84_32, g84_33, i84, Nat.reduceEqDiff, Nat.reduceAdd, Nat.reduceMul, Nat.reduceLeDiff, Nat.reduceBEq, Nat.reduceBNe, Int.reduceEq, ↓reduceIte, reduceCtorEq]) rfl)
  · obtain ⟨a, c1, k1, _, M1⟩ := pick_ok c b n hc (by omega) (by omega) (by omega)
    obtain ⟨t, c2, k2, ht, M2⟩ := of_ok c1 (b + 1) [⟨#[1]⟩, ⟨#[0, 128]⟩, ⟨#[255, 255]⟩] k1 (by omega) (by decide) (by decide)
    have hs : t.size ≤ 31 := by
      simp only [List.mem_cons, List.not_mem_nil, or_false] at ht
      rcases ht with rfl | rfl | rfl <;> decide
    refine ⟨⟨4, a, t, []⟩, c2, k2.mono (by omega), ⟨hs, by simp⟩, rnd_go ?_⟩
    unfold drX cuT dkT stX swI at *
    simp (maxSteps := 9000000) -implicitDefEqProofs -dsimp (disch := omega) only [go_sem, g84_0, g84_1, g84_2, g84_3, g84_4, g84_5, g84_6, g84_7, g84_8, g84_9, g84_10, g84_11, g84_12, g84_13, g84_14, g84_15, g84_16, g84_17, g84_18, g84_19, g84_20, g84_21, g84_22, g84_23, g84_24, g84_25, g84_26, g84_27, g84_28, a84_28, n84_28, g84_29, g84_30, g84_31, g84_32, g84_33, i84, lt_T, lt_F, le_T, le_F, eq_T, eq_F, and_F, Nat.reduceEqDiff, Nat.reduceAdd, Nat.reduceMul, Nat.reduceLeDiff, Nat.reduceBEq, Nat.reduceBNe, Int.reduceEq, ↓reduceIte, reduceCtorEq]
    refine call_go false M1 ?_
    simp (maxSteps := 9000000) -implicitDefEqProofs -dsimp (disch := omega) only [go_sem, g84_0, g84_1, g84_2, g84_3, g84_4, g84_5, g84_6, g84_7, g84_8, g84_9, g84_10, g84_11, g84_12, g84_13, g84_14, g84_15, g84_16, g84_17, g84_18, g84_19, g84_20, g84_21, g84_22, g84_23, g84_24, g84_25, g84_26, g84_27, g84_28, a84_28, n84_28, g84_29, g84_30, g84_31, g84_32, g84_33, i84, lt_T, lt_F, le_T, le_F, eq_T, eq_F, and_F, Nat.reduceEqDiff, Nat.reduceAdd, Nat.reduceMul, Nat.reduceLeDiff, Nat.reduceBEq, Nat.reduceBNe, Int.reduceEq, ↓reduceIte, reduceCtorEq]
    refine call_go false M2 ?_
    simp (maxSteps := 9000000) -implicitDefEqProofs -dsimp (disch := omega) only [go_sem, g84_0, g84_1, g84_2, g84_3, g84_4, g84_5, g84_6, g84_7, g84_8, g84_9, g84_10, g84_11, g84_12, g84_13, g84_14, g84_15, g84_16, g84_17, g84_18, g84_19, g84_20, g84_21, g84_22, g84_23, g84_24, g84_25, g84_26, g84_27, g84_28, a84_28, n84_28, g84_29, g84_30, g84_31, g84_32, g84_33, i84, lt_T, lt_F, le_T, le_F, eq_T, eq_F, and_F, Nat.reduceEqDiff, Nat.reduceAdd, Nat.reduceMul, Nat.reduceLeDiff, Nat.reduceBEq, Nat.reduceBNe, Int.reduceEq, ↓reduceIte, reduceCtorEq]
    exact (imp_sub (by simp (maxSteps := 9000000) -implicitDefEqProofs -dsimp (disch := omega) only [go_sem, g84_0, g84_1, g84_2, g84_3, g84_4, g84_5, g84_6, g84_7, g84_8, g84_9, g84_10, g84_11, g84_12, g84_13, g84_14, g84_15, g84_16, g84_17, g84_18, g84_19, g84_20, g84_21, g84_22, g84_23, g84_24, g84_25, g84_26, g84_27, g84_28, a84_28, n84_28, g84_29, g84_30, g84_31, g84_32, g84_33, i84, Nat.reduceEqDiff, Nat.reduceAdd, Nat.reduceMul, Nat.reduceLeDiff, Nat.reduceBEq, Nat.reduceBNe, Int.reduceEq, ↓reduceIte, reduceCtorEq]) (by simp (maxSteps := 9000000) -implicitDefEqProofs -dsimp (disch := omega) only [go_sem, g84_0, g84_1, g84_2, g84_3, g84_4, g84_5, g84_6, g84_7, g84_8, g84_9, g84_10, g84_11, g84_12, g84_13, g84_14, g84_15, g84_16, g84_17, g84_18, g84_19, g84_20, g84_21, g84_22, g84_23, g84_24, g84_25, g84_26, g84_27, g84_28, a84_28, n84_28, g84_29, g84_30, g84_31, g84_32, g84_33, i84, Nat.reduceEqDiff, Nat.reduceAdd, Nat.reduceMul, Nat.reduceLeDiff, Nat.reduceBEq, Nat.reduceBNe, Int.reduceEq, ↓reduceIte, reduceCtorEq]) rfl)
  · obtain ⟨a, c1, k1, _, M1⟩ := pick_ok c b n hc (by omega) (by omega) (by omega)
    refine ⟨⟨5, a, ⟨#[]⟩, []⟩, c1, k1.mono (by omega), ⟨by simp only; decide, by simp⟩, rnd_go ?_⟩
    unfold drX cuT dkT stX swI at *
    simp (maxSteps := 9000000) -implicitDefEqProofs -dsimp (disch := omega) only [go_sem, g84_0, g84_1, g84_2, g84_3, g84_4, g84_5, g84_6, g84_7, g84_8, g84_9, g84_10, g84_11, g84_12, g84_13, g84_14, g84_15, g84_16, g84_17, g84_18, g84_19, g84_20, g84_21, g84_22, g84_23, g84_24, g84_25, g84_26, g84_27, g84_28, a84_28, n84_28, g84_29, g84_30, g84_31, g84_32, g84_33, i84, lt_T, lt_F, le_T, le_F, eq_T, eq_F, and_F, Nat.reduceEqDiff, Nat.reduceAdd, Nat.reduceMul, Nat.reduceLeDiff, Nat.reduceBEq, Nat.reduceBNe, Int.reduceEq, ↓reduceIte, reduceCtorEq]
    refine call_go false M1 ?_
    simp (maxSteps := 9000000) -implicitDefEqProofs -dsimp (disch := omega) only [go_sem, g84_0, g84_1, g84_2, g84_3, g84_4, g84_5, g84_6, g84_7, g84_8, g84_9, g84_10, g84_11, g84_12, g84_13, g84_14, g84_15, g84_16, g84_17, g84_18, g84_19, g84_20, g84_21, g84_22, g84_23, g84_24, g84_25, g84_26, g84_27, g84_28, a84_28, n84_28, g84_29, g84_30, g84_31, g84_32, g84_33, i84, lt_T, lt_F, le_T, le_F, eq_T, eq_F, and_F, Nat.reduceEqDiff, Nat.reduceAdd, Nat.reduceMul, Nat.reduceLeDiff, Nat.reduceBEq, Nat.reduceBNe, Int.reduceEq, ↓reduceIte, reduceCtorEq]
    exact (imp_sub (by simp (maxSteps := 9000000) -implicitDefEqProofs -dsimp (disch := omega) only [go_sem, g84_0, g84_1, g84_2, g84_3, g84_4, g84_5, g84_6, g84_7, g84_8, g84_9, g84_10, g84_11, g84_12, g84_13, g84_14, g84_15, g84_16, g84_17, g84_18, g84_19, g84_20, g84_21, g84_22, g84_23, g84_24, g84_25, g84_26, g84_27, g84_28, a84_28, n84_28, g84_29, g84_30, g84_31, g84_32, g84_33, i84, Nat.reduceEqDiff, Nat.reduceAdd, Nat.reduceMul, Nat.reduceLeDiff, Nat.reduceBEq, Nat.reduceBNe, Int.reduceEq, ↓reduceIte, reduceCtorEq]) (by simp (maxSteps := 9000000) -implicitDefEqProofs -dsimp (disch := omega) only [go_sem, g84_0, g84_1, g84_2, g84_3, g84_4, g84_5, g84_6, g84_7, g84_8, g84_9, g84_10, g84_11, g84_12, g84_13, g84_14, g84_15, g84_16, g84_17, g84_18, g84_19, g84_20, g84_21, g84_22, g84_23, g84_24, g84_25, g84_26, g84_27, g84_28, a84_28, n84_28, g84_29, g84_30, g84_31, g84_32, g84_33, i84, Nat.reduceEqDiff, Nat.reduceAdd, Nat.reduceMul, Nat.reduceLeDiff, Nat.reduceBEq, Nat.reduceBNe, Int.reduceEq, ↓reduceIte, reduceCtorEq]) rfl)
  · obtain ⟨a, c1, k1, _, M1⟩ := pick_ok c b n hc (by omega) (by omega) (by omega)
    refine ⟨⟨6, a, ⟨#[]⟩, []⟩, c1, k1.mono (by omega), ⟨by simp only; decide, by simp⟩, rnd_go ?_⟩
    unfold drX cuT dkT stX swI at *
    simp (maxSteps := 9000000) -implicitDefEqProofs -dsimp (disch := omega) only [go_sem, g84_0, g84_1, g84_2, g84_3, g84_4, g84_5, g84_6, g84_7, g84_8, g84_9, g84_10, g84_11, g84_12, g84_13, g84_14, g84_15, g84_16, g84_17, g84_18, g84_19, g84_20, g84_21, g84_22, g84_23, g84_24, g84_25, g84_26, g84_27, g84_28, a84_28, n84_28, g84_29, g84_30, g84_31, g84_32, g84_33, i84, lt_T, lt_F, le_T, le_F, eq_T, eq_F, and_F, Nat.reduceEqDiff, Nat.reduceAdd, Nat.reduceMul, Nat.reduceLeDiff, Nat.reduceBEq, Nat.reduceBNe, Int.reduceEq, ↓reduceIte, reduceCtorEq]
    refine call_go false M1 ?_
    simp (maxSteps := 9000000) -implicitDefEqProofs -dsimp (disch := omega) only [go_sem, g84_0, g84_1, g84_2, g84_3, g84_4, g84_5, g84_6, g84_7, g84_8, g84_9, g84_10, g84_11, g84_12, g84_13, g84_14, g84_15, g84_16, g84_17, g84_18, g84_19, g84_20, g84_21, g84_22, g84_23, g84_24, g84_25, g84_26, g84_27, g84_28, a84_28, n84_28, g84_29, g84_30, g84_31, g84_32, g84_33, i84, lt_T, lt_F, le_T, le_F, eq_T, eq_F, and_F, Nat.reduceEqDiff, Nat.reduceAdd, Nat.reduceMul, Nat.reduceLeDiff, Nat.reduceBEq, Nat.reduceBNe, Int.reduceEq, ↓reduceIte, reduceCtorEq]
    exact (imp_sub (by simp (maxSteps := 9000000) -implicitDefEqProofs -dsimp (disch := omega) only [go_sem, g84_0, g84_1, g84_2, g84_3, g84_4, g84_5, g84_6, g84_7, g84_8, g84_9, g84_10, g84_11, g84_12, g84_13, g84_14, g84_15, g84_16, g84_17, g84_18, g84_19, g84_20, g84_21, g84_22, g84_23, g84_24, g84_25, g84_26, g84_27, g84_28, a84_28, n84_28, g84_29, g84_30, g84_31, g84_32, g84_33, i84, Nat.reduceEqDiff, Nat.reduceAdd, Nat.reduceMul, Nat.reduceLeDiff, Nat.reduceBEq, Nat.reduceBNe, Int.reduceEq, ↓reduceIte, reduceCtorEq]) (by simp (maxSteps := 9000000) -implicitDefEqProofs -dsimp (disch := omega) only [go_sem, g84_0, g84_1, g84_2, g84_3, g84_4, g84_5, g84_6, g84_7, g84_8, g84_9, g84_10, g84_11, g84_12, g84_13, g84_14, g84_15, g84_16, g84_17, g84_18, g84_19, g84_20, g84_21, g84_22, g84_23, g84_24, g84_25, g84_26, g84_27, g84_28, a84_28, n84_28, g84_29, g84_30, g84_31, g84_32, g84_33, i84, Nat.reduceEqDiff, Nat.reduceAdd, Nat.reduceMul, Nat.reduceLeDiff, Nat.reduceBEq, Nat.reduceBNe, Int.reduceEq, ↓reduceIte, reduceCtorEq]) rfl)
theorem drOne {b : Int} {x : Stp} (hc : c.ok b) (hb : b ≤ 1000000000) (hx : x.t.size ≤ 31 ∧ x.h.length ≤ 24) : ∃ x' c', c'.ok (b + 100) ∧ (x'.t.size ≤ 31 ∧ x'.h.length ≤ 24) ∧ Rnd Try.prog oneI (drX r n m c d l x) (drX r n m c' d l x') := by
  obtain ⟨y, c1, k1, M⟩ := one_ok c b 60 hc (by omega) (by omega) (by omega)
  cases y with
  | false =>
    refine ⟨x, c1, k1.mono (by omega), hx, rnd_go ?_⟩
    unfold drX cuT dkT stX oneI at *
    simp (maxSteps := 9000000) -implicitDefEqProofs -dsimp (disch := omega) only [go_sem, g84_0, g84_1, g84_2, g84_3, g84_4, g84_5, g84_6, g84_7, g84_8, g84_9, g84_10, g84_11, g84_12, g84_13, g84_14, g84_15, g84_16, g84_17, g84_18, g84_19, g84_20, g84_21, g84_22, g84_23, g84_24, g84_25, g84_26, g84_27, g84_28, a84_28, n84_28, g84_29, g84_30, g84_31, g84_32, g84_33, i84, lt_T, lt_F, le_T, le_F, eq_T, eq_F, and_F, Nat.reduceEqDiff, Nat.reduceAdd, Nat.reduceMul, Nat.reduceLeDiff, Nat.reduceBEq, Nat.reduceBNe, Int.reduceEq, ↓reduceIte, reduceCtorEq]
    refine call_go false M ?_
    simp (maxSteps := 9000000) -implicitDefEqProofs -dsimp (disch := omega) only [go_sem, g84_0, g84_1, g84_2, g84_3, g84_4, g84_5, g84_6, g84_7, g84_8, g84_9, g84_10, g84_11, g84_12, g84_13, g84_14, g84_15, g84_16, g84_17, g84_18, g84_19, g84_20, g84_21, g84_22, g84_23, g84_24, g84_25, g84_26, g84_27, g84_28, a84_28, n84_28, g84_29, g84_30, g84_31, g84_32, g84_33, i84, lt_T, lt_F, le_T, le_F, eq_T, eq_F, and_F, Nat.reduceEqDiff, Nat.reduceAdd, Nat.reduceMul, Nat.reduceLeDiff, Nat.reduceBEq, Nat.reduceBNe, Int.reduceEq, ↓reduceIte, reduceCtorEq]
    exact (imp_sub (by simp (maxSteps := 9000000) -implicitDefEqProofs -dsimp (disch := omega) only [go_sem, g84_0, g84_1, g84_2, g84_3, g84_4, g84_5, g84_6, g84_7, g84_8, g84_9, g84_10, g84_11, g84_12, g84_13, g84_14, g84_15, g84_16, g84_17, g84_18, g84_19, g84_20, g84_21, g84_22, g84_23, g84_24, g84_25, g84_26, g84_27, g84_28, a84_28, n84_28, g84_29, g84_30, g84_31, g84_32, g84_33, i84, Nat.reduceEqDiff, Nat.reduceAdd, Nat.reduceMul, Nat.reduceLeDiff, Nat.reduceBEq, Nat.reduceBNe, Int.reduceEq, ↓reduceIte, reduceCtorEq]) (by simp (maxSteps := 9000000) -implicitDefEqProofs -dsimp (disch := omega) only [go_sem, g84_0, g84_1, g84_2, g84_3, g84_4, g84_5, g84_6, g84_7, g84_8, g84_9, g84_10, g84_11, g84_12, g84_13, g84_14, g84_15, g84_16, g84_17, g84_18, g84_19, g84_20, g84_21, g84_22, g84_23, g84_24, g84_25, g84_26, g84_27, g84_28, a84_28, n84_28, g84_29, g84_30, g84_31, g84_32, g84_33, i84, Nat.reduceEqDiff, Nat.reduceAdd, Nat.reduceMul, Nat.reduceLeDiff, Nat.reduceBEq, Nat.reduceBNe, Int.reduceEq, ↓reduceIte, reduceCtorEq]) rfl)
  | true =>
    obtain ⟨a1, c2, k2, r2, M2⟩ := pick_ok c1 (b + 1) 8 k1 (by omega) (by omega) (by omega)
    obtain ⟨a2, c3, k3, r3, M3⟩ := pick_ok c2 (b + 1 + 1) 30 k2 (by omega) (by omega) (by omega)
    obtain ⟨t, c4, k4, ht, M4⟩ := of_ok c3 (b + 1 + 1 + 1) [⟨#[]⟩, ⟨#[97, 32, 116, 101, 120, 116, 32, 111, 102, 32, 109, 111, 114, 101, 32, 116, 104, 97, 110, 32, 50, 56, 32, 98, 121, 116, 101, 115, 32, 46, 46]⟩] k3 (by omega) (by decide) (by decide)
    have hs : t.size ≤ 31 := by
      simp only [List.mem_cons, List.not_mem_nil, or_false] at ht
      rcases ht with rfl | rfl <;> decide
    refine ⟨⟨a1, a2 - 1, t, []⟩, c4, k4.mono (by omega), ⟨hs, by simp⟩, rnd_go ?_⟩
    unfold drX cuT dkT stX oneI at *
    simp (maxSteps := 9000000) -implicitDefEqProofs -dsimp (disch := omega) only [go_sem, g84_0, g84_1, g84_2, g84_3, g84_4, g84_5, g84_6, g84_7, g84_8, g84_9, g84_10, g84_11, g84_12, g84_13, g84_14, g84_15, g84_16, g84_17, g84_18, g84_19, g84_20, g84_21, g84_22, g84_23, g84_24, g84_25, g84_26, g84_27, g84_28, a84_28, n84_28, g84_29, g84_30, g84_31, g84_32, g84_33, i84, lt_T, lt_F, le_T, le_F, eq_T, eq_F, and_F, Nat.reduceEqDiff, Nat.reduceAdd, Nat.reduceMul, Nat.reduceLeDiff, Nat.reduceBEq, Nat.reduceBNe, Int.reduceEq, ↓reduceIte, reduceCtorEq]
    refine call_go false M ?_
    simp (maxSteps := 9000000) -implicitDefEqProofs -dsimp (disch := omega) only [go_sem, g84_0, g84_1, g84_2, g84_3, g84_4, g84_5, g84_6, g84_7, g84_8, g84_9, g84_10, g84_11, g84_12, g84_13, g84_14, g84_15, g84_16, g84_17, g84_18, g84_19, g84_20, g84_21, g84_22, g84_23, g84_24, g84_25, g84_26, g84_27, g84_28, a84_28, n84_28, g84_29, g84_30, g84_31, g84_32, g84_33, i84, lt_T, lt_F, le_T, le_F, eq_T, eq_F, and_F, Nat.reduceEqDiff, Nat.reduceAdd, Nat.reduceMul, Nat.reduceLeDiff, Nat.reduceBEq, Nat.reduceBNe, Int.reduceEq, ↓reduceIte, reduceCtorEq]
    refine call_go false M2 ?_
    simp (maxSteps := 9000000) -implicitDefEqProofs -dsimp (disch := omega) only [go_sem, g84_0, g84_1, g84_2, g84_3, g84_4, g84_5, g84_6, g84_7, g84_8, g84_9, g84_10, g84_11, g84_12, g84_13, g84_14, g84_15, g84_16, g84_17, g84_18, g84_19, g84_20, g84_21, g84_22, g84_23, g84_24, g84_25, g84_26, g84_27, g84_28, a84_28, n84_28, g84_29, g84_30, g84_31, g84_32, g84_33, i84, lt_T, lt_F, le_T, le_F, eq_T, eq_F, and_F, Nat.reduceEqDiff, Nat.reduceAdd, Nat.reduceMul, Nat.reduceLeDiff, Nat.reduceBEq, Nat.reduceBNe, Int.reduceEq, ↓reduceIte, reduceCtorEq]
    refine call_go false M3 ?_
    simp (maxSteps := 9000000) -implicitDefEqProofs -dsimp (disch := omega) only [go_sem, g84_0, g84_1, g84_2, g84_3, g84_4, g84_5, g84_6, g84_7, g84_8, g84_9, g84_10, g84_11, g84_12, g84_13, g84_14, g84_15, g84_16, g84_17, g84_18, g84_19, g84_20, g84_21, g84_22, g84_23, g84_24, g84_25, g84_26, g84_27, g84_28, a84_28, n84_28, g84_29, g84_30, g84_31, g84_32, g84_33, i84, lt_T, lt_F, le_T, le_F, eq_T, eq_F, and_F, Nat.reduceEqDiff, Nat.reduceAdd, Nat.reduceMul, Nat.reduceLeDiff, Nat.reduceBEq, Nat.reduceBNe, Int.reduceEq, ↓reduceIte, reduceCtorEq]
    refine call_go false M4 ?_
    simp (maxSteps := 9000000) -implicitDefEqProofs -dsimp (disch := omega) only [go_sem, g84_0, g84_1, g84_2, g84_3, g84_4, g84_5, g84_6, g84_7, g84_8, g84_9, g84_10, g84_11, g84_12, g84_13, g84_14, g84_15, g84_16, g84_17, g84_18, g84_19, g84_20, g84_21, g84_22, g84_23, g84_24, g84_25, g84_26, g84_27, g84_28, a84_28, n84_28, g84_29, g84_30, g84_31, g84_32, g84_33, i84, lt_T, lt_F, le_T, le_F, eq_T, eq_F, and_F, Nat.reduceEqDiff, Nat.reduceAdd, Nat.reduceMul, Nat.reduceLeDiff, Nat.reduceBEq, Nat.reduceBNe, Int.reduceEq, ↓reduceIte, reduceCtorEq]
    exact (imp_fix 3 [] 3 1 rfl rfl rfl).trans (imp_sub (by simp (maxSteps := 9000000) -implicitDefEqProofs -dsimp (disch := omega) only [go_sem, g84_0, g84_1, g84_2, g84_3, g84_4, g84_5, g84_6, g84_7, g84_8, g84_9, g84_10, g84_11, g84_12, g84_13, g84_14, g84_15, g84_16, g84_17, g84_18, g84_19, g84_20, g84_21, g84_22, g84_23, g84_24, g84_25, g84_26, g84_27, g84_28, a84_28, n84_28, g84_29, g84_30, g84_31, g84_32, g84_33, i84, Nat.reduceEqDiff, Nat.reduceAdd, Nat.reduceMul, Nat.reduceLeDiff, Nat.reduceBEq, Nat.reduceBNe, Int.reduceEq, ↓reduceIte, reduceCtorEq]) (by simp (maxSteps := 9000000) -implicitDefEqProofs -dsimp (disch := omega) only [go_sem, g84_0, g84_1, g84_2, g84_3, g84_4, g84_5, g84_6, g84_7, g84_8, g84_9, g84_10, g84_11, g84_12, g84_13, g84_14, g84_15, g84_16, g84_17, g84_18, g84_19, g84_20, g84_21, g84_22, g84_23, g84_24, g84_25, g84_26, g84_27, g84_28, a84_28, n84_28, g84_29, g84_30, g84_31, g84_32, g84_33, i84, Nat.reduceEqDiff, Nat.reduceAdd, Nat.reduceMul, Nat.reduceLeDiff, Nat.reduceBEq, Nat.reduceBNe, Int.reduceEq, ↓reduceIte, reduceCtorEq]) rfl)
theorem drStp {x : Stp} (hm : DInv m d) (hm2 : m ≤ 24) (hx : x.t.size ≤ 31 ∧ x.h.length ≤ 24) : ∃ d', DInv m d' ∧ Rnd Try.prog stpI (drX r n m c d l x) (drX r n m c d' l x) := by
  obtain ⟨i1, i2, i3, i4, i5⟩ := hm
  have MO := l7Own_ok d.p d.h d.b (by omega) (by omega) (by omega)
  have MS := l7Step_ok d.p d.h d.b x.k x.a x.t x.h (by omega) (by omega) (by omega) (by omega) (by omega) (fun y hy => by have := i4 y hy; omega)
  have jv := stepF_inv (p := d.p) (h := d.h) (b := d.b) (o := d.ok) (k := x.k) (a := x.a) (text := x.t) (kept := x.h) ⟨i1, i2, i3, i4, i5⟩
  refine ⟨stepF d.p d.h d.b x.k x.a x.t x.h, jv, rnd_go ?_⟩
  have hno := fun h => stepF_no (p := d.p) (h := d.h) (b := d.b) (k := x.k) (a := x.a) (text := x.t) (kept := x.h) h
  generalize stepF d.p d.h d.b x.k x.a x.t x.h = D at *
  obtain ⟨j1, j2, j3, j4, j5⟩ := jv
  rw [j1, j2, j3, i1, i2, i3] at MS
  rw [i1, i2, i3] at MO
  have cp : cut (d.p.map T.str) 0 m = d.p.map T.str := cut_all (by simp [i1])
  have ch : cut (d.h.map T.str) 0 m = d.h.map T.str := cut_all (by simp [i2])
  have cb : cut (d.b.map T.bool) 0 m = d.b.map T.bool := cut_all (by simp [i3])
  have cp' : cut (D.p.map T.str) 0 m = D.p.map T.str := cut_all (by simp [j1])
  have ch' : cut (D.h.map T.str) 0 m = D.h.map T.str := cut_all (by simp [j2])
  have cb' : cut (D.b.map T.bool) 0 m = D.b.map T.bool := cut_all (by simp [j3])
  unfold drX cuT dkT stX stpI at *
  simp (maxSteps := 9000000) -implicitDefEqProofs -dsimp (disch := omega) only [go_sem, g84_0, g84_1, g84_2, g84_3, g84_4, g84_5, g84_6, g84_7, g84_8, g84_9, g84_10, g84_11, g84_12, g84_13, g84_14, g84_15, g84_16, g84_17, g84_18, g84_19, g84_20, g84_21, g84_22, g84_23, g84_24, g84_25, g84_26, g84_27, g84_28, a84_28, n84_28, g84_29, g84_30, g84_31, g84_32, g84_33, i84, lt_T, lt_F, le_T, le_F, eq_T, eq_F, and_F, Nat.reduceEqDiff, Nat.reduceAdd, Nat.reduceMul, Nat.reduceLeDiff, Nat.reduceBEq, Nat.reduceBNe, Int.reduceEq, ↓reduceIte, reduceCtorEq]
  refine drawm_go n84_28 a84_28 [(3, .framed []), (8, .framed [])] (by decide +kernel) ?_
  simp (maxSteps := 9000000) -implicitDefEqProofs -dsimp (disch := omega) only [go_sem, g84_0, g84_1, g84_2, g84_3, g84_4, g84_5, g84_6, g84_7, g84_8, g84_9, g84_10, g84_11, g84_12, g84_13, g84_14, g84_15, g84_16, g84_17, g84_18, g84_19, g84_20, g84_21, g84_22, g84_23, g84_24, g84_25, g84_26, g84_27, g84_28, a84_28, n84_28, g84_29, g84_30, g84_31, g84_32, g84_33, i84, cp, ch, cb, Nat.reduceEqDiff, Nat.reduceAdd, Nat.reduceMul, Nat.reduceLeDiff, Nat.reduceBEq, Nat.reduceBNe, Int.reduceEq, ↓reduceIte, reduceCtorEq]
  refine calla_go true MO ?_
  simp (maxSteps := 9000000) -implicitDefEqProofs -dsimp (disch := omega) only [go_sem, g84_0, g84_1, g84_2, g84_3, g84_4, g84_5, g84_6, g84_7, g84_8, g84_9, g84_10, g84_11, g84_12, g84_13, g84_14, g84_15, g84_16, g84_17, g84_18, g84_19, g84_20, g84_21, g84_22, g84_23, g84_24, g84_25, g84_26, g84_27, g84_28, a84_28, n84_28, g84_29, g84_30, g84_31, g84_32, g84_33, i84, cp, ch, cb, Nat.reduceEqDiff, Nat.reduceAdd, Nat.reduceMul, Nat.reduceLeDiff, Nat.reduceBEq, Nat.reduceBNe, Int.reduceEq, ↓reduceIte, reduceCtorEq]
  refine call_go true MS ?_
  cases hok : D.ok with
  | true =>
    simp (maxSteps := 9000000) -implicitDefEqProofs -dsimp (disch := omega) only [go_sem, g84_0, g84_1, g84_2, g84_3, g84_4, g84_5, g84_6, g84_7, g84_8, g84_9, g84_10, g84_11, g84_12, g84_13, g84_14, g84_15, g84_16, g84_17, g84_18, g84_19, g84_20, g84_21, g84_22, g84_23, g84_24, g84_25, g84_26, g84_27, g84_28, a84_28, n84_28, g84_29, g84_30, g84_31, g84_32, g84_33, i84, cp, ch, cb, cp', ch', cb', hok, Nat.reduceEqDiff, Nat.reduceAdd, Nat.reduceMul, Nat.reduceLeDiff, Nat.reduceBEq, Nat.reduceBNe, Int.reduceEq, ↓reduceIte, reduceCtorEq]
    exact (imp_sub (by simp (maxSteps := 9000000) -implicitDefEqProofs -dsimp (disch := omega) only [go_sem, g84_0, g84_1, g84_2, g84_3, g84_4, g84_5, g84_6, g84_7, g84_8, g84_9, g84_10, g84_11, g84_12, g84_13, g84_14, g84_15, g84_16, g84_17, g84_18, g84_19, g84_20, g84_21, g84_22, g84_23, g84_24, g84_25, g84_26, g84_27, g84_28, a84_28, n84_28, g84_29, g84_30, g84_31, g84_32, g84_33, i84, cp', ch', cb', Nat.reduceEqDiff, Nat.reduceAdd, Nat.reduceMul, Nat.reduceLeDiff, Nat.reduceBEq, Nat.reduceBNe, Int.reduceEq, ↓reduceIte, reduceCtorEq]) (by simp (maxSteps := 9000000) -implicitDefEqProofs -dsimp (disch := omega) only [go_sem, g84_0, g84_1, g84_2, g84_3, g84_4, g84_5, g84_6, g84_7, g84_8, g84_9, g84_10, g84_11, g84_12, g84_13, g84_14, g84_15, g84_16, g84_17, g84_18, g84_19, g84_20, g84_21, g84_22, g84_23, g84_24, g84_25, g84_26, g84_27, g84_28, a84_28, n84_28, g84_29, g84_30, g84_31, g84_32, g84_33, i84, cp', ch', cb', Nat.reduceEqDiff, Nat.reduceAdd, Nat.reduceMul, Nat.reduceLeDiff, Nat.reduceBEq, Nat.reduceBNe, Int.reduceEq, ↓reduceIte, reduceCtorEq]) rfl)
  | false =>
    have hn := hno hok
    have n1 : D.p = d.p := by rw [hn]
    have n2 : D.h = d.h := by rw [hn]
    have n3 : D.b = d.b := by rw [hn]
    simp (maxSteps := 9000000) -implicitDefEqProofs -dsimp (disch := omega) only [go_sem, g84_0, g84_1, g84_2, g84_3, g84_4, g84_5, g84_6, g84_7, g84_8, g84_9, g84_10, g84_11, g84_12, g84_13, g84_14, g84_15, g84_16, g84_17, g84_18, g84_19, g84_20, g84_21, g84_22, g84_23, g84_24, g84_25, g84_26, g84_27, g84_28, a84_28, n84_28, g84_29, g84_30, g84_31, g84_32, g84_33, i84, cp, ch, cb, cp', ch', cb', hok, Nat.reduceEqDiff, Nat.reduceAdd, Nat.reduceMul, Nat.reduceLeDiff, Nat.reduceBEq, Nat.reduceBNe, Int.reduceEq, ↓reduceIte, reduceCtorEq]
    exact (imp_sub (by simp (maxSteps := 9000000) -implicitDefEqProofs -dsimp (disch := omega) only [go_sem, g84_0, g84_1, g84_2, g84_3, g84_4, g84_5, g84_6, g84_7, g84_8, g84_9, g84_10, g84_11, g84_12, g84_13, g84_14, g84_15, g84_16, g84_17, g84_18, g84_19, g84_20, g84_21, g84_22, g84_23, g84_24, g84_25, g84_26, g84_27, g84_28, a84_28, n84_28, g84_29, g84_30, g84_31, g84_32, g84_33, i84, n1, n2, n3, Nat.reduceEqDiff, Nat.reduceAdd, Nat.reduceMul, Nat.reduceLeDiff, Nat.reduceBEq, Nat.reduceBNe, Int.reduceEq, ↓reduceIte, reduceCtorEq]) (by simp (maxSteps := 9000000) -implicitDefEqProofs -dsimp (disch := omega) only [go_sem, g84_0, g84_1, g84_2, g84_3, g84_4, g84_5, g84_6, g84_7, g84_8, g84_9, g84_10, g84_11, g84_12, g84_13, g84_14, g84_15, g84_16, g84_17, g84_18, g84_19, g84_20, g84_21, g84_22, g84_23, g84_24, g84_25, g84_26, g84_27, g84_28, a84_28, n84_28, g84_29, g84_30, g84_31, g84_32, g84_33, i84, n1, n2, n3, Nat.reduceEqDiff, Nat.reduceAdd, Nat.reduceMul, Nat.reduceLeDiff, Nat.reduceBEq, Nat.reduceBNe, Int.reduceEq, ↓reduceIte, reduceCtorEq]) rfl)
theorem dr31 {x : Stp} (hl : l.length ≤ 100) (hx : x.t.size ≤ 31 ∧ x.h.length ≤ 24) : Rnd Try.prog (.region g84_31) (drX r n m c d l x) (drS r n m c d (l ++ [x])) := by
  refine rnd_go ?_
  have cl : cut (stO l) 0 (l.length * 4) = stO l := stO_cut
  have ap : stO (l ++ [x]) = stO l ++ [.int .i64 x.k, .int .i64 x.a, .str x.t, (.sl true 1 x.h.length (x.h.map (T.int .i64)))] := by unfold stO; rw [rows4_app]; rfl
  unfold drX drS cuT dkT stX
  simp (maxSteps := 9000000) -implicitDefEqProofs -dsimp (disch := omega) only [go_sem, g84_0, g84_1, g84_2, g84_3, g84_4, g84_5, g84_6, g84_7, g84_8, g84_9, g84_10, g84_11, g84_12, g84_13, g84_14, g84_15, g84_16, g84_17, g84_18, g84_19, g84_20, g84_21, g84_22, g84_23, g84_24, g84_25, g84_26, g84_27, g84_28, a84_28, n84_28, g84_29, g84_30, g84_31, g84_32, g84_33, i84, lt_T, lt_F, le_T, le_F, eq_T, eq_F, and_F, cl, Nat.reduceEqDiff, Nat.reduceAdd, Nat.reduceMul, Nat.reduceLeDiff, Nat.reduceBEq, Nat.reduceBNe, Int.reduceEq, ↓reduceIte, reduceCtorEq]
  exact (imp_ren 5 2 rfl rfl).trans (imp_sub (by simp (maxSteps := 9000000) -implicitDefEqProofs -dsimp (disch := omega) only [go_sem, g84_0, g84_1, g84_2, g84_3, g84_4, g84_5, g84_6, g84_7, g84_8, g84_9, g84_10, g84_11, g84_12, g84_13, g84_14, g84_15, g84_16, g84_17, g84_18, g84_19, g84_20, g84_21, g84_22, g84_23, g84_24, g84_25, g84_26, g84_27, g84_28, a84_28, n84_28, g84_29, g84_30, g84_31, g84_32, g84_33, i84, ap, Nat.reduceEqDiff, Nat.reduceAdd, Nat.reduceMul, Nat.reduceLeDiff, Nat.reduceBEq, Nat.reduceBNe, Int.reduceEq, ↓reduceIte, reduceCtorEq]) (by simp (maxSteps := 9000000) -implicitDefEqProofs -dsimp (disch := omega) only [go_sem, g84_0, g84_1, g84_2, g84_3, g84_4, g84_5, g84_6, g84_7, g84_8, g84_9, g84_10, g84_11, g84_12, g84_13, g84_14, g84_15, g84_16, g84_17, g84_18, g84_19, g84_20, g84_21, g84_22, g84_23, g84_24, g84_25, g84_26, g84_27, g84_28, a84_28, n84_28, g84_29, g84_30, g84_31, g84_32, g84_33, i84, ap, Nat.reduceEqDiff, Nat.reduceAdd, Nat.reduceMul, Nat.reduceLeDiff, Nat.reduceBEq, Nat.reduceBNe, Int.reduceEq, ↓reduceIte, reduceCtorEq]) rfl)
/-- a round: one step drawn -/
theorem drRound {b : Int} (hc : c.ok b) (hb : b ≤ 1000000) (hr : 0 < r) (hr2 : r ≤ 1000) (hn : 1 ≤ n ∧ n ≤ 24) (hm : DInv m d) (hm2 : m ≤ 24) (hl : l.length ≤ 100) : ∃ c' d' x, c'.ok (b + 300) ∧ DInv m d' ∧ (x.t.size ≤ 31 ∧ x.h.length ≤ 24) ∧ Rnd Try.prog (.seq (.seq (.region g84_6) (.cond (.t 27) .skip (.exit 0))) (.seq (.block 1 (.seq (.region g84_7) (.seq (.seq (.region g84_8) (.block 2 (.seq (.region g84_9) (.cond (.t 36) (.seq (.region g84_10) (.region g84_11)) (.seq (.region g84_12) (.cond (.t 47) (.seq (.region g84_13) (.block 3 (.loop (.seq (.region g84_14) (.seq (.cond (.t 53) .skip (.exit 3)) (.seq (.block 4 (.seq (.region g84_15) (.seq (.region g84_16) (.cond (.t 57) (.region g84_17) .skip)))) (.region g84_18))))))) (.seq (.region g84_19) (.cond (.t 65) (.seq (.region g84_20) (.region g84_21)) (.seq (.seq (.region g84_22) (.cond (.t 75) .skip (.region g84_23))) (.cond (.t 75) (.region g84_24) .skip)))))))))) (.seq (.seq (.region g84_25) (.cond (.t 83) (.region g84_26) .skip)) (.seq (.seq (.region g84_27) (.cond (.t 93) (.seq (.draw [[], [0], [], [1, 2, 1], [3], [4], [4], [], [7, 5, 3, 0, 1, 2, 3, 4, 5, 7], [6, 8, 0, 1, 2, 3, 4, 5, 6, 7, 8]] g84_28) (.seq (.region g84_29) (.cond (.t 101) (.region g84_30) .skip))) .skip)) (.region g84_31)))))) (.region g84_32))) (drS r n m c d l) (drS (r - 1) n m c' d' (l ++ [x])) := by
  obtain ⟨k, c1, k1, hk, R1⟩ := dr7 (r := r) (n := n) (m := m) (d := d) (l := l) hc (by omega)
  obtain ⟨x1, c2, k2, hx1, R2⟩ := drSw (r := r) (n := n) (m := m) (d := d) (l := l) k1 (by omega) hn hm hm2 hk
  obtain ⟨x2, c3, k3, hx2, R3⟩ := drOne (r := r) (n := n) (m := m) (d := d) (l := l) k2 (by omega) hx1
  obtain ⟨d', hd, R4⟩ := drStp (r := r) (n := n) (c := c3) (l := l) hm hm2 hx2
  have R5 := dr31 (r := r) (n := n) (m := m) (c := c3) (d := d') hl hx2
  have R6 := dr32 (n := n) (m := m) (c := c3) (d := d') (l := l ++ [x2]) hr hr2
  refine ⟨c3, d', x2, k3.mono (by omega), hd, hx2, ?_⟩
  rw [body_eq]
  exact rnd_seq (dr6 hr) (rnd_seq (rnd_block (rnd_seq R1 (rnd_seq R2 (rnd_seq R3 (rnd_seq R4 R5))))) R6)
end
theorem diskSteps_ok (c : Cu) (b n : Int) (hc : c.ok b) (hb : b ≤ 100000) (hn : 1 ≤ n ∧ n ≤ 24) : ∃ l c', c'.ok (b + 30000) ∧ l.length ≤ 81 ∧ (∀ x ∈ l, x.t.size ≤ 31 ∧ x.h.length ≤ 24) ∧ Meets Try.prog 84 [.one (cuT c), .one (.int .i64 n)] (.w (.one (OL l))) [.one (cuT c'), .one .hole] := by
  obtain ⟨n1, c1, k1, r1, M1⟩ := pick_ok c b 20 hc (by omega) (by omega) (by omega)
  obtain ⟨y, c2, k2, M2⟩ := one_ok c1 (b + 1) 12 k1 (by omega) (by omega) (by omega)
  obtain ⟨n3, c3, k3, r3, M3⟩ := pick_ok c2 (b + 1 + 1) 7 k2 (by omega) (by omega) (by omega)
  obtain ⟨m, rfl⟩ := Int.eq_ofNat_of_zero_le (show 0 ≤ n by omega)
  have MN := specNewDisk_ok m
  rw [NewRes, if_pos hn] at MN
  -- the rounds
  have rounds : ∀ (N : Nat) (c0 : Cu), N ≤ 81 → c0.ok (b + 3) → ∃ f : Nat → Cu × Dk × List Stp, f 0 = (c0, ⟨List.replicate m e0, List.replicate m e0, List.replicate m false, true⟩, []) ∧ (∀ i, i ≤ N → (f i).1.ok (b + 3 + 300 * (i : Nat)) ∧ DInv m (f i).2.1 ∧ (f i).2.2.length = i ∧ ∀ x ∈ (f i).2.2, x.t.size ≤ 31 ∧ x.h.length ≤ 24) ∧ ∀ i, i < N → Rnd Try.prog (.seq (.seq (.region g84_6) (.cond (.t 27) .skip (.exit 0))) (.seq (.block 1 (.seq (.region g84_7) (.seq (.seq (.region g84_8) (.block 2 (.seq (.region g84_9) (.cond (.t 36) (.seq (.region g84_10) (.region g84_11)) (.seq (.region g84_12) (.cond (.t 47) (.seq (.region g84_13) (.block 3 (.loop (.seq (.region g84_14) (.seq (.cond (.t 53) .skip (.exit 3)) (.seq (.block 4 (.seq (.region g84_15) (.seq (.region g84_16) (.cond (.t 57) (.region g84_17) .skip)))) (.region g84_18))))))) (.seq (.region g84_19) (.cond (.t 65) (.seq (.region g84_20) (.region g84_21)) (.seq (.seq (.region g84_22) (.cond (.t 75) .skip (.region g84_23))) (.cond (.t 75) (.region g84_24) .skip)))))))))) (.seq (.seq (.region g84_25) (.cond (.t 83) (.region g84_26) .skip)) (.seq (.seq (.region g84_27) (.cond (.t 93) (.seq (.draw [[], [0], [], [1, 2, 1], [3], [4], [4], [], [7, 5, 3, 0, 1, 2, 3, 4, 5, 7], [6, 8, 0, 1, 2, 3, 4, 5, 6, 7, 8]] g84_28) (.seq (.region g84_29) (.cond (.t 101) (.region g84_30) .skip))) .skip)) (.region g84_31)))))) (.region g84_32))) (drS ((N : Int) - (i : Nat)) m m (f i).1 (f i).2.1 (f i).2.2) (drS ((N : Int) - (i + 1 : Nat)) m m (f (i + 1)).1 (f (i + 1)).2.1 (f (i + 1)).2.2) := by
    intro N c0 hN h0
    refine chain (S := fun (i : Nat) (q : Cu × Dk × List Stp) => drS ((N : Int) - (i : Nat)) m m q.1 q.2.1 q.2.2) (I := fun i (q : Cu × Dk × List Stp) => q.1.ok (b + 3 + 300 * (i : Nat)) ∧ DInv m q.2.1 ∧ q.2.2.length = i ∧ ∀ x ∈ q.2.2, x.t.size ≤ 31 ∧ x.h.length ≤ 24) N ⟨by simpa using h0, playS_inv (n := m) (l := []) (i := 0), rfl, by simp⟩ (fun i q hi hq => ?_)
    obtain ⟨h1, h2, h3, h4⟩ := hq
    obtain ⟨c', d', x, g1, g2, g3, g4⟩ := drRound (r := (N : Int) - (i : Nat)) (n := m) (l := q.2.2) h1 (by omega) (by omega) (by omega) hn h2 (by omega) (by omega)
    refine ⟨(c', d', q.2.2 ++ [x]), ⟨g1.mono (by omega), g2, by simp [h3], fun z hz => ?_⟩, ?_⟩
    · rcases List.mem_append.1 hz with hz | hz
      · exact h4 z hz
      · obtain rfl := List.mem_singleton.1 hz; exact g3
    · rw [show (N : Int) - (i + 1 : Nat) = (N : Int) - (i : Nat) - 1 by omega]
      exact g4
  cases y with
  | false =>
    obtain ⟨f, f0, f1, f2⟩ := rounds n1.toNat c2 (by omega) (k2.mono (by omega))
    obtain ⟨g1, g2, g3, g4⟩ := f1 n1.toNat (Nat.le_refl _)
    refine ⟨(f n1.toNat).2.2, (f n1.toNat).1, g1.mono (by omega), by omega, g4, ?_⟩
    have e1 : (n1.toNat : Int) = n1 := Int.toNat_of_nonneg r1.1
    rw [e1] at f2
    have i0 : drS (n1 - (0 : Nat)) m m (f 0).1 (f 0).2.1 (f 0).2.2 = drS n1 m m c2 ⟨List.replicate m e0, List.replicate m e0, List.replicate m false, true⟩ [] := by rw [f0]; simp
    refine meets_go (ir := i84) (fn := Try.f84) (rx := [(.tmp 4)]) rfl rfl (by rfl) (by rfl) (by exact Nat.le_of_ble_eq_true rfl) ?_
    simp (maxSteps := 9000000) -implicitDefEqProofs -dsimp (disch := omega) only [go_sem, g84_0, g84_1, g84_2, g84_3, g84_4, g84_5, g84_6, g84_7, g84_8, g84_9, g84_10, g84_11, g84_12, g84_13, g84_14, g84_15, g84_16, g84_17, g84_18, g84_19, g84_20, g84_21, g84_22, g84_23, g84_24, g84_25, g84_26, g84_27, g84_28, a84_28, n84_28, g84_29, g84_30, g84_31, g84_32, g84_33, i84, cuT, Nat.reduceEqDiff, Nat.reduceAdd, Nat.reduceMul, Nat.reduceLeDiff, Nat.reduceBEq, Nat.reduceBNe, Int.reduceEq, ↓reduceIte, reduceCtorEq]
    refine call_go false M1 ?_
    simp (maxSteps := 9000000) -implicitDefEqProofs -dsimp (disch := omega) only [go_sem, g84_0, g84_1, g84_2, g84_3, g84_4, g84_5, g84_6, g84_7, g84_8, g84_9, g84_10, g84_11, g84_12, g84_13, g84_14, g84_15, g84_16, g84_17, g84_18, g84_19, g84_20, g84_21, g84_22, g84_23, g84_24, g84_25, g84_26, g84_27, g84_28, a84_28, n84_28, g84_29, g84_30, g84_31, g84_32, g84_33, i84, cuT, Nat.reduceEqDiff, Nat.reduceAdd, Nat.reduceMul, Nat.reduceLeDiff, Nat.reduceBEq, Nat.reduceBNe, Int.reduceEq, ↓reduceIte, reduceCtorEq]
    refine call_go false M2 ?_
    simp (maxSteps := 9000000) -implicitDefEqProofs -dsimp (disch := omega) only [go_sem, g84_0, g84_1, g84_2, g84_3, g84_4, g84_5, g84_6, g84_7, g84_8, g84_9, g84_10, g84_11, g84_12, g84_13, g84_14, g84_15, g84_16, g84_17, g84_18, g84_19, g84_20, g84_21, g84_22, g84_23, g84_24, g84_25, g84_26, g84_27, g84_28, a84_28, n84_28, g84_29, g84_30, g84_31, g84_32, g84_33, i84, cuT, Nat.reduceEqDiff, Nat.reduceAdd, Nat.reduceMul, Nat.reduceLeDiff, Nat.reduceBEq, Nat.reduceBNe, Int.reduceEq, ↓reduceIte, reduceCtorEq]
    refine call_go false MN ?_
    simp (maxSteps := 9000000) -implicitDefEqProofs -dsimp (disch := omega) only [go_sem, g84_0, g84_1, g84_2, g84_3, g84_4, g84_5, g84_6, g84_7, g84_8, g84_9, g84_10, g84_11, g84_12, g84_13, g84_14, g84_15, g84_16, g84_17, g84_18, g84_19, g84_20, g84_21, g84_22, g84_23, g84_24, g84_25, g84_26, g84_27, g84_28, a84_28, n84_28, g84_29, g84_30, g84_31, g84_32, g84_33, i84, lt_T, lt_F, le_T, le_F, eq_T, eq_F, and_F, cuT, rep_str, rep_bool, List.length_replicate, cut_rs, cut_rb, Nat.reduceEqDiff, Nat.reduceAdd, Nat.reduceMul, Nat.reduceLeDiff, Nat.reduceBEq, Nat.reduceBNe, Int.reduceEq, ↓reduceIte, reduceCtorEq]
    refine loop_f n1.toNat (fun i => drS (n1 - (i : Nat)) m m (f i).1 (f i).2.1 (f i).2.2) ?_ f2 ?_
    · rw [i0]
      unfold drS cuT dkT
      exact (imp_adopt 5 9 4 rfl rfl).trans ((imp_ren 9 2 rfl rfl).trans ((imp_ren 4 1 rfl rfl).trans (imp_sub (by simp (maxSteps := 9000000) -implicitDefEqProofs -dsimp (disch := omega) only [go_sem, g84_0, g84_1, g84_2, g84_3, g84_4, g84_5, g84_6, g84_7, g84_8, g84_9, g84_10, g84_11, g84_12, g84_13, g84_14, g84_15, g84_16, g84_17, g84_18, g84_19, g84_20, g84_21, g84_22, g84_23, g84_24, g84_25, g84_26, g84_27, g84_28, a84_28, n84_28, g84_29, g84_30, g84_31, g84_32, g84_33, i84, show stO [] = [] from rfl, Nat.reduceEqDiff, Nat.reduceAdd, Nat.reduceMul, Nat.reduceLeDiff, Nat.reduceBEq, Nat.reduceBNe, Int.reduceEq, ↓reduceIte, reduceCtorEq]) (by simp (maxSteps := 9000000) -implicitDefEqProofs -dsimp (disch := omega) only [go_sem, g84_0, g84_1, g84_2, g84_3, g84_4, g84_5, g84_6, g84_7, g84_8, g84_9, g84_10, g84_11, g84_12, g84_13, g84_14, g84_15, g84_16, g84_17, g84_18, g84_19, g84_20, g84_21, g84_22, g84_23, g84_24, g84_25, g84_26, g84_27, g84_28, a84_28, n84_28, g84_29, g84_30, g84_31, g84_32, g84_33, i84, show stO [] = [] from rfl, Nat.reduceEqDiff, Nat.reduceAdd, Nat.reduceMul, Nat.reduceLeDiff, Nat.reduceBEq, Nat.reduceBNe, Int.reduceEq, ↓reduceIte, reduceCtorEq]) rfl)))
    · have e2 : n1 - (n1.toNat : Int) = 0 := by omega
      have co : cut (stO (f n1.toNat).2.2) 0 ((f n1.toNat).2.2.length * 4) = stO (f n1.toNat).2.2 := stO_cut
      have nr : noRoL (stO (f n1.toNat).2.2) = true := rows4_noRo fun x => ⟨by simp [noRo], by simp [noRo], by simp [noRo], by simp [noRo, noRoL_int]⟩
      simp only [e2]
      unfold drS cuT dkT OL
      simp (maxSteps := 9000000) -implicitDefEqProofs -dsimp (disch := omega) only [go_sem, g84_0, g84_1, g84_2, g84_3, g84_4, g84_5, g84_6, g84_7, g84_8, g84_9, g84_10, g84_11, g84_12, g84_13, g84_14, g84_15, g84_16, g84_17, g84_18, g84_19, g84_20, g84_21, g84_22, g84_23, g84_24, g84_25, g84_26, g84_27, g84_28, a84_28, n84_28, g84_29, g84_30, g84_31, g84_32, g84_33, i84, lt_T, lt_F, le_T, le_F, eq_T, eq_F, and_F, co, nr, Nat.reduceEqDiff, Nat.reduceAdd, Nat.reduceMul, Nat.reduceLeDiff, Nat.reduceBEq, Nat.reduceBNe, Int.reduceEq, ↓reduceIte, reduceCtorEq]
  | true =>
    obtain ⟨f, f0, f1, f2⟩ := rounds (75 + n3).toNat c3 (by omega) (k3.mono (by omega))
    obtain ⟨g1, g2, g3, g4⟩ := f1 (75 + n3).toNat (Nat.le_refl _)
    refine ⟨(f (75 + n3).toNat).2.2, (f (75 + n3).toNat).1, g1.mono (by omega), by omega, g4, ?_⟩
    have e1 : ((75 + n3).toNat : Int) = 75 + n3 := Int.toNat_of_nonneg (by omega)
    rw [e1] at f2
    have i0 : drS (75 + n3 - (0 : Nat)) m m (f 0).1 (f 0).2.1 (f 0).2.2 = drS (75 + n3) m m c3 ⟨List.replicate m e0, List.replicate m e0, List.replicate m false, true⟩ [] := by rw [f0]; simp
    refine meets_go (ir := i84) (fn := Try.f84) (rx := [(.tmp 4)]) rfl rfl (by rfl) (by rfl) (by exact Nat.le_of_ble_eq_true rfl) ?_
    simp (maxSteps := 9000000) -implicitDefEqProofs -dsimp (disch := omega) only [go_sem, g84_0, g84_1, g84_2, g84_3, g84_4, g84_5, g84_6, g84_7, g84_8, g84_9, g84_10, g84_11, g84_12, g84_13, g84_14, g84_15, g84_16, g84_17, g84_18, g84_19, g84_20, g84_21, g84_22, g84_23, g84_24, g84_25, g84_26, g84_27, g84_28, a84_28, n84_28, g84_29, g84_30, g84_31, g84_32, g84_33, i84, cuT, Nat.reduceEqDiff, Nat.reduceAdd, Nat.reduceMul, Nat.reduceLeDiff, Nat.reduceBEq, Nat.reduceBNe, Int.reduceEq, ↓reduceIte, reduceCtorEq]
    refine call_go false M1 ?_
    simp (maxSteps := 9000000) -implicitDefEqProofs -dsimp (disch := omega) only [go_sem, g84_0, g84_1, g84_2, g84_3, g84_4, g84_5, g84_6, g84_7, g84_8, g84_9, g84_10, g84_11, g84_12, g84_13, g84_14, g84_15, g84_16, g84_17, g84_18, g84_19, g84_20, g84_21, g84_22, g84_23, g84_24, g84_25, g84_26, g84_27, g84_28, a84_28, n84_28, g84_29, g84_30, g84_31, g84_32, g84_33, i84, cuT, Nat.reduceEqDiff, Nat.reduceAdd, Nat.reduceMul, Nat.reduceLeDiff, Nat.reduceBEq, Nat.reduceBNe, Int.reduceEq, ↓reduceIte, reduceCtorEq]
    refine call_go false M2 ?_
    simp (maxSteps := 9000000) -implicitDefEqProofs -dsimp (disch := omega) only [go_sem, g84_0, g84_1, g84_2, g84_3, g84_4, g84_5, g84_6, g84_7, g84_8, g84_9, g84_10, g84_11, g84_12, g84_13, g84_14, g84_15, g84_16, g84_17, g84_18, g84_19, g84_20, g84_21, g84_22, g84_23, g84_24, g84_25, g84_26, g84_27, g84_28, a84_28, n84_28, g84_29, g84_30, g84_31, g84_32, g84_33, i84, cuT, Nat.reduceEqDiff, Nat.reduceAdd, Nat.reduceMul, Nat.reduceLeDiff, Nat.reduceBEq, Nat.reduceBNe, Int.reduceEq, ↓reduceIte, reduceCtorEq]
    refine call_go false M3 ?_
    simp (maxSteps := 9000000) -implicitDefEqProofs -dsimp (disch := omega) only [go_sem, g84_0, g84_1, g84_2, g84_3, g84_4, g84_5, g84_6, g84_7, g84_8, g84_9, g84_10, g84_11, g84_12, g84_13, g84_14, g84_15, g84_16, g84_17, g84_18, g84_19, g84_20, g84_21, g84_22, g84_23, g84_24, g84_25, g84_26, g84_27, g84_28, a84_28, n84_28, g84_29, g84_30, g84_31, g84_32, g84_33, i84, cuT, Nat.reduceEqDiff, Nat.reduceAdd, Nat.reduceMul, Nat.reduceLeDiff, Nat.reduceBEq, Nat.reduceBNe, Int.reduceEq, ↓reduceIte, reduceCtorEq]
    refine call_go false MN ?_
    simp (maxSteps := 9000000) -implicitDefEqProofs -dsimp (disch := omega) only [go_sem, g84_0, g84_1, g84_2, g84_3, g84_4, g84_5, g84_6, g84_7, g84_8, g84_9, g84_10, g84_11, g84_12, g84_13, g84_14, g84_15, g84_16, g84_17, g84_18, g84_19, g84_20, g84_21, g84_22, g84_23, g84_24, g84_25, g84_26, g84_27, g84_28, a84_28, n84_28, g84_29, g84_30, g84_31, g84_32, g84_33, i84, lt_T, lt_F, le_T, le_F, eq_T, eq_F, and_F, cuT, rep_str, rep_bool, List.length_replicate, cut_rs, cut_rb, Nat.reduceEqDiff, Nat.reduceAdd, Nat.reduceMul, Nat.reduceLeDiff, Nat.reduceBEq, Nat.reduceBNe, Int.reduceEq, ↓reduceIte, reduceCtorEq]
    refine loop_f (75 + n3).toNat (fun i => drS (75 + n3 - (i : Nat)) m m (f i).1 (f i).2.1 (f i).2.2) ?_ f2 ?_
    · rw [i0]
      unfold drS cuT dkT
      exact (imp_adopt 5 9 4 rfl rfl).trans ((imp_ren 9 2 rfl rfl).trans ((imp_ren 4 1 rfl rfl).trans (imp_sub (by simp (maxSteps := 9000000) -implicitDefEqProofs -dsimp (disch := omega) only [go_sem, g84_0, g84_1, g84_2, g84_3, g84_4, g84_5, g84_6, g84_7, g84_8, g84_9, g84_10, g84_11, g84_12, g84_13, g84_14, g84_15, g84_16, g84_17, g84_18, g84_19, g84_20, g84_21, g84_22, g84_23, g84_24, g84_25, g84_26, g84_27, g84_28, a84_28, n84_28, g84_29, g84_30, g84_31, g84_32, g84_33, i84, show stO [] = [] from rfl, Nat.reduceEqDiff, Nat.reduceAdd, Nat.reduceMul, Nat.reduceLeDiff, Nat.reduceBEq, Nat.reduceBNe, Int.reduceEq, ↓reduceIte, reduceCtorEq]) (by simp (maxSteps := 9000000) -implicitDefEqProofs -dsimp (disch := omega) only [go_sem, g84_0, g84_1, g84_2, g84_3, g84_4, g84_5, g84_6, g84_7, g84_8, g84_9, g84_10, g84_11, g84_12, g84_13, g84_14, g84_15, g84_16, g84_17, g84_18, g84_19, g84_20, g84_21, g84_22, g84_23, g84_24, g84_25, g84_26, g84_27, g84_28, a84_28, n84_28, g84_29, g84_30, g84_31, g84_32, g84_33, i84, show stO [] = [] from rfl, Nat.reduceEqDiff, Nat.reduceAdd, Nat.reduceMul, Nat.reduceLeDiff, Nat.reduceBEq, Nat.reduceBNe, Int.reduceEq, ↓reduceIte, reduceCtorEq]) rfl)))
    · have e2 : (75 + n3) - ((75 + n3).toNat : Int) = 0 := by omega
      have co : cut (stO (f (75 + n3).toNat).2.2) 0 ((f (75 + n3).toNat).2.2.length * 4) = stO (f (75 + n3).toNat).2.2 := stO_cut
      have nr : noRoL (stO (f (75 + n3).toNat).2.2) = true := rows4_noRo fun x => ⟨by simp [noRo], by simp [noRo], by simp [noRo], by simp [noRo, noRoL_int]⟩
      simp only [e2]
      unfold drS cuT dkT OL
      simp (maxSteps := 9000000) -implicitDefEqProofs -dsimp (disch := omega) only [go_sem, g84_0, g84_1, g84_2, g84_3, g84_4, g84_5, g84_6, g84_7, g84_8, g84_9, g84_10, g84_11, g84_12, g84_13, g84_14, g84_15, g84_16, g84_17, g84_18, g84_19, g84_20, g84_21, g84_22, g84_23, g84_24, g84_25, g84_26, g84_27, g84_28, a84_28, n84_28, g84_29, g84_30, g84_31, g84_32, g84_33, i84, lt_T, lt_F, le_T, le_F, eq_T, eq_F, and_F, co, nr, Nat.reduceEqDiff, Nat.reduceAdd, Nat.reduceMul, Nat.reduceLeDiff, Nat.reduceBEq, Nat.reduceBNe, Int.reduceEq, ↓reduceIte, reduceCtorEq]
end Go.Proofs.YtjlodcoeegpkaaaT
