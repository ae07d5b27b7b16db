/- Functions of the program, each with what it returns and leaves. No condition. -/
import Derived.Test.YtplhecjngmkngaaFn1
import Derived.Test.YtplhecjngmkngaaTree6
import Derived.Test.YtplhecjngmkngaaShelf
set_option linter.all false
set_option linter.unusedVariables false
set_option linter.unusedSimpArgs false
set_option linter.unusedSectionVars false
set_option linter.unnecessarySimpa false
set_option linter.deprecated false
/- Functions of the program as contracts: matrices times pieces. No condition. -/
set_option maxRecDepth 100000
set_option maxHeartbeats 4000000
set_option linter.unusedSimpArgs false
set_option linter.unusedVariables false
namespace Go.Proofs.YtplhecjngmkngaaT
open Go
theorem mxR_at {m : Mx} {i c : Nat} (h : i < m.length) (hc : (m.getD i default).length = c) : (mxR m)[i]? = some (.sl false 1 c ((m.getD i default).map (T.int .i64))) := by rw [mxR_get h, hc]
theorem times_snoc {m ps : Mx} {w i : Nat} (h : i < m.length) : mxO ((timesZ m ps w).take (i + 1)) = mxO ((timesZ m ps w).take i) ++ [.sl true 1 w ((rowZ (m.getD i default) ps w).map (T.int .i64))] :=
  mxO_snoc (by rw [times_len]; exact h) (times_get h) rowZ_len
def g93_0 : List Gop := [⟨none, (some 4), (.mov (.k (.one .nil)))⟩]
def g93_1 : List Gop := [⟨none, (some 5), (.mov (.k (.one .nil)))⟩]
def g93_2 : List Gop := [⟨none, (some 11), (.mov (.t 0))⟩, ⟨none, (some 12), (.len (.t 11))⟩, ⟨none, (some 13), (.mov (.k (.one (.int .i64 0))))⟩]
def g93_3 : List Gop := [⟨none, (some 14), (.bin .lss (.t 13) (.t 12))⟩]
def g93_4 : List Gop := [⟨none, (some 15), (.iaddr 1 (.t 11) (.t 13))⟩, ⟨none, (some 16), (.load none (.t 15))⟩, ⟨none, (some 7), (.mov (.t 16))⟩]
def g93_5 : List Gop := [⟨none, (some 17), (.mov (.t 1))⟩, ⟨none, (some 18), (.iaddr 1 (.t 17) (.k (.one (.int .i64 0))))⟩, ⟨none, (some 19), (.load none (.t 18))⟩, ⟨none, (some 20), (.len (.t 19))⟩, ⟨none, (some 21), (.make 1 [(.int .i64 0)] 8 (.t 20) (.t 20))⟩, ⟨none, (some 8), (.mov (.t 21))⟩]
def g93_6 : List Gop := [⟨none, (some 22), (.mov (.t 7))⟩, ⟨none, (some 23), (.len (.t 22))⟩, ⟨none, (some 24), (.mov (.k (.one (.int .i64 0))))⟩]
def g93_7 : List Gop := [⟨none, (some 25), (.bin .lss (.t 24) (.t 23))⟩]
def g93_8 : List Gop := [⟨none, (some 26), (.mov (.t 24))⟩, ⟨none, (some 27), (.iaddr 1 (.t 22) (.t 24))⟩, ⟨none, (some 28), (.load none (.t 27))⟩, ⟨none, (some 9), (.mov (.t 26))⟩, ⟨none, (some 10), (.mov (.t 28))⟩]
def g93_9 : List Gop := [⟨none, (some 29), (.mov (.t 8))⟩, ⟨none, (some 30), (.mov (.t 1))⟩, ⟨none, (some 31), (.mov (.t 9))⟩, ⟨none, (some 32), (.iaddr 1 (.t 30) (.t 31))⟩, ⟨none, (some 33), (.load none (.t 32))⟩, ⟨none, (some 34), (.mov (.t 10))⟩, ⟨none, (some 35), (.call 138 [(.t 29), (.t 33), (.t 34)])⟩]
def g93_10 : List Gop := [⟨none, (some 36), (.bin .add (.t 24) (.k (.one (.int .i64 1))))⟩, ⟨none, (some 24), (.mov (.t 36))⟩]
def g93_11 : List Gop := [⟨none, (some 37), (.mov (.t 5))⟩, ⟨none, (some 38), (.mov (.t 8))⟩, ⟨none, (some 39), (.lit 1 1 [.nil] [(0, (.t 38))])⟩, ⟨none, (some 40), (.app 1 24 [.nil] (.t 37) (.t 39))⟩, ⟨none, (some 5), (.mov (.t 40))⟩]
def g93_12 : List Gop := [⟨none, (some 41), (.bin .add (.t 13) (.k (.one (.int .i64 1))))⟩, ⟨none, (some 13), (.mov (.t 41))⟩]
def g93_13 : List Gop := [⟨none, (some 42), (.mov (.t 5))⟩, ⟨none, (some 4), (.mov (.t 42))⟩]
def i93 : Ir := (.seq (.region g93_0) (.seq (.region g93_1) (.seq (.seq (.region g93_2) (.block 0 (.loop (.seq (.region g93_3) (.seq (.cond (.t 14) .skip (.exit 0)) (.seq (.block 1 (.seq (.region g93_4) (.seq (.region g93_5) (.seq (.seq (.region g93_6) (.block 2 (.loop (.seq (.region g93_7) (.seq (.cond (.t 25) .skip (.exit 2)) (.seq (.block 3 (.seq (.region g93_8) (.region g93_9))) (.region g93_10))))))) (.region g93_11))))) (.region g93_12))))))) (.seq (.region g93_13) .ret))))
theorem l3Times_ok (m ps : Mx) (w : Nat) (hm : Wf m ps.length) (hp : Wf ps w) (h0 : 0 < ps.length) (h1 : m.length ≤ 1048576) (h2 : ps.length ≤ 1048576) (h3 : w ≤ 1048576) : Meets Try.prog 93 [.one (.sl false 1 m.length (mxR m)), .one (.sl false 1 ps.length (mxR ps))] (.w (.one (.sl true 1 m.length (mxO (timesZ m ps w))))) [.one .hole, .one .hole] := by
  have z0 := mxR_at h0 (getD_row hp h0).1
  refine meets_go (ir := i93) (fn := Try.f93) (rx := [(.tmp 4)]) rfl rfl (by rfl) (by rfl) (by exact Nat.le_of_ble_eq_true rfl) ?_
  simp (maxSteps := 9000000) -implicitDefEqProofs -dsimp (disch := omega) only [go_sem, g93_0, g93_1, g93_2, g93_3, g93_4, g93_5, g93_6, g93_7, g93_8, g93_9, g93_10, g93_11, g93_12, g93_13, i93, Nat.reduceEqDiff, Nat.reduceAdd, Nat.reduceMul, Nat.reduceLeDiff, Nat.reduceBEq, Nat.reduceBNe, Int.reduceEq, ↓reduceIte, reduceCtorEq]
  refine loop_n m.length (fun i => ⟨[(13, .w (.one (.int .i64 (i : Nat)))), (12, .w (.one (.int .i64 m.length))), (11, .w (.one (.hs 0 [] 0 1 m.length))), (5, .w (.one (.hs 2 [] 0 1 i))), (1, .w (.one (.hs 1 [] 0 1 ps.length)))], [(2, .sl true 1 i (mxO ((timesZ m ps w).take i))), (1, .sl false 1 ps.length (mxR ps)), (0, .sl false 1 m.length (mxR m))], [.one (.hs 0 [] 0 1 m.length), .one (.hs 1 [] 0 1 ps.length)]⟩) (fun i => True) ?_ trivial ?_
  · exact (imp_adopt 5 2 1 rfl rfl).trans (imp_sub (by simp (maxSteps := 9000000) -implicitDefEqProofs -dsimp (disch := omega) only [go_sem, List.take_zero, mxO_nil, Nat.reduceEqDiff, Nat.reduceAdd, Nat.reduceMul, Nat.reduceLeDiff, Nat.reduceBEq, Nat.reduceBNe, Int.reduceEq, ↓reduceIte, reduceCtorEq]) (by simp (maxSteps := 9000000) -implicitDefEqProofs -dsimp (disch := omega) only [go_sem, List.take_zero, mxO_nil, Nat.reduceEqDiff, Nat.reduceAdd, Nat.reduceMul, Nat.reduceLeDiff, Nat.reduceBEq, Nat.reduceBNe, Int.reduceEq, ↓reduceIte, reduceCtorEq]) rfl)
  · intro i hi _
    have q0 : cut (mxO ((timesZ m ps w).take i)) 0 i = mxO ((timesZ m ps w).take i) := mxO_cut (by rw [List.length_take]; omega)
    simp (maxSteps := 9000000) -implicitDefEqProofs -dsimp (disch := omega) only [go_sem, Nat.reduceEqDiff, Nat.reduceAdd, Nat.reduceMul, Nat.reduceLeDiff, Nat.reduceBEq, Nat.reduceBNe, Int.reduceEq, ↓reduceIte, reduceCtorEq]
    refine brP_i (fun h1 => ?_) (fun h1 => ?_)
    · have hlt : i < m.length := by omega
      obtain ⟨rl, rg⟩ := getD_row hm hlt
      have z1 := mxR_at hlt rl
      simp (maxSteps := 9000000) -implicitDefEqProofs -dsimp (disch := omega) only [go_sem, z0, z1, Int.toNat_zero, Nat.reduceEqDiff, Nat.reduceAdd, Nat.reduceMul, Nat.reduceLeDiff, Nat.reduceBEq, Nat.reduceBNe, Int.reduceEq, ↓reduceIte, reduceCtorEq]
      refine loop_n ps.length (fun k => ⟨[(24, .w (.one (.int .i64 (k : Nat)))), (23, .w (.one (.int .i64 ps.length))), (22, .w (.one (.hs 0 [i] 0 1 ps.length))), (8, .w (.one (.hs 3 [] 0 1 w))), (13, .w (.one (.int .i64 (i : Nat)))), (12, .w (.one (.int .i64 m.length))), (11, .w (.one (.hs 0 [] 0 1 m.length))), (5, .w (.one (.hs 2 [] 0 1 i))), (1, .w (.one (.hs 1 [] 0 1 ps.length)))], [(3, .sl true 1 w ((rowS (m.getD i default) ps w k).map (T.int .i64))), (2, .sl true 1 i (mxO ((timesZ m ps w).take i))), (1, .sl false 1 ps.length (mxR ps)), (0, .sl false 1 m.length (mxR m))], [.one (.hs 0 [] 0 1 m.length), .one (.hs 1 [] 0 1 ps.length)]⟩) (fun k => True) ?_ trivial ?_
      · exact (imp_sub (by simp (maxSteps := 9000000) -implicitDefEqProofs -dsimp (disch := omega) only [go_sem, rowS, rep0, List.map_replicate, Nat.reduceEqDiff, Nat.reduceAdd, Nat.reduceMul, Nat.reduceLeDiff, Nat.reduceBEq, Nat.reduceBNe, Int.reduceEq, ↓reduceIte, reduceCtorEq]) (by simp (maxSteps := 9000000) -implicitDefEqProofs -dsimp (disch := omega) only [go_sem, rowS, rep0, List.map_replicate, Nat.reduceEqDiff, Nat.reduceAdd, Nat.reduceMul, Nat.reduceLeDiff, Nat.reduceBEq, Nat.reduceBNe, Int.reduceEq, ↓reduceIte, reduceCtorEq]) rfl)
      · intro k hk _
        have q1 : cut ((rowS (m.getD i default) ps w k).map (T.int .i64)) 0 w = (rowS (m.getD i default) ps w k).map (T.int .i64) := cut_mapI (by rw [rowS_len]; exact Nat.le_refl _)
        simp (maxSteps := 9000000) -implicitDefEqProofs -dsimp (disch := omega) only [go_sem, Nat.reduceEqDiff, Nat.reduceAdd, Nat.reduceMul, Nat.reduceLeDiff, Nat.reduceBEq, Nat.reduceBNe, Int.reduceEq, ↓reduceIte, reduceCtorEq]
        refine brP_i (fun h2 => ?_) (fun h2 => ?_)
        · have hk2 : k < ps.length := by omega
          obtain ⟨pl, pg⟩ := getD_row hp hk2
          have z2 := mxR_at hk2 pl
          have z3 : ((m.getD i default).map (T.int .i64))[k]? = some (.int .i64 ((m.getD i default).getD k default)) := get_map (by omega)
          have hc := l2Add_ok (rowS (m.getD i default) ps w k) (ps.getD k default) ((m.getD i default).getD k default) (by rw [rowS_len, pl]) (by rw [rowS_len]; exact h3) (fun x hx => by
            obtain ⟨j, hj, rfl⟩ := List.getElem_of_mem hx
            have := rowS_gf (ps := ps) (w := w) (k := k) (j := j) rg
            rwa [List.getD_eq_getElem?_getD, List.getElem?_eq_getElem hj] at this) pg (getD_gf rg k)
          rw [pl, rowS_comm rg pg] at hc
          simp only [rowS_len] at hc
          simp (maxSteps := 9000000) -implicitDefEqProofs -dsimp (disch := omega) only [go_sem, z1, z2, z3, Nat.reduceEqDiff, Nat.reduceAdd, Nat.reduceMul, Nat.reduceLeDiff, Nat.reduceBEq, Nat.reduceBNe, Int.reduceEq, ↓reduceIte, reduceCtorEq]
          refine call_go true hc ?_
          have q2 := cut_mapI (l := ps.getD k default) (n := w) (by omega)
          simp (maxSteps := 9000000) -implicitDefEqProofs -dsimp (disch := omega) only [go_sem, z2, q1, q2, beq_self_eq_true, Bool.and_self, Nat.reduceEqDiff, Nat.reduceAdd, Nat.reduceMul, Nat.reduceLeDiff, Nat.reduceBEq, Nat.reduceBNe, Int.reduceEq, ↓reduceIte, reduceCtorEq]
          exact ⟨hk2, (imp_sub (by simp (maxSteps := 9000000) -implicitDefEqProofs -dsimp (disch := omega) only [go_sem, Nat.reduceEqDiff, Nat.reduceAdd, Nat.reduceMul, Nat.reduceLeDiff, Nat.reduceBEq, Nat.reduceBNe, Int.reduceEq, ↓reduceIte, reduceCtorEq]) (by simp (maxSteps := 9000000) -implicitDefEqProofs -dsimp (disch := omega) only [go_sem, Nat.reduceEqDiff, Nat.reduceAdd, Nat.reduceMul, Nat.reduceLeDiff, Nat.reduceBEq, Nat.reduceBNe, Int.reduceEq, ↓reduceIte, reduceCtorEq]) rfl)⟩
        · obtain rfl : k = ps.length := by omega
          have e : rowS (m.getD i default) ps w ps.length = rowZ (m.getD i default) ps w := by rw [← rl]; exact rowS_end
          rw [e] at q1
          simp (maxSteps := 9000000) -implicitDefEqProofs -dsimp (disch := omega) only [go_sem, q0, q1, e, Nat.reduceEqDiff, Nat.reduceAdd, Nat.reduceMul, Nat.reduceLeDiff, Nat.reduceBEq, Nat.reduceBNe, Int.reduceEq, ↓reduceIte, reduceCtorEq]
          exact ⟨hlt, (imp_ren 5 2 rfl rfl).trans (imp_sub (by simp (maxSteps := 9000000) -implicitDefEqProofs -dsimp (disch := omega) only [go_sem, times_snoc hlt, Nat.reduceEqDiff, Nat.reduceAdd, Nat.reduceMul, Nat.reduceLeDiff, Nat.reduceBEq, Nat.reduceBNe, Int.reduceEq, ↓reduceIte, reduceCtorEq]) (by simp (maxSteps := 9000000) -implicitDefEqProofs -dsimp (disch := omega) only [go_sem, times_snoc hlt, Nat.reduceEqDiff, Nat.reduceAdd, Nat.reduceMul, Nat.reduceLeDiff, Nat.reduceBEq, Nat.reduceBNe, Int.reduceEq, ↓reduceIte, reduceCtorEq]) rfl)⟩
    · obtain rfl : i = m.length := by omega
      have e : (timesZ m ps w).take m.length = timesZ m ps w := List.take_of_length_le (by rw [times_len]; exact Nat.le_refl _)
      rw [e] at q0
      simp (maxSteps := 9000000) -implicitDefEqProofs -dsimp (disch := omega) only [go_sem, e, q0, Nat.reduceEqDiff, Nat.reduceAdd, Nat.reduceMul, Nat.reduceLeDiff, Nat.reduceBEq, Nat.reduceBNe, Int.reduceEq, ↓reduceIte, reduceCtorEq]
end Go.Proofs.YtplhecjngmkngaaT

/- Functions of the program as contracts: matrices times pieces; pieces encoded. No condition. -/
set_option maxRecDepth 100000
set_option maxHeartbeats 4000000
set_option linter.unusedSimpArgs false
set_option linter.unusedVariables false
namespace Go.Proofs.YtplhecjngmkngaaT
open Go
def g58_0 : List Gop := [⟨none, (some 4), (.mov (.k (.one .nil)))⟩]
def g58_1 : List Gop := [⟨none, (some 13), (.lit 1 0 [.nil] [])⟩, ⟨none, (some 5), (.mov (.t 13))⟩]
def g58_2 : List Gop := [⟨none, (some 14), (.mov (.t 0))⟩, ⟨none, (some 15), (.len (.t 14))⟩, ⟨none, (some 16), (.mov (.k (.one (.int .i64 0))))⟩]
def g58_3 : List Gop := [⟨none, (some 17), (.bin .lss (.t 16) (.t 15))⟩]
def g58_4 : List Gop := [⟨none, (some 18), (.iaddr 1 (.t 14) (.t 16))⟩, ⟨none, (some 19), (.load none (.t 18))⟩, ⟨none, (some 7), (.mov (.t 19))⟩]
def g58_5 : List Gop := [⟨none, (some 20), (.mov (.t 1))⟩, ⟨none, (some 21), (.iaddr 1 (.t 20) (.k (.one (.int .i64 0))))⟩, ⟨none, (some 22), (.load none (.t 21))⟩, ⟨none, (some 23), (.len (.t 22))⟩, ⟨none, (some 24), (.make 1 [(.int .i64 0)] 8 (.t 23) (.t 23))⟩, ⟨none, (some 8), (.mov (.t 24))⟩]
def g58_6 : List Gop := [⟨none, (some 25), (.mov (.t 7))⟩, ⟨none, (some 26), (.len (.t 25))⟩, ⟨none, (some 27), (.mov (.k (.one (.int .i64 0))))⟩]
def g58_7 : List Gop := [⟨none, (some 28), (.bin .lss (.t 27) (.t 26))⟩]
def g58_8 : List Gop := [⟨none, (some 29), (.mov (.t 27))⟩, ⟨none, (some 30), (.iaddr 1 (.t 25) (.t 27))⟩, ⟨none, (some 31), (.load none (.t 30))⟩, ⟨none, (some 9), (.mov (.t 29))⟩, ⟨none, (some 10), (.mov (.t 31))⟩]
def g58_9 : List Gop := [⟨none, (some 32), (.mov (.t 1))⟩, ⟨none, (some 33), (.mov (.t 9))⟩, ⟨none, (some 34), (.iaddr 1 (.t 32) (.t 33))⟩, ⟨none, (some 35), (.load none (.t 34))⟩, ⟨none, (some 36), (.len (.t 35))⟩, ⟨none, (some 37), (.mov (.k (.one (.int .i64 0))))⟩]
def g58_10 : List Gop := [⟨none, (some 38), (.bin .lss (.t 37) (.t 36))⟩]
def g58_11 : List Gop := [⟨none, (some 39), (.mov (.t 37))⟩, ⟨none, (some 40), (.iaddr 1 (.t 35) (.t 37))⟩, ⟨none, (some 41), (.load none (.t 40))⟩, ⟨none, (some 11), (.mov (.t 39))⟩, ⟨none, (some 12), (.mov (.t 41))⟩]
def g58_12 : List Gop := [⟨none, (some 42), (.mov (.t 8))⟩, ⟨none, (some 43), (.mov (.t 11))⟩, ⟨none, (some 44), (.iaddr 1 (.t 42) (.t 43))⟩, ⟨none, (some 45), (.load none (.t 44))⟩, ⟨none, (some 46), (.mov (.t 10))⟩, ⟨none, (some 47), (.mov (.t 12))⟩, ⟨none, (some 48), (.call 107 [(.t 46), (.t 47)])⟩, ⟨none, (some 49), (.bin .xor (.t 45) (.t 48))⟩, ⟨none, (some 50), (.iaddr 1 (.t 42) (.t 43))⟩, ⟨none, none, (.store 1 (.t 50) (.t 49))⟩]
def a58_12 : List (List Nat) := [[], [], [0, 1], [0, 1, 2], [], [], [4, 5], [0, 1, 2, 3, 4, 5, 6], [0, 1, 2, 3, 4, 5, 6, 7], [0, 1, 2, 3, 4, 5, 6, 7, 8]]
def n58_12 : Nat := 7 -- of 10
def g58_13 : List Gop := [⟨none, (some 51), (.bin .add (.t 37) (.k (.one (.int .i64 1))))⟩, ⟨none, (some 37), (.mov (.t 51))⟩]
def g58_14 : List Gop := [⟨none, (some 52), (.bin .add (.t 27) (.k (.one (.int .i64 1))))⟩, ⟨none, (some 27), (.mov (.t 52))⟩]
def g58_15 : List Gop := [⟨none, (some 53), (.mov (.t 5))⟩, ⟨none, (some 54), (.mov (.t 8))⟩, ⟨none, (some 55), (.lit 1 1 [.nil] [(0, (.t 54))])⟩, ⟨none, (some 56), (.app 1 24 [.nil] (.t 53) (.t 55))⟩, ⟨none, (some 5), (.mov (.t 56))⟩]
def g58_16 : List Gop := [⟨none, (some 57), (.bin .add (.t 16) (.k (.one (.int .i64 1))))⟩, ⟨none, (some 16), (.mov (.t 57))⟩]
def g58_17 : List Gop := [⟨none, (some 58), (.mov (.t 5))⟩, ⟨none, (some 4), (.mov (.t 58))⟩]
def i58 : Ir := (.seq (.region g58_0) (.seq (.region g58_1) (.seq (.seq (.region g58_2) (.block 0 (.loop (.seq (.region g58_3) (.seq (.cond (.t 17) .skip (.exit 0)) (.seq (.block 1 (.seq (.region g58_4) (.seq (.region g58_5) (.seq (.seq (.region g58_6) (.block 2 (.loop (.seq (.region g58_7) (.seq (.cond (.t 28) .skip (.exit 2)) (.seq (.block 3 (.seq (.region g58_8) (.seq (.region g58_9) (.block 4 (.loop (.seq (.region g58_10) (.seq (.cond (.t 38) .skip (.exit 4)) (.seq (.block 5 (.seq (.region g58_11) (.draw [[], [], [0, 1], [2], [], [], [4, 5], [3, 6], [0, 1, 0, 1, 2, 3, 4, 5, 6, 7], [8, 7, 6, 0, 1, 2, 3, 4, 5, 6, 7]] g58_12))) (.region g58_13))))))))) (.region g58_14))))))) (.region g58_15))))) (.region g58_16))))))) (.seq (.region g58_17) .ret))))
theorem times_ok (m ps : Mx) (w : Nat) (hm : Wf m ps.length) (hp : Wf ps w) (h0 : 0 < ps.length) (h1 : m.length ≤ 1048576) (h2 : ps.length ≤ 1048576) (h3 : w ≤ 1048576) : Meets Try.prog 58 [.one (.sl false 1 m.length (mxR m)), .one (.sl false 1 ps.length (mxR ps))] (.w (.one (.sl true 1 m.length (mxO (timesZ m ps w))))) [.one .hole, .one .hole] := by
  have z0 := mxR_at h0 (getD_row hp h0).1
  refine meets_go (ir := i58) (fn := Try.f58) (rx := [(.tmp 4)]) rfl rfl (by rfl) (by rfl) (by exact Nat.le_of_ble_eq_true rfl) ?_
  simp (maxSteps := 9000000) -implicitDefEqProofs -dsimp (disch := omega) only [go_sem, g58_0, g58_1, g58_2, g58_3, g58_4, g58_5, g58_6, g58_7, g58_8, g58_9, g58_10, g58_11, g58_12, a58_12, n58_12, g58_13, g58_14, g58_15, g58_16, g58_17, i58, Nat.reduceEqDiff, Nat.reduceAdd, Nat.reduceMul, Nat.reduceLeDiff, Nat.reduceBEq, Nat.reduceBNe, Int.reduceEq, ↓reduceIte, reduceCtorEq]
  refine loop_n m.length (fun i => ⟨[(16, .w (.one (.int .i64 (i : Nat)))), (15, .w (.one (.int .i64 m.length))), (14, .w (.one (.hs 0 [] 0 1 m.length))), (5, .w (.one (.hs 2 [] 0 1 i))), (1, .w (.one (.hs 1 [] 0 1 ps.length)))], [(2, .sl true 1 i (mxO ((timesZ m ps w).take i))), (1, .sl false 1 ps.length (mxR ps)), (0, .sl false 1 m.length (mxR m))], [.one (.hs 0 [] 0 1 m.length), .one (.hs 1 [] 0 1 ps.length)]⟩) (fun i => True) ?_ trivial ?_
  · exact (imp_adopt 5 2 1 rfl rfl).trans (imp_sub (by simp (maxSteps := 9000000) -implicitDefEqProofs -dsimp (disch := omega) only [go_sem, List.take_zero, mxO_nil, Nat.reduceEqDiff, Nat.reduceAdd, Nat.reduceMul, Nat.reduceLeDiff, Nat.reduceBEq, Nat.reduceBNe, Int.reduceEq, ↓reduceIte, reduceCtorEq]) (by simp (maxSteps := 9000000) -implicitDefEqProofs -dsimp (disch := omega) only [go_sem, List.take_zero, mxO_nil, Nat.reduceEqDiff, Nat.reduceAdd, Nat.reduceMul, Nat.reduceLeDiff, Nat.reduceBEq, Nat.reduceBNe, Int.reduceEq, ↓reduceIte, reduceCtorEq]) rfl)
  · intro i hi _
    have q0 : cut (mxO ((timesZ m ps w).take i)) 0 i = mxO ((timesZ m ps w).take i) := mxO_cut (by rw [List.length_take]; omega)
    simp (maxSteps := 9000000) -implicitDefEqProofs -dsimp (disch := omega) only [go_sem, Nat.reduceEqDiff, Nat.reduceAdd, Nat.reduceMul, Nat.reduceLeDiff, Nat.reduceBEq, Nat.reduceBNe, Int.reduceEq, ↓reduceIte, reduceCtorEq]
    refine brP_i (fun h1 => ?_) (fun h1 => ?_)
    · have hlt : i < m.length := by omega
      obtain ⟨rl, rg⟩ := getD_row hm hlt
      have z1 := mxR_at hlt rl
      simp (maxSteps := 9000000) -implicitDefEqProofs -dsimp (disch := omega) only [go_sem, z0, z1, Int.toNat_zero, Nat.reduceEqDiff, Nat.reduceAdd, Nat.reduceMul, Nat.reduceLeDiff, Nat.reduceBEq, Nat.reduceBNe, Int.reduceEq, ↓reduceIte, reduceCtorEq]
      refine loop_n ps.length (fun k => ⟨[(27, .w (.one (.int .i64 (k : Nat)))), (26, .w (.one (.int .i64 ps.length))), (25, .w (.one (.hs 0 [i] 0 1 ps.length))), (8, .w (.one (.hs 3 [] 0 1 w))), (16, .w (.one (.int .i64 (i : Nat)))), (15, .w (.one (.int .i64 m.length))), (14, .w (.one (.hs 0 [] 0 1 m.length))), (5, .w (.one (.hs 2 [] 0 1 i))), (1, .w (.one (.hs 1 [] 0 1 ps.length)))], [(3, .sl true 1 w ((rowS (m.getD i default) ps w k).map (T.int .i64))), (2, .sl true 1 i (mxO ((timesZ m ps w).take i))), (1, .sl false 1 ps.length (mxR ps)), (0, .sl false 1 m.length (mxR m))], [.one (.hs 0 [] 0 1 m.length), .one (.hs 1 [] 0 1 ps.length)]⟩) (fun k => True) ?_ trivial ?_
      · exact (imp_sub (by simp (maxSteps := 9000000) -implicitDefEqProofs -dsimp (disch := omega) only [go_sem, rowS, rep0, List.map_replicate, Nat.reduceEqDiff, Nat.reduceAdd, Nat.reduceMul, Nat.reduceLeDiff, Nat.reduceBEq, Nat.reduceBNe, Int.reduceEq, ↓reduceIte, reduceCtorEq]) (by simp (maxSteps := 9000000) -implicitDefEqProofs -dsimp (disch := omega) only [go_sem, rowS, rep0, List.map_replicate, Nat.reduceEqDiff, Nat.reduceAdd, Nat.reduceMul, Nat.reduceLeDiff, Nat.reduceBEq, Nat.reduceBNe, Int.reduceEq, ↓reduceIte, reduceCtorEq]) rfl)
      · intro k hk _
        have q1 : cut ((rowS (m.getD i default) ps w k).map (T.int .i64)) 0 w = (rowS (m.getD i default) ps w k).map (T.int .i64) := cut_mapI (by rw [rowS_len]; exact Nat.le_refl _)
        simp (maxSteps := 9000000) -implicitDefEqProofs -dsimp (disch := omega) only [go_sem, Nat.reduceEqDiff, Nat.reduceAdd, Nat.reduceMul, Nat.reduceLeDiff, Nat.reduceBEq, Nat.reduceBNe, Int.reduceEq, ↓reduceIte, reduceCtorEq]
        refine brP_i (fun h2 => ?_) (fun h2 => ?_)
        · have hk2 : k < ps.length := by omega
          obtain ⟨pl, pg⟩ := getD_row hp hk2
          have z2 := mxR_at hk2 pl
          have z3 : ((m.getD i default).map (T.int .i64))[k]? = some (.int .i64 ((m.getD i default).getD k default)) := get_map (by omega)
          have rk := getD_gf rg k
          have L := rowS_len (r := m.getD i default) (ps := ps) (w := w) (k := k)
          simp (maxSteps := 9000000) -implicitDefEqProofs -dsimp (disch := omega) only [go_sem, z1, z2, z3, Nat.reduceEqDiff, Nat.reduceAdd, Nat.reduceMul, Nat.reduceLeDiff, Nat.reduceBEq, Nat.reduceBNe, Int.reduceEq, ↓reduceIte, reduceCtorEq]
          refine loop_n w (fun j => ⟨[(37, .w (.one (.int .i64 (j : Nat)))), (36, .w (.one (.int .i64 w))), (35, .w (.one (.hs 1 [k] 0 1 w))), (10, .w (.one (.int .i64 ((m.getD i default).getD k default)))), (27, .w (.one (.int .i64 (k : Nat)))), (26, .w (.one (.int .i64 ps.length))), (25, .w (.one (.hs 0 [i] 0 1 ps.length))), (8, .w (.one (.hs 3 [] 0 1 w))), (16, .w (.one (.int .i64 (i : Nat)))), (15, .w (.one (.int .i64 m.length))), (14, .w (.one (.hs 0 [] 0 1 m.length))), (5, .w (.one (.hs 2 [] 0 1 i))), (1, .w (.one (.hs 1 [] 0 1 ps.length)))], [(3, .sl true 1 w ((mixL (addF (rowS (m.getD i default) ps w k) (ps.getD k default) ((m.getD i default).getD k default)) (rowS (m.getD i default) ps w k) j).map (T.int .i64))), (2, .sl true 1 i (mxO ((timesZ m ps w).take i))), (1, .sl false 1 ps.length (mxR ps)), (0, .sl false 1 m.length (mxR m))], [.one (.hs 0 [] 0 1 m.length), .one (.hs 1 [] 0 1 ps.length)]⟩) (fun j => True) ?_ trivial ?_
          · exact (imp_sub (by simp (maxSteps := 9000000) -implicitDefEqProofs -dsimp (disch := omega) only [go_sem, mixL_0, Nat.reduceEqDiff, Nat.reduceAdd, Nat.reduceMul, Nat.reduceLeDiff, Nat.reduceBEq, Nat.reduceBNe, Int.reduceEq, ↓reduceIte, reduceCtorEq]) (by simp (maxSteps := 9000000) -implicitDefEqProofs -dsimp (disch := omega) only [go_sem, mixL_0, Nat.reduceEqDiff, Nat.reduceAdd, Nat.reduceMul, Nat.reduceLeDiff, Nat.reduceBEq, Nat.reduceBNe, Int.reduceEq, ↓reduceIte, reduceCtorEq]) rfl)
          · intro j hj _
            have LL := mixL_len (g := addF (rowS (m.getD i default) ps w k) (ps.getD k default) ((m.getD i default).getD k default)) (a := rowS (m.getD i default) ps w k) (i := j)
            simp (maxSteps := 9000000) -implicitDefEqProofs -dsimp (disch := omega) only [go_sem, Nat.reduceEqDiff, Nat.reduceAdd, Nat.reduceMul, Nat.reduceLeDiff, Nat.reduceBEq, Nat.reduceBNe, Int.reduceEq, ↓reduceIte, reduceCtorEq]
            refine brP_i (fun h3 => ?_) (fun h3 => ?_)
            · have hj2 : j < w := by omega
              have g1 := rowS_gf (ps := ps) (w := w) (k := k) (j := j) rg
              have g2 := getD_gf pg j
              have g3 := gf_mul (b := (ps.getD k default).getD j default) rk
              have g1' := g1.1; have g1'' := g1.2; have g3' := g3.1; have g3'' := g3.2
              have z4 : ((ps.getD k default).map (T.int .i64))[j]? = some (.int .i64 ((ps.getD k default).getD j default)) := get_map (by omega)
              have m1 := mixL_get (g := addF (rowS (m.getD i default) ps w k) (ps.getD k default) ((m.getD i default).getD k default)) (a := rowS (m.getD i default) ps w k) (i := j) (by omega)
              have s1 : (mixL (addF (rowS (m.getD i default) ps w k) (ps.getD k default) ((m.getD i default).getD k default)) (rowS (m.getD i default) ps w k) j).set j (xorZ ((rowS (m.getD i default) ps w k).getD j default) (mulZ ((m.getD i default).getD k default) ((ps.getD k default).getD j default))) = mixL (addF (rowS (m.getD i default) ps w k) (ps.getD k default) ((m.getD i default).getD k default)) (rowS (m.getD i default) ps w k) (j + 1) := mixL_set (g := addF (rowS (m.getD i default) ps w k) (ps.getD k default) ((m.getD i default).getD k default)) (by omega)
              simp (maxSteps := 9000000) -implicitDefEqProofs -dsimp (disch := omega) only [go_sem, z2, z4, Nat.reduceEqDiff, Nat.reduceAdd, Nat.reduceMul, Nat.reduceLeDiff, Nat.reduceBEq, Nat.reduceBNe, Int.reduceEq, ↓reduceIte, reduceCtorEq]
              refine draw_go n58_12 a58_12 (by decide +kernel) ?_
              simp (maxSteps := 9000000) -implicitDefEqProofs -dsimp (disch := omega) only [go_sem, n58_12, a58_12, m1, Nat.reduceEqDiff, Nat.reduceAdd, Nat.reduceMul, Nat.reduceLeDiff, Nat.reduceBEq, Nat.reduceBNe, Int.reduceEq, ↓reduceIte, reduceCtorEq]
              refine calla_go true (mul_ok _ _ rk g2) ?_
              simp (maxSteps := 9000000) -implicitDefEqProofs -dsimp (disch := omega) only [go_sem, n58_12, a58_12, m1, i64_xorZ, Nat.reduceEqDiff, Nat.reduceAdd, Nat.reduceMul, Nat.reduceLeDiff, Nat.reduceBEq, Nat.reduceBNe, Int.reduceEq, ↓reduceIte, reduceCtorEq]
              exact ⟨hj2, (imp_sub (by simp (maxSteps := 9000000) -implicitDefEqProofs -dsimp (disch := omega) only [go_sem, n58_12, a58_12, s1, Nat.reduceEqDiff, Nat.reduceAdd, Nat.reduceMul, Nat.reduceLeDiff, Nat.reduceBEq, Nat.reduceBNe, Int.reduceEq, ↓reduceIte, reduceCtorEq]) (by simp (maxSteps := 9000000) -implicitDefEqProofs -dsimp (disch := omega) only [go_sem, n58_12, a58_12, s1, Nat.reduceEqDiff, Nat.reduceAdd, Nat.reduceMul, Nat.reduceLeDiff, Nat.reduceBEq, Nat.reduceBNe, Int.reduceEq, ↓reduceIte, reduceCtorEq]) rfl)⟩
            · obtain rfl : j = w := by omega
              simp (maxSteps := 9000000) -implicitDefEqProofs -dsimp (disch := omega) only [go_sem, n58_12, a58_12, Nat.reduceEqDiff, Nat.reduceAdd, Nat.reduceMul, Nat.reduceLeDiff, Nat.reduceBEq, Nat.reduceBNe, Int.reduceEq, ↓reduceIte, reduceCtorEq]
              exact ⟨hk2, (imp_sub (by simp (maxSteps := 9000000) -implicitDefEqProofs -dsimp (disch := omega) only [go_sem, n58_12, a58_12, rowS, Nat.reduceEqDiff, Nat.reduceAdd, Nat.reduceMul, Nat.reduceLeDiff, Nat.reduceBEq, Nat.reduceBNe, Int.reduceEq, ↓reduceIte, reduceCtorEq]) (by simp (maxSteps := 9000000) -implicitDefEqProofs -dsimp (disch := omega) only [go_sem, n58_12, a58_12, rowS, Nat.reduceEqDiff, Nat.reduceAdd, Nat.reduceMul, Nat.reduceLeDiff, Nat.reduceBEq, Nat.reduceBNe, Int.reduceEq, ↓reduceIte, reduceCtorEq]) rfl)⟩
        · obtain rfl : k = ps.length := by omega
          have e : rowS (m.getD i default) ps w ps.length = rowZ (m.getD i default) ps w := by rw [← rl]; exact rowS_end
          rw [e] at q1
          simp (maxSteps := 9000000) -implicitDefEqProofs -dsimp (disch := omega) only [go_sem, n58_12, a58_12, q0, q1, e, Nat.reduceEqDiff, Nat.reduceAdd, Nat.reduceMul, Nat.reduceLeDiff, Nat.reduceBEq, Nat.reduceBNe, Int.reduceEq, ↓reduceIte, reduceCtorEq]
          exact ⟨hlt, (imp_ren 5 2 rfl rfl).trans (imp_sub (by simp (maxSteps := 9000000) -implicitDefEqProofs -dsimp (disch := omega) only [go_sem, n58_12, a58_12, times_snoc hlt, Nat.reduceEqDiff, Nat.reduceAdd, Nat.reduceMul, Nat.reduceLeDiff, Nat.reduceBEq, Nat.reduceBNe, Int.reduceEq, ↓reduceIte, reduceCtorEq]) (by simp (maxSteps := 9000000) -implicitDefEqProofs -dsimp (disch := omega) only [go_sem, n58_12, a58_12, times_snoc hlt, Nat.reduceEqDiff, Nat.reduceAdd, Nat.reduceMul, Nat.reduceLeDiff, Nat.reduceBEq, Nat.reduceBNe, Int.reduceEq, ↓reduceIte, reduceCtorEq]) rfl)⟩
    · obtain rfl : i = m.length := by omega
      have e : (timesZ m ps w).take m.length = timesZ m ps w := List.take_of_length_le (by rw [times_len]; exact Nat.le_refl _)
      rw [e] at q0
      simp (maxSteps := 9000000) -implicitDefEqProofs -dsimp (disch := omega) only [go_sem, n58_12, a58_12, e, q0, Nat.reduceEqDiff, Nat.reduceAdd, Nat.reduceMul, Nat.reduceLeDiff, Nat.reduceBEq, Nat.reduceBNe, Int.reduceEq, ↓reduceIte, reduceCtorEq]
theorem cm_gf {d p : Nat} (h : d + p ≤ 256) : Wf (cm d p) d := by
  intro r hr
  unfold cm at hr
  rcases List.mem_append.1 hr with hr | hr
  · exact idM_wf r hr
  · obtain ⟨x, hx, rfl⟩ := List.mem_map.1 hr
    have hx := List.mem_range.1 hx
    refine ⟨cauRow_len, fun y hy => ?_⟩
    obtain ⟨t, ht, rfl⟩ := List.mem_map.1 hy
    have ht := List.mem_range.1 ht
    exact gf_inv (gf_xor ⟨by omega, by omega⟩ ⟨by omega, by omega⟩)
theorem mxO_ro {m : Mx} : (mxO m).map toRo = mxR m := by
  unfold mxO mxR
  rw [List.map_map]
  apply List.map_congr_left
  intro r _
  show toRo _ = _
  simp
def g49_0 : List Gop := [⟨none, (some 4), (.mov (.k (.one .nil)))⟩]
def g49_1 : List Gop := [⟨none, (some 5), (.mov (.t 0))⟩, ⟨none, (some 6), (.len (.t 5))⟩, ⟨none, (some 7), (.mov (.t 1))⟩, ⟨none, (some 8), (.call 62 [(.t 6), (.t 7)])⟩, ⟨none, (some 9), (.mov (.t 0))⟩, ⟨none, (some 10), (.call 93 [(.t 8), (.t 9)])⟩, ⟨none, (some 4), (.mov (.t 10))⟩]
def i49 : Ir := (.seq (.region g49_0) (.seq (.region g49_1) .ret))
theorem l3Encode_ok (data : Mx) (p w : Nat) (hd : Wf data w) (h0 : 0 < data.length) (h1 : data.length + p ≤ 256) (hp : 0 < p) (h3 : w ≤ 1048576) : Meets Try.prog 49 [.one (.sl false 1 data.length (mxR data)), .one (.int .i64 (p : Int))] (.w (.one (.sl true 1 (data.length + p) (mxO (encZ data p w))))) [.one .hole, .one .hole] := by
  have hm := l3Matrix_ok data.length p h1 hp
  have ht := l3Times_ok (cm data.length p) data w (cm_gf h1) hd h0 (by rw [cm_len]; omega) (by omega) h3
  rw [cm_len] at ht
  refine meets_go (ir := i49) (fn := Try.f49) (rx := [(.tmp 4)]) rfl rfl (by rfl) (by rfl) (by exact Nat.le_of_ble_eq_true rfl) ?_
  simp (maxSteps := 9000000) -implicitDefEqProofs -dsimp (disch := omega) only [go_sem, g49_0, g49_1, i49, Nat.reduceEqDiff, Nat.reduceAdd, Nat.reduceMul, Nat.reduceLeDiff, Nat.reduceBEq, Nat.reduceBNe, Int.reduceEq, ↓reduceIte, reduceCtorEq]
  refine call_go true hm ?_
  simp (maxSteps := 9000000) -implicitDefEqProofs -dsimp (disch := omega) only [go_sem, Nat.reduceEqDiff, Nat.reduceAdd, Nat.reduceMul, Nat.reduceLeDiff, Nat.reduceBEq, Nat.reduceBNe, Int.reduceEq, ↓reduceIte, reduceCtorEq]
  refine call_go true ht ?_
  have q1 : cut (mxO (cm data.length p)) 0 (data.length + p) = mxO (cm data.length p) := mxO_cut (by rw [cm_len]; exact Nat.le_refl _)
  have q2 : cut (mxR data) 0 data.length = mxR data := mxR_cut (Nat.le_refl _)
  simp (maxSteps := 9000000) -implicitDefEqProofs -dsimp (disch := omega) only [go_sem, q1, q2, mxO_ro, Nat.reduceEqDiff, Nat.reduceAdd, Nat.reduceMul, Nat.reduceLeDiff, Nat.reduceBEq, Nat.reduceBNe, Int.reduceEq, ↓reduceIte, reduceCtorEq]
  exact need_i (by rw [mxO_cut (by rw [times_len, cm_len]; exact Nat.le_refl _)]; rfl) (by simp (maxSteps := 9000000) -implicitDefEqProofs -dsimp (disch := omega) only [go_sem, Nat.reduceEqDiff, Nat.reduceAdd, Nat.reduceMul, Nat.reduceLeDiff, Nat.reduceBEq, Nat.reduceBNe, Int.reduceEq, ↓reduceIte, reduceCtorEq])
def g46_0 : List Gop := [⟨none, (some 4), (.mov (.k (.one .nil)))⟩]
def g46_1 : List Gop := [⟨none, (some 5), (.mov (.t 0))⟩, ⟨none, (some 6), (.len (.t 5))⟩, ⟨none, (some 7), (.mov (.t 1))⟩, ⟨none, (some 8), (.call 54 [(.t 6), (.t 7)])⟩, ⟨none, (some 9), (.mov (.t 0))⟩, ⟨none, (some 10), (.call 58 [(.t 8), (.t 9)])⟩, ⟨none, (some 4), (.mov (.t 10))⟩]
def i46 : Ir := (.seq (.region g46_0) (.seq (.region g46_1) .ret))
theorem encoded_ok (data : Mx) (p w : Nat) (hd : Wf data w) (h0 : 0 < data.length) (h1 : data.length + p ≤ 256) (h3 : w ≤ 1048576) : Meets Try.prog 46 [.one (.sl false 1 data.length (mxR data)), .one (.int .i64 (p : Int))] (.w (.one (.sl true 1 (data.length + p) (mxO (encZ data p w))))) [.one .hole, .one .hole] := by
  have hm := codeMatrix_ok data.length p h1
  have ht := times_ok (cm data.length p) data w (cm_gf h1) hd h0 (by rw [cm_len]; omega) (by omega) h3
  rw [cm_len] at ht
  refine meets_go (ir := i46) (fn := Try.f46) (rx := [(.tmp 4)]) rfl rfl (by rfl) (by rfl) (by exact Nat.le_of_ble_eq_true rfl) ?_
  simp (maxSteps := 9000000) -implicitDefEqProofs -dsimp (disch := omega) only [go_sem, g46_0, g46_1, i46, Nat.reduceEqDiff, Nat.reduceAdd, Nat.reduceMul, Nat.reduceLeDiff, Nat.reduceBEq, Nat.reduceBNe, Int.reduceEq, ↓reduceIte, reduceCtorEq]
  refine call_go true hm ?_
  simp (maxSteps := 9000000) -implicitDefEqProofs -dsimp (disch := omega) only [go_sem, Nat.reduceEqDiff, Nat.reduceAdd, Nat.reduceMul, Nat.reduceLeDiff, Nat.reduceBEq, Nat.reduceBNe, Int.reduceEq, ↓reduceIte, reduceCtorEq]
  refine call_go true ht ?_
  have q1 : cut (mxO (cm data.length p)) 0 (data.length + p) = mxO (cm data.length p) := mxO_cut (by rw [cm_len]; exact Nat.le_refl _)
  have q2 : cut (mxR data) 0 data.length = mxR data := mxR_cut (Nat.le_refl _)
  simp (maxSteps := 9000000) -implicitDefEqProofs -dsimp (disch := omega) only [go_sem, q1, q2, mxO_ro, Nat.reduceEqDiff, Nat.reduceAdd, Nat.reduceMul, Nat.reduceLeDiff, Nat.reduceBEq, Nat.reduceBNe, Int.reduceEq, ↓reduceIte, reduceCtorEq]
  exact need_i (by rw [mxO_cut (by rw [times_len, cm_len]; exact Nat.le_refl _)]; rfl) (by simp (maxSteps := 9000000) -implicitDefEqProofs -dsimp (disch := omega) only [go_sem, Nat.reduceEqDiff, Nat.reduceAdd, Nat.reduceMul, Nat.reduceLeDiff, Nat.reduceBEq, Nat.reduceBNe, Int.reduceEq, ↓reduceIte, reduceCtorEq])
end Go.Proofs.YtplhecjngmkngaaT

/- Functions of the program as contracts: texts of numbers. No condition. -/
set_option maxRecDepth 100000
set_option maxHeartbeats 4000000
set_option linter.unusedSimpArgs false
set_option linter.unusedVariables false
namespace Go.Proofs.YtplhecjngmkngaaT
open Go
theorem u8_of {n : Nat} : IntKind.u8.wrap (n : Int) = ((UInt8.ofNat n).toNat : Int) := by
  rw [UInt8.toNat_ofNat']
  show (n : Int) % 256 = _
  omega
theorem i64_shr8 {n : Nat} : (n : Int).fdiv (2 ^ min (Int.toNat 8) 64) = ((n / 256 : Nat) : Int) := by
  rw [show (2 : Int) ^ min (Int.toNat 8) 64 = ((256 : Nat) : Int) from rfl]
  rw [Int.fdiv_eq_ediv_of_nonneg _ (by omega)]; rfl
/-- so many bytes of a number, the highest first -/
def beL (n : Nat) : Nat → List UInt8
  | 0 => []
  | t + 1 => UInt8.ofNat (n / 256 ^ t) :: beL n t
theorem beL_len {n : Nat} : ∀ {t : Nat}, (beL n t).length = t
  | 0 => rfl
  | t + 1 => by rw [beL, List.length_cons, beL_len]
def beB (n t : Nat) : ByteArray := ⟨(beL n t).toArray⟩
theorem rep_set {n m t : Nat} {x : UInt8} {l : List UInt8} (h : n = m + 1) : (List.replicate n (0 : UInt8) ++ l).set m x = List.replicate m 0 ++ x :: l := by
  subst h
  rw [List.replicate_succ', List.append_assoc, List.set_append_right _ _ (by simp)]
  simp
def beR (n many t : Nat) : List UInt8 := List.replicate (many - t) 0 ++ beL n t
theorem beR_0 {n many : Nat} : (beR n many 0).map (fun c => T.int .u8 (c.toNat : Int)) = List.replicate many (T.int .u8 0) := by
  simp [beR, beL, List.map_replicate]
theorem beR_end {n t : Nat} : beR n t t = beL n t := by simp [beR]
theorem beR_len {n many t : Nat} (h : t ≤ many) : (beR n many t).length = many := by unfold beR; rw [List.length_append, beL_len, List.length_replicate]; omega
theorem beR_get {n many t : Nat} (h : t < many) : ((beR n many t).map fun c => T.int .u8 (c.toNat : Int))[many - 1 - t]? = some (.int .u8 0) := by
  unfold beR
  rw [List.getElem?_map, List.getElem?_append_left (by simp; omega)]
  simp [show many - 1 - t < many - t by omega]
theorem beR_set {n many t : Nat} (h : t < many) : (beR n many t).set (many - 1 - t) (UInt8.ofNat (n / 256 ^ t)) = beR n many (t + 1) := by
  unfold beR
  rw [rep_set (m := many - 1 - t) (t := t) (by omega), beL, show many - (t + 1) = many - 1 - t by omega]
def g84_0 : List Gop := [⟨none, (some 4), (.mov (.k (.one (.str ⟨#[]⟩))))⟩]
def g84_1 : List Gop := [⟨none, (some 7), (.mov (.t 1))⟩, ⟨none, (some 8), (.make 1 [(.int .u8 0)] 1 (.t 7) (.t 7))⟩, ⟨none, (some 5), (.mov (.t 8))⟩]
def g84_2 : List Gop := [⟨none, (some 9), (.mov (.t 1))⟩, ⟨none, (some 10), (.bin .sub (.t 9) (.k (.one (.int .i64 1))))⟩, ⟨none, (some 6), (.mov (.t 10))⟩]
def g84_3 : List Gop := [⟨none, (some 11), (.mov (.t 6))⟩, ⟨none, (some 12), (.bin .geq (.t 11) (.k (.one (.int .i64 0))))⟩]
def g84_4 : List Gop := [⟨none, (some 15), (.mov (.t 5))⟩, ⟨none, (some 16), (.mov (.t 6))⟩, ⟨none, (some 17), (.mov (.t 0))⟩, ⟨none, (some 18), (.cvi .u8 (.t 17))⟩, ⟨none, (some 19), (.iaddr 1 (.t 15) (.t 16))⟩, ⟨none, none, (.store 1 (.t 19) (.t 18))⟩]
def g84_5 : List Gop := [⟨none, (some 20), (.mov (.t 0))⟩, ⟨none, (some 21), (.bin .shr (.t 20) (.k (.one (.int .u64 8))))⟩, ⟨none, (some 0), (.mov (.t 21))⟩]
def g84_6 : List Gop := [⟨none, (some 13), (.mov (.t 6))⟩, ⟨none, (some 14), (.bin .sub (.t 13) (.k (.one (.int .i64 1))))⟩, ⟨none, (some 6), (.mov (.t 14))⟩]
def g84_7 : List Gop := [⟨none, (some 22), (.mov (.t 5))⟩, ⟨none, (some 23), (.cvs (.t 22))⟩, ⟨none, (some 4), (.mov (.t 23))⟩]
def i84 : Ir := (.seq (.region g84_0) (.seq (.region g84_1) (.seq (.seq (.region g84_2) (.block 0 (.loop (.seq (.seq (.region g84_3) (.cond (.t 12) .skip (.exit 0))) (.seq (.block 1 (.seq (.region g84_4) (.region g84_5))) (.region g84_6)))))) (.seq (.region g84_7) .ret))))
theorem l6Bytes_ok (n many : Nat) (hn : n < 9223372036854775808) (hm : many ≤ 1048576) : Meets Try.prog 84 [.one (.int .i64 (n : Int)), .one (.int .i64 (many : Int))] (.w (.one (.str (beB n many)))) [.one .hole, .one .hole] := by
  refine meets_go (ir := i84) (fn := Try.f84) (rx := [(.tmp 4)]) rfl rfl (by rfl) (by rfl) (by exact Nat.le_of_ble_eq_true rfl) ?_
  simp (maxSteps := 9000000) -implicitDefEqProofs -dsimp (disch := omega) only [go_sem, g84_0, g84_1, g84_2, g84_3, g84_4, g84_5, g84_6, g84_7, i84, Nat.reduceEqDiff, Nat.reduceAdd, Nat.reduceMul, Nat.reduceLeDiff, Nat.reduceBEq, Nat.reduceBNe, Int.reduceEq, ↓reduceIte, reduceCtorEq]
  refine loop_n many (fun t => ⟨[(6, .w (.one (.int .i64 ((many : Int) - 1 - (t : Int))))), (5, .w (.one (.hs 0 [] 0 1 many))), (0, .w (.one (.int .i64 ((n / 256 ^ t : Nat) : Int))))], [(0, .sl true 1 many ((beR n many t).map fun c => T.int .u8 (c.toNat : Int)))], [.one (.int .i64 (n : Int)), .one (.int .i64 (many : Int))]⟩) (fun t => True) ?_ trivial ?_
  · have e : n / 256 ^ 0 = n := by simp
    exact (imp_sub (by simp (maxSteps := 9000000) -implicitDefEqProofs -dsimp (disch := omega) only [go_sem, e, beR_0, Int.natCast_zero, Int.sub_zero, Nat.reduceEqDiff, Nat.reduceAdd, Nat.reduceMul, Nat.reduceLeDiff, Nat.reduceBEq, Nat.reduceBNe, Int.reduceEq, ↓reduceIte, reduceCtorEq]) (by simp (maxSteps := 9000000) -implicitDefEqProofs -dsimp (disch := omega) only [go_sem, e, beR_0, Int.natCast_zero, Int.sub_zero, Nat.reduceEqDiff, Nat.reduceAdd, Nat.reduceMul, Nat.reduceLeDiff, Nat.reduceBEq, Nat.reduceBNe, Int.reduceEq, ↓reduceIte, reduceCtorEq]) rfl)
  · intro t ht _
    have e5 := fun h : t < many => beR_set (n := n) h
    have e4 : n / 256 ^ t / 256 = n / 256 ^ (t + 1) := by rw [Nat.div_div_eq_div_mul, ← Nat.pow_succ]
    generalize hB : n / 256 ^ t = B at e5 e4 ⊢
    simp (maxSteps := 9000000) -implicitDefEqProofs -dsimp (disch := omega) only [go_sem, Nat.reduceEqDiff, Nat.reduceAdd, Nat.reduceMul, Nat.reduceLeDiff, Nat.reduceBEq, Nat.reduceBNe, Int.reduceEq, ↓reduceIte, reduceCtorEq]
    refine brP_i (fun h1 => ?_) (fun h1 => ?_)
    · have hlt : t < many := by omega
      have e1 : ((many : Int) - 1 - (t : Int)).toNat = many - 1 - t := by omega
      have e2 := beR_get (n := n) hlt
      have e5 := e5 hlt
      have e6 : (many : Int) - 1 - (t : Int) - 1 = (many : Int) - 1 - ((t : Int) + 1) := by omega
      simp (maxSteps := 9000000) -implicitDefEqProofs -dsimp (disch := omega) only [go_sem, e1, e2, u8_of, i64_shr8, set_map_u8, e5, Nat.reduceEqDiff, Nat.reduceAdd, Nat.reduceMul, Nat.reduceLeDiff, Nat.reduceBEq, Nat.reduceBNe, Int.reduceEq, ↓reduceIte, reduceCtorEq]
      exact ⟨hlt, (imp_sub (by simp (maxSteps := 9000000) -implicitDefEqProofs -dsimp (disch := omega) only [go_sem, e4, e6, Nat.reduceEqDiff, Nat.reduceAdd, Nat.reduceMul, Nat.reduceLeDiff, Nat.reduceBEq, Nat.reduceBNe, Int.reduceEq, ↓reduceIte, reduceCtorEq]) (by simp (maxSteps := 9000000) -implicitDefEqProofs -dsimp (disch := omega) only [go_sem, e4, e6, Nat.reduceEqDiff, Nat.reduceAdd, Nat.reduceMul, Nat.reduceLeDiff, Nat.reduceBEq, Nat.reduceBNe, Int.reduceEq, ↓reduceIte, reduceCtorEq]) rfl)⟩
    · obtain rfl : t = many := by omega
      have e : beB n t = ⟨(beL n t).toArray⟩ := rfl
      have e2 := beR_len (n := n) (Nat.le_refl t)
      have e3 : List.take t ((beL n t).map fun c => T.int .u8 (c.toNat : Int)) = (beL n t).map fun c => T.int .u8 (c.toNat : Int) := List.take_of_length_le (by rw [List.length_map, beL_len]; exact Nat.le_refl _)
      simp (maxSteps := 9000000) -implicitDefEqProofs -dsimp (disch := omega) only [go_sem, beR_end, cells, e3, bytesT_map, beL_len, e, Nat.reduceEqDiff, Nat.reduceAdd, Nat.reduceMul, Nat.reduceLeDiff, Nat.reduceBEq, Nat.reduceBNe, Int.reduceEq, ↓reduceIte, reduceCtorEq]
end Go.Proofs.YtplhecjngmkngaaT

/- Functions of the program as contracts: a text as pieces. No condition. -/
set_option maxRecDepth 100000
set_option maxHeartbeats 4000000
set_option linter.unusedSimpArgs false
set_option linter.unusedVariables false
namespace Go.Proofs.YtplhecjngmkngaaT
open Go Go.RowKit
/-- a function of texts and numbers that gives a text -/
theorem text_meets {P : Program} {f : FuncId} {s r : ByteArray} {c : Int} (h : ∀ w, Calls P f #[.string s, .int .i64 c] w fun e w' => e = .returned (.string r) ∧ Below w.heap.size w w') : Meets P f [.one (.str s), .one (.int .i64 c)] (.w (.one (.str r))) [.one .hole, .one .hole] := by
  intro w ro args F hargs hnd hnro hlt
  simp only [RTWL, RTW] at hargs
  obtain ⟨v, vs', F1, F2, rfl, hr, ⟨v2, vs2, F3, F4, rfl, hr2, ⟨rfl, rfl⟩, rfl⟩, rfl⟩ := hargs
  simp only [Rep] at hr hr2
  obtain ⟨rfl, rfl⟩ := hr
  obtain ⟨rfl, rfl⟩ := hr2
  refine (h w).mono ?_
  rintro e w' ⟨rfl, hb⟩
  refine ⟨_, ro, [], [], rfl, ?_, ?_, List.nodup_nil, fun b hb => by simp at hb, fun b hb => by simp at hb, fun _ h => h, fun _ h => .inl h, fun b h => Nat.lt_of_lt_of_le (hlt b h) hb.size, .of_below hb⟩
  · simp [RTV, RTW, Rep]
  · simp only [RTWL, RTW]
    exact ⟨_, _, [], [], rfl, by simp only [Rep], ⟨_, _, [], [], rfl, by simp only [Rep], ⟨rfl, rfl⟩, rfl⟩, rfl⟩
def zeros (n : Nat) : ByteArray := ⟨(List.replicate n (0 : UInt8)).toArray⟩
theorem zeros_size {n : Nat} : (zeros n).size = n := by
  show (List.replicate n (0 : UInt8)).toArray.size = n
  simp
theorem repeat_ok (c : Nat) (hc : c ≤ 1048576) : Meets Try.prog 85 [.one (.str ⟨#[0]⟩), .one (.int .i64 (c : Int))] (.w (.one (.str (zeros c)))) [.one .hole, .one .hole] := by
  refine text_meets fun w => (Try.strings_Repeat ⟨#[0]⟩ c w (by omega) (by show 1 * c ≤ _; omega)).mono ?_
  rintro e w' ⟨rfl, hb⟩
  refine ⟨?_, hb⟩
  have : Lib.repeatL ([0] : List UInt8) c = List.replicate c 0 := by
    induction c with
    | zero => rfl
    | succ c ih => rw [Lib.repeatL, ih (by omega)]; rfl
  show Ending.returned (.string ⟨(Lib.repeatL [0] c).toArray⟩) = _
  rw [this]; rfl
/-- the bytes of a text's pieces -/
def s8 (s : ByteArray) : ByteArray := (beB s.size 1 ++ s) ++ zeros (47 - s.size)
theorem s8_size {s : ByteArray} (h : s.size ≤ 47) : (s8 s).size = 48 := by
  unfold s8
  rw [ByteArray.size_append, ByteArray.size_append, zeros_size, show (beB s.size 1).size = 1 from rfl]; omega
def byteZ (s : ByteArray) (i : Nat) : Int := ((s.data.toList.getD i default).toNat : Int)
def rowB (s : ByteArray) (k : Nat) : List Int := (List.range 16).map fun i => byteZ s (k * 16 + i)
def datB (s : ByteArray) : Mx := (List.range 3).map (rowB s)
theorem byteZ_gf {s : ByteArray} {i : Nat} : Gf (byteZ s i) := by
  unfold byteZ
  have := UInt8.toNat_lt (s.data.toList.getD i default)
  exact ⟨by omega, by omega⟩
theorem rowB_len {s : ByteArray} {k : Nat} : (rowB s k).length = 16 := by simp [rowB]
theorem datB_len {s : ByteArray} : (datB s).length = 3 := by simp [datB]
theorem datB_wf {s : ByteArray} : Wf (datB s) 16 := by
  intro r hr
  obtain ⟨k, _, rfl⟩ := List.mem_map.1 hr
  refine ⟨rowB_len, fun x hx => ?_⟩
  obtain ⟨i, _, rfl⟩ := List.mem_map.1 hx
  exact byteZ_gf
theorem datB_get {s : ByteArray} {k : Nat} (h : k < 3) : (datB s).getD k default = rowB s k := by
  rw [List.getD_eq_getElem?_getD, datB, List.getElem?_map, List.getElem?_range h]; rfl
theorem datB_snoc {s : ByteArray} {k : Nat} (h : k < 3) : mxO ((datB s).take (k + 1)) = mxO ((datB s).take k) ++ [.sl true 1 16 ((rowB s k).map (T.int .i64))] := mxO_snoc (by rw [datB_len]; exact h) (datB_get h) rowB_len
theorem rowB_get {s : ByteArray} {k i : Nat} (h : i < 16) : (rowB s k).getD i default = byteZ s (k * 16 + i) := by
  rw [List.getD_eq_getElem?_getD, rowB, List.getElem?_map, List.getElem?_range h]; rfl
theorem rowB_snoc {s : ByteArray} {k i : Nat} (h : i < 16) : ((rowB s k).take (i + 1)).map (T.int .i64) = ((rowB s k).take i).map (T.int .i64) ++ [.int .i64 (byteZ s (k * 16 + i))] := takeI_snoc (by rw [rowB_len]; exact h) (rowB_get h)
def g37_0 : List Gop := [⟨none, (some 2), (.mov (.k (.one .nil)))⟩]
def g37_1 : List Gop := [⟨none, (some 8), (.mov (.t 0))⟩, ⟨none, (some 9), (.lent (.t 8))⟩, ⟨none, (some 10), (.call 84 [(.t 9), (.k (.one (.int .i64 1)))])⟩, ⟨none, (some 11), (.mov (.t 0))⟩, ⟨none, (some 12), (.bin .add (.t 10) (.t 11))⟩, ⟨none, (some 13), (.mov (.t 0))⟩, ⟨none, (some 14), (.lent (.t 13))⟩, ⟨none, (some 15), (.bin .sub (.k (.one (.int .i64 47))) (.t 14))⟩, ⟨none, (some 16), (.make 1 [(.int .u8 0)] 1 (.t 15) (.t 15))⟩, ⟨none, (some 17), (.cvs (.t 16))⟩, ⟨none, (some 18), (.bin .add (.t 12) (.t 17))⟩, ⟨none, (some 3), (.mov (.t 18))⟩]
def a37_1 : List (List Nat) := [[], [0], [0, 1], [], [0, 1, 2, 3], [], [5], [5, 6], [5, 6, 7], [5, 6, 7, 8], [0, 1, 2, 3, 4, 5, 6, 7, 8, 9], [0, 1, 2, 3, 4, 5, 6, 7, 8, 9, 10]]
def n37_1 : Nat := 10 -- of 12
def g37_2 : List Gop := [⟨none, (some 4), (.mov (.k (.one .nil)))⟩]
def g37_3 : List Gop := [⟨none, (some 5), (.mov (.k (.one (.int .i64 0))))⟩]
def g37_4 : List Gop := [⟨none, (some 19), (.mov (.t 5))⟩, ⟨none, (some 20), (.bin .lss (.t 19) (.k (.one (.int .i64 3))))⟩]
def g37_5 : List Gop := [⟨none, (some 6), (.mov (.k (.one .nil)))⟩]
def g37_6 : List Gop := [⟨none, (some 7), (.mov (.k (.one (.int .i64 0))))⟩]
def g37_7 : List Gop := [⟨none, (some 23), (.mov (.t 7))⟩, ⟨none, (some 24), (.bin .lss (.t 23) (.k (.one (.int .i64 16))))⟩]
def g37_8 : List Gop := [⟨none, (some 27), (.mov (.t 6))⟩, ⟨none, (some 28), (.mov (.t 3))⟩, ⟨none, (some 29), (.mov (.t 5))⟩, ⟨none, (some 30), (.bin .mul (.t 29) (.k (.one (.int .i64 16))))⟩, ⟨none, (some 31), (.mov (.t 7))⟩, ⟨none, (some 32), (.bin .add (.t 30) (.t 31))⟩, ⟨none, (some 33), (.at (.t 28) (.t 32))⟩, ⟨none, (some 34), (.cvi .i64 (.t 33))⟩, ⟨none, (some 35), (.lit 1 1 [(.int .i64 0)] [(0, (.t 34))])⟩, ⟨none, (some 36), (.app 1 8 [(.int .i64 0)] (.t 27) (.t 35))⟩, ⟨none, (some 6), (.mov (.t 36))⟩]
def g37_9 : List Gop := [⟨none, (some 25), (.mov (.t 7))⟩, ⟨none, (some 26), (.bin .add (.t 25) (.k (.one (.int .i64 1))))⟩, ⟨none, (some 7), (.mov (.t 26))⟩]
def g37_10 : List Gop := [⟨none, (some 37), (.mov (.t 4))⟩, ⟨none, (some 38), (.mov (.t 6))⟩, ⟨none, (some 39), (.lit 1 1 [.nil] [(0, (.t 38))])⟩, ⟨none, (some 40), (.app 1 24 [.nil] (.t 37) (.t 39))⟩, ⟨none, (some 4), (.mov (.t 40))⟩]
def g37_11 : List Gop := [⟨none, (some 21), (.mov (.t 5))⟩, ⟨none, (some 22), (.bin .add (.t 21) (.k (.one (.int .i64 1))))⟩, ⟨none, (some 5), (.mov (.t 22))⟩]
def g37_12 : List Gop := [⟨none, (some 41), (.mov (.t 4))⟩, ⟨none, (some 42), (.call 49 [(.t 41), (.k (.one (.int .i64 2)))])⟩, ⟨none, (some 2), (.mov (.t 42))⟩]
def i37 : Ir := (.seq (.region g37_0) (.seq (.draw [[], [0], [1], [], [2, 3], [], [5], [6], [7, 7], [8], [4, 9], [10, 2, 0, 1, 2, 3, 4, 5, 6, 7, 8, 9, 10]] g37_1) (.seq (.region g37_2) (.seq (.seq (.region g37_3) (.block 0 (.loop (.seq (.seq (.region g37_4) (.cond (.t 20) .skip (.exit 0))) (.seq (.block 1 (.seq (.region g37_5) (.seq (.seq (.region g37_6) (.block 2 (.loop (.seq (.seq (.region g37_7) (.cond (.t 24) .skip (.exit 2))) (.seq (.block 3 (.region g37_8)) (.region g37_9)))))) (.region g37_10)))) (.region g37_11)))))) (.seq (.region g37_12) .ret)))))
theorem l8Pieces_ok (s : ByteArray) (hs : s.size ≤ 47) : Meets Try.prog 37 [.one (.str s)] (.w (.one (.sl true 1 5 (mxO (encZ (datB (s8 s)) 2 16))))) [.one .hole] := by
  have he := l3Encode_ok (datB (s8 s)) 2 16 datB_wf (by rw [datB_len]; omega) (by rw [datB_len]; omega) (by omega) (by omega)
  rw [datB_len, show ((2 : Nat) : Int) = 2 from rfl] at he
  have hl := l6Bytes_ok s.size 1 (by omega) (by omega)
  have b1 : (beB s.size 1).size = 1 := rfl
  have b2 : (beB s.size 1 ++ s).size = 1 + s.size := by rw [ByteArray.size_append]; rfl
  have b3 : (47 - (s.size : Int)).toNat = 47 - s.size := by omega
  have b4 : (⟨(List.replicate (47 - s.size) (0 : UInt8)).toArray⟩ : ByteArray) = zeros (47 - s.size) := rfl
  have b5 : (zeros (47 - s.size)).size = 47 - s.size := zeros_size
  have b6 : (beB s.size 1 ++ s) ++ zeros (47 - s.size) = s8 s := rfl
  have b7 : bytesT (List.replicate (47 - s.size) (T.int .u8 0)) = some (List.replicate (47 - s.size) (0 : UInt8)) := by
    have := bytesT_map (l := List.replicate (47 - s.size) (0 : UInt8))
    rwa [List.map_replicate] at this
  have b8 : List.take (47 - s.size) (List.replicate (47 - s.size) (T.int .u8 0)) = List.replicate (47 - s.size) (T.int .u8 0) := List.take_of_length_le (by simp)
  have b9 := s8_size hs
  refine meets_go (ir := i37) (fn := Try.f37) (rx := [(.tmp 2)]) rfl rfl (by rfl) (by rfl) (by exact Nat.le_of_ble_eq_true rfl) ?_
  simp (maxSteps := 9000000) -implicitDefEqProofs -dsimp (disch := omega) only [go_sem, g37_0, g37_1, a37_1, n37_1, g37_2, g37_3, g37_4, g37_5, g37_6, g37_7, g37_8, g37_9, g37_10, g37_11, g37_12, i37, Nat.reduceEqDiff, Nat.reduceAdd, Nat.reduceMul, Nat.reduceLeDiff, Nat.reduceBEq, Nat.reduceBNe, Int.reduceEq, ↓reduceIte, reduceCtorEq]
  refine draw_go n37_1 a37_1 (by decide +kernel) ?_
  simp (maxSteps := 9000000) -implicitDefEqProofs -dsimp (disch := omega) only [go_sem, n37_1, a37_1, Nat.reduceEqDiff, Nat.reduceAdd, Nat.reduceMul, Nat.reduceLeDiff, Nat.reduceBEq, Nat.reduceBNe, Int.reduceEq, ↓reduceIte, reduceCtorEq]
  refine calla_go true hl ?_
  simp (maxSteps := 9000000) -implicitDefEqProofs -dsimp (disch := omega) only [go_sem, n37_1, a37_1, b1, b2, b3, b4, b5, b6, b7, b8, cells, List.length_replicate, Nat.reduceEqDiff, Nat.reduceAdd, Nat.reduceMul, Nat.reduceLeDiff, Nat.reduceBEq, Nat.reduceBNe, Int.reduceEq, ↓reduceIte, reduceCtorEq]
  refine loop_n 3 (fun k => ⟨[(5, .w (.one (.int .i64 (k : Nat)))), (4, .w (.one (.hs 7 [] 0 1 k))), (3, .w (.one (.str (s8 s))))], [(7, .sl true 1 k (mxO ((datB (s8 s)).take k)))], [.one (.str s)]⟩) (fun k => True) ?_ trivial ?_
  · exact (imp_adopt 4 7 1 rfl rfl).trans (imp_sub (by simp (maxSteps := 9000000) -implicitDefEqProofs -dsimp (disch := omega) only [go_sem, n37_1, a37_1, List.take_zero, mxO_nil, Nat.reduceEqDiff, Nat.reduceAdd, Nat.reduceMul, Nat.reduceLeDiff, Nat.reduceBEq, Nat.reduceBNe, Int.reduceEq, ↓reduceIte, reduceCtorEq]) (by simp (maxSteps := 9000000) -implicitDefEqProofs -dsimp (disch := omega) only [go_sem, n37_1, a37_1, List.take_zero, mxO_nil, Nat.reduceEqDiff, Nat.reduceAdd, Nat.reduceMul, Nat.reduceLeDiff, Nat.reduceBEq, Nat.reduceBNe, Int.reduceEq, ↓reduceIte, reduceCtorEq]) rfl)
  · intro k hk _
    have q0 : cut (mxO ((datB (s8 s)).take k)) 0 k = mxO ((datB (s8 s)).take k) := mxO_cut (by rw [List.length_take]; omega)
    simp (maxSteps := 9000000) -implicitDefEqProofs -dsimp (disch := omega) only [go_sem, n37_1, a37_1, Nat.reduceEqDiff, Nat.reduceAdd, Nat.reduceMul, Nat.reduceLeDiff, Nat.reduceBEq, Nat.reduceBNe, Int.reduceEq, ↓reduceIte, reduceCtorEq]
    refine brP_i (fun h1 => ?_) (fun h1 => ?_)
    · have hlt : k < 3 := by omega
      simp (maxSteps := 9000000) -implicitDefEqProofs -dsimp (disch := omega) only [go_sem, n37_1, a37_1, Nat.reduceEqDiff, Nat.reduceAdd, Nat.reduceMul, Nat.reduceLeDiff, Nat.reduceBEq, Nat.reduceBNe, Int.reduceEq, ↓reduceIte, reduceCtorEq]
      refine loop_n 16 (fun i => ⟨[(7, .w (.one (.int .i64 (i : Nat)))), (6, .w (.one (.hs 8 [] 0 1 i))), (5, .w (.one (.int .i64 (k : Nat)))), (4, .w (.one (.hs 7 [] 0 1 k))), (3, .w (.one (.str (s8 s))))], [(8, .sl true 1 i (((rowB (s8 s) k).take i).map (T.int .i64))), (7, .sl true 1 k (mxO ((datB (s8 s)).take k)))], [.one (.str s)]⟩) (fun i => True) ?_ trivial ?_
      · exact (imp_adopt 6 8 1 rfl rfl).trans (imp_sub (by simp (maxSteps := 9000000) -implicitDefEqProofs -dsimp (disch := omega) only [go_sem, n37_1, a37_1, List.take_zero, List.map_nil, Nat.reduceEqDiff, Nat.reduceAdd, Nat.reduceMul, Nat.reduceLeDiff, Nat.reduceBEq, Nat.reduceBNe, Int.reduceEq, ↓reduceIte, reduceCtorEq]) (by simp (maxSteps := 9000000) -implicitDefEqProofs -dsimp (disch := omega) only [go_sem, n37_1, a37_1, List.take_zero, List.map_nil, Nat.reduceEqDiff, Nat.reduceAdd, Nat.reduceMul, Nat.reduceLeDiff, Nat.reduceBEq, Nat.reduceBNe, Int.reduceEq, ↓reduceIte, reduceCtorEq]) rfl)
      · intro i hi _
        have q1 : cut (((rowB (s8 s) k).take i).map (T.int .i64)) 0 i = ((rowB (s8 s) k).take i).map (T.int .i64) := cut_mapI (by rw [List.length_take]; omega)
        simp (maxSteps := 9000000) -implicitDefEqProofs -dsimp (disch := omega) only [go_sem, n37_1, a37_1, Nat.reduceEqDiff, Nat.reduceAdd, Nat.reduceMul, Nat.reduceLeDiff, Nat.reduceBEq, Nat.reduceBNe, Int.reduceEq, ↓reduceIte, reduceCtorEq]
        refine brP_i (fun h2 => ?_) (fun h2 => ?_)
        · have hlt2 : i < 16 := by omega
          have c1 : ((k : Int) * 16 + (i : Int)).toNat = k * 16 + i := by omega
          have c2 : IntKind.i64.wrap (((s8 s).data.toList.getD (k * 16 + i) default).toNat : Int) = byteZ (s8 s) (k * 16 + i) := by
            have g := byteZ_gf (s := s8 s) (i := k * 16 + i)
            exact wrap_in ⟨by have := g.1; unfold byteZ at this; omega, by have := g.2; unfold byteZ at this; omega⟩
          simp (maxSteps := 9000000) -implicitDefEqProofs -dsimp (disch := omega) only [go_sem, n37_1, a37_1, c1, c2, q1, Nat.reduceEqDiff, Nat.reduceAdd, Nat.reduceMul, Nat.reduceLeDiff, Nat.reduceBEq, Nat.reduceBNe, Int.reduceEq, ↓reduceIte, reduceCtorEq]
          exact ⟨hlt2, (imp_ren 10 8 rfl rfl).trans (imp_sub (by simp (maxSteps := 9000000) -implicitDefEqProofs -dsimp (disch := omega) only [go_sem, n37_1, a37_1, rowB_snoc hlt2, Nat.reduceEqDiff, Nat.reduceAdd, Nat.reduceMul, Nat.reduceLeDiff, Nat.reduceBEq, Nat.reduceBNe, Int.reduceEq, ↓reduceIte, reduceCtorEq]) (by simp (maxSteps := 9000000) -implicitDefEqProofs -dsimp (disch := omega) only [go_sem, n37_1, a37_1, rowB_snoc hlt2, Nat.reduceEqDiff, Nat.reduceAdd, Nat.reduceMul, Nat.reduceLeDiff, Nat.reduceBEq, Nat.reduceBNe, Int.reduceEq, ↓reduceIte, reduceCtorEq]) rfl)⟩
        · obtain rfl : i = 16 := by omega
          have e1 : (rowB (s8 s) k).take 16 = rowB (s8 s) k := List.take_of_length_le (by rw [rowB_len]; exact Nat.le_refl _)
          rw [e1] at q1
          simp (maxSteps := 9000000) -implicitDefEqProofs -dsimp (disch := omega) only [go_sem, n37_1, a37_1, q0, q1, e1, Nat.reduceEqDiff, Nat.reduceAdd, Nat.reduceMul, Nat.reduceLeDiff, Nat.reduceBEq, Nat.reduceBNe, Int.reduceEq, ↓reduceIte, reduceCtorEq]
          exact ⟨hlt, (imp_ren 10 7 rfl rfl).trans (imp_sub (by simp (maxSteps := 9000000) -implicitDefEqProofs -dsimp (disch := omega) only [go_sem, n37_1, a37_1, datB_snoc hlt, Nat.reduceEqDiff, Nat.reduceAdd, Nat.reduceMul, Nat.reduceLeDiff, Nat.reduceBEq, Nat.reduceBNe, Int.reduceEq, ↓reduceIte, reduceCtorEq]) (by simp (maxSteps := 9000000) -implicitDefEqProofs -dsimp (disch := omega) only [go_sem, n37_1, a37_1, datB_snoc hlt, Nat.reduceEqDiff, Nat.reduceAdd, Nat.reduceMul, Nat.reduceLeDiff, Nat.reduceBEq, Nat.reduceBNe, Int.reduceEq, ↓reduceIte, reduceCtorEq]) rfl)⟩
    · obtain rfl : k = 3 := by omega
      have e : (datB (s8 s)).take 3 = datB (s8 s) := List.take_of_length_le (by rw [datB_len]; exact Nat.le_refl _)
      rw [e] at q0
      have q2 : cut (mxR (datB (s8 s))) 0 3 = mxR (datB (s8 s)) := mxR_cut (by rw [datB_len]; exact Nat.le_refl _)
      have q3 : cut (mxO (encZ (datB (s8 s)) 2 16)) 0 5 = mxO (encZ (datB (s8 s)) 2 16) := mxO_cut (by unfold encZ; rw [times_len, cm_len, datB_len]; exact Nat.le_refl _)
      simp (maxSteps := 9000000) -implicitDefEqProofs -dsimp (disch := omega) only [go_sem, n37_1, a37_1, e, q0, Nat.reduceEqDiff, Nat.reduceAdd, Nat.reduceMul, Nat.reduceLeDiff, Nat.reduceBEq, Nat.reduceBNe, Int.reduceEq, ↓reduceIte, reduceCtorEq]
      refine call_go true he ?_
      simp (maxSteps := 9000000) -implicitDefEqProofs -dsimp (disch := omega) only [go_sem, n37_1, a37_1, e, q0, mxO_ro, q2, q3, Nat.reduceEqDiff, Nat.reduceAdd, Nat.reduceMul, Nat.reduceLeDiff, Nat.reduceBEq, Nat.reduceBNe, Int.reduceEq, ↓reduceIte, reduceCtorEq]
end Go.Proofs.YtplhecjngmkngaaT

/- Functions of the program as contracts: a text as pieces. No condition. -/
set_option maxRecDepth 100000
set_option maxHeartbeats 4000000
set_option linter.unusedSimpArgs false
set_option linter.unusedVariables false
namespace Go.Proofs.YtplhecjngmkngaaT
open Go Go.RowKit
def blk16 (s : ByteArray) (k : Nat) : ByteArray := s.extract (k * 16) (k * 16 + 16)
theorem blk16_size {s : ByteArray} {k : Nat} (h : s.size = 48) (hk : k < 3) : (blk16 s k).size = 16 := by
  unfold blk16; rw [ByteArray.size_extract]; omega
theorem blk16_len {s : ByteArray} {k : Nat} (h : s.size = 48) (hk : k < 3) : (blk16 s k).data.toList.length = 16 := by rw [ba_len, blk16_size h hk]
theorem blk16_get {s : ByteArray} {k i : Nat} (h : s.size = 48) (hk : k < 3) (hi : i < 16) : (((blk16 s k).data.toList.getD i default).toNat : Int) = byteZ s (k * 16 + i) := by
  unfold byteZ blk16
  have hs : s.data.size = 48 := h
  rw [ByteArray.data_extract, Array.toList_extract, List.extract_eq_take_drop]
  rw [List.getD_eq_getElem?_getD, List.getD_eq_getElem?_getD, List.getElem?_take_of_lt (by omega), List.getElem?_drop]
def g38_0 : List Gop := [⟨none, (some 2), (.mov (.k (.one .nil)))⟩]
def g38_1 : List Gop := [⟨none, (some 9), (.mov (.t 0))⟩, ⟨none, (some 10), (.lent (.t 9))⟩, ⟨none, (some 11), (.cvi .u8 (.t 10))⟩, ⟨none, (some 12), (.lit 1 1 [(.int .u8 0)] [(0, (.t 11))])⟩, ⟨none, (some 13), (.cvs (.t 12))⟩, ⟨none, (some 14), (.mov (.t 0))⟩, ⟨none, (some 15), (.bin .add (.t 13) (.t 14))⟩, ⟨none, (some 3), (.mov (.t 15))⟩]
def g38_2 : List Gop := [⟨none, (some 16), (.mov (.t 3))⟩, ⟨none, (some 17), (.mov (.t 3))⟩, ⟨none, (some 18), (.lent (.t 17))⟩, ⟨none, (some 19), (.bin .sub (.k (.one (.int .i64 48))) (.t 18))⟩, ⟨none, (some 20), (.call 85 [(.k (.one (.str ⟨#[0]⟩))), (.t 19)])⟩, ⟨none, (some 21), (.bin .add (.t 16) (.t 20))⟩, ⟨none, (some 3), (.mov (.t 21))⟩]
def g38_3 : List Gop := [⟨none, (some 22), (.lit 1 0 [.nil] [])⟩, ⟨none, (some 4), (.mov (.t 22))⟩]
def g38_4 : List Gop := [⟨none, (some 23), (.mov (.k (.one (.int .i64 0))))⟩]
def g38_5 : List Gop := [⟨none, (some 24), (.bin .lss (.t 23) (.k (.one (.int .i64 3))))⟩]
def g38_6 : List Gop := [⟨none, (some 25), (.mov (.t 23))⟩, ⟨none, (some 5), (.mov (.t 25))⟩]
def g38_7 : List Gop := [⟨none, (some 26), (.lit 1 0 [(.int .i64 0)] [])⟩, ⟨none, (some 6), (.mov (.t 26))⟩]
def g38_8 : List Gop := [⟨none, (some 27), (.mov (.t 3))⟩, ⟨none, (some 28), (.mov (.t 5))⟩, ⟨none, (some 29), (.bin .mul (.t 28) (.k (.one (.int .i64 16))))⟩, ⟨none, (some 30), (.mov (.t 5))⟩, ⟨none, (some 31), (.bin .add (.t 30) (.k (.one (.int .i64 1))))⟩, ⟨none, (some 32), (.bin .mul (.t 31) (.k (.one (.int .i64 16))))⟩, ⟨none, (some 33), (.substr (.t 27) (some (.t 29)) (some (.t 32)))⟩, ⟨none, (some 34), (.cvb (.t 33))⟩, ⟨none, (some 35), (.len (.t 34))⟩, ⟨none, (some 36), (.mov (.k (.one (.int .i64 0))))⟩]
def g38_9 : List Gop := [⟨none, (some 37), (.bin .lss (.t 36) (.t 35))⟩]
def g38_10 : List Gop := [⟨none, (some 38), (.iaddr 1 (.t 34) (.t 36))⟩, ⟨none, (some 39), (.load none (.t 38))⟩, ⟨none, (some 8), (.mov (.t 39))⟩]
def g38_11 : List Gop := [⟨none, (some 40), (.mov (.t 6))⟩, ⟨none, (some 41), (.mov (.t 8))⟩, ⟨none, (some 42), (.cvi .i64 (.t 41))⟩, ⟨none, (some 43), (.lit 1 1 [(.int .i64 0)] [(0, (.t 42))])⟩, ⟨none, (some 44), (.app 1 8 [(.int .i64 0)] (.t 40) (.t 43))⟩, ⟨none, (some 6), (.mov (.t 44))⟩]
def g38_12 : List Gop := [⟨none, (some 45), (.bin .add (.t 36) (.k (.one (.int .i64 1))))⟩, ⟨none, (some 36), (.mov (.t 45))⟩]
def g38_13 : List Gop := [⟨none, (some 46), (.mov (.t 4))⟩, ⟨none, (some 47), (.mov (.t 6))⟩, ⟨none, (some 48), (.lit 1 1 [.nil] [(0, (.t 47))])⟩, ⟨none, (some 49), (.app 1 24 [.nil] (.t 46) (.t 48))⟩, ⟨none, (some 4), (.mov (.t 49))⟩]
def g38_14 : List Gop := [⟨none, (some 50), (.bin .add (.t 23) (.k (.one (.int .i64 1))))⟩, ⟨none, (some 23), (.mov (.t 50))⟩]
def g38_15 : List Gop := [⟨none, (some 51), (.mov (.t 4))⟩, ⟨none, (some 52), (.call 46 [(.t 51), (.k (.one (.int .i64 2)))])⟩, ⟨none, (some 2), (.mov (.t 52))⟩]
def i38 : Ir := (.seq (.region g38_0) (.seq (.region g38_1) (.seq (.region g38_2) (.seq (.region g38_3) (.seq (.seq (.region g38_4) (.block 0 (.loop (.seq (.region g38_5) (.seq (.cond (.t 24) .skip (.exit 0)) (.seq (.block 1 (.seq (.region g38_6) (.seq (.region g38_7) (.seq (.seq (.region g38_8) (.block 2 (.loop (.seq (.region g38_9) (.seq (.cond (.t 37) .skip (.exit 2)) (.seq (.block 3 (.seq (.region g38_10) (.region g38_11))) (.region g38_12))))))) (.region g38_13))))) (.region g38_14))))))) (.seq (.region g38_15) .ret))))))
theorem piecesFor_ok (s : ByteArray) (hs : s.size ≤ 47) : Meets Try.prog 38 [.one (.str s)] (.w (.one (.sl true 1 5 (mxO (encZ (datB (s8 s)) 2 16))))) [.one .hole] := by
  have he := encoded_ok (datB (s8 s)) 2 16 datB_wf (by rw [datB_len]; omega) (by rw [datB_len]; omega) (by omega)
  rw [datB_len, show ((2 : Nat) : Int) = 2 from rfl] at he
  have hr := repeat_ok (47 - s.size) (by omega)
  have d1 : (⟨[UInt8.ofNat s.size].toArray⟩ : ByteArray) = beB s.size 1 := by simp [beB, beL]
  have d0 : bytesT [T.int .u8 ((UInt8.ofNat s.size).toNat : Int)] = some [UInt8.ofNat s.size] := bytesT_map (l := [UInt8.ofNat s.size])
  have b1 : (beB s.size 1).size = 1 := rfl
  have b2 : (beB s.size 1 ++ s).size = 1 + s.size := by rw [ByteArray.size_append]; rfl
  have b3 : (48 : Int) - ((1 + s.size : Nat) : Int) = ((47 - s.size : Nat) : Int) := by omega
  have b5 : (zeros (47 - s.size)).size = 47 - s.size := zeros_size
  have b6 : (beB s.size 1 ++ s) ++ zeros (47 - s.size) = s8 s := rfl
  have b9 := s8_size hs
  refine meets_go (ir := i38) (fn := Try.f38) (rx := [(.tmp 2)]) rfl rfl (by rfl) (by rfl) (by exact Nat.le_of_ble_eq_true rfl) ?_
  simp (maxSteps := 9000000) -implicitDefEqProofs -dsimp (disch := omega) only [go_sem, g38_0, g38_1, g38_2, g38_3, g38_4, g38_5, g38_6, g38_7, g38_8, g38_9, g38_10, g38_11, g38_12, g38_13, g38_14, g38_15, i38, u8_of, d0, d1, b1, b2, b3, cells, Nat.reduceEqDiff, Nat.reduceAdd, Nat.reduceMul, Nat.reduceLeDiff, Nat.reduceBEq, Nat.reduceBNe, Int.reduceEq, ↓reduceIte, reduceCtorEq]
  refine call_go true hr ?_
  simp (maxSteps := 9000000) -implicitDefEqProofs -dsimp (disch := omega) only [go_sem, b2, b5, b6, Nat.reduceEqDiff, Nat.reduceAdd, Nat.reduceMul, Nat.reduceLeDiff, Nat.reduceBEq, Nat.reduceBNe, Int.reduceEq, ↓reduceIte, reduceCtorEq]
  refine loop_n 3 (fun k => ⟨[(23, .w (.one (.int .i64 (k : Nat)))), (4, .w (.one (.hs 7 [] 0 1 k))), (3, .w (.one (.str (s8 s))))], [(7, .sl true 1 k (mxO ((datB (s8 s)).take k)))], [.one (.str s)]⟩) (fun k => True) ?_ trivial ?_
  · exact (imp_adopt 4 7 1 rfl rfl).trans (imp_sub (by simp (maxSteps := 9000000) -implicitDefEqProofs -dsimp (disch := omega) only [go_sem, List.take_zero, mxO_nil, Nat.reduceEqDiff, Nat.reduceAdd, Nat.reduceMul, Nat.reduceLeDiff, Nat.reduceBEq, Nat.reduceBNe, Int.reduceEq, ↓reduceIte, reduceCtorEq]) (by simp (maxSteps := 9000000) -implicitDefEqProofs -dsimp (disch := omega) only [go_sem, List.take_zero, mxO_nil, Nat.reduceEqDiff, Nat.reduceAdd, Nat.reduceMul, Nat.reduceLeDiff, Nat.reduceBEq, Nat.reduceBNe, Int.reduceEq, ↓reduceIte, reduceCtorEq]) rfl)
  · intro k hk _
    have q0 : cut (mxO ((datB (s8 s)).take k)) 0 k = mxO ((datB (s8 s)).take k) := mxO_cut (by rw [List.length_take]; omega)
    simp (maxSteps := 9000000) -implicitDefEqProofs -dsimp (disch := omega) only [go_sem, Nat.reduceEqDiff, Nat.reduceAdd, Nat.reduceMul, Nat.reduceLeDiff, Nat.reduceBEq, Nat.reduceBNe, Int.reduceEq, ↓reduceIte, reduceCtorEq]
    refine brP_i (fun h1 => ?_) (fun h1 => ?_)
    · have hlt : k < 3 := by omega
      have c1 : ((k : Int) * 16).toNat = k * 16 := by omega
      have c2 : (((k : Int) + 1) * 16).toNat = k * 16 + 16 := by omega
      have c3 : (s8 s).extract (k * 16) (k * 16 + 16) = blk16 (s8 s) k := rfl
      have c4 := blk16_size b9 hlt
      have c5 := blk16_len b9 hlt
      simp (maxSteps := 9000000) -implicitDefEqProofs -dsimp (disch := omega) only [go_sem, c1, c2, c3, Nat.reduceEqDiff, Nat.reduceAdd, Nat.reduceMul, Nat.reduceLeDiff, Nat.reduceBEq, Nat.reduceBNe, Int.reduceEq, ↓reduceIte, reduceCtorEq]
      refine loop_n 16 (fun i => ⟨[(36, .w (.one (.int .i64 (i : Nat)))), (35, .w (.one (.int .i64 ((blk16 (s8 s) k).size : Nat)))), (34, .w (.one (.hs 8 [] 0 1 (blk16 (s8 s) k).size))), (6, .w (.one (.hs 9 [] 0 1 i))), (23, .w (.one (.int .i64 (k : Nat)))), (4, .w (.one (.hs 7 [] 0 1 k))), (3, .w (.one (.str (s8 s))))], [(8, .sl true 1 (blk16 (s8 s) k).size ((blk16 (s8 s) k).data.toList.map fun c : UInt8 => T.int .u8 (c.toNat : Int))), (9, .sl true 1 i (((rowB (s8 s) k).take i).map (T.int .i64))), (7, .sl true 1 k (mxO ((datB (s8 s)).take k)))], [.one (.str s)]⟩) (fun i => True) ?_ trivial ?_
      · exact (imp_adopt 6 9 1 rfl rfl).trans (imp_sub (by simp (maxSteps := 9000000) -implicitDefEqProofs -dsimp (disch := omega) only [go_sem, List.take_zero, List.map_nil, Nat.reduceEqDiff, Nat.reduceAdd, Nat.reduceMul, Nat.reduceLeDiff, Nat.reduceBEq, Nat.reduceBNe, Int.reduceEq, ↓reduceIte, reduceCtorEq]) (by simp (maxSteps := 9000000) -implicitDefEqProofs -dsimp (disch := omega) only [go_sem, List.take_zero, List.map_nil, Nat.reduceEqDiff, Nat.reduceAdd, Nat.reduceMul, Nat.reduceLeDiff, Nat.reduceBEq, Nat.reduceBNe, Int.reduceEq, ↓reduceIte, reduceCtorEq]) rfl)
      · intro i hi _
        have q1 : cut (((rowB (s8 s) k).take i).map (T.int .i64)) 0 i = ((rowB (s8 s) k).take i).map (T.int .i64) := cut_mapI (by rw [List.length_take]; omega)
        simp (maxSteps := 9000000) -implicitDefEqProofs -dsimp (disch := omega) only [go_sem, Nat.reduceEqDiff, Nat.reduceAdd, Nat.reduceMul, Nat.reduceLeDiff, Nat.reduceBEq, Nat.reduceBNe, Int.reduceEq, ↓reduceIte, reduceCtorEq]
        refine brP_i (fun h2 => ?_) (fun h2 => ?_)
        · have hlt2 : i < 16 := by omega
          have g := byteZ_gf (s := s8 s) (i := k * 16 + i)
          have g1 := g.1; have g2 := g.2
          have c6 := blk16_get b9 hlt hlt2
          simp (maxSteps := 9000000) -implicitDefEqProofs -dsimp (disch := omega) only [go_sem, c6, q1, Nat.reduceEqDiff, Nat.reduceAdd, Nat.reduceMul, Nat.reduceLeDiff, Nat.reduceBEq, Nat.reduceBNe, Int.reduceEq, ↓reduceIte, reduceCtorEq]
          exact ⟨hlt2, (imp_ren 11 9 rfl rfl).trans (imp_sub (by simp (maxSteps := 9000000) -implicitDefEqProofs -dsimp (disch := omega) only [go_sem, rowB_snoc hlt2, Nat.reduceEqDiff, Nat.reduceAdd, Nat.reduceMul, Nat.reduceLeDiff, Nat.reduceBEq, Nat.reduceBNe, Int.reduceEq, ↓reduceIte, reduceCtorEq]) (by simp (maxSteps := 9000000) -implicitDefEqProofs -dsimp (disch := omega) only [go_sem, rowB_snoc hlt2, Nat.reduceEqDiff, Nat.reduceAdd, Nat.reduceMul, Nat.reduceLeDiff, Nat.reduceBEq, Nat.reduceBNe, Int.reduceEq, ↓reduceIte, reduceCtorEq]) rfl)⟩
        · obtain rfl : i = 16 := by omega
          have e1 : (rowB (s8 s) k).take 16 = rowB (s8 s) k := List.take_of_length_le (by rw [rowB_len]; exact Nat.le_refl _)
          rw [e1] at q1
          simp (maxSteps := 9000000) -implicitDefEqProofs -dsimp (disch := omega) only [go_sem, q0, q1, e1, Nat.reduceEqDiff, Nat.reduceAdd, Nat.reduceMul, Nat.reduceLeDiff, Nat.reduceBEq, Nat.reduceBNe, Int.reduceEq, ↓reduceIte, reduceCtorEq]
          exact ⟨hlt, (imp_ren 11 7 rfl rfl).trans (imp_sub (by simp (maxSteps := 9000000) -implicitDefEqProofs -dsimp (disch := omega) only [go_sem, datB_snoc hlt, Nat.reduceEqDiff, Nat.reduceAdd, Nat.reduceMul, Nat.reduceLeDiff, Nat.reduceBEq, Nat.reduceBNe, Int.reduceEq, ↓reduceIte, reduceCtorEq]) (by simp (maxSteps := 9000000) -implicitDefEqProofs -dsimp (disch := omega) only [go_sem, datB_snoc hlt, Nat.reduceEqDiff, Nat.reduceAdd, Nat.reduceMul, Nat.reduceLeDiff, Nat.reduceBEq, Nat.reduceBNe, Int.reduceEq, ↓reduceIte, reduceCtorEq]) rfl)⟩
    · obtain rfl : k = 3 := by omega
      have e : (datB (s8 s)).take 3 = datB (s8 s) := List.take_of_length_le (by rw [datB_len]; exact Nat.le_refl _)
      rw [e] at q0
      have q2 : cut (mxR (datB (s8 s))) 0 3 = mxR (datB (s8 s)) := mxR_cut (by rw [datB_len]; exact Nat.le_refl _)
      have q3 : cut (mxO (encZ (datB (s8 s)) 2 16)) 0 5 = mxO (encZ (datB (s8 s)) 2 16) := mxO_cut (by unfold encZ; rw [times_len, cm_len, datB_len]; exact Nat.le_refl _)
      simp (maxSteps := 9000000) -implicitDefEqProofs -dsimp (disch := omega) only [go_sem, e, q0, Nat.reduceEqDiff, Nat.reduceAdd, Nat.reduceMul, Nat.reduceLeDiff, Nat.reduceBEq, Nat.reduceBNe, Int.reduceEq, ↓reduceIte, reduceCtorEq]
      refine call_go true he ?_
      simp (maxSteps := 9000000) -implicitDefEqProofs -dsimp (disch := omega) only [go_sem, e, q0, mxO_ro, q2, q3, Nat.reduceEqDiff, Nat.reduceAdd, Nat.reduceMul, Nat.reduceLeDiff, Nat.reduceBEq, Nat.reduceBNe, Int.reduceEq, ↓reduceIte, reduceCtorEq]
end Go.Proofs.YtplhecjngmkngaaT

/- Functions of the program as contracts: rows of rows of numbers, as the laws handle them. No condition. -/
set_option maxRecDepth 100000
set_option maxHeartbeats 4000000
set_option linter.unusedSimpArgs false
set_option linter.unusedVariables false
namespace Go.Proofs.YtplhecjngmkngaaT
open Go
def g39_0 : List Gop := [⟨none, (some 4), (.mov (.k (.one (.bool .false))))⟩]
def g39_1 : List Gop := [⟨none, (some 6), (.mov (.t 0))⟩, ⟨none, (some 7), (.len (.t 6))⟩, ⟨none, (some 8), (.mov (.t 1))⟩, ⟨none, (some 9), (.len (.t 8))⟩, ⟨none, (some 10), (.bin .neq (.t 7) (.t 9))⟩]
def g39_2 : List Gop := [⟨none, (some 4), (.mov (.k (.one (.bool .false))))⟩]
def g39_3 : List Gop := [⟨none, (some 5), (.mov (.k (.one (.int .i64 0))))⟩]
def g39_4 : List Gop := [⟨none, (some 11), (.mov (.t 5))⟩, ⟨none, (some 12), (.mov (.t 0))⟩, ⟨none, (some 13), (.len (.t 12))⟩, ⟨none, (some 14), (.bin .lss (.t 11) (.t 13))⟩]
def g39_5 : List Gop := [⟨none, (some 17), (.mov (.t 0))⟩, ⟨none, (some 18), (.mov (.t 5))⟩, ⟨none, (some 19), (.iaddr 1 (.t 17) (.t 18))⟩, ⟨none, (some 20), (.load none (.t 19))⟩, ⟨none, (some 21), (.mov (.t 1))⟩, ⟨none, (some 22), (.mov (.t 5))⟩, ⟨none, (some 23), (.iaddr 1 (.t 21) (.t 22))⟩, ⟨none, (some 24), (.load none (.t 23))⟩, ⟨none, (some 25), (.bin .neq (.t 20) (.t 24))⟩]
def a39_5 : List (List Nat) := [[], [], [0, 1], [0, 1, 2], [], [], [4, 5], [4, 5, 6], [0, 1, 2, 3, 4, 5, 6, 7]]
def n39_5 : Nat := 8 -- of 9
def g39_6 : List Gop := [⟨none, (some 4), (.mov (.k (.one (.bool .false))))⟩]
def g39_7 : List Gop := [⟨none, (some 15), (.mov (.t 5))⟩, ⟨none, (some 16), (.bin .add (.t 15) (.k (.one (.int .i64 1))))⟩, ⟨none, (some 5), (.mov (.t 16))⟩]
def g39_8 : List Gop := [⟨none, (some 4), (.mov (.k (.one (.bool .true))))⟩]
def i39 : Ir := (.seq (.region g39_0) (.seq (.seq (.region g39_1) (.cond (.t 10) (.seq (.region g39_2) .ret) .skip)) (.seq (.seq (.region g39_3) (.block 0 (.loop (.seq (.seq (.region g39_4) (.cond (.t 14) .skip (.exit 0))) (.seq (.block 1 (.seq (.draw [[], [], [0, 1], [2], [], [], [4, 5], [6], [3, 7]] g39_5) (.cond (.t 25) (.seq (.region g39_6) .ret) .skip))) (.region g39_7)))))) (.seq (.region g39_8) .ret))))
theorem eqIntS_ok (a b : List Int) (ha : a.length ≤ 9223372036854775807) : Meets Try.prog 39 [.one (.sl false 1 a.length (a.map (T.int .i64))), .one (.sl false 1 b.length (b.map (T.int .i64)))] (.w (.one (.bool (decide (a = b))))) [.one .hole, .one .hole] := by
  refine meets_go (ir := i39) (fn := Try.f39) (rx := [(.tmp 4)]) rfl rfl (by rfl) (by rfl) (by exact Nat.le_of_ble_eq_true rfl) ?_
  simp (maxSteps := 9000000) -implicitDefEqProofs -dsimp (disch := omega) only [go_sem, g39_0, g39_1, g39_2, g39_3, g39_4, g39_5, a39_5, n39_5, g39_6, g39_7, g39_8, i39, Nat.reduceEqDiff, Nat.reduceAdd, Nat.reduceMul, Nat.reduceLeDiff, Nat.reduceBEq, Nat.reduceBNe, Int.reduceEq, ↓reduceIte, reduceCtorEq]
  refine brP_i (fun h => ?_) (fun h => ?_)
  · have h' : b.length = a.length := by omega
    simp (maxSteps := 9000000) -implicitDefEqProofs -dsimp (disch := omega) only [go_sem, Nat.reduceEqDiff, Nat.reduceAdd, Nat.reduceMul, Nat.reduceLeDiff, Nat.reduceBEq, Nat.reduceBNe, Int.reduceEq, ↓reduceIte, reduceCtorEq]
    refine loop_n a.length (fun i => ⟨[(5, .w (.one (.int .i64 (i : Nat)))), (1, .w (.one (.hs 1 [] 0 1 b.length))), (0, .w (.one (.hs 0 [] 0 1 a.length)))], [(1, (.sl false 1 b.length (b.map (T.int .i64)))), (0, (.sl false 1 a.length (a.map (T.int .i64))))], [.one (.hs 0 [] 0 1 a.length), .one (.hs 1 [] 0 1 b.length)]⟩) (fun i => a.take i = b.take i) ?_ ?_ ?_
    · exact (imp_sub (by simp (maxSteps := 9000000) -implicitDefEqProofs -dsimp (disch := omega) only [go_sem, Nat.reduceEqDiff, Nat.reduceAdd, Nat.reduceMul, Nat.reduceLeDiff, Nat.reduceBEq, Nat.reduceBNe, Int.reduceEq, ↓reduceIte, reduceCtorEq]) (by simp (maxSteps := 9000000) -implicitDefEqProofs -dsimp (disch := omega) only [go_sem, Nat.reduceEqDiff, Nat.reduceAdd, Nat.reduceMul, Nat.reduceLeDiff, Nat.reduceBEq, Nat.reduceBNe, Int.reduceEq, ↓reduceIte, reduceCtorEq]) rfl)
    · simp
    · intro i hi hJ
      simp (maxSteps := 9000000) -implicitDefEqProofs -dsimp (disch := omega) only [go_sem, Nat.reduceEqDiff, Nat.reduceAdd, Nat.reduceMul, Nat.reduceLeDiff, Nat.reduceBEq, Nat.reduceBNe, Int.reduceEq, ↓reduceIte, reduceCtorEq]
      refine brP_i (fun h2 => ?_) (fun h2 => ?_)
      · refine draw_go n39_5 a39_5 (by decide +kernel) ?_
        simp (maxSteps := 9000000) -implicitDefEqProofs -dsimp (disch := omega) only [go_sem, n39_5, a39_5, Nat.reduceEqDiff, Nat.reduceAdd, Nat.reduceMul, Nat.reduceLeDiff, Nat.reduceBEq, Nat.reduceBNe, Int.reduceEq, ↓reduceIte, reduceCtorEq]
        refine brP_i (fun h3 => ?_) (fun h3 => ?_)
        · simp (maxSteps := 9000000) -implicitDefEqProofs -dsimp (disch := omega) only [go_sem, n39_5, a39_5, Nat.reduceEqDiff, Nat.reduceAdd, Nat.reduceMul, Nat.reduceLeDiff, Nat.reduceBEq, Nat.reduceBNe, Int.reduceEq, ↓reduceIte, reduceCtorEq]
          exact ⟨⟨by omega, take_eq_succ (by omega) (by omega) hJ h3⟩, (imp_sub (by simp (maxSteps := 9000000) -implicitDefEqProofs -dsimp (disch := omega) only [go_sem, n39_5, a39_5, Nat.reduceEqDiff, Nat.reduceAdd, Nat.reduceMul, Nat.reduceLeDiff, Nat.reduceBEq, Nat.reduceBNe, Int.reduceEq, ↓reduceIte, reduceCtorEq]) (by simp (maxSteps := 9000000) -implicitDefEqProofs -dsimp (disch := omega) only [go_sem, n39_5, a39_5, Nat.reduceEqDiff, Nat.reduceAdd, Nat.reduceMul, Nat.reduceLeDiff, Nat.reduceBEq, Nat.reduceBNe, Int.reduceEq, ↓reduceIte, reduceCtorEq]) rfl)⟩
        · simp (maxSteps := 9000000) -implicitDefEqProofs -dsimp (disch := omega) only [go_sem, n39_5, a39_5, Nat.reduceEqDiff, Nat.reduceAdd, Nat.reduceMul, Nat.reduceLeDiff, Nat.reduceBEq, Nat.reduceBNe, Int.reduceEq, ↓reduceIte, reduceCtorEq]
          exact need_i (by simp [show a ≠ b from fun e => h3 (by rw [e])]) (by simp (maxSteps := 9000000) -implicitDefEqProofs -dsimp (disch := omega) only [go_sem, n39_5, a39_5, Nat.reduceEqDiff, Nat.reduceAdd, Nat.reduceMul, Nat.reduceLeDiff, Nat.reduceBEq, Nat.reduceBNe, Int.reduceEq, ↓reduceIte, reduceCtorEq])
      · simp (maxSteps := 9000000) -implicitDefEqProofs -dsimp (disch := omega) only [go_sem, n39_5, a39_5, Nat.reduceEqDiff, Nat.reduceAdd, Nat.reduceMul, Nat.reduceLeDiff, Nat.reduceBEq, Nat.reduceBNe, Int.reduceEq, ↓reduceIte, reduceCtorEq]
        exact need_i (by simp [eq_of_take hJ (by omega) (by omega)]) (by simp (maxSteps := 9000000) -implicitDefEqProofs -dsimp (disch := omega) only [go_sem, n39_5, a39_5, Nat.reduceEqDiff, Nat.reduceAdd, Nat.reduceMul, Nat.reduceLeDiff, Nat.reduceBEq, Nat.reduceBNe, Int.reduceEq, ↓reduceIte, reduceCtorEq])
  · simp (maxSteps := 9000000) -implicitDefEqProofs -dsimp (disch := omega) only [go_sem, n39_5, a39_5, Nat.reduceEqDiff, Nat.reduceAdd, Nat.reduceMul, Nat.reduceLeDiff, Nat.reduceBEq, Nat.reduceBNe, Int.reduceEq, ↓reduceIte, reduceCtorEq]
    exact need_i (by simp [show a ≠ b from fun e => h (by rw [e])]) (by simp (maxSteps := 9000000) -implicitDefEqProofs -dsimp (disch := omega) only [go_sem, n39_5, a39_5, Nat.reduceEqDiff, Nat.reduceAdd, Nat.reduceMul, Nat.reduceLeDiff, Nat.reduceBEq, Nat.reduceBNe, Int.reduceEq, ↓reduceIte, reduceCtorEq])
def g40_0 : List Gop := [⟨none, (some 4), (.mov (.k (.one (.int .i64 0))))⟩]
def g40_1 : List Gop := [⟨none, (some 5), (.mov (.k (.one (.int .i64 0))))⟩]
def g40_2 : List Gop := [⟨none, (some 6), (.mov (.t 5))⟩, ⟨none, (some 7), (.mov (.t 0))⟩, ⟨none, (some 8), (.len (.t 7))⟩, ⟨none, (some 9), (.bin .lss (.t 6) (.t 8))⟩]
def g40_3 : List Gop := [⟨none, (some 12), (.mov (.t 0))⟩, ⟨none, (some 13), (.mov (.t 5))⟩, ⟨none, (some 14), (.mov (.t 1))⟩, ⟨none, (some 15), (.iaddr 1 (.t 12) (.t 13))⟩, ⟨none, none, (.store 1 (.t 15) (.t 14))⟩]
def g40_4 : List Gop := [⟨none, (some 16), (.mov (.t 1))⟩, ⟨none, (some 17), (.bin .add (.t 16) (.k (.one (.int .i64 1))))⟩, ⟨none, (some 1), (.mov (.t 17))⟩]
def g40_5 : List Gop := [⟨none, (some 10), (.mov (.t 5))⟩, ⟨none, (some 11), (.bin .add (.t 10) (.k (.one (.int .i64 1))))⟩, ⟨none, (some 5), (.mov (.t 11))⟩]
def g40_6 : List Gop := [⟨none, (some 18), (.mov (.t 1))⟩, ⟨none, (some 4), (.mov (.t 18))⟩]
def i40 : Ir := (.seq (.region g40_0) (.seq (.seq (.region g40_1) (.block 0 (.loop (.seq (.seq (.region g40_2) (.cond (.t 9) .skip (.exit 0))) (.seq (.block 1 (.seq (.region g40_3) (.region g40_4))) (.region g40_5)))))) (.seq (.region g40_6) .ret)))
theorem markIntS_ok (a : List Int) (k : Int) (h0 : 0 < k) (hk : k ≤ 1099511627776) (ha : a.length ≤ 1048576) : Meets Try.prog 40 [.one (.sl true 1 a.length (a.map (T.int .i64))), .one (.int .i64 k)] (.w (.one (.int .i64 (k + a.length)))) [.one (.sl true 1 ((List.range a.length).map (fun j : Nat => k + (j : Int))).length (((List.range a.length).map (fun j : Nat => k + (j : Int))).map (T.int .i64))), .one .hole] := by
  refine meets_go (ir := i40) (fn := Try.f40) (rx := [(.tmp 4)]) rfl rfl (by rfl) (by rfl) (by exact Nat.le_of_ble_eq_true rfl) ?_
  simp (maxSteps := 9000000) -implicitDefEqProofs -dsimp (disch := omega) only [go_sem, g40_0, g40_1, g40_2, g40_3, g40_4, g40_5, g40_6, i40, Nat.reduceEqDiff, Nat.reduceAdd, Nat.reduceMul, Nat.reduceLeDiff, Nat.reduceBEq, Nat.reduceBNe, Int.reduceEq, ↓reduceIte, reduceCtorEq]
  refine loop_n a.length (fun i => ⟨[(5, .w (.one (.int .i64 (i : Nat)))), (1, .w (.one (.int .i64 (k + (i : Nat))))), (0, .w (.one (.hs 0 [] 0 1 a.length)))], [(0, .sl true 1 a.length ((mixL (fun j : Nat => k + (j : Int)) a i).map (T.int .i64)))], [.one (.hs 0 [] 0 1 a.length), .one (.int .i64 k)]⟩) (fun i => True) ?_ trivial ?_
  · exact (imp_sub (by simp (maxSteps := 9000000) -implicitDefEqProofs -dsimp (disch := omega) only [go_sem, mixL_0, Int.natCast_zero, Int.add_zero, Nat.reduceEqDiff, Nat.reduceAdd, Nat.reduceMul, Nat.reduceLeDiff, Nat.reduceBEq, Nat.reduceBNe, Int.reduceEq, ↓reduceIte, reduceCtorEq]) (by simp (maxSteps := 9000000) -implicitDefEqProofs -dsimp (disch := omega) only [go_sem, mixL_0, Int.natCast_zero, Int.add_zero, Nat.reduceEqDiff, Nat.reduceAdd, Nat.reduceMul, Nat.reduceLeDiff, Nat.reduceBEq, Nat.reduceBNe, Int.reduceEq, ↓reduceIte, reduceCtorEq]) rfl)
  · intro i hi hJ
    have hq := mixL_len (g := fun j : Nat => k + (j : Int)) (a := a) (i := i)
    simp (maxSteps := 9000000) -implicitDefEqProofs -dsimp (disch := omega) only [go_sem, Nat.reduceEqDiff, Nat.reduceAdd, Nat.reduceMul, Nat.reduceLeDiff, Nat.reduceBEq, Nat.reduceBNe, Int.reduceEq, ↓reduceIte, reduceCtorEq]
    refine brP_i (fun h => ?_) (fun h => ?_)
    · have hs := mixL_set (g := fun j : Nat => k + (j : Int)) (a := a) (i := i) (by omega)
      simp (maxSteps := 9000000) -implicitDefEqProofs -dsimp (disch := omega) only [go_sem, Nat.reduceEqDiff, Nat.reduceAdd, Nat.reduceMul, Nat.reduceLeDiff, Nat.reduceBEq, Nat.reduceBNe, Int.reduceEq, ↓reduceIte, reduceCtorEq]
      exact ⟨by omega, (imp_sub (by simp (maxSteps := 9000000) -implicitDefEqProofs -dsimp (disch := omega) only [go_sem, hs, Int.add_assoc, Nat.reduceEqDiff, Nat.reduceAdd, Nat.reduceMul, Nat.reduceLeDiff, Nat.reduceBEq, Nat.reduceBNe, Int.reduceEq, ↓reduceIte, reduceCtorEq]) (by simp (maxSteps := 9000000) -implicitDefEqProofs -dsimp (disch := omega) only [go_sem, hs, Int.add_assoc, Nat.reduceEqDiff, Nat.reduceAdd, Nat.reduceMul, Nat.reduceLeDiff, Nat.reduceBEq, Nat.reduceBNe, Int.reduceEq, ↓reduceIte, reduceCtorEq]) rfl)⟩
    · obtain rfl : i = a.length := by omega
      have hq2 : ((List.range a.length).map (fun j : Nat => k + (j : Int))).length = a.length := by simp
      simp (maxSteps := 9000000) -implicitDefEqProofs -dsimp (disch := omega) only [go_sem, mixL_end, Nat.reduceEqDiff, Nat.reduceAdd, Nat.reduceMul, Nat.reduceLeDiff, Nat.reduceBEq, Nat.reduceBNe, Int.reduceEq, ↓reduceIte, reduceCtorEq]
def g41_0 : List Gop := [⟨none, (some 4), (.mov (.k (.one (.int .i64 0))))⟩]
def g41_1 : List Gop := [⟨none, (some 5), (.mov (.k (.one (.int .i64 0))))⟩]
def g41_2 : List Gop := [⟨none, (some 6), (.mov (.t 5))⟩, ⟨none, (some 7), (.mov (.t 0))⟩, ⟨none, (some 8), (.len (.t 7))⟩, ⟨none, (some 9), (.bin .lss (.t 6) (.t 8))⟩]
def g41_3 : List Gop := [⟨none, (some 12), (.mov (.t 0))⟩, ⟨none, (some 13), (.mov (.t 5))⟩, ⟨none, (some 14), (.iaddr 1 (.t 12) (.t 13))⟩, ⟨none, (some 15), (.load none (.t 14))⟩, ⟨none, (some 16), (.mov (.t 1))⟩, ⟨none, (some 17), (.bin .neq (.t 15) (.t 16))⟩]
def g41_4 : List Gop := [⟨none, (some 4), (.mov (.k (.one (.int .i64 (-1)))))⟩]
def g41_5 : List Gop := [⟨none, (some 18), (.mov (.t 1))⟩, ⟨none, (some 19), (.bin .add (.t 18) (.k (.one (.int .i64 1))))⟩, ⟨none, (some 1), (.mov (.t 19))⟩]
def g41_6 : List Gop := [⟨none, (some 10), (.mov (.t 5))⟩, ⟨none, (some 11), (.bin .add (.t 10) (.k (.one (.int .i64 1))))⟩, ⟨none, (some 5), (.mov (.t 11))⟩]
def g41_7 : List Gop := [⟨none, (some 20), (.mov (.t 1))⟩, ⟨none, (some 4), (.mov (.t 20))⟩]
def i41 : Ir := (.seq (.region g41_0) (.seq (.seq (.region g41_1) (.block 0 (.loop (.seq (.seq (.region g41_2) (.cond (.t 9) .skip (.exit 0))) (.seq (.block 1 (.seq (.seq (.region g41_3) (.cond (.t 17) (.seq (.region g41_4) .ret) .skip)) (.region g41_5))) (.region g41_6)))))) (.seq (.region g41_7) .ret)))
theorem heldIntS_ok (n : Nat) (k : Int) (h0 : 0 < k) (hk : k ≤ 1099511627776) (ha : n ≤ 1048576) : Meets Try.prog 41 [.one (.sl false 1 n (((List.range n).map (fun j : Nat => k + (j : Int))).map (T.int .i64))), .one (.int .i64 k)] (.w (.one (.int .i64 (k + n)))) [.one .hole, .one .hole] := by
  refine meets_go (ir := i41) (fn := Try.f41) (rx := [(.tmp 4)]) rfl rfl (by rfl) (by rfl) (by exact Nat.le_of_ble_eq_true rfl) ?_
  simp (maxSteps := 9000000) -implicitDefEqProofs -dsimp (disch := omega) only [go_sem, g41_0, g41_1, g41_2, g41_3, g41_4, g41_5, g41_6, g41_7, i41, Nat.reduceEqDiff, Nat.reduceAdd, Nat.reduceMul, Nat.reduceLeDiff, Nat.reduceBEq, Nat.reduceBNe, Int.reduceEq, ↓reduceIte, reduceCtorEq]
  refine loop_n n (fun i => ⟨[(5, .w (.one (.int .i64 (i : Nat)))), (1, .w (.one (.int .i64 (k + (i : Nat))))), (0, .w (.one (.hs 0 [] 0 1 n)))], [(0, .sl false 1 n (((List.range n).map (fun j : Nat => k + (j : Int))).map (T.int .i64)))], [.one (.hs 0 [] 0 1 n), .one (.int .i64 k)]⟩) (fun i => True) ?_ trivial ?_
  · exact (imp_sub (by simp (maxSteps := 9000000) -implicitDefEqProofs -dsimp (disch := omega) only [go_sem, Int.natCast_zero, Int.add_zero, Nat.reduceEqDiff, Nat.reduceAdd, Nat.reduceMul, Nat.reduceLeDiff, Nat.reduceBEq, Nat.reduceBNe, Int.reduceEq, ↓reduceIte, reduceCtorEq]) (by simp (maxSteps := 9000000) -implicitDefEqProofs -dsimp (disch := omega) only [go_sem, Int.natCast_zero, Int.add_zero, Nat.reduceEqDiff, Nat.reduceAdd, Nat.reduceMul, Nat.reduceLeDiff, Nat.reduceBEq, Nat.reduceBNe, Int.reduceEq, ↓reduceIte, reduceCtorEq]) rfl)
  · intro i hi hJ
    have hq : ((List.range n).map (fun j : Nat => k + (j : Int))).length = n := by simp
    simp (maxSteps := 9000000) -implicitDefEqProofs -dsimp (disch := omega) only [go_sem, Nat.reduceEqDiff, Nat.reduceAdd, Nat.reduceMul, Nat.reduceLeDiff, Nat.reduceBEq, Nat.reduceBNe, Int.reduceEq, ↓reduceIte, reduceCtorEq]
    refine brP_i (fun h => ?_) (fun h => ?_)
    · have hs := range_getD (g := fun j : Nat => k + (j : Int)) (n := n) (i := i) (by omega)
      simp (maxSteps := 9000000) -implicitDefEqProofs -dsimp (disch := omega) only [go_sem, hs, Nat.reduceEqDiff, Nat.reduceAdd, Nat.reduceMul, Nat.reduceLeDiff, Nat.reduceBEq, Nat.reduceBNe, Int.reduceEq, ↓reduceIte, reduceCtorEq]
      exact ⟨by omega, (imp_sub (by simp (maxSteps := 9000000) -implicitDefEqProofs -dsimp (disch := omega) only [go_sem, Int.add_assoc, Nat.reduceEqDiff, Nat.reduceAdd, Nat.reduceMul, Nat.reduceLeDiff, Nat.reduceBEq, Nat.reduceBNe, Int.reduceEq, ↓reduceIte, reduceCtorEq]) (by simp (maxSteps := 9000000) -implicitDefEqProofs -dsimp (disch := omega) only [go_sem, Int.add_assoc, Nat.reduceEqDiff, Nat.reduceAdd, Nat.reduceMul, Nat.reduceLeDiff, Nat.reduceBEq, Nat.reduceBNe, Int.reduceEq, ↓reduceIte, reduceCtorEq]) rfl)⟩
    · obtain rfl : i = n := by omega
      simp (maxSteps := 9000000) -implicitDefEqProofs -dsimp (disch := omega) only [go_sem, Nat.reduceEqDiff, Nat.reduceAdd, Nat.reduceMul, Nat.reduceLeDiff, Nat.reduceBEq, Nat.reduceBNe, Int.reduceEq, ↓reduceIte, reduceCtorEq]
def g9_0 : List Gop := [⟨none, (some 4), (.mov (.k (.one (.bool .false))))⟩]
def g9_1 : List Gop := [⟨none, (some 6), (.mov (.t 0))⟩, ⟨none, (some 7), (.len (.t 6))⟩, ⟨none, (some 8), (.mov (.t 1))⟩, ⟨none, (some 9), (.len (.t 8))⟩, ⟨none, (some 10), (.bin .neq (.t 7) (.t 9))⟩]
def g9_2 : List Gop := [⟨none, (some 4), (.mov (.k (.one (.bool .false))))⟩]
def g9_3 : List Gop := [⟨none, (some 5), (.mov (.k (.one (.int .i64 0))))⟩]
def g9_4 : List Gop := [⟨none, (some 11), (.mov (.t 5))⟩, ⟨none, (some 12), (.mov (.t 0))⟩, ⟨none, (some 13), (.len (.t 12))⟩, ⟨none, (some 14), (.bin .lss (.t 11) (.t 13))⟩]
def g9_5 : List Gop := [⟨none, (some 17), (.mov (.t 0))⟩, ⟨none, (some 18), (.mov (.t 5))⟩, ⟨none, (some 19), (.iaddr 1 (.t 17) (.t 18))⟩, ⟨none, (some 20), (.load none (.t 19))⟩, ⟨none, (some 21), (.mov (.t 1))⟩, ⟨none, (some 22), (.mov (.t 5))⟩, ⟨none, (some 23), (.iaddr 1 (.t 21) (.t 22))⟩, ⟨none, (some 24), (.load none (.t 23))⟩, ⟨none, (some 25), (.call 39 [(.t 20), (.t 24)])⟩, ⟨none, (some 26), (.un .not (.t 25))⟩]
def a9_5 : List (List Nat) := [[], [], [0, 1], [0, 1, 2], [], [], [4, 5], [4, 5, 6], [0, 1, 2, 3, 4, 5, 6, 7], [0, 1, 2, 3, 4, 5, 6, 7, 8]]
def n9_5 : Nat := 8 -- of 10
def g9_6 : List Gop := [⟨none, (some 4), (.mov (.k (.one (.bool .false))))⟩]
def g9_7 : List Gop := [⟨none, (some 15), (.mov (.t 5))⟩, ⟨none, (some 16), (.bin .add (.t 15) (.k (.one (.int .i64 1))))⟩, ⟨none, (some 5), (.mov (.t 16))⟩]
def g9_8 : List Gop := [⟨none, (some 4), (.mov (.k (.one (.bool .true))))⟩]
def i9 : Ir := (.seq (.region g9_0) (.seq (.seq (.region g9_1) (.cond (.t 10) (.seq (.region g9_2) .ret) .skip)) (.seq (.seq (.region g9_3) (.block 0 (.loop (.seq (.seq (.region g9_4) (.cond (.t 14) .skip (.exit 0))) (.seq (.block 1 (.seq (.draw [[], [], [0, 1], [2], [], [], [4, 5], [6], [3, 7], [8]] g9_5) (.cond (.t 26) (.seq (.region g9_6) .ret) .skip))) (.region g9_7)))))) (.seq (.region g9_8) .ret))))
theorem eqIntSS_ok (m : Mx) (hl : m.length ≤ 1048576) (hr : ∀ r ∈ m, r.length ≤ 1048576) : Meets Try.prog 9 [.one (.sl false 1 m.length (mxR m)), .one (.sl false 1 m.length (mxR m))] (.w (.one (.bool true))) [.one .hole, .one .hole] := by
  refine meets_go (ir := i9) (fn := Try.f9) (rx := [(.tmp 4)]) rfl rfl (by rfl) (by rfl) (by exact Nat.le_of_ble_eq_true rfl) ?_
  simp (maxSteps := 9000000) -implicitDefEqProofs -dsimp (disch := omega) only [go_sem, g9_0, g9_1, g9_2, g9_3, g9_4, g9_5, a9_5, n9_5, g9_6, g9_7, g9_8, i9, Nat.reduceEqDiff, Nat.reduceAdd, Nat.reduceMul, Nat.reduceLeDiff, Nat.reduceBEq, Nat.reduceBNe, Int.reduceEq, ↓reduceIte, reduceCtorEq]
  refine loop_n m.length (fun i => ⟨[(5, .w (.one (.int .i64 (i : Nat)))), (1, .w (.one (.hs 1 [] 0 1 m.length))), (0, .w (.one (.hs 0 [] 0 1 m.length)))], [(1, .sl false 1 m.length (mxR m)), (0, .sl false 1 m.length (mxR m))], [.one (.hs 0 [] 0 1 m.length), .one (.hs 1 [] 0 1 m.length)]⟩) (fun i => True) ?_ trivial ?_
  · exact (imp_sub (by simp (maxSteps := 9000000) -implicitDefEqProofs -dsimp (disch := omega) only [go_sem, Nat.reduceEqDiff, Nat.reduceAdd, Nat.reduceMul, Nat.reduceLeDiff, Nat.reduceBEq, Nat.reduceBNe, Int.reduceEq, ↓reduceIte, reduceCtorEq]) (by simp (maxSteps := 9000000) -implicitDefEqProofs -dsimp (disch := omega) only [go_sem, Nat.reduceEqDiff, Nat.reduceAdd, Nat.reduceMul, Nat.reduceLeDiff, Nat.reduceBEq, Nat.reduceBNe, Int.reduceEq, ↓reduceIte, reduceCtorEq]) rfl)
  · intro i hi _
    simp (maxSteps := 9000000) -implicitDefEqProofs -dsimp (disch := omega) only [go_sem, Nat.reduceEqDiff, Nat.reduceAdd, Nat.reduceMul, Nat.reduceLeDiff, Nat.reduceBEq, Nat.reduceBNe, Int.reduceEq, ↓reduceIte, reduceCtorEq]
    refine brP_i (fun h1 => ?_) (fun h1 => ?_)
    · have hlt : i < m.length := by omega
      have z1 := mxR_get hlt
      have hq : (m.getD i default).length ≤ 1048576 := by
        rw [List.getD_eq_getElem?_getD, List.getElem?_eq_getElem hlt]; exact hr _ (List.getElem_mem hlt)
      have he := eqIntS_ok (m.getD i default) (m.getD i default) (by omega)
      rw [decide_eq_true rfl] at he
      have q1 := cut_mapI (l := m.getD i default) (n := (m.getD i default).length) (Nat.le_refl _)
      simp (maxSteps := 9000000) -implicitDefEqProofs -dsimp (disch := omega) only [go_sem, Nat.reduceEqDiff, Nat.reduceAdd, Nat.reduceMul, Nat.reduceLeDiff, Nat.reduceBEq, Nat.reduceBNe, Int.reduceEq, ↓reduceIte, reduceCtorEq]
      refine draw_go n9_5 a9_5 (by decide +kernel) ?_
      simp (maxSteps := 9000000) -implicitDefEqProofs -dsimp (disch := omega) only [go_sem, n9_5, a9_5, z1, Nat.reduceEqDiff, Nat.reduceAdd, Nat.reduceMul, Nat.reduceLeDiff, Nat.reduceBEq, Nat.reduceBNe, Int.reduceEq, ↓reduceIte, reduceCtorEq]
      refine call_go true he ?_
      simp (maxSteps := 9000000) -implicitDefEqProofs -dsimp (disch := omega) only [go_sem, n9_5, a9_5, z1, q1, Nat.reduceEqDiff, Nat.reduceAdd, Nat.reduceMul, Nat.reduceLeDiff, Nat.reduceBEq, Nat.reduceBNe, Int.reduceEq, ↓reduceIte, reduceCtorEq]
      exact ⟨hlt, (imp_sub (by simp (maxSteps := 9000000) -implicitDefEqProofs -dsimp (disch := omega) only [go_sem, n9_5, a9_5, Nat.reduceEqDiff, Nat.reduceAdd, Nat.reduceMul, Nat.reduceLeDiff, Nat.reduceBEq, Nat.reduceBNe, Int.reduceEq, ↓reduceIte, reduceCtorEq]) (by simp (maxSteps := 9000000) -implicitDefEqProofs -dsimp (disch := omega) only [go_sem, n9_5, a9_5, Nat.reduceEqDiff, Nat.reduceAdd, Nat.reduceMul, Nat.reduceLeDiff, Nat.reduceBEq, Nat.reduceBNe, Int.reduceEq, ↓reduceIte, reduceCtorEq]) rfl)⟩
    · simp (maxSteps := 9000000) -implicitDefEqProofs -dsimp (disch := omega) only [go_sem, n9_5, a9_5, Nat.reduceEqDiff, Nat.reduceAdd, Nat.reduceMul, Nat.reduceLeDiff, Nat.reduceBEq, Nat.reduceBNe, Int.reduceEq, ↓reduceIte, reduceCtorEq]
theorem eqIntSS_nil : Meets Try.prog 9 [.one (.sl false 0 0 []), .one (.sl false 0 0 [])] (.w (.one (.bool true))) [.one .hole, .one .hole] := by
  refine meets_go (ir := i9) (fn := Try.f9) (rx := [(.tmp 4)]) rfl rfl (by rfl) (by rfl) (by exact Nat.le_of_ble_eq_true rfl) ?_
  simp (maxSteps := 9000000) -implicitDefEqProofs -dsimp (disch := omega) only [go_sem, g9_0, g9_1, g9_2, g9_3, g9_4, g9_5, a9_5, n9_5, g9_6, g9_7, g9_8, i9, Nat.reduceEqDiff, Nat.reduceAdd, Nat.reduceMul, Nat.reduceLeDiff, Nat.reduceBEq, Nat.reduceBNe, Int.reduceEq, ↓reduceIte, reduceCtorEq]
  refine loop_n 0 (fun i => ⟨[(5, .w (.one (.int .i64 (i : Nat)))), (1, .w (.one .nil)), (0, .w (.one .nil))], [], [.one .nil, .one .nil]⟩) (fun i => True) ?_ trivial ?_
  · exact (imp_sub (by simp (maxSteps := 9000000) -implicitDefEqProofs -dsimp (disch := omega) only [go_sem, Nat.reduceEqDiff, Nat.reduceAdd, Nat.reduceMul, Nat.reduceLeDiff, Nat.reduceBEq, Nat.reduceBNe, Int.reduceEq, ↓reduceIte, reduceCtorEq]) (by simp (maxSteps := 9000000) -implicitDefEqProofs -dsimp (disch := omega) only [go_sem, Nat.reduceEqDiff, Nat.reduceAdd, Nat.reduceMul, Nat.reduceLeDiff, Nat.reduceBEq, Nat.reduceBNe, Int.reduceEq, ↓reduceIte, reduceCtorEq]) rfl)
  · intro i hi _
    obtain rfl : i = 0 := by omega
    simp (maxSteps := 9000000) -implicitDefEqProofs -dsimp (disch := omega) only [go_sem, Nat.reduceEqDiff, Nat.reduceAdd, Nat.reduceMul, Nat.reduceLeDiff, Nat.reduceBEq, Nat.reduceBNe, Int.reduceEq, ↓reduceIte, reduceCtorEq]
    refine brP_i (fun h1 => by omega) (fun h1 => ?_)
    simp (maxSteps := 9000000) -implicitDefEqProofs -dsimp (disch := omega) only [go_sem, Nat.reduceEqDiff, Nat.reduceAdd, Nat.reduceMul, Nat.reduceLeDiff, Nat.reduceBEq, Nat.reduceBNe, Int.reduceEq, ↓reduceIte, reduceCtorEq]
def g10_0 : List Gop := [⟨none, (some 4), (.mov (.k (.one (.int .i64 0))))⟩]
def g10_1 : List Gop := [⟨none, (some 5), (.mov (.k (.one (.int .i64 0))))⟩]
def g10_2 : List Gop := [⟨none, (some 6), (.mov (.t 5))⟩, ⟨none, (some 7), (.mov (.t 0))⟩, ⟨none, (some 8), (.len (.t 7))⟩, ⟨none, (some 9), (.bin .lss (.t 6) (.t 8))⟩]
def g10_3 : List Gop := [⟨none, (some 12), (.mov (.t 0))⟩, ⟨none, (some 13), (.mov (.t 5))⟩, ⟨none, (some 14), (.iaddr 1 (.t 12) (.t 13))⟩, ⟨none, (some 15), (.load none (.t 14))⟩, ⟨none, (some 16), (.mov (.t 1))⟩, ⟨none, (some 17), (.call 40 [(.t 15), (.t 16)])⟩, ⟨none, (some 1), (.mov (.t 17))⟩]
def g10_4 : List Gop := [⟨none, (some 10), (.mov (.t 5))⟩, ⟨none, (some 11), (.bin .add (.t 10) (.k (.one (.int .i64 1))))⟩, ⟨none, (some 5), (.mov (.t 11))⟩]
def g10_5 : List Gop := [⟨none, (some 18), (.mov (.t 1))⟩, ⟨none, (some 4), (.mov (.t 18))⟩]
def i10 : Ir := (.seq (.region g10_0) (.seq (.seq (.region g10_1) (.block 0 (.loop (.seq (.seq (.region g10_2) (.cond (.t 9) .skip (.exit 0))) (.seq (.block 1 (.region g10_3)) (.region g10_4)))))) (.seq (.region g10_5) .ret)))
/-- rows that are marked, one behind the other -/
def mkR (k : Int) (w i : Nat) : List Int := (List.range w).map fun j : Nat => k + ((i * w : Nat) : Int) + (j : Int)
theorem mkR_len {k : Int} {w i : Nat} : (mkR k w i).length = w := by simp [mkR]
theorem mxO_set {m : Mx} {i c : Nat} {r : List Int} (hc : r.length = c) : (mxO m).set i (.sl true 1 c (r.map (T.int .i64))) = mxO (m.set i r) := by
  subst hc; unfold mxO; rw [List.map_set]
theorem mxO_at {m : Mx} {i c : Nat} (h : i < m.length) (hc : (m.getD i default).length = c) : (mxO m)[i]? = some (.sl true 1 c ((m.getD i default).map (T.int .i64))) := by rw [mxO_get h, hc]
theorem markIntSS_ok (m : Mx) (w : Nat) (hm : Wf m w) (hl : m.length ≤ 1024) (hw : w ≤ 1024) (k : Int) (h0 : 0 < k) (hk : k ≤ 1048576) : Meets Try.prog 10 [.one (.sl true 1 m.length (mxO m)), .one (.int .i64 k)] (.w (.one (.int .i64 (k + ((m.length * w : Nat) : Int))))) [.one (.sl true 1 m.length (mxO ((List.range m.length).map (mkR k w)))), .one .hole] := by
  refine meets_go (ir := i10) (fn := Try.f10) (rx := [(.tmp 4)]) rfl rfl (by rfl) (by rfl) (by exact Nat.le_of_ble_eq_true rfl) ?_
  simp (maxSteps := 9000000) -implicitDefEqProofs -dsimp (disch := omega) only [go_sem, g10_0, g10_1, g10_2, g10_3, g10_4, g10_5, i10, Nat.reduceEqDiff, Nat.reduceAdd, Nat.reduceMul, Nat.reduceLeDiff, Nat.reduceBEq, Nat.reduceBNe, Int.reduceEq, ↓reduceIte, reduceCtorEq]
  refine loop_n m.length (fun i => ⟨[(5, .w (.one (.int .i64 (i : Nat)))), (1, .w (.one (.int .i64 (k + ((i * w : Nat) : Int))))), (0, .w (.one (.hs 0 [] 0 1 m.length)))], [(0, .sl true 1 m.length (mxO (mixL (mkR k w) m i)))], [.one (.hs 0 [] 0 1 m.length), .one (.int .i64 k)]⟩) (fun i => True) ?_ trivial ?_
  · have e : k + ((0 * w : Nat) : Int) = k := by simp
    exact (imp_sub (by simp (maxSteps := 9000000) -implicitDefEqProofs -dsimp (disch := omega) only [go_sem, mixL_0, e, Nat.zero_mul, Int.natCast_zero, Int.add_zero, Nat.reduceEqDiff, Nat.reduceAdd, Nat.reduceMul, Nat.reduceLeDiff, Nat.reduceBEq, Nat.reduceBNe, Int.reduceEq, ↓reduceIte, reduceCtorEq]) (by simp (maxSteps := 9000000) -implicitDefEqProofs -dsimp (disch := omega) only [go_sem, mixL_0, e, Nat.zero_mul, Int.natCast_zero, Int.add_zero, Nat.reduceEqDiff, Nat.reduceAdd, Nat.reduceMul, Nat.reduceLeDiff, Nat.reduceBEq, Nat.reduceBNe, Int.reduceEq, ↓reduceIte, reduceCtorEq]) rfl)
  · intro i hi _
    have L := mixL_len (g := mkR k w) (a := m) (i := i)
    have hiw : i * w ≤ 1024 * 1024 := Nat.mul_le_mul (by omega) hw
    simp (maxSteps := 9000000) -implicitDefEqProofs -dsimp (disch := omega) only [go_sem, Nat.reduceEqDiff, Nat.reduceAdd, Nat.reduceMul, Nat.reduceLeDiff, Nat.reduceBEq, Nat.reduceBNe, Int.reduceEq, ↓reduceIte, reduceCtorEq]
    refine brP_i (fun h1 => ?_) (fun h1 => ?_)
    · have hlt : i < m.length := by omega
      have g1 := mixL_get (g := mkR k w) (a := m) hlt
      have rl := (getD_row hm hlt).1
      have z1 := mxO_at (m := mixL (mkR k w) m i) (i := i) (c := w) (by omega) (by rw [g1]; exact rl)
      rw [g1] at z1
      have hc := markIntS_ok (m.getD i default) (k + ((i * w : Nat) : Int)) (by omega) (by omega) (by omega)
      simp only [rl] at hc
      have e1 : k + ((i * w : Nat) : Int) + (w : Int) = k + (((i + 1) * w : Nat) : Int) := by rw [Nat.add_mul]; omega
      have e2 : ((List.range w).map fun j : Nat => k + ((i * w : Nat) : Int) + (j : Int)) = mkR k w i := rfl
      rw [e1, e2] at hc
      simp only [mkR_len] at hc
      have s1 := mixL_set (g := mkR k w) (a := m) hlt
      have q1 := cut_mapI (l := m.getD i default) (n := w) (by omega)
      simp (maxSteps := 9000000) -implicitDefEqProofs -dsimp (disch := omega) only [go_sem, z1, Nat.reduceEqDiff, Nat.reduceAdd, Nat.reduceMul, Nat.reduceLeDiff, Nat.reduceBEq, Nat.reduceBNe, Int.reduceEq, ↓reduceIte, reduceCtorEq]
      refine call_go true hc ?_
      have s2 : ((mxO (mixL (mkR k w) m i)).set i T.hole)[i]? = some T.hole := by simp [mxO_len, L, hlt]
      simp (maxSteps := 9000000) -implicitDefEqProofs -dsimp (disch := omega) only [go_sem, z1, q1, s2, List.set_set, mxO_set mkR_len, s1, Nat.reduceEqDiff, Nat.reduceAdd, Nat.reduceMul, Nat.reduceLeDiff, Nat.reduceBEq, Nat.reduceBNe, Int.reduceEq, ↓reduceIte, reduceCtorEq]
      exact ⟨hlt, (imp_sub (by simp (maxSteps := 9000000) -implicitDefEqProofs -dsimp (disch := omega) only [go_sem, Nat.reduceEqDiff, Nat.reduceAdd, Nat.reduceMul, Nat.reduceLeDiff, Nat.reduceBEq, Nat.reduceBNe, Int.reduceEq, ↓reduceIte, reduceCtorEq]) (by simp (maxSteps := 9000000) -implicitDefEqProofs -dsimp (disch := omega) only [go_sem, Nat.reduceEqDiff, Nat.reduceAdd, Nat.reduceMul, Nat.reduceLeDiff, Nat.reduceBEq, Nat.reduceBNe, Int.reduceEq, ↓reduceIte, reduceCtorEq]) rfl)⟩
    · obtain rfl : i = m.length := by omega
      have q2 : cut (mxO ((List.range m.length).map (mkR k w))) 0 m.length = mxO ((List.range m.length).map (mkR k w)) := mxO_cut (by simp)
      simp (maxSteps := 9000000) -implicitDefEqProofs -dsimp (disch := omega) only [go_sem, mixL_end, q2, Nat.reduceEqDiff, Nat.reduceAdd, Nat.reduceMul, Nat.reduceLeDiff, Nat.reduceBEq, Nat.reduceBNe, Int.reduceEq, ↓reduceIte, reduceCtorEq]
def g11_0 : List Gop := [⟨none, (some 4), (.mov (.k (.one (.int .i64 0))))⟩]
def g11_1 : List Gop := [⟨none, (some 5), (.mov (.k (.one (.int .i64 0))))⟩]
def g11_2 : List Gop := [⟨none, (some 6), (.mov (.t 5))⟩, ⟨none, (some 7), (.mov (.t 0))⟩, ⟨none, (some 8), (.len (.t 7))⟩, ⟨none, (some 9), (.bin .lss (.t 6) (.t 8))⟩]
def g11_3 : List Gop := [⟨none, (some 12), (.mov (.t 0))⟩, ⟨none, (some 13), (.mov (.t 5))⟩, ⟨none, (some 14), (.iaddr 1 (.t 12) (.t 13))⟩, ⟨none, (some 15), (.load none (.t 14))⟩, ⟨none, (some 16), (.mov (.t 1))⟩, ⟨none, (some 17), (.call 41 [(.t 15), (.t 16)])⟩, ⟨none, (some 1), (.mov (.t 17))⟩]
def g11_4 : List Gop := [⟨none, (some 18), (.mov (.t 1))⟩, ⟨none, (some 19), (.bin .lss (.t 18) (.k (.one (.int .i64 0))))⟩]
def g11_5 : List Gop := [⟨none, (some 4), (.mov (.k (.one (.int .i64 (-1)))))⟩]
def g11_6 : List Gop := [⟨none, (some 10), (.mov (.t 5))⟩, ⟨none, (some 11), (.bin .add (.t 10) (.k (.one (.int .i64 1))))⟩, ⟨none, (some 5), (.mov (.t 11))⟩]
def g11_7 : List Gop := [⟨none, (some 20), (.mov (.t 1))⟩, ⟨none, (some 4), (.mov (.t 20))⟩]
def i11 : Ir := (.seq (.region g11_0) (.seq (.seq (.region g11_1) (.block 0 (.loop (.seq (.seq (.region g11_2) (.cond (.t 9) .skip (.exit 0))) (.seq (.block 1 (.seq (.region g11_3) (.seq (.region g11_4) (.cond (.t 19) (.seq (.region g11_5) .ret) .skip)))) (.region g11_6)))))) (.seq (.region g11_7) .ret)))
theorem mkM_get {k : Int} {w n i : Nat} (h : i < n) : ((List.range n).map (mkR k w)).getD i default = mkR k w i := by
  rw [List.getD_eq_getElem?_getD, List.getElem?_map, List.getElem?_range h]; rfl
theorem heldIntSS_ok (n w : Nat) (hl : n ≤ 1024) (hw : w ≤ 1024) (k : Int) (h0 : 0 < k) (hk : k ≤ 1048576) : Meets Try.prog 11 [.one (.sl false 1 n (mxR ((List.range n).map (mkR k w)))), .one (.int .i64 k)] (.w (.one (.int .i64 (k + ((n * w : Nat) : Int))))) [.one .hole, .one .hole] := by
  have hL : ((List.range n).map (mkR k w)).length = n := by simp
  refine meets_go (ir := i11) (fn := Try.f11) (rx := [(.tmp 4)]) rfl rfl (by rfl) (by rfl) (by exact Nat.le_of_ble_eq_true rfl) ?_
  simp (maxSteps := 9000000) -implicitDefEqProofs -dsimp (disch := omega) only [go_sem, g11_0, g11_1, g11_2, g11_3, g11_4, g11_5, g11_6, g11_7, i11, Nat.reduceEqDiff, Nat.reduceAdd, Nat.reduceMul, Nat.reduceLeDiff, Nat.reduceBEq, Nat.reduceBNe, Int.reduceEq, ↓reduceIte, reduceCtorEq]
  refine loop_n n (fun i => ⟨[(5, .w (.one (.int .i64 (i : Nat)))), (1, .w (.one (.int .i64 (k + ((i * w : Nat) : Int))))), (0, .w (.one (.hs 0 [] 0 1 n)))], [(0, .sl false 1 n (mxR ((List.range n).map (mkR k w))))], [.one (.hs 0 [] 0 1 n), .one (.int .i64 k)]⟩) (fun i => True) ?_ trivial ?_
  · have e : k + ((0 * w : Nat) : Int) = k := by simp
    exact (imp_sub (by simp (maxSteps := 9000000) -implicitDefEqProofs -dsimp (disch := omega) only [go_sem, e, Nat.zero_mul, Int.natCast_zero, Int.add_zero, Nat.reduceEqDiff, Nat.reduceAdd, Nat.reduceMul, Nat.reduceLeDiff, Nat.reduceBEq, Nat.reduceBNe, Int.reduceEq, ↓reduceIte, reduceCtorEq]) (by simp (maxSteps := 9000000) -implicitDefEqProofs -dsimp (disch := omega) only [go_sem, e, Nat.zero_mul, Int.natCast_zero, Int.add_zero, Nat.reduceEqDiff, Nat.reduceAdd, Nat.reduceMul, Nat.reduceLeDiff, Nat.reduceBEq, Nat.reduceBNe, Int.reduceEq, ↓reduceIte, reduceCtorEq]) rfl)
  · intro i hi _
    have hiw : i * w ≤ 1024 * 1024 := Nat.mul_le_mul (by omega) hw
    simp (maxSteps := 9000000) -implicitDefEqProofs -dsimp (disch := omega) only [go_sem, Nat.reduceEqDiff, Nat.reduceAdd, Nat.reduceMul, Nat.reduceLeDiff, Nat.reduceBEq, Nat.reduceBNe, Int.reduceEq, ↓reduceIte, reduceCtorEq]
    refine brP_i (fun h1 => ?_) (fun h1 => ?_)
    · have hlt : i < n := by omega
      have z1 := mxR_at (m := (List.range n).map (mkR k w)) (i := i) (c := w) (by omega) (by rw [mkM_get hlt, mkR_len])
      rw [mkM_get hlt] at z1
      have hc := heldIntS_ok w (k + ((i * w : Nat) : Int)) (by omega) (by omega) (by omega)
      have e1 : k + ((i * w : Nat) : Int) + (w : Int) = k + (((i + 1) * w : Nat) : Int) := by rw [Nat.add_mul]; omega
      have e2 : ((List.range w).map fun j : Nat => k + ((i * w : Nat) : Int) + (j : Int)) = mkR k w i := rfl
      rw [e1, e2] at hc
      have q1 := cut_mapI (l := mkR k w i) (n := w) (by rw [mkR_len]; exact Nat.le_refl _)
      have hp : ¬ k + (((i + 1) * w : Nat) : Int) < 0 := by omega
      simp (maxSteps := 9000000) -implicitDefEqProofs -dsimp (disch := omega) only [go_sem, z1, Nat.reduceEqDiff, Nat.reduceAdd, Nat.reduceMul, Nat.reduceLeDiff, Nat.reduceBEq, Nat.reduceBNe, Int.reduceEq, ↓reduceIte, reduceCtorEq]
      refine call_go true hc ?_
      simp (maxSteps := 9000000) -implicitDefEqProofs -dsimp (disch := omega) only [go_sem, z1, q1, Nat.reduceEqDiff, Nat.reduceAdd, Nat.reduceMul, Nat.reduceLeDiff, Nat.reduceBEq, Nat.reduceBNe, Int.reduceEq, ↓reduceIte, reduceCtorEq]
      refine brP_i (fun h2 => absurd h2 hp) (fun h2 => ?_)
      simp (maxSteps := 9000000) -implicitDefEqProofs -dsimp (disch := omega) only [go_sem, Nat.reduceEqDiff, Nat.reduceAdd, Nat.reduceMul, Nat.reduceLeDiff, Nat.reduceBEq, Nat.reduceBNe, Int.reduceEq, ↓reduceIte, reduceCtorEq]
      exact ⟨hlt, (imp_sub (by simp (maxSteps := 9000000) -implicitDefEqProofs -dsimp (disch := omega) only [go_sem, Nat.reduceEqDiff, Nat.reduceAdd, Nat.reduceMul, Nat.reduceLeDiff, Nat.reduceBEq, Nat.reduceBNe, Int.reduceEq, ↓reduceIte, reduceCtorEq]) (by simp (maxSteps := 9000000) -implicitDefEqProofs -dsimp (disch := omega) only [go_sem, Nat.reduceEqDiff, Nat.reduceAdd, Nat.reduceMul, Nat.reduceLeDiff, Nat.reduceBEq, Nat.reduceBNe, Int.reduceEq, ↓reduceIte, reduceCtorEq]) rfl)⟩
    · obtain rfl : i = n := by omega
      simp (maxSteps := 9000000) -implicitDefEqProofs -dsimp (disch := omega) only [go_sem, Nat.reduceEqDiff, Nat.reduceAdd, Nat.reduceMul, Nat.reduceLeDiff, Nat.reduceBEq, Nat.reduceBNe, Int.reduceEq, ↓reduceIte, reduceCtorEq]
end Go.Proofs.YtplhecjngmkngaaT
