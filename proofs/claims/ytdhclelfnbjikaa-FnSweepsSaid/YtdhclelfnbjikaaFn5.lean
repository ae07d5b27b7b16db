/- Functions of the program, each with what it returns and leaves. No condition. -/
import Derived.Test.YtdhclelfnbjikaaFn4
set_option linter.all false
set_option linter.unusedVariables false
set_option linter.unusedSimpArgs false
set_option linter.unusedSectionVars false
set_option linter.unnecessarySimpa false
set_option linter.deprecated false
/- Functions of the program as contracts: a sweep, by the program. No condition. -/
set_option maxRecDepth 100000
set_option maxHeartbeats 8000000
set_option linter.unusedSimpArgs false
set_option linter.unusedVariables false
namespace Go.Proofs.YtdhclelfnbjikaaT
open Go
def g40_0 : List Gop := [⟨none, (some 1), (.box (.t 0))⟩, ⟨none, (some 2), (.alloc [.nil, .nil, .nil])⟩, ⟨none, (some 3), (.mov (.k (.one .nil)))⟩, ⟨none, (some 4), (.mov (.k (.one (.bool .false))))⟩]
def g40_1 : List Gop := [⟨none, (some 9), (.faddr (.t 1) 0)⟩, ⟨none, (some 10), (.load none (.t 9))⟩, ⟨none, (some 11), (.faddr (.t 1) 1)⟩, ⟨none, (some 12), (.load none (.t 11))⟩, ⟨none, (some 13), (.call 59 [(.t 10), (.t 12)])⟩, ⟨none, (some 14), (.un .not (.t 13))⟩]
def g40_2 : List Gop := [⟨none, (some 15), (.build [.nil, .nil, .nil] [])⟩, ⟨none, none, (.store 3 (.t 2) (.t 15))⟩, ⟨none, (some 3), (.mov (.k (.one .nil)))⟩, ⟨none, (some 4), (.mov (.k (.one (.bool .false))))⟩]
def g40_3 : List Gop := [⟨none, (some 16), (.load (some 3) (.t 1))⟩, ⟨none, (some 17), (.call 66 [(.t 16)])⟩, ⟨none, (some 5), (.alloc [.nil, .nil, .nil])⟩, ⟨none, none, (.store 3 (.t 5) (.t 17))⟩]
def g40_4 : List Gop := [⟨none, (some 18), (.lit 1 0 [(.int .i64 0)] [])⟩, ⟨none, (some 6), (.mov (.t 18))⟩]
def g40_5 : List Gop := [⟨none, (some 19), (.load (some 3) (.t 1))⟩, ⟨none, (some 20), (.call 69 [(.t 19)])⟩, ⟨none, (some 21), (.len (.t 20))⟩, ⟨none, (some 22), (.mov (.k (.one (.int .i64 0))))⟩]
def g40_6 : List Gop := [⟨none, (some 23), (.bin .lss (.t 22) (.t 21))⟩]
def g40_7 : List Gop := [⟨none, (some 24), (.mov (.t 22))⟩, ⟨none, (some 25), (.iaddr 1 (.t 20) (.t 22))⟩, ⟨none, (some 26), (.load none (.t 25))⟩, ⟨none, (some 7), (.mov (.t 24))⟩, ⟨none, (some 8), (.mov (.t 26))⟩]
def g40_8 : List Gop := [⟨none, (some 27), (.mov (.t 8))⟩, ⟨none, (some 28), (.un .not (.t 27))⟩]
def g40_9 : List Gop := [⟨none, (some 29), (.faddr (.t 1) 0)⟩, ⟨none, (some 30), (.load none (.t 29))⟩, ⟨none, (some 31), (.mov (.t 7))⟩, ⟨none, (some 32), (.iaddr 2 (.t 30) (.t 31))⟩, ⟨none, (some 33), (.faddr (.t 32) 1)⟩, ⟨none, (some 34), (.load none (.t 33))⟩, ⟨none, (some 35), (.un .not (.t 34))⟩]
def g40_10 : List Gop := [⟨none, (some 36), (.mov (.t 6))⟩, ⟨none, (some 37), (.mov (.t 7))⟩, ⟨none, (some 38), (.lit 1 1 [(.int .i64 0)] [(0, (.t 37))])⟩, ⟨none, (some 39), (.app 1 8 [(.int .i64 0)] (.t 36) (.t 38))⟩, ⟨none, (some 6), (.mov (.t 39))⟩]
def g40_11 : List Gop := [⟨none, (some 40), (.faddr (.t 5) 0)⟩, ⟨none, (some 41), (.load none (.t 40))⟩, ⟨none, (some 42), (.mov (.t 7))⟩, ⟨none, (some 43), (.build [.nil, (.bool .false)] [(1, (1, (.k (.one (.bool .true)))))])⟩, ⟨none, (some 44), (.iaddr 2 (.t 41) (.t 42))⟩, ⟨none, none, (.store 2 (.t 44) (.t 43))⟩]
def g40_12 : List Gop := [⟨none, (some 45), (.bin .add (.t 22) (.k (.one (.int .i64 1))))⟩, ⟨none, (some 22), (.mov (.t 45))⟩]
def g40_13 : List Gop := [⟨none, (some 46), (.faddr (.t 5) 0)⟩, ⟨none, (some 47), (.load none (.t 46))⟩, ⟨none, (some 48), (.faddr (.t 5) 1)⟩, ⟨none, (some 49), (.load none (.t 48))⟩, ⟨none, (some 50), (.call 60 [(.t 47), (.t 49)])⟩, ⟨none, (some 51), (.faddr (.t 5) 2)⟩, ⟨none, none, (.store 1 (.t 51) (.t 50))⟩]
def g40_14 : List Gop := [⟨none, (some 52), (.load (some 3) (.t 5))⟩, ⟨none, (some 53), (.mov (.t 6))⟩, ⟨none, none, (.store 3 (.t 2) (.t 52))⟩, ⟨none, (some 3), (.mov (.t 53))⟩, ⟨none, (some 4), (.mov (.k (.one (.bool .true))))⟩]
def i40 : Ir := (.seq (.region g40_0) (.seq (.seq (.region g40_1) (.cond (.t 14) (.seq (.region g40_2) .ret) .skip)) (.seq (.region g40_3) (.seq (.region g40_4) (.seq (.seq (.region g40_5) (.block 0 (.loop (.seq (.region g40_6) (.seq (.cond (.t 23) .skip (.exit 0)) (.seq (.block 1 (.seq (.region g40_7) (.seq (.region g40_8) (.cond (.t 28) (.seq (.seq (.region g40_9) (.cond (.t 35) (.region g40_10) .skip)) (.region g40_11)) .skip)))) (.region g40_12))))))) (.seq (.region g40_13) (.seq (.region g40_14) .ret)))))))
theorem implSweep_ok (g : Gr) (s : Small g) : Meets Try.prog 40 [.agg [.sl false 2 g.n.length (ndR g.n), (.sl false 1 g.r.length (g.r.map (T.int .i64))), (.sl false 1 g.c.length (g.c.map (T.int .i64)))]] (SwRes g) [.agg [.hole, .hole, .hole]] := by
  have M1 := areNodes_ok g.n g.r s.n s.h s.r
  by_cases hT : NodesOk g.n g.r
  · have h14 := hT.2.2.1
    rw [decide_eq_true hT] at M1
    rw [SwRes, if_pos hT]
    refine meets_go (ir := i40) (fn := Try.f40) (rx := [(.cell 2 (some 3)), (.tmp 3), (.tmp 4)]) rfl rfl (by rfl) (by rfl) (by exact Nat.le_of_ble_eq_true rfl) ?_
    simp (maxSteps := 9000000) -implicitDefEqProofs -dsimp (disch := omega) only [go_sem, g40_0, g40_1, g40_2, g40_3, g40_4, g40_5, g40_6, g40_7, g40_8, g40_9, g40_10, g40_11, g40_12, g40_13, g40_14, i40, Nat.reduceEqDiff, Nat.reduceAdd, Nat.reduceMul, Nat.reduceLeDiff, Nat.reduceBEq, Nat.reduceBNe, Int.reduceEq, ↓reduceIte, reduceCtorEq]
    refine call_go true M1 ?_
    simp (maxSteps := 9000000) -implicitDefEqProofs -dsimp (disch := omega) only [go_sem, lt_T, lt_F, le_T, le_F, eq_T, eq_F, and_F, Nat.reduceEqDiff, Nat.reduceAdd, Nat.reduceMul, Nat.reduceLeDiff, Nat.reduceBEq, Nat.reduceBNe, Int.reduceEq, ↓reduceIte, reduceCtorEq]
    refine call_go true (ownGraph_ok g s) ?_
    simp (maxSteps := 9000000) -implicitDefEqProofs -dsimp (disch := omega) only [go_sem, lt_T, lt_F, le_T, le_F, eq_T, eq_F, and_F, Nat.reduceEqDiff, Nat.reduceAdd, Nat.reduceMul, Nat.reduceLeDiff, Nat.reduceBEq, Nat.reduceBNe, Int.reduceEq, ↓reduceIte, reduceCtorEq]
    refine call_go true (reached_ok g hT s.c) ?_
    simp (maxSteps := 9000000) -implicitDefEqProofs -dsimp (disch := omega) only [go_sem, lt_T, lt_F, le_T, le_F, eq_T, eq_F, and_F, Nat.reduceEqDiff, Nat.reduceAdd, Nat.reduceMul, Nat.reduceLeDiff, Nat.reduceBEq, Nat.reduceBNe, Int.reduceEq, ↓reduceIte, reduceCtorEq]
    refine loop_n g.n.length (fun i => ⟨[(22, .w (.one (.int .i64 (i : Nat)))), (21, .w (.one (.int .i64 g.n.length))), (20, .w (.one (.hs 9 [] 0 1 g.n.length))), (6, .w (.one (.hs 10 [] 0 1 (swL g.n g.r i).length))), (5, .w (.one (.hp 8 [] 0))), (2, .w (.one (.hp 4 [] 0))), (1, .w (.one (.hp 3 [] 0)))],
      [(10, (.sl true 1 (swL g.n g.r i).length ((swL g.n g.r i).map (T.int .i64)))), (9, .sl true 1 g.n.length ((bits g.n g.r).map T.bool)), (8, .bx true [.sl true 2 g.n.length (ndR (mixL (swG g.n g.r) g.n i)), (.sl true 1 g.r.length (g.r.map (T.int .i64))), (.sl true 1 g.c.length (g.c.map (T.int .i64)))]), (4, .bx true [.sl true 0 0 [], .sl true 0 0 [], .sl true 0 0 []]), (3, .bx true [.sl false 2 g.n.length (ndR g.n), (.sl false 1 g.r.length (g.r.map (T.int .i64))), (.sl false 1 g.c.length (g.c.map (T.int .i64)))])], [.agg [.hs 0 [] 0 2 g.n.length, .hs 1 [] 0 1 g.r.length, .hs 2 [] 0 1 g.c.length]]⟩) (fun i => True) ?_ trivial ?_
    · refine (imp_adopt 6 10 1 rfl rfl).trans ((imp_ros 8 [0] (t2 := .bx true [.sl true 2 g.n.length (ndR g.n), (.sl true 1 g.r.length (g.r.map (T.int .i64))), (.sl true 1 g.c.length (g.c.map (T.int .i64)))]) rfl rfl (by rw [ndO_ro]; rfl)).trans ?_)
      exact (imp_sub (by simp (maxSteps := 9000000) -implicitDefEqProofs -dsimp (disch := omega) only [go_sem, swL_0, mixL_0, Nat.reduceEqDiff, Nat.reduceAdd, Nat.reduceMul, Nat.reduceLeDiff, Nat.reduceBEq, Nat.reduceBNe, Int.reduceEq, ↓reduceIte, reduceCtorEq]) (by simp (maxSteps := 9000000) -implicitDefEqProofs -dsimp (disch := omega) only [go_sem, swL_0, mixL_0, Nat.reduceEqDiff, Nat.reduceAdd, Nat.reduceMul, Nat.reduceLeDiff, Nat.reduceBEq, Nat.reduceBNe, Int.reduceEq, ↓reduceIte, reduceCtorEq]) rfl)
    · intro i hi hJ
      have hsl := swL_len (n := g.n) (r := g.r) (i := i)
      by_cases h : i < g.n.length
      · have q1 : i < (mixL (swG g.n g.r) g.n i).length := by rw [mixL_len]; exact h
        have g1 := mixL_get (g := swG g.n g.r) h
        have b0 := ndR_0 q1
        have b1 := ndR_1 q1
        have r1 := ndR_1 h
        rw [g1] at b0 b1
        have hb : ((bits g.n g.r).map T.bool)[i]? = some (.bool (decide (Rch g.n g.r (i : Int)))) := by rw [List.getElem?_map, List.getElem?_eq_getElem (by rw [bits_len]; exact h)]; simp [bits]
        by_cases hr : Rch g.n g.r (i : Int)
        · rw [decide_eq_true hr] at hb
          have e2 := mixL_keep (g := swG g.n g.r) (a := g.n) (i := i) (by rw [swG, if_pos hr])
          have e3 := swL_no (n := g.n) (r := g.r) (i := i) (.inl hr)
          simp (maxSteps := 9000000) -implicitDefEqProofs -dsimp (disch := omega) only [go_sem, lt_T, lt_F, le_T, le_F, eq_T, eq_F, and_F, b0, b1, hb, Nat.reduceEqDiff, Nat.reduceAdd, Nat.reduceMul, Nat.reduceLeDiff, Nat.reduceBEq, Nat.reduceBNe, Int.reduceEq, ↓reduceIte, reduceCtorEq]
          exact ⟨h, (imp_sub (by simp (maxSteps := 9000000) -implicitDefEqProofs -dsimp (disch := omega) only [go_sem, ← e2, e3, Nat.reduceEqDiff, Nat.reduceAdd, Nat.reduceMul, Nat.reduceLeDiff, Nat.reduceBEq, Nat.reduceBNe, Int.reduceEq, ↓reduceIte, reduceCtorEq]) (by simp (maxSteps := 9000000) -implicitDefEqProofs -dsimp (disch := omega) only [go_sem, ← e2, e3, Nat.reduceEqDiff, Nat.reduceAdd, Nat.reduceMul, Nat.reduceLeDiff, Nat.reduceBEq, Nat.reduceBNe, Int.reduceEq, ↓reduceIte, reduceCtorEq]) rfl)⟩
        · rw [decide_eq_false hr] at hb
          cases hg : (g.n.getD i default).g with
          | true =>
            rw [hg] at b1 r1
            have e3 := swL_no (n := g.n) (r := g.r) (i := i) (.inr hg)
            have hlen : (ndR (mixL (swG g.n g.r) g.n i)).length = g.n.length * 2 := by rw [ndR_len, mixL_len]
            have e2 := mixL_set (g := swG g.n g.r) (a := g.n) (i := i) h
            have e4 : swG g.n g.r i = ⟨[], true⟩ := by rw [swG, if_neg hr]
            have eA : ((ndR (mixL (swG g.n g.r) g.n i)).set (i * 2) (.sl false 1 0 [])).set (i * 2 + 1) (.bool true) = ndR (mixL (swG g.n g.r) g.n (i + 1)) := by
              rw [← e2, e4]
              exact rows2_set (g0 := fun x : Nd => (.sl false 1 x.h.length (x.h.map (T.int .i64)))) (g1 := fun x : Nd => .bool x.g) (⟨[], true⟩ : Nd) q1
            generalize hL : ndR (mixL (swG g.n g.r) g.n i) = L at *
            generalize hL1 : ndR (mixL (swG g.n g.r) g.n (i + 1)) = L1 at *
            have b2 : (L.set (i * 2) (.sl true 0 0 []))[i * 2 + 1]? = some (.bool true) := by rw [List.getElem?_set_ne (by omega)]; exact b1
            have b3 : ((L.set (i * 2) (.sl true 0 0 [])).set (i * 2 + 1) (.bool true))[i * 2]? = some (.sl true 0 0 []) := by rw [List.getElem?_set_ne (by omega), List.getElem?_set_self (by omega)]
            have eB : (((L.set (i * 2) (.sl true 0 0 [])).set (i * 2 + 1) (.bool true)).set (i * 2) (.sl true 1 0 [])) = (L.set (i * 2) (.sl true 1 0 [])).set (i * 2 + 1) (.bool true) := by
              rw [List.set_comm _ _ (by omega), List.set_set]
            have b4 : ((L.set (i * 2) (.sl true 1 0 [])).set (i * 2 + 1) (.bool true))[i * 2]? = some (.sl true 1 0 []) := by rw [List.getElem?_set_ne (by omega), List.getElem?_set_self (by omega)]
            have eC : (((L.set (i * 2) (.sl true 1 0 [])).set (i * 2 + 1) (.bool true)).set (i * 2) (.sl false 1 0 [])) = L1 := by
              rw [List.set_comm _ _ (by omega), List.set_set]; exact eA
            simp (maxSteps := 9000000) -implicitDefEqProofs -dsimp (disch := omega) only [go_sem, lt_T, lt_F, le_T, le_F, eq_T, eq_F, and_F, b0, b1, b2, r1, hb, Nat.reduceEqDiff, Nat.reduceAdd, Nat.reduceMul, Nat.reduceLeDiff, Nat.reduceBEq, Nat.reduceBNe, Int.reduceEq, ↓reduceIte, reduceCtorEq]
            refine ⟨h, ?_⟩
            refine (imp_fix 8 [0] (i * 2) 1 (t2 := .bx true [.sl true 2 g.n.length ((L.set (i * 2) (.sl true 1 0 [])).set (i * 2 + 1) (.bool true)), (.sl true 1 g.r.length (g.r.map (T.int .i64))), (.sl true 1 g.c.length (g.c.map (T.int .i64)))]) rfl (by simp (maxSteps := 9000000) -implicitDefEqProofs -dsimp (disch := omega) only [go_sem, b3, Nat.reduceEqDiff, Nat.reduceAdd, Nat.reduceMul, Nat.reduceLeDiff, Nat.reduceBEq, Nat.reduceBNe, Int.reduceEq, ↓reduceIte, reduceCtorEq]) (by simp (maxSteps := 9000000) -implicitDefEqProofs -dsimp (disch := omega) only [go_sem, b3, eB, Nat.reduceEqDiff, Nat.reduceAdd, Nat.reduceMul, Nat.reduceLeDiff, Nat.reduceBEq, Nat.reduceBNe, Int.reduceEq, ↓reduceIte, reduceCtorEq])).trans ?_
            refine (imp_ro 8 [0, i * 2] (x := .sl true 1 0 []) (t2 := .bx true [.sl true 2 g.n.length L1, (.sl true 1 g.r.length (g.r.map (T.int .i64))), (.sl true 1 g.c.length (g.c.map (T.int .i64)))]) rfl (by simp (maxSteps := 9000000) -implicitDefEqProofs -dsimp (disch := omega) only [go_sem, b4, Nat.reduceEqDiff, Nat.reduceAdd, Nat.reduceMul, Nat.reduceLeDiff, Nat.reduceBEq, Nat.reduceBNe, Int.reduceEq, ↓reduceIte, reduceCtorEq]) (by simp (maxSteps := 9000000) -implicitDefEqProofs -dsimp (disch := omega) only [go_sem, b4, eC, Nat.reduceEqDiff, Nat.reduceAdd, Nat.reduceMul, Nat.reduceLeDiff, Nat.reduceBEq, Nat.reduceBNe, Int.reduceEq, ↓reduceIte, reduceCtorEq])).trans ?_
            exact (imp_sub (by simp (maxSteps := 9000000) -implicitDefEqProofs -dsimp (disch := omega) only [go_sem, e3, Nat.reduceEqDiff, Nat.reduceAdd, Nat.reduceMul, Nat.reduceLeDiff, Nat.reduceBEq, Nat.reduceBNe, Int.reduceEq, ↓reduceIte, reduceCtorEq]) (by simp (maxSteps := 9000000) -implicitDefEqProofs -dsimp (disch := omega) only [go_sem, e3, Nat.reduceEqDiff, Nat.reduceAdd, Nat.reduceMul, Nat.reduceLeDiff, Nat.reduceBEq, Nat.reduceBNe, Int.reduceEq, ↓reduceIte, reduceCtorEq]) rfl)
          | false =>
            rw [hg] at b1 r1
            have e3 := swL_yes hr hg
            have hlen : (ndR (mixL (swG g.n g.r) g.n i)).length = g.n.length * 2 := by rw [ndR_len, mixL_len]
            have e2 := mixL_set (g := swG g.n g.r) (a := g.n) (i := i) h
            have e4 : swG g.n g.r i = ⟨[], true⟩ := by rw [swG, if_neg hr]
            have eA : ((ndR (mixL (swG g.n g.r) g.n i)).set (i * 2) (.sl false 1 0 [])).set (i * 2 + 1) (.bool true) = ndR (mixL (swG g.n g.r) g.n (i + 1)) := by
              rw [← e2, e4]
              exact rows2_set (g0 := fun x : Nd => (.sl false 1 x.h.length (x.h.map (T.int .i64)))) (g1 := fun x : Nd => .bool x.g) (⟨[], true⟩ : Nd) q1
            generalize hL : ndR (mixL (swG g.n g.r) g.n i) = L at *
            generalize hL1 : ndR (mixL (swG g.n g.r) g.n (i + 1)) = L1 at *
            have b2 : (L.set (i * 2) (.sl true 0 0 []))[i * 2 + 1]? = some (.bool false) := by rw [List.getElem?_set_ne (by omega)]; exact b1
            have b3 : ((L.set (i * 2) (.sl true 0 0 [])).set (i * 2 + 1) (.bool true))[i * 2]? = some (.sl true 0 0 []) := by rw [List.getElem?_set_ne (by omega), List.getElem?_set_self (by omega)]
            have eB : (((L.set (i * 2) (.sl true 0 0 [])).set (i * 2 + 1) (.bool true)).set (i * 2) (.sl true 1 0 [])) = (L.set (i * 2) (.sl true 1 0 [])).set (i * 2 + 1) (.bool true) := by
              rw [List.set_comm _ _ (by omega), List.set_set]
            have b4 : ((L.set (i * 2) (.sl true 1 0 [])).set (i * 2 + 1) (.bool true))[i * 2]? = some (.sl true 1 0 []) := by rw [List.getElem?_set_ne (by omega), List.getElem?_set_self (by omega)]
            have eC : (((L.set (i * 2) (.sl true 1 0 [])).set (i * 2 + 1) (.bool true)).set (i * 2) (.sl false 1 0 [])) = L1 := by
              rw [List.set_comm _ _ (by omega), List.set_set]; exact eA
            simp (maxSteps := 9000000) -implicitDefEqProofs -dsimp (disch := omega) only [go_sem, lt_T, lt_F, le_T, le_F, eq_T, eq_F, and_F, b0, b1, b2, r1, hb, Nat.reduceEqDiff, Nat.reduceAdd, Nat.reduceMul, Nat.reduceLeDiff, Nat.reduceBEq, Nat.reduceBNe, Int.reduceEq, ↓reduceIte, reduceCtorEq]
            refine ⟨h, ?_⟩
            refine (imp_fix 8 [0] (i * 2) 1 (t2 := .bx true [.sl true 2 g.n.length ((L.set (i * 2) (.sl true 1 0 [])).set (i * 2 + 1) (.bool true)), (.sl true 1 g.r.length (g.r.map (T.int .i64))), (.sl true 1 g.c.length (g.c.map (T.int .i64)))]) rfl (by simp (maxSteps := 9000000) -implicitDefEqProofs -dsimp (disch := omega) only [go_sem, b3, Nat.reduceEqDiff, Nat.reduceAdd, Nat.reduceMul, Nat.reduceLeDiff, Nat.reduceBEq, Nat.reduceBNe, Int.reduceEq, ↓reduceIte, reduceCtorEq]) (by simp (maxSteps := 9000000) -implicitDefEqProofs -dsimp (disch := omega) only [go_sem, b3, eB, Nat.reduceEqDiff, Nat.reduceAdd, Nat.reduceMul, Nat.reduceLeDiff, Nat.reduceBEq, Nat.reduceBNe, Int.reduceEq, ↓reduceIte, reduceCtorEq])).trans ?_
            refine (imp_ro 8 [0, i * 2] (x := .sl true 1 0 []) (t2 := .bx true [.sl true 2 g.n.length L1, (.sl true 1 g.r.length (g.r.map (T.int .i64))), (.sl true 1 g.c.length (g.c.map (T.int .i64)))]) rfl (by simp (maxSteps := 9000000) -implicitDefEqProofs -dsimp (disch := omega) only [go_sem, b4, Nat.reduceEqDiff, Nat.reduceAdd, Nat.reduceMul, Nat.reduceLeDiff, Nat.reduceBEq, Nat.reduceBNe, Int.reduceEq, ↓reduceIte, reduceCtorEq]) (by simp (maxSteps := 9000000) -implicitDefEqProofs -dsimp (disch := omega) only [go_sem, b4, eC, Nat.reduceEqDiff, Nat.reduceAdd, Nat.reduceMul, Nat.reduceLeDiff, Nat.reduceBEq, Nat.reduceBNe, Int.reduceEq, ↓reduceIte, reduceCtorEq])).trans ?_
            exact (imp_ren 12 10 rfl rfl).trans (imp_sub (by simp (maxSteps := 9000000) -implicitDefEqProofs -dsimp (disch := omega) only [go_sem, e3, List.map_append, Nat.reduceEqDiff, Nat.reduceAdd, Nat.reduceMul, Nat.reduceLeDiff, Nat.reduceBEq, Nat.reduceBNe, Int.reduceEq, ↓reduceIte, reduceCtorEq]) (by simp (maxSteps := 9000000) -implicitDefEqProofs -dsimp (disch := omega) only [go_sem, e3, List.map_append, Nat.reduceEqDiff, Nat.reduceAdd, Nat.reduceMul, Nat.reduceLeDiff, Nat.reduceBEq, Nat.reduceBNe, Int.reduceEq, ↓reduceIte, reduceCtorEq]) rfl)
      · obtain rfl : i = g.n.length := by omega
        have hsw : List.map (swG g.n g.r) (List.range g.n.length) = swN g.n g.r := rfl
        have hlen : (ndR (swN g.n g.r)).length = g.n.length * 2 := by rw [ndR_len, swN_len]
        have hlen2 : (swN g.n g.r).length = g.n.length := swN_len
        have hcut : cut (ndR (swN g.n g.r)) 0 (g.n.length * 2) = ndR (swN g.n g.r) := ndR_cutN (by rw [swN_len])
        have hcl : (countsF (swN g.n g.r) g.r).length = g.n.length := by rw [countsF_len, swN_len]
        have M3 := countsOf_ok (swN g.n g.r) g.r (sw_nodes hT)
        rw [hlen2] at M3
        simp (maxSteps := 9000000) -implicitDefEqProofs -dsimp (disch := omega) only [go_sem, lt_T, lt_F, le_T, le_F, eq_T, eq_F, and_F, mixL_end, hsw, hcut, Nat.reduceEqDiff, Nat.reduceAdd, Nat.reduceMul, Nat.reduceLeDiff, Nat.reduceBEq, Nat.reduceBNe, Int.reduceEq, ↓reduceIte, reduceCtorEq]
        refine call_go true M3 ?_
        simp (maxSteps := 9000000) -implicitDefEqProofs -dsimp (disch := omega) only [go_sem, lt_T, lt_F, le_T, le_F, eq_T, eq_F, and_F, hcut, Nat.reduceEqDiff, Nat.reduceAdd, Nat.reduceMul, Nat.reduceLeDiff, Nat.reduceBEq, Nat.reduceBNe, Int.reduceEq, ↓reduceIte, reduceCtorEq]
  · rw [decide_eq_false hT] at M1
    rw [SwRes, if_neg hT]
    refine meets_go (ir := i40) (fn := Try.f40) (rx := [(.cell 2 (some 3)), (.tmp 3), (.tmp 4)]) rfl rfl (by rfl) (by rfl) (by exact Nat.le_of_ble_eq_true rfl) ?_
    simp (maxSteps := 9000000) -implicitDefEqProofs -dsimp (disch := omega) only [go_sem, g40_0, g40_1, g40_2, g40_3, g40_4, g40_5, g40_6, g40_7, g40_8, g40_9, g40_10, g40_11, g40_12, g40_13, g40_14, i40, Nat.reduceEqDiff, Nat.reduceAdd, Nat.reduceMul, Nat.reduceLeDiff, Nat.reduceBEq, Nat.reduceBNe, Int.reduceEq, ↓reduceIte, reduceCtorEq]
    refine call_go true M1 ?_
    simp (maxSteps := 9000000) -implicitDefEqProofs -dsimp (disch := omega) only [go_sem, lt_T, lt_F, le_T, le_F, eq_T, eq_F, and_F, Nat.reduceEqDiff, Nat.reduceAdd, Nat.reduceMul, Nat.reduceLeDiff, Nat.reduceBEq, Nat.reduceBNe, Int.reduceEq, ↓reduceIte, reduceCtorEq]
end Go.Proofs.YtdhclelfnbjikaaT

/- Functions of the program as contracts: a new graph, counts. No condition. -/
set_option maxRecDepth 100000
set_option maxHeartbeats 8000000
set_option linter.unusedSimpArgs false
set_option linter.unusedVariables false
namespace Go.Proofs.YtdhclelfnbjikaaT
open Go
noncomputable def CoRes (n : List Nd) (r : List Int) : TV := if NodesOk n r then .tup [.one (.sl true 1 n.length ((countsF n r).map (T.int .i64))), .one (.bool true)] else .tup [.one (.sl true 0 0 []), .one (.bool false)]
def g15_0 : List Gop := [⟨none, (some 4), (.mov (.k (.one .nil)))⟩, ⟨none, (some 5), (.mov (.k (.one (.bool .false))))⟩]
def g15_1 : List Gop := [⟨none, (some 6), (.mov (.t 0))⟩, ⟨none, (some 7), (.mov (.t 1))⟩, ⟨none, (some 8), (.call 56 [(.t 6), (.t 7)])⟩, ⟨none, (some 9), (.un .not (.t 8))⟩]
def g15_2 : List Gop := [⟨none, (some 4), (.mov (.k (.one .nil)))⟩, ⟨none, (some 5), (.mov (.k (.one (.bool .false))))⟩]
def g15_3 : List Gop := [⟨none, (some 10), (.mov (.t 0))⟩, ⟨none, (some 11), (.mov (.t 1))⟩, ⟨none, (some 12), (.call 57 [(.t 10), (.t 11)])⟩, ⟨none, (some 4), (.mov (.t 12))⟩, ⟨none, (some 5), (.mov (.k (.one (.bool .true))))⟩]
def i15 : Ir := (.seq (.region g15_0) (.seq (.seq (.region g15_1) (.cond (.t 9) (.seq (.region g15_2) .ret) .skip)) (.seq (.region g15_3) .ret)))
theorem specCounts_ok (n : List Nd) (r : List Int) (hn : n.length ≤ 1048576) (hh : ∀ x ∈ n, x.h.length ≤ 1048576) (hr : r.length ≤ 1048576) : Meets Try.prog 15 [.one (.sl false 2 n.length (ndR n)), .one (.sl false 1 r.length (r.map (T.int .i64)))] (CoRes n r) [.one .hole, .one .hole] := by
  have M1 := l10Nodes_ok n r hn hh hr
  by_cases hT : NodesOk n r
  · rw [decide_eq_true hT] at M1
    rw [CoRes, if_pos hT]
    have hcl : (countsF n r).length = n.length := countsF_len
    refine meets_go (ir := i15) (fn := Try.f15) (rx := [(.tmp 4), (.tmp 5)]) rfl rfl (by rfl) (by rfl) (by exact Nat.le_of_ble_eq_true rfl) ?_
    simp (maxSteps := 9000000) -implicitDefEqProofs -dsimp (disch := omega) only [go_sem, g15_0, g15_1, g15_2, g15_3, i15, Nat.reduceEqDiff, Nat.reduceAdd, Nat.reduceMul, Nat.reduceLeDiff, Nat.reduceBEq, Nat.reduceBNe, Int.reduceEq, ↓reduceIte, reduceCtorEq]
    refine call_go true M1 ?_
    simp (maxSteps := 9000000) -implicitDefEqProofs -dsimp (disch := omega) only [go_sem, lt_T, lt_F, le_T, le_F, eq_T, eq_F, and_F, Nat.reduceEqDiff, Nat.reduceAdd, Nat.reduceMul, Nat.reduceLeDiff, Nat.reduceBEq, Nat.reduceBNe, Int.reduceEq, ↓reduceIte, reduceCtorEq]
    refine call_go true (l10Counts_ok n r hT) ?_
    simp (maxSteps := 9000000) -implicitDefEqProofs -dsimp (disch := omega) only [go_sem, lt_T, lt_F, le_T, le_F, eq_T, eq_F, and_F, Nat.reduceEqDiff, Nat.reduceAdd, Nat.reduceMul, Nat.reduceLeDiff, Nat.reduceBEq, Nat.reduceBNe, Int.reduceEq, ↓reduceIte, reduceCtorEq]
  · rw [decide_eq_false hT] at M1
    rw [CoRes, if_neg hT]
    refine meets_go (ir := i15) (fn := Try.f15) (rx := [(.tmp 4), (.tmp 5)]) rfl rfl (by rfl) (by rfl) (by exact Nat.le_of_ble_eq_true rfl) ?_
    simp (maxSteps := 9000000) -implicitDefEqProofs -dsimp (disch := omega) only [go_sem, g15_0, g15_1, g15_2, g15_3, i15, Nat.reduceEqDiff, Nat.reduceAdd, Nat.reduceMul, Nat.reduceLeDiff, Nat.reduceBEq, Nat.reduceBNe, Int.reduceEq, ↓reduceIte, reduceCtorEq]
    refine call_go true M1 ?_
    simp (maxSteps := 9000000) -implicitDefEqProofs -dsimp (disch := omega) only [go_sem, lt_T, lt_F, le_T, le_F, eq_T, eq_F, and_F, Nat.reduceEqDiff, Nat.reduceAdd, Nat.reduceMul, Nat.reduceLeDiff, Nat.reduceBEq, Nat.reduceBNe, Int.reduceEq, ↓reduceIte, reduceCtorEq]
def g18_0 : List Gop := [⟨none, (some 4), (.mov (.k (.one .nil)))⟩, ⟨none, (some 5), (.mov (.k (.one (.bool .false))))⟩]
def g18_1 : List Gop := [⟨none, (some 6), (.mov (.t 0))⟩, ⟨none, (some 7), (.mov (.t 1))⟩, ⟨none, (some 8), (.call 59 [(.t 6), (.t 7)])⟩, ⟨none, (some 9), (.un .not (.t 8))⟩]
def g18_2 : List Gop := [⟨none, (some 4), (.mov (.k (.one .nil)))⟩, ⟨none, (some 5), (.mov (.k (.one (.bool .false))))⟩]
def g18_3 : List Gop := [⟨none, (some 10), (.mov (.t 0))⟩, ⟨none, (some 11), (.mov (.t 1))⟩, ⟨none, (some 12), (.call 60 [(.t 10), (.t 11)])⟩, ⟨none, (some 4), (.mov (.t 12))⟩, ⟨none, (some 5), (.mov (.k (.one (.bool .true))))⟩]
def i18 : Ir := (.seq (.region g18_0) (.seq (.seq (.region g18_1) (.cond (.t 9) (.seq (.region g18_2) .ret) .skip)) (.seq (.region g18_3) .ret)))
theorem implCounts_ok (n : List Nd) (r : List Int) (hn : n.length ≤ 1048576) (hh : ∀ x ∈ n, x.h.length ≤ 1048576) (hr : r.length ≤ 1048576) : Meets Try.prog 18 [.one (.sl false 2 n.length (ndR n)), .one (.sl false 1 r.length (r.map (T.int .i64)))] (CoRes n r) [.one .hole, .one .hole] := by
  have M1 := areNodes_ok n r hn hh hr
  by_cases hT : NodesOk n r
  · rw [decide_eq_true hT] at M1
    rw [CoRes, if_pos hT]
    have hcl : (countsF n r).length = n.length := countsF_len
    refine meets_go (ir := i18) (fn := Try.f18) (rx := [(.tmp 4), (.tmp 5)]) rfl rfl (by rfl) (by rfl) (by exact Nat.le_of_ble_eq_true rfl) ?_
    simp (maxSteps := 9000000) -implicitDefEqProofs -dsimp (disch := omega) only [go_sem, g18_0, g18_1, g18_2, g18_3, i18, Nat.reduceEqDiff, Nat.reduceAdd, Nat.reduceMul, Nat.reduceLeDiff, Nat.reduceBEq, Nat.reduceBNe, Int.reduceEq, ↓reduceIte, reduceCtorEq]
    refine call_go true M1 ?_
    simp (maxSteps := 9000000) -implicitDefEqProofs -dsimp (disch := omega) only [go_sem, lt_T, lt_F, le_T, le_F, eq_T, eq_F, and_F, Nat.reduceEqDiff, Nat.reduceAdd, Nat.reduceMul, Nat.reduceLeDiff, Nat.reduceBEq, Nat.reduceBNe, Int.reduceEq, ↓reduceIte, reduceCtorEq]
    refine call_go true (countsOf_ok n r hT) ?_
    simp (maxSteps := 9000000) -implicitDefEqProofs -dsimp (disch := omega) only [go_sem, lt_T, lt_F, le_T, le_F, eq_T, eq_F, and_F, Nat.reduceEqDiff, Nat.reduceAdd, Nat.reduceMul, Nat.reduceLeDiff, Nat.reduceBEq, Nat.reduceBNe, Int.reduceEq, ↓reduceIte, reduceCtorEq]
  · rw [decide_eq_false hT] at M1
    rw [CoRes, if_neg hT]
    refine meets_go (ir := i18) (fn := Try.f18) (rx := [(.tmp 4), (.tmp 5)]) rfl rfl (by rfl) (by rfl) (by exact Nat.le_of_ble_eq_true rfl) ?_
    simp (maxSteps := 9000000) -implicitDefEqProofs -dsimp (disch := omega) only [go_sem, g18_0, g18_1, g18_2, g18_3, i18, Nat.reduceEqDiff, Nat.reduceAdd, Nat.reduceMul, Nat.reduceLeDiff, Nat.reduceBEq, Nat.reduceBNe, Int.reduceEq, ↓reduceIte, reduceCtorEq]
    refine call_go true M1 ?_
    simp (maxSteps := 9000000) -implicitDefEqProofs -dsimp (disch := omega) only [go_sem, lt_T, lt_F, le_T, le_F, eq_T, eq_F, and_F, Nat.reduceEqDiff, Nat.reduceAdd, Nat.reduceMul, Nat.reduceLeDiff, Nat.reduceBEq, Nat.reduceBNe, Int.reduceEq, ↓reduceIte, reduceCtorEq]
def NgOk (n : List Nd) (r : List Int) : Prop := NodesOk n r ∧ GoodG ⟨n, r, countsF n r⟩
noncomputable instance (n : List Nd) (r : List Int) : Decidable (NgOk n r) := Classical.propDecidable _
noncomputable def NgRes (n : List Nd) (r : List Int) : TV := if NgOk n r then .tup [.agg [.sl true 2 n.length (ndO n), (.sl true 1 r.length (r.map (T.int .i64))), .sl true 1 n.length ((countsF n r).map (T.int .i64))], .one (.bool true)]
  else .tup [.agg [.sl true 0 0 [], .sl true 0 0 [], .sl true 0 0 []], .one (.bool false)]
def g29_0 : List Gop := [⟨none, (some 4), (.alloc [.nil, .nil, .nil])⟩, ⟨none, (some 5), (.mov (.k (.one (.bool .false))))⟩]
def g29_1 : List Gop := [⟨none, (some 7), (.mov (.t 0))⟩, ⟨none, (some 8), (.mov (.t 1))⟩, ⟨none, (some 9), (.call 56 [(.t 7), (.t 8)])⟩, ⟨none, (some 10), (.un .not (.t 9))⟩]
def g29_2 : List Gop := [⟨none, (some 11), (.build [.nil, .nil, .nil] [])⟩, ⟨none, none, (.store 3 (.t 4) (.t 11))⟩, ⟨none, (some 5), (.mov (.k (.one (.bool .false))))⟩]
def g29_3 : List Gop := [⟨none, (some 12), (.mov (.t 0))⟩, ⟨none, (some 13), (.mov (.t 1))⟩, ⟨none, (some 14), (.mov (.t 0))⟩, ⟨none, (some 15), (.mov (.t 1))⟩, ⟨none, (some 16), (.call 57 [(.t 14), (.t 15)])⟩, ⟨none, (some 17), (.build [.nil, .nil, .nil] [(0, (1, (.t 12))), (1, (1, (.t 13))), (2, (1, (.t 16)))])⟩, ⟨none, (some 6), (.alloc [.nil, .nil, .nil])⟩, ⟨none, none, (.store 3 (.t 6) (.t 17))⟩]
def g29_4 : List Gop := [⟨none, (some 18), (.load (some 3) (.t 6))⟩, ⟨none, (some 19), (.call 25 [(.t 18)])⟩, ⟨none, (some 20), (.un .not (.t 19))⟩]
def g29_5 : List Gop := [⟨none, (some 21), (.build [.nil, .nil, .nil] [])⟩, ⟨none, none, (.store 3 (.t 4) (.t 21))⟩, ⟨none, (some 5), (.mov (.k (.one (.bool .false))))⟩]
def g29_6 : List Gop := [⟨none, (some 22), (.load (some 3) (.t 6))⟩, ⟨none, (some 23), (.call 65 [(.t 22)])⟩, ⟨none, none, (.store 3 (.t 4) (.t 23))⟩, ⟨none, (some 5), (.mov (.k (.one (.bool .true))))⟩]
def i29 : Ir := (.seq (.region g29_0) (.seq (.seq (.region g29_1) (.cond (.t 10) (.seq (.region g29_2) .ret) .skip)) (.seq (.region g29_3) (.seq (.seq (.region g29_4) (.cond (.t 20) (.seq (.region g29_5) .ret) .skip)) (.seq (.region g29_6) .ret)))))
theorem specNew_ok (n : List Nd) (r : List Int) (hn : n.length ≤ 1048576) (hh : ∀ x ∈ n, x.h.length ≤ 1048576) (hr : r.length ≤ 1048576) : Meets Try.prog 29 [.one (.sl false 2 n.length (ndR n)), .one (.sl false 1 r.length (r.map (T.int .i64)))] (NgRes n r) [.one .hole, .one .hole] := by
  have M1 := l10Nodes_ok n r hn hh hr
  by_cases hT : NodesOk n r
  · rw [decide_eq_true hT] at M1
    have hcl : (countsF n r).length = n.length := countsF_len
    have M2 := specGoodGraph_ok ⟨n, r, countsF n r⟩ hn hh hr (by simp only [hcl]; exact hn)
    have M3 := l10Own_ok ⟨n, r, countsF n r⟩ ⟨hn, hh, hr, by simp only [hcl]; exact hn⟩
    simp only [hcl] at M2 M3
    by_cases hG : GoodG ⟨n, r, countsF n r⟩
    · rw [decide_eq_true hG] at M2
      rw [NgRes, if_pos ⟨hT, hG⟩]
      refine meets_go (ir := i29) (fn := Try.f29) (rx := [(.cell 4 (some 3)), (.tmp 5)]) rfl rfl (by rfl) (by rfl) (by exact Nat.le_of_ble_eq_true rfl) ?_
      simp (maxSteps := 9000000) -implicitDefEqProofs -dsimp (disch := omega) only [go_sem, g29_0, g29_1, g29_2, g29_3, g29_4, g29_5, g29_6, i29, Nat.reduceEqDiff, Nat.reduceAdd, Nat.reduceMul, Nat.reduceLeDiff, Nat.reduceBEq, Nat.reduceBNe, Int.reduceEq, ↓reduceIte, reduceCtorEq]
      refine call_go true M1 ?_
      simp (maxSteps := 9000000) -implicitDefEqProofs -dsimp (disch := omega) only [go_sem, lt_T, lt_F, le_T, le_F, eq_T, eq_F, and_F, Nat.reduceEqDiff, Nat.reduceAdd, Nat.reduceMul, Nat.reduceLeDiff, Nat.reduceBEq, Nat.reduceBNe, Int.reduceEq, ↓reduceIte, reduceCtorEq]
      refine call_go true (l10Counts_ok n r hT) ?_
      simp (maxSteps := 9000000) -implicitDefEqProofs -dsimp (disch := omega) only [go_sem, lt_T, lt_F, le_T, le_F, eq_T, eq_F, and_F, Nat.reduceEqDiff, Nat.reduceAdd, Nat.reduceMul, Nat.reduceLeDiff, Nat.reduceBEq, Nat.reduceBNe, Int.reduceEq, ↓reduceIte, reduceCtorEq]
      refine call_go true M2 ?_
      simp (maxSteps := 9000000) -implicitDefEqProofs -dsimp (disch := omega) only [go_sem, lt_T, lt_F, le_T, le_F, eq_T, eq_F, and_F, Nat.reduceEqDiff, Nat.reduceAdd, Nat.reduceMul, Nat.reduceLeDiff, Nat.reduceBEq, Nat.reduceBNe, Int.reduceEq, ↓reduceIte, reduceCtorEq]
      refine call_go true M3 ?_
      simp (maxSteps := 9000000) -implicitDefEqProofs -dsimp (disch := omega) only [go_sem, lt_T, lt_F, le_T, le_F, eq_T, eq_F, and_F, Nat.reduceEqDiff, Nat.reduceAdd, Nat.reduceMul, Nat.reduceLeDiff, Nat.reduceBEq, Nat.reduceBNe, Int.reduceEq, ↓reduceIte, reduceCtorEq]
    · rw [decide_eq_false hG] at M2
      rw [NgRes, if_neg (fun w : NgOk n r => hG w.2)]
      refine meets_go (ir := i29) (fn := Try.f29) (rx := [(.cell 4 (some 3)), (.tmp 5)]) rfl rfl (by rfl) (by rfl) (by exact Nat.le_of_ble_eq_true rfl) ?_
      simp (maxSteps := 9000000) -implicitDefEqProofs -dsimp (disch := omega) only [go_sem, g29_0, g29_1, g29_2, g29_3, g29_4, g29_5, g29_6, i29, Nat.reduceEqDiff, Nat.reduceAdd, Nat.reduceMul, Nat.reduceLeDiff, Nat.reduceBEq, Nat.reduceBNe, Int.reduceEq, ↓reduceIte, reduceCtorEq]
      refine call_go true M1 ?_
      simp (maxSteps := 9000000) -implicitDefEqProofs -dsimp (disch := omega) only [go_sem, lt_T, lt_F, le_T, le_F, eq_T, eq_F, and_F, Nat.reduceEqDiff, Nat.reduceAdd, Nat.reduceMul, Nat.reduceLeDiff, Nat.reduceBEq, Nat.reduceBNe, Int.reduceEq, ↓reduceIte, reduceCtorEq]
      refine call_go true (l10Counts_ok n r hT) ?_
      simp (maxSteps := 9000000) -implicitDefEqProofs -dsimp (disch := omega) only [go_sem, lt_T, lt_F, le_T, le_F, eq_T, eq_F, and_F, Nat.reduceEqDiff, Nat.reduceAdd, Nat.reduceMul, Nat.reduceLeDiff, Nat.reduceBEq, Nat.reduceBNe, Int.reduceEq, ↓reduceIte, reduceCtorEq]
      refine call_go true M2 ?_
      simp (maxSteps := 9000000) -implicitDefEqProofs -dsimp (disch := omega) only [go_sem, lt_T, lt_F, le_T, le_F, eq_T, eq_F, and_F, Nat.reduceEqDiff, Nat.reduceAdd, Nat.reduceMul, Nat.reduceLeDiff, Nat.reduceBEq, Nat.reduceBNe, Int.reduceEq, ↓reduceIte, reduceCtorEq]
  · rw [decide_eq_false hT] at M1
    rw [NgRes, if_neg (fun w : NgOk n r => hT w.1)]
    refine meets_go (ir := i29) (fn := Try.f29) (rx := [(.cell 4 (some 3)), (.tmp 5)]) rfl rfl (by rfl) (by rfl) (by exact Nat.le_of_ble_eq_true rfl) ?_
    simp (maxSteps := 9000000) -implicitDefEqProofs -dsimp (disch := omega) only [go_sem, g29_0, g29_1, g29_2, g29_3, g29_4, g29_5, g29_6, i29, Nat.reduceEqDiff, Nat.reduceAdd, Nat.reduceMul, Nat.reduceLeDiff, Nat.reduceBEq, Nat.reduceBNe, Int.reduceEq, ↓reduceIte, reduceCtorEq]
    refine call_go true M1 ?_
    simp (maxSteps := 9000000) -implicitDefEqProofs -dsimp (disch := omega) only [go_sem, lt_T, lt_F, le_T, le_F, eq_T, eq_F, and_F, Nat.reduceEqDiff, Nat.reduceAdd, Nat.reduceMul, Nat.reduceLeDiff, Nat.reduceBEq, Nat.reduceBNe, Int.reduceEq, ↓reduceIte, reduceCtorEq]
def g30_0 : List Gop := [⟨none, (some 4), (.alloc [.nil, .nil, .nil])⟩, ⟨none, (some 5), (.mov (.k (.one (.bool .false))))⟩]
def g30_1 : List Gop := [⟨none, (some 7), (.mov (.t 0))⟩, ⟨none, (some 8), (.mov (.t 1))⟩, ⟨none, (some 9), (.call 59 [(.t 7), (.t 8)])⟩, ⟨none, (some 10), (.un .not (.t 9))⟩]
def g30_2 : List Gop := [⟨none, (some 11), (.build [.nil, .nil, .nil] [])⟩, ⟨none, none, (.store 3 (.t 4) (.t 11))⟩, ⟨none, (some 5), (.mov (.k (.one (.bool .false))))⟩]
def g30_3 : List Gop := [⟨none, (some 12), (.mov (.t 0))⟩, ⟨none, (some 13), (.mov (.t 1))⟩, ⟨none, (some 14), (.mov (.t 0))⟩, ⟨none, (some 15), (.mov (.t 1))⟩, ⟨none, (some 16), (.call 60 [(.t 14), (.t 15)])⟩, ⟨none, (some 17), (.build [.nil, .nil, .nil] [(0, (1, (.t 12))), (1, (1, (.t 13))), (2, (1, (.t 16)))])⟩, ⟨none, (some 18), (.call 66 [(.t 17)])⟩, ⟨none, (some 6), (.alloc [.nil, .nil, .nil])⟩, ⟨none, none, (.store 3 (.t 6) (.t 18))⟩]
def g30_4 : List Gop := [⟨none, (some 19), (.load (some 3) (.t 6))⟩, ⟨none, (some 20), (.call 27 [(.t 19)])⟩, ⟨none, (some 21), (.un .not (.t 20))⟩]
def g30_5 : List Gop := [⟨none, (some 22), (.build [.nil, .nil, .nil] [])⟩, ⟨none, none, (.store 3 (.t 4) (.t 22))⟩, ⟨none, (some 5), (.mov (.k (.one (.bool .false))))⟩]
def g30_6 : List Gop := [⟨none, (some 23), (.load (some 3) (.t 6))⟩, ⟨none, none, (.store 3 (.t 4) (.t 23))⟩, ⟨none, (some 5), (.mov (.k (.one (.bool .true))))⟩]
def i30 : Ir := (.seq (.region g30_0) (.seq (.seq (.region g30_1) (.cond (.t 10) (.seq (.region g30_2) .ret) .skip)) (.seq (.region g30_3) (.seq (.seq (.region g30_4) (.cond (.t 21) (.seq (.region g30_5) .ret) .skip)) (.seq (.region g30_6) .ret)))))
theorem implNew_ok (n : List Nd) (r : List Int) (hn : n.length ≤ 1048576) (hh : ∀ x ∈ n, x.h.length ≤ 1048576) (hr : r.length ≤ 1048576) : Meets Try.prog 30 [.one (.sl false 2 n.length (ndR n)), .one (.sl false 1 r.length (r.map (T.int .i64)))] (NgRes n r) [.one .hole, .one .hole] := by
  have M1 := areNodes_ok n r hn hh hr
  by_cases hT : NodesOk n r
  · rw [decide_eq_true hT] at M1
    have hcl : (countsF n r).length = n.length := countsF_len
    have M2 := implGoodGraph_ok ⟨n, r, countsF n r⟩ hn hh hr (by simp only [hcl]; exact hn)
    have M3 := ownGraph_ok ⟨n, r, countsF n r⟩ ⟨hn, hh, hr, by simp only [hcl]; exact hn⟩
    simp only [hcl] at M2 M3
    by_cases hG : GoodG ⟨n, r, countsF n r⟩
    · rw [decide_eq_true hG] at M2
      rw [NgRes, if_pos ⟨hT, hG⟩]
      refine meets_go (ir := i30) (fn := Try.f30) (rx := [(.cell 4 (some 3)), (.tmp 5)]) rfl rfl (by rfl) (by rfl) (by exact Nat.le_of_ble_eq_true rfl) ?_
      simp (maxSteps := 9000000) -implicitDefEqProofs -dsimp (disch := omega) only [go_sem, g30_0, g30_1, g30_2, g30_3, g30_4, g30_5, g30_6, i30, Nat.reduceEqDiff, Nat.reduceAdd, Nat.reduceMul, Nat.reduceLeDiff, Nat.reduceBEq, Nat.reduceBNe, Int.reduceEq, ↓reduceIte, reduceCtorEq]
      refine call_go true M1 ?_
      simp (maxSteps := 9000000) -implicitDefEqProofs -dsimp (disch := omega) only [go_sem, lt_T, lt_F, le_T, le_F, eq_T, eq_F, and_F, Nat.reduceEqDiff, Nat.reduceAdd, Nat.reduceMul, Nat.reduceLeDiff, Nat.reduceBEq, Nat.reduceBNe, Int.reduceEq, ↓reduceIte, reduceCtorEq]
      refine call_go true (countsOf_ok n r hT) ?_
      simp (maxSteps := 9000000) -implicitDefEqProofs -dsimp (disch := omega) only [go_sem, lt_T, lt_F, le_T, le_F, eq_T, eq_F, and_F, Nat.reduceEqDiff, Nat.reduceAdd, Nat.reduceMul, Nat.reduceLeDiff, Nat.reduceBEq, Nat.reduceBNe, Int.reduceEq, ↓reduceIte, reduceCtorEq]
      refine call_go true M3 ?_
      simp (maxSteps := 9000000) -implicitDefEqProofs -dsimp (disch := omega) only [go_sem, lt_T, lt_F, le_T, le_F, eq_T, eq_F, and_F, Nat.reduceEqDiff, Nat.reduceAdd, Nat.reduceMul, Nat.reduceLeDiff, Nat.reduceBEq, Nat.reduceBNe, Int.reduceEq, ↓reduceIte, reduceCtorEq]
      refine call_go true M2 ?_
      simp (maxSteps := 9000000) -implicitDefEqProofs -dsimp (disch := omega) only [go_sem, lt_T, lt_F, le_T, le_F, eq_T, eq_F, and_F, Nat.reduceEqDiff, Nat.reduceAdd, Nat.reduceMul, Nat.reduceLeDiff, Nat.reduceBEq, Nat.reduceBNe, Int.reduceEq, ↓reduceIte, reduceCtorEq]
    · rw [decide_eq_false hG] at M2
      rw [NgRes, if_neg (fun w : NgOk n r => hG w.2)]
      refine meets_go (ir := i30) (fn := Try.f30) (rx := [(.cell 4 (some 3)), (.tmp 5)]) rfl rfl (by rfl) (by rfl) (by exact Nat.le_of_ble_eq_true rfl) ?_
      simp (maxSteps := 9000000) -implicitDefEqProofs -dsimp (disch := omega) only [go_sem, g30_0, g30_1, g30_2, g30_3, g30_4, g30_5, g30_6, i30, Nat.reduceEqDiff, Nat.reduceAdd, Nat.reduceMul, Nat.reduceLeDiff, Nat.reduceBEq, Nat.reduceBNe, Int.reduceEq, ↓reduceIte, reduceCtorEq]
      refine call_go true M1 ?_
      simp (maxSteps := 9000000) -implicitDefEqProofs -dsimp (disch := omega) only [go_sem, lt_T, lt_F, le_T, le_F, eq_T, eq_F, and_F, Nat.reduceEqDiff, Nat.reduceAdd, Nat.reduceMul, Nat.reduceLeDiff, Nat.reduceBEq, Nat.reduceBNe, Int.reduceEq, ↓reduceIte, reduceCtorEq]
      refine call_go true (countsOf_ok n r hT) ?_
      simp (maxSteps := 9000000) -implicitDefEqProofs -dsimp (disch := omega) only [go_sem, lt_T, lt_F, le_T, le_F, eq_T, eq_F, and_F, Nat.reduceEqDiff, Nat.reduceAdd, Nat.reduceMul, Nat.reduceLeDiff, Nat.reduceBEq, Nat.reduceBNe, Int.reduceEq, ↓reduceIte, reduceCtorEq]
      refine call_go true M3 ?_
      simp (maxSteps := 9000000) -implicitDefEqProofs -dsimp (disch := omega) only [go_sem, lt_T, lt_F, le_T, le_F, eq_T, eq_F, and_F, Nat.reduceEqDiff, Nat.reduceAdd, Nat.reduceMul, Nat.reduceLeDiff, Nat.reduceBEq, Nat.reduceBNe, Int.reduceEq, ↓reduceIte, reduceCtorEq]
      refine call_go true M2 ?_
      simp (maxSteps := 9000000) -implicitDefEqProofs -dsimp (disch := omega) only [go_sem, lt_T, lt_F, le_T, le_F, eq_T, eq_F, and_F, Nat.reduceEqDiff, Nat.reduceAdd, Nat.reduceMul, Nat.reduceLeDiff, Nat.reduceBEq, Nat.reduceBNe, Int.reduceEq, ↓reduceIte, reduceCtorEq]
  · rw [decide_eq_false hT] at M1
    rw [NgRes, if_neg (fun w : NgOk n r => hT w.1)]
    refine meets_go (ir := i30) (fn := Try.f30) (rx := [(.cell 4 (some 3)), (.tmp 5)]) rfl rfl (by rfl) (by rfl) (by exact Nat.le_of_ble_eq_true rfl) ?_
    simp (maxSteps := 9000000) -implicitDefEqProofs -dsimp (disch := omega) only [go_sem, g30_0, g30_1, g30_2, g30_3, g30_4, g30_5, g30_6, i30, Nat.reduceEqDiff, Nat.reduceAdd, Nat.reduceMul, Nat.reduceLeDiff, Nat.reduceBEq, Nat.reduceBNe, Int.reduceEq, ↓reduceIte, reduceCtorEq]
    refine call_go true M1 ?_
    simp (maxSteps := 9000000) -implicitDefEqProofs -dsimp (disch := omega) only [go_sem, lt_T, lt_F, le_T, le_F, eq_T, eq_F, and_F, Nat.reduceEqDiff, Nat.reduceAdd, Nat.reduceMul, Nat.reduceLeDiff, Nat.reduceBEq, Nat.reduceBNe, Int.reduceEq, ↓reduceIte, reduceCtorEq]
end Go.Proofs.YtdhclelfnbjikaaT

/- Functions of the program as contracts: what draws from a code. No condition. -/
set_option maxRecDepth 100000
set_option maxHeartbeats 8000000
set_option linter.unusedSimpArgs false
set_option linter.unusedVariables false
namespace Go.Proofs.YtdhclelfnbjikaaT
open Go Go.RowKit
/-- a cursor over a code -/
structure Cu where
  code : List Int
  at_ : Int
  seed : Int
def Cu.ok (c : Cu) (b : Int) : Prop := (∀ x ∈ c.code, 0 ≤ x ∧ x ≤ 255) ∧ (c.code.length : Int) ≤ 9223372036854775807 ∧ 0 ≤ c.at_ ∧ c.at_ ≤ b ∧ 0 ≤ c.seed ∧ c.seed < 18446744073709551616
def cuT (c : Cu) : T := .bx true [(.sl false 1 c.code.length (c.code.map (T.int .u8))), .int .i64 c.at_, .int .u64 c.seed]
def seedF (s b : Int) : Int := IntKind.u64.wrap (IntKind.u64.wrap (IntKind.u64.wrap (s * 6364136223846793005) + IntKind.u64.wrap b) + 1442695040888963407)
theorem u64_lo {x : Int} : 0 ≤ IntKind.u64.wrap x ∧ IntKind.u64.wrap x < 18446744073709551616 := by
  constructor <;> simp [IntKind.wrap, IntKind.bits, IntKind.signed] <;> omega
def outF (s : Int) : Int := IntKind.i64.wrap (IntKind.u64.wrap ((BitVec.ofInt IntKind.u64.bits (s.fdiv (2 ^ min (Int.toNat 40) 64)) &&& BitVec.ofInt IntKind.u64.bits 255).toNat : Int))
theorem outF_in {s : Int} : 0 ≤ outF s ∧ outF s ≤ 255 := by
  have h : (BitVec.ofInt IntKind.u64.bits (s.fdiv (2 ^ min (Int.toNat 40) 64)) &&& BitVec.ofInt IntKind.u64.bits 255).toNat ≤ 255 := by
    rw [BitVec.toNat_and]
    exact Nat.le_trans Nat.and_le_right (by decide)
  unfold outF
  generalize (BitVec.ofInt IntKind.u64.bits (s.fdiv (2 ^ min (Int.toNat 40) 64)) &&& BitVec.ofInt IntKind.u64.bits 255).toNat = z at h
  have e : IntKind.u64.wrap (z : Int) = z := by simp [IntKind.wrap, IntKind.bits, IntKind.signed]; omega
  rw [e, wrap_in (by omega)]
  omega
theorem Cu.ok.mono {c : Cu} {b b' : Int} (h : c.ok b) (hb : b ≤ b') : c.ok b' := by
  obtain ⟨q1, q2, q3, q4, q5, q6⟩ := h
  exact ⟨q1, q2, q3, by omega, q5, q6⟩
def nextF (c : Cu) : Int × Cu := if c.at_ < c.code.length then (c.code.getD c.at_.toNat default, ⟨c.code, c.at_ + 1, seedF c.seed (c.code.getD c.at_.toNat default)⟩) else (outF (seedF c.seed 0), ⟨c.code, c.at_ + 1, seedF c.seed 0⟩)
def pickF (c : Cu) (n : Int) : Int × Cu := if n ≤ 1 then (0, c) else ((nextF c).1.tmod n, (nextF c).2)
def oneF (c : Cu) (n : Int) : Bool × Cu := (decide ((pickF c n).1 = 0), (pickF c n).2)
theorem next_in {c : Cu} {b : Int} (hc : c.ok b) : (nextF c).2.ok (b + 1) ∧ 0 ≤ (nextF c).1 ∧ (nextF c).1 ≤ 255 := by
  obtain ⟨code, at_, seed⟩ := c
  obtain ⟨h1, h2, h3, h4, h5, h6⟩ := hc
  simp only at h1 h2 h3 h4 h5 h6
  unfold nextF
  split
  · rename_i hlt
    simp only at hlt
    obtain ⟨g1, g2⟩ := h1 _ (getD_mem (show at_.toNat < code.length by omega))
    exact ⟨⟨h1, h2, by simp only; omega, by simp only; omega, u64_lo.1, u64_lo.2⟩, g1, g2⟩
  · exact ⟨⟨h1, h2, by simp only; omega, by simp only; omega, u64_lo.1, u64_lo.2⟩, outF_in⟩
theorem pick_ok2 {c : Cu} {b n : Int} (hc : c.ok b) : (pickF c n).2.ok (b + 1) := by
  unfold pickF
  split
  · exact hc.mono (by omega)
  · exact (next_in hc).1
theorem pick_in {c : Cu} {b n : Int} (hc : c.ok b) (hn : 1 ≤ n) : 0 ≤ (pickF c n).1 ∧ (pickF c n).1 < n := by
  unfold pickF
  split
  · exact ⟨Int.le_refl _, by simp only; omega⟩
  · have k2 := (next_in hc).2
    simp only
    rw [Int.tmod_eq_emod_of_nonneg k2.1]
    exact ⟨Int.emod_nonneg _ (by omega), Int.emod_lt_of_pos _ (by omega)⟩
theorem one_ok2 {c : Cu} {b n : Int} (hc : c.ok b) : (oneF c n).2.ok (b + 1) := pick_ok2 hc
def g90_0 : List Gop := [⟨none, (some 2), (.mov (.k (.one (.int .i64 0))))⟩]
def g90_1 : List Gop := [⟨none, (some 3), (.mov (.k (.one (.int .i64 0))))⟩]
def g90_2 : List Gop := [⟨none, (some 4), (.mov (.t 0))⟩, ⟨none, (some 5), (.nilc (.t 4))⟩, ⟨none, (some 6), (.faddr (.t 5) 1)⟩, ⟨none, (some 7), (.load none (.t 6))⟩, ⟨none, (some 8), (.mov (.t 0))⟩, ⟨none, (some 9), (.nilc (.t 8))⟩, ⟨none, (some 10), (.faddr (.t 9) 0)⟩, ⟨none, (some 11), (.load none (.t 10))⟩, ⟨none, (some 12), (.len (.t 11))⟩, ⟨none, (some 13), (.bin .lss (.t 7) (.t 12))⟩]
def a90_2 : List (List Nat) := [[], [0], [0, 1], [0, 1, 2], [], [4], [4, 5], [4, 5, 6], [4, 5, 6, 7], [0, 1, 2, 3, 4, 5, 6, 7, 8]]
def n90_2 : Nat := 9 -- of 10
def g90_3 : List Gop := [⟨none, (some 14), (.mov (.t 0))⟩, ⟨none, (some 15), (.nilc (.t 14))⟩, ⟨none, (some 16), (.faddr (.t 15) 0)⟩, ⟨none, (some 17), (.load none (.t 16))⟩, ⟨none, (some 18), (.mov (.t 0))⟩, ⟨none, (some 19), (.nilc (.t 18))⟩, ⟨none, (some 20), (.faddr (.t 19) 1)⟩, ⟨none, (some 21), (.load none (.t 20))⟩, ⟨none, (some 22), (.iaddr 1 (.t 17) (.t 21))⟩, ⟨none, (some 23), (.load none (.t 22))⟩, ⟨none, (some 24), (.cvi .i64 (.t 23))⟩, ⟨none, (some 3), (.mov (.t 24))⟩]
def a90_3 : List (List Nat) := [[], [0], [0, 1], [0, 1, 2], [], [4], [4, 5], [4, 5, 6], [0, 1, 2, 3, 4, 5, 6, 7], [0, 1, 2, 3, 4, 5, 6, 7, 8], [0, 1, 2, 3, 4, 5, 6, 7, 8, 9], [0, 1, 2, 3, 4, 5, 6, 7, 8, 9, 10]]
def n90_3 : Nat := 8 -- of 12
def g90_4 : List Gop := [⟨none, (some 25), (.mov (.t 0))⟩, ⟨none, (some 26), (.nilc (.t 25))⟩, ⟨none, (some 27), (.faddr (.t 26) 1)⟩, ⟨none, (some 28), (.load none (.t 27))⟩, ⟨none, (some 29), (.bin .add (.t 28) (.k (.one (.int .i64 1))))⟩, ⟨none, (some 30), (.nilc (.t 25))⟩, ⟨none, (some 31), (.faddr (.t 30) 1)⟩, ⟨none, none, (.store 1 (.t 31) (.t 29))⟩]
def g90_5 : List Gop := [⟨none, (some 32), (.mov (.t 0))⟩, ⟨none, (some 33), (.mov (.t 0))⟩, ⟨none, (some 34), (.nilc (.t 33))⟩, ⟨none, (some 35), (.faddr (.t 34) 2)⟩, ⟨none, (some 36), (.load none (.t 35))⟩, ⟨none, (some 37), (.bin .mul (.t 36) (.k (.one (.int .u64 6364136223846793005))))⟩, ⟨none, (some 38), (.mov (.t 3))⟩, ⟨none, (some 39), (.cvi .u64 (.t 38))⟩, ⟨none, (some 40), (.bin .add (.t 37) (.t 39))⟩, ⟨none, (some 41), (.bin .add (.t 40) (.k (.one (.int .u64 1442695040888963407))))⟩, ⟨none, (some 42), (.nilc (.t 32))⟩, ⟨none, (some 43), (.faddr (.t 42) 2)⟩, ⟨none, none, (.store 1 (.t 43) (.t 41))⟩]
def g90_6 : List Gop := [⟨none, (some 44), (.mov (.t 0))⟩, ⟨none, (some 45), (.nilc (.t 44))⟩, ⟨none, (some 46), (.faddr (.t 45) 1)⟩, ⟨none, (some 47), (.load none (.t 46))⟩, ⟨none, (some 48), (.mov (.t 0))⟩, ⟨none, (some 49), (.nilc (.t 48))⟩, ⟨none, (some 50), (.faddr (.t 49) 0)⟩, ⟨none, (some 51), (.load none (.t 50))⟩, ⟨none, (some 52), (.len (.t 51))⟩, ⟨none, (some 53), (.bin .leq (.t 47) (.t 52))⟩]
def a90_6 : List (List Nat) := [[], [0], [0, 1], [0, 1, 2], [], [4], [4, 5], [4, 5, 6], [4, 5, 6, 7], [0, 1, 2, 3, 4, 5, 6, 7, 8]]
def n90_6 : Nat := 9 -- of 10
def g90_7 : List Gop := [⟨none, (some 54), (.mov (.t 3))⟩, ⟨none, (some 2), (.mov (.t 54))⟩]
def g90_8 : List Gop := [⟨none, (some 55), (.mov (.t 0))⟩, ⟨none, (some 56), (.nilc (.t 55))⟩, ⟨none, (some 57), (.faddr (.t 56) 2)⟩, ⟨none, (some 58), (.load none (.t 57))⟩, ⟨none, (some 59), (.bin .shr (.t 58) (.k (.one (.int .u64 40))))⟩, ⟨none, (some 60), (.bin .and (.t 59) (.k (.one (.int .u64 255))))⟩, ⟨none, (some 61), (.cvi .i64 (.t 60))⟩, ⟨none, (some 2), (.mov (.t 61))⟩]
def i90 : Ir := (.seq (.region g90_0) (.seq (.region g90_1) (.seq (.seq (.draw [[], [0], [1], [2], [], [4], [5], [6], [7], [3, 8]] g90_2) (.cond (.t 13) (.draw [[], [0], [1], [2], [], [4], [5], [6], [3, 7], [8], [9], [10, 0, 1, 2, 3, 4, 5, 6, 7, 8, 9, 10]] g90_3) .skip)) (.seq (.region g90_4) (.seq (.region g90_5) (.seq (.seq (.draw [[], [0], [1], [2], [], [4], [5], [6], [7], [3, 8]] g90_6) (.cond (.t 53) (.seq (.region g90_7) .ret) .skip)) (.seq (.region g90_8) .ret)))))))
theorem next_ok (c : Cu) (b : Int) (hc : c.ok b) (hb : b ≤ 1125899906842624) : Meets Try.prog 90 [.one (cuT c)] (.w (.one (.int .i64 (nextF c).1))) [.one (cuT (nextF c).2)] := by
  obtain ⟨code, at_, seed⟩ := c
  obtain ⟨h1, h2, h3, h4, h5, h6⟩ := hc
  simp only at h1 h2 h3 h4 h5 h6
  by_cases hlt : at_ < code.length
  · have e1 : (at_.toNat : Int) = at_ := Int.toNat_of_nonneg h3
    have l1 : at_.toNat < code.length := by omega
    obtain ⟨g1, g2⟩ := h1 _ (getD_mem l1)
    rw [show nextF ⟨code, at_, seed⟩ = (code.getD at_.toNat default, ⟨code, at_ + 1, seedF seed (code.getD at_.toNat default)⟩) from if_pos hlt]
    unfold cuT seedF
    refine meets_go (ir := i90) (fn := Try.f90) (rx := [(.tmp 2)]) rfl rfl (by rfl) (by rfl) (by exact Nat.le_of_ble_eq_true rfl) ?_
    simp (maxSteps := 9000000) -implicitDefEqProofs -dsimp (disch := omega) only [go_sem, g90_0, g90_1, g90_2, a90_2, n90_2, g90_3, a90_3, n90_3, g90_4, g90_5, g90_6, a90_6, n90_6, g90_7, g90_8, i90, Nat.reduceEqDiff, Nat.reduceAdd, Nat.reduceMul, Nat.reduceLeDiff, Nat.reduceBEq, Nat.reduceBNe, Int.reduceEq, ↓reduceIte, reduceCtorEq]
    refine draw_go n90_2 a90_2 (by decide +kernel) ?_
    simp (maxSteps := 9000000) -implicitDefEqProofs -dsimp (disch := omega) only [go_sem, n90_2, a90_2, lt_T, lt_F, le_T, le_F, eq_T, eq_F, and_F, Nat.reduceEqDiff, Nat.reduceAdd, Nat.reduceMul, Nat.reduceLeDiff, Nat.reduceBEq, Nat.reduceBNe, Int.reduceEq, ↓reduceIte, reduceCtorEq]
    refine draw_go n90_3 a90_3 (by decide +kernel) ?_
    simp (maxSteps := 9000000) -implicitDefEqProofs -dsimp (disch := omega) only [go_sem, n90_3, a90_3, lt_T, lt_F, le_T, le_F, eq_T, eq_F, and_F, Nat.reduceEqDiff, Nat.reduceAdd, Nat.reduceMul, Nat.reduceLeDiff, Nat.reduceBEq, Nat.reduceBNe, Int.reduceEq, ↓reduceIte, reduceCtorEq]
    refine draw_go n90_6 a90_6 (by decide +kernel) ?_
    simp (maxSteps := 9000000) -implicitDefEqProofs -dsimp (disch := omega) only [go_sem, n90_6, a90_6, lt_T, lt_F, le_T, le_F, eq_T, eq_F, and_F, Nat.reduceEqDiff, Nat.reduceAdd, Nat.reduceMul, Nat.reduceLeDiff, Nat.reduceBEq, Nat.reduceBNe, Int.reduceEq, ↓reduceIte, reduceCtorEq]
  · rw [show nextF ⟨code, at_, seed⟩ = (outF (seedF seed 0), ⟨code, at_ + 1, seedF seed 0⟩) from if_neg hlt]
    unfold cuT outF seedF
    refine meets_go (ir := i90) (fn := Try.f90) (rx := [(.tmp 2)]) rfl rfl (by rfl) (by rfl) (by exact Nat.le_of_ble_eq_true rfl) ?_
    simp (maxSteps := 9000000) -implicitDefEqProofs -dsimp (disch := omega) only [go_sem, g90_0, g90_1, g90_2, a90_2, n90_2, g90_3, a90_3, n90_3, g90_4, g90_5, g90_6, a90_6, n90_6, g90_7, g90_8, i90, Nat.reduceEqDiff, Nat.reduceAdd, Nat.reduceMul, Nat.reduceLeDiff, Nat.reduceBEq, Nat.reduceBNe, Int.reduceEq, ↓reduceIte, reduceCtorEq]
    refine draw_go n90_2 a90_2 (by decide +kernel) ?_
    simp (maxSteps := 9000000) -implicitDefEqProofs -dsimp (disch := omega) only [go_sem, n90_2, a90_2, lt_T, lt_F, le_T, le_F, eq_T, eq_F, and_F, Nat.reduceEqDiff, Nat.reduceAdd, Nat.reduceMul, Nat.reduceLeDiff, Nat.reduceBEq, Nat.reduceBNe, Int.reduceEq, ↓reduceIte, reduceCtorEq]
    refine draw_go n90_6 a90_6 (by decide +kernel) ?_
    simp (maxSteps := 9000000) -implicitDefEqProofs -dsimp (disch := omega) only [go_sem, n90_6, a90_6, lt_T, lt_F, le_T, le_F, eq_T, eq_F, and_F, Nat.reduceEqDiff, Nat.reduceAdd, Nat.reduceMul, Nat.reduceLeDiff, Nat.reduceBEq, Nat.reduceBNe, Int.reduceEq, ↓reduceIte, reduceCtorEq]
def g79_0 : List Gop := [⟨none, (some 4), (.mov (.k (.one (.int .i64 0))))⟩]
def g79_1 : List Gop := [⟨none, (some 6), (.mov (.t 1))⟩, ⟨none, (some 7), (.bin .leq (.t 6) (.k (.one (.int .i64 1))))⟩]
def g79_2 : List Gop := [⟨none, (some 4), (.mov (.k (.one (.int .i64 0))))⟩]
def g79_3 : List Gop := [⟨none, (some 8), (.mov (.t 0))⟩, ⟨none, (some 9), (.call 90 [(.t 8)])⟩, ⟨none, (some 5), (.mov (.t 9))⟩]
def g79_4 : List Gop := [⟨none, (some 10), (.mov (.t 1))⟩, ⟨none, (some 11), (.bin .gtr (.t 10) (.k (.one (.int .i64 200))))⟩]
def g79_5 : List Gop := [⟨none, (some 12), (.mov (.t 5))⟩, ⟨none, (some 13), (.bin .mul (.t 12) (.k (.one (.int .i64 256))))⟩, ⟨none, (some 14), (.mov (.t 0))⟩, ⟨none, (some 15), (.call 90 [(.t 14)])⟩, ⟨none, (some 16), (.bin .add (.t 13) (.t 15))⟩, ⟨none, (some 5), (.mov (.t 16))⟩]
def g79_6 : List Gop := [⟨none, (some 17), (.mov (.t 5))⟩, ⟨none, (some 18), (.mov (.t 1))⟩, ⟨none, (some 19), (.bin .rem (.t 17) (.t 18))⟩, ⟨none, (some 4), (.mov (.t 19))⟩]
def i79 : Ir := (.seq (.region g79_0) (.seq (.seq (.region g79_1) (.cond (.t 7) (.seq (.region g79_2) .ret) .skip)) (.seq (.region g79_3) (.seq (.seq (.region g79_4) (.cond (.t 11) (.region g79_5) .skip)) (.seq (.region g79_6) .ret)))))
theorem pick_ok (c : Cu) (b n : Int) (hc : c.ok b) (hb : b ≤ 1125899906842624) (hn : 1 ≤ n) (hn2 : n ≤ 200) : Meets Try.prog 79 [.one (cuT c), .one (.int .i64 n)] (.w (.one (.int .i64 (pickF c n).1))) [.one (cuT (pickF c n).2), .one .hole] := by
  by_cases h1 : n = 1
  · subst h1
    rw [show pickF c 1 = (0, c) from if_pos (by omega)]
    unfold cuT
    refine meets_go (ir := i79) (fn := Try.f79) (rx := [(.tmp 4)]) rfl rfl (by rfl) (by rfl) (by exact Nat.le_of_ble_eq_true rfl) ?_
    simp (maxSteps := 9000000) -implicitDefEqProofs -dsimp (disch := omega) only [go_sem, g79_0, g79_1, g79_2, g79_3, g79_4, g79_5, g79_6, i79, lt_T, lt_F, le_T, le_F, eq_T, eq_F, and_F, Nat.reduceEqDiff, Nat.reduceAdd, Nat.reduceMul, Nat.reduceLeDiff, Nat.reduceBEq, Nat.reduceBNe, Int.reduceEq, ↓reduceIte, reduceCtorEq]
  · have M := next_ok c b hc hb
    have k2 := (next_in hc).2
    rw [show pickF c n = ((nextF c).1.tmod n, (nextF c).2) from if_neg (by omega)]
    unfold cuT at *
    generalize (nextF c).2 = c' at *
    generalize (nextF c).1 = x at *
    refine meets_go (ir := i79) (fn := Try.f79) (rx := [(.tmp 4)]) rfl rfl (by rfl) (by rfl) (by exact Nat.le_of_ble_eq_true rfl) ?_
    simp (maxSteps := 9000000) -implicitDefEqProofs -dsimp (disch := omega) only [go_sem, g79_0, g79_1, g79_2, g79_3, g79_4, g79_5, g79_6, i79, lt_T, lt_F, le_T, le_F, eq_T, eq_F, and_F, Nat.reduceEqDiff, Nat.reduceAdd, Nat.reduceMul, Nat.reduceLeDiff, Nat.reduceBEq, Nat.reduceBNe, Int.reduceEq, ↓reduceIte, reduceCtorEq]
    refine call_go false M ?_
    simp (maxSteps := 9000000) -implicitDefEqProofs -dsimp (disch := omega) only [go_sem, lt_T, lt_F, le_T, le_F, eq_T, eq_F, and_F, Nat.reduceEqDiff, Nat.reduceAdd, Nat.reduceMul, Nat.reduceLeDiff, Nat.reduceBEq, Nat.reduceBNe, Int.reduceEq, ↓reduceIte, reduceCtorEq]
def g89_0 : List Gop := [⟨none, (some 4), (.mov (.k (.one (.bool .false))))⟩]
def g89_1 : List Gop := [⟨none, (some 5), (.mov (.t 0))⟩, ⟨none, (some 6), (.mov (.t 1))⟩, ⟨none, (some 7), (.call 79 [(.t 5), (.t 6)])⟩, ⟨none, (some 8), (.bin .eql (.t 7) (.k (.one (.int .i64 0))))⟩, ⟨none, (some 4), (.mov (.t 8))⟩]
def i89 : Ir := (.seq (.region g89_0) (.seq (.region g89_1) .ret))
theorem one_ok (c : Cu) (b n : Int) (hc : c.ok b) (hb : b ≤ 1125899906842624) (hn : 1 ≤ n) (hn2 : n ≤ 200) : Meets Try.prog 89 [.one (cuT c), .one (.int .i64 n)] (.w (.one (.bool (oneF c n).1))) [.one (cuT (oneF c n).2), .one .hole] := by
  have M := pick_ok c b n hc hb hn hn2
  unfold oneF
  unfold cuT at *
  generalize (pickF c n).2 = c' at *
  generalize (pickF c n).1 = x at *
  refine meets_go (ir := i89) (fn := Try.f89) (rx := [(.tmp 4)]) rfl rfl (by rfl) (by rfl) (by exact Nat.le_of_ble_eq_true rfl) ?_
  simp (maxSteps := 9000000) -implicitDefEqProofs -dsimp (disch := omega) only [go_sem, g89_0, g89_1, i89, Nat.reduceEqDiff, Nat.reduceAdd, Nat.reduceMul, Nat.reduceLeDiff, Nat.reduceBEq, Nat.reduceBNe, Int.reduceEq, ↓reduceIte, reduceCtorEq]
  refine call_go false M ?_
  simp (maxSteps := 9000000) -implicitDefEqProofs -dsimp (disch := omega) only [go_sem, Nat.reduceEqDiff, Nat.reduceAdd, Nat.reduceMul, Nat.reduceLeDiff, Nat.reduceBEq, Nat.reduceBNe, Int.reduceEq, ↓reduceIte, reduceCtorEq]
end Go.Proofs.YtdhclelfnbjikaaT

/- Functions of the program as contracts: drawn nodes. No condition. -/
set_option maxRecDepth 100000
set_option maxHeartbeats 8000000
set_option linter.unusedSimpArgs false
set_option linter.unusedVariables false
namespace Go.Proofs.YtdhclelfnbjikaaT
open Go Go.RowKit
def hI (l : List Int) (n : Int) (c : Cu) : Nat → List Int × Cu
  | 0 => (l, c)
  | i + 1 => ((hI l n c i).1 ++ [(pickF (hI l n c i).2 n).1], (pickF (hI l n c i).2 n).2)
def hN (k : Nat) (c : Cu) : List Int × Cu := hI [] k (pickF c 4).2 (if k = 0 then 0 else (pickF c 4).1.toNat)
def nI (c : Cu) : Nat → List Nd × Cu
  | 0 => ([], c)
  | i + 1 => ((nI c i).1 ++ [⟨(hN i (nI c i).2).1, false⟩], (hN i (nI c i).2).2)
theorem hI_len {l : List Int} {n : Int} {c : Cu} : ∀ {i : Nat}, (hI l n c i).1.length = l.length + i
  | 0 => rfl
  | i + 1 => by simp only [hI, List.length_append, List.length_singleton, hI_len (i := i)]; omega
theorem hI_ok {l : List Int} {n b : Int} {c : Cu} (hc : c.ok b) : ∀ i : Nat, (hI l n c i).2.ok (b + i)
  | 0 => by simpa [hI] using hc
  | i + 1 => by
    have := pick_ok2 (n := n) (hI_ok (l := l) (n := n) hc i)
    exact this.mono (by omega)
theorem hN_len {k : Nat} {c : Cu} {b : Int} (hc : c.ok b) : (hN k c).1.length ≤ 3 := by
  have := pick_in (n := 4) hc (by omega)
  unfold hN
  rw [hI_len]
  split
  · simp
  · simp only [List.length_nil]; omega
theorem hN_ok {k : Nat} {c : Cu} {b : Int} (hc : c.ok b) : (hN k c).2.ok (b + 4) := by
  have h1 := pick_in (n := 4) hc (by omega)
  have h2 := pick_ok2 (n := 4) hc
  unfold hN
  refine (hI_ok h2 _).mono ?_
  split <;> omega
theorem nI_len {c : Cu} : ∀ {i : Nat}, (nI c i).1.length = i
  | 0 => rfl
  | i + 1 => by simp only [nI, List.length_append, List.length_singleton, nI_len (i := i)]
theorem nI_ok {b : Int} {c : Cu} (hc : c.ok b) : ∀ i : Nat, (nI c i).2.ok (b + 4 * i)
  | 0 => by simpa [nI] using hc
  | i + 1 => (hN_ok (nI_ok hc i)).mono (by omega)
theorem nI_mem {b : Int} {c : Cu} (hc : c.ok b) : ∀ i : Nat, ∀ x ∈ (nI c i).1, x.h.length ≤ 3 ∧ x.g = false
  | 0, x, hx => by simp [nI] at hx
  | i + 1, x, hx => by
    simp only [nI] at hx
    rcases List.mem_append.1 hx with hx | hx
    · exact nI_mem hc i x hx
    · rw [List.mem_singleton.1 hx]
      exact ⟨hN_len (nI_ok hc i), rfl⟩
theorem ndO_snoc2 {l : List Nd} {x : Nd} : ndO (l ++ [x]) = ndO l ++ [(.sl true 1 x.h.length (x.h.map (T.int .i64))), .bool x.g] := by
  simp only [ndO, rows2_app]; rfl
def g80_0 : List Gop := [⟨none, (some 2), (.mov (.k (.one .nil)))⟩, ⟨none, (some 3), (.mov (.k (.one .nil)))⟩]
def g80_1 : List Gop := [⟨none, (some 4), (.mov (.k (.one .nil)))⟩]
def g80_2 : List Gop := [⟨none, (some 11), (.mov (.t 0))⟩, ⟨none, (some 12), (.call 79 [(.t 11), (.k (.one (.int .i64 7)))])⟩, ⟨none, (some 13), (.bin .add (.k (.one (.int .i64 1))) (.t 12))⟩, ⟨none, (some 5), (.mov (.t 13))⟩]
def g80_3 : List Gop := [⟨none, (some 14), (.mov (.t 0))⟩, ⟨none, (some 15), (.call 89 [(.t 14), (.k (.one (.int .i64 20)))])⟩]
def g80_4 : List Gop := [⟨none, (some 16), (.mov (.t 0))⟩, ⟨none, (some 17), (.call 79 [(.t 16), (.k (.one (.int .i64 2)))])⟩, ⟨none, (some 18), (.bin .add (.k (.one (.int .i64 14))) (.t 17))⟩, ⟨none, (some 5), (.mov (.t 18))⟩]
def g80_5 : List Gop := [⟨none, (some 6), (.mov (.k (.one (.int .i64 0))))⟩]
def g80_6 : List Gop := [⟨none, (some 19), (.mov (.t 6))⟩, ⟨none, (some 20), (.mov (.t 5))⟩, ⟨none, (some 21), (.bin .lss (.t 19) (.t 20))⟩]
def g80_7 : List Gop := [⟨none, (some 7), (.alloc [.nil, (.bool .false)])⟩]
def g80_8 : List Gop := [⟨none, (some 24), (.mov (.t 0))⟩, ⟨none, (some 25), (.call 79 [(.t 24), (.k (.one (.int .i64 4)))])⟩, ⟨none, (some 8), (.mov (.t 25))⟩]
def g80_9 : List Gop := [⟨none, (some 26), (.mov (.t 8))⟩, ⟨none, (some 27), (.bin .gtr (.t 26) (.k (.one (.int .i64 0))))⟩, ⟨none, (some 28), (.mov (.t 27))⟩, ⟨(some (28, .true)), (some 29), (.mov (.t 6))⟩, ⟨(some (28, .true)), (some 30), (.bin .gtr (.t 29) (.k (.one (.int .i64 0))))⟩, ⟨none, (some 31), (.pick (.t 28) (.t 30) (.k (.one (.bool .false))))⟩]
def g80_10 : List Gop := [⟨none, (some 34), (.faddr (.t 7) 0)⟩, ⟨none, (some 35), (.load none (.t 34))⟩, ⟨none, (some 36), (.mov (.t 0))⟩, ⟨none, (some 37), (.mov (.t 6))⟩, ⟨none, (some 38), (.call 79 [(.t 36), (.t 37)])⟩, ⟨none, (some 39), (.lit 1 1 [(.int .i64 0)] [(0, (.t 38))])⟩, ⟨none, (some 40), (.app 1 8 [(.int .i64 0)] (.t 35) (.t 39))⟩, ⟨none, (some 41), (.faddr (.t 7) 0)⟩, ⟨none, none, (.store 1 (.t 41) (.t 40))⟩]
def a80_10 : List (List Nat) := [[], [0], [], [], [2, 3], [2, 3, 4], [0, 1, 2, 3, 4, 5], [0, 1, 2, 3, 4, 5, 6], [0, 1, 2, 3, 4, 5, 6, 7]]
def n80_10 : Nat := 6 -- of 9
def g80_11 : List Gop := [⟨none, (some 32), (.mov (.t 8))⟩, ⟨none, (some 33), (.bin .sub (.t 32) (.k (.one (.int .i64 1))))⟩, ⟨none, (some 8), (.mov (.t 33))⟩]
def g80_12 : List Gop := [⟨none, (some 42), (.mov (.t 4))⟩, ⟨none, (some 43), (.load (some 2) (.t 7))⟩, ⟨none, (some 44), (.lit 2 1 [.nil, (.bool .false)] [(0, (.t 43))])⟩, ⟨none, (some 45), (.app 2 32 [.nil, (.bool .false)] (.t 42) (.t 44))⟩, ⟨none, (some 4), (.mov (.t 45))⟩]
def g80_13 : List Gop := [⟨none, (some 22), (.mov (.t 6))⟩, ⟨none, (some 23), (.bin .add (.t 22) (.k (.one (.int .i64 1))))⟩, ⟨none, (some 6), (.mov (.t 23))⟩]
def g80_14 : List Gop := [⟨none, (some 46), (.mov (.t 5))⟩, ⟨none, (some 47), (.bin .sub (.t 46) (.k (.one (.int .i64 1))))⟩, ⟨none, (some 48), (.lit 1 1 [(.int .i64 0)] [(0, (.t 47))])⟩, ⟨none, (some 9), (.mov (.t 48))⟩]
def g80_15 : List Gop := [⟨none, (some 49), (.mov (.t 0))⟩, ⟨none, (some 50), (.call 79 [(.t 49), (.k (.one (.int .i64 4)))])⟩, ⟨none, (some 10), (.mov (.t 50))⟩]
def g80_16 : List Gop := [⟨none, (some 51), (.mov (.t 10))⟩, ⟨none, (some 52), (.bin .gtr (.t 51) (.k (.one (.int .i64 0))))⟩]
def g80_17 : List Gop := [⟨none, (some 55), (.mov (.t 9))⟩, ⟨none, (some 56), (.mov (.t 0))⟩, ⟨none, (some 57), (.mov (.t 5))⟩, ⟨none, (some 58), (.call 79 [(.t 56), (.t 57)])⟩, ⟨none, (some 59), (.lit 1 1 [(.int .i64 0)] [(0, (.t 58))])⟩, ⟨none, (some 60), (.app 1 8 [(.int .i64 0)] (.t 55) (.t 59))⟩, ⟨none, (some 9), (.mov (.t 60))⟩]
def g80_18 : List Gop := [⟨none, (some 53), (.mov (.t 10))⟩, ⟨none, (some 54), (.bin .sub (.t 53) (.k (.one (.int .i64 1))))⟩, ⟨none, (some 10), (.mov (.t 54))⟩]
def g80_19 : List Gop := [⟨none, (some 61), (.mov (.t 0))⟩, ⟨none, (some 62), (.call 89 [(.t 61), (.k (.one (.int .i64 12)))])⟩]
def g80_20 : List Gop := [⟨none, (some 63), (.mov (.t 4))⟩, ⟨none, (some 64), (.mov (.t 0))⟩, ⟨none, (some 65), (.mov (.t 5))⟩, ⟨none, (some 66), (.call 79 [(.t 64), (.t 65)])⟩, ⟨none, (some 67), (.iaddr 2 (.t 63) (.t 66))⟩, ⟨none, (some 68), (.faddr (.t 67) 1)⟩, ⟨none, none, (.store 1 (.t 68) (.k (.one (.bool .true))))⟩]
def g80_21 : List Gop := [⟨none, (some 69), (.mov (.t 4))⟩, ⟨none, (some 70), (.mov (.t 9))⟩, ⟨none, (some 2), (.mov (.t 69))⟩, ⟨none, (some 3), (.mov (.t 70))⟩]
def i80 : Ir := (.seq (.region g80_0) (.seq (.region g80_1) (.seq (.region g80_2) (.seq (.seq (.region g80_3) (.cond (.t 15) (.region g80_4) .skip)) (.seq (.seq (.region g80_5) (.block 0 (.loop (.seq (.seq (.region g80_6) (.cond (.t 21) .skip (.exit 0))) (.seq (.block 1 (.seq (.region g80_7) (.seq (.seq (.region g80_8) (.block 2 (.loop (.seq (.seq (.region g80_9) (.cond (.t 31) .skip (.exit 2))) (.seq (.block 3 (.draw [[], [0], [], [], [2, 3], [4], [1, 5, 4], [0, 1, 2, 3, 4, 5, 6], [7, 6, 6, 0, 1, 2, 3, 4, 5, 6]] g80_10)) (.region g80_11)))))) (.region g80_12)))) (.region g80_13)))))) (.seq (.region g80_14) (.seq (.seq (.region g80_15) (.block 4 (.loop (.seq (.seq (.region g80_16) (.cond (.t 52) .skip (.exit 4))) (.seq (.block 5 (.region g80_17)) (.region g80_18)))))) (.seq (.seq (.region g80_19) (.cond (.t 62) (.region g80_20) .skip)) (.seq (.region g80_21) .ret)))))))))
def ndS (N : Nat) (c4 : Cu) (i : Nat) : St := ⟨[(6, .w (.one (.int .i64 (i : Nat)))), (5, .w (.one (.int .i64 (N : Nat)))), (4, .w (.one (.hs 1 [] 0 2 i))), (0, .w (.one (.hp 0 [] 0)))], [(1, .sl true 2 i (ndO (nI c4 i).1)), (0, cuT (nI c4 i).2)], [.one (.hp 0 [] 0)]⟩
def hdS (N i : Nat) (l : List Nd) (m : Int) (c : Cu) (j : Nat) : St := ⟨[(8, .w (.one (.int .i64 (m - j)))), (7, .w (.one (.hp 2 [] 0))), (6, .w (.one (.int .i64 (i : Nat)))), (5, .w (.one (.int .i64 (N : Nat)))), (4, .w (.one (.hs 1 [] 0 2 i))), (0, .w (.one (.hp 0 [] 0)))], [(2, .bx true [.sl true 1 j ((hI [] i c j).1.map (T.int .i64)), .bool false]), (1, .sl true 2 i (ndO l)), (0, cuT (hI [] i c j).2)], [.one (.hp 0 [] 0)]⟩
theorem hd_round {N i : Nat} {l : List Nd} {m b : Int} {c : Cu} {j : Nat} (hc : c.ok b) (hb : b ≤ 1000000000) (hi : 0 < i) (hi2 : i ≤ 15) (hj : (j : Int) < m) (hm : m ≤ 3) : Rnd Try.prog (.seq (.seq (.region g80_9) (.cond (.t 31) .skip (.exit 2))) (.seq (.block 3 (.draw [[], [0], [], [], [2, 3], [4], [1, 5, 4], [0, 1, 2, 3, 4, 5, 6], [7, 6, 6, 0, 1, 2, 3, 4, 5, 6]] g80_10)) (.region g80_11))) (hdS N i l m c j) (hdS N i l m c (j + 1)) := by
  refine rnd_go ?_
  have o := hI_ok (l := []) (n := i) hc j
  have M := pick_ok (hI [] i c j).2 (b + j) i o (by omega) (by omega) (by omega)
  have hl := hI_len (l := []) (n := i) (c := c) (i := j)
  simp only [List.length_nil, Nat.zero_add] at hl
  have e : hI [] i c (j + 1) = ((hI [] i c j).1 ++ [(pickF (hI [] i c j).2 i).1], (pickF (hI [] i c j).2 i).2) := rfl
  unfold hdS
  rw [e]
  unfold cuT at *
  generalize (pickF (hI [] i c j).2 i).1 = x at *
  generalize (pickF (hI [] i c j).2 i).2 = c' at *
  generalize (hI [] i c j).1 = h at *
  generalize (hI [] i c j).2 = cj at *
  simp (maxSteps := 9000000) -implicitDefEqProofs -dsimp (disch := omega) only [go_sem, g80_0, g80_1, g80_2, g80_3, g80_4, g80_5, g80_6, g80_7, g80_8, g80_9, g80_10, a80_10, n80_10, g80_11, g80_12, g80_13, g80_14, g80_15, g80_16, g80_17, g80_18, g80_19, g80_20, g80_21, i80, lt_T, lt_F, le_T, le_F, eq_T, eq_F, and_F, Nat.reduceEqDiff, Nat.reduceAdd, Nat.reduceMul, Nat.reduceLeDiff, Nat.reduceBEq, Nat.reduceBNe, Int.reduceEq, ↓reduceIte, reduceCtorEq]
  refine drawm_go n80_10 a80_10 [(4, .framed [2])] (by decide +kernel) ?_
  simp (maxSteps := 9000000) -implicitDefEqProofs -dsimp (disch := omega) only [go_sem, g80_0, g80_1, g80_2, g80_3, g80_4, g80_5, g80_6, g80_7, g80_8, g80_9, g80_10, a80_10, n80_10, g80_11, g80_12, g80_13, g80_14, g80_15, g80_16, g80_17, g80_18, g80_19, g80_20, g80_21, i80, lt_T, lt_F, le_T, le_F, eq_T, eq_F, and_F, Nat.reduceEqDiff, Nat.reduceAdd, Nat.reduceMul, Nat.reduceLeDiff, Nat.reduceBEq, Nat.reduceBNe, Int.reduceEq, ↓reduceIte, reduceCtorEq]
  refine call_go false M ?_
  simp (maxSteps := 9000000) -implicitDefEqProofs -dsimp (disch := omega) only [go_sem, g80_0, g80_1, g80_2, g80_3, g80_4, g80_5, g80_6, g80_7, g80_8, g80_9, g80_10, a80_10, n80_10, g80_11, g80_12, g80_13, g80_14, g80_15, g80_16, g80_17, g80_18, g80_19, g80_20, g80_21, i80, lt_T, lt_F, le_T, le_F, eq_T, eq_F, and_F, Nat.reduceEqDiff, Nat.reduceAdd, Nat.reduceMul, Nat.reduceLeDiff, Nat.reduceBEq, Nat.reduceBNe, Int.reduceEq, ↓reduceIte, reduceCtorEq]
  have cc : cut (h.map (T.int .i64) ++ [T.int .i64 x]) 0 (j + 1) = h.map (T.int .i64) ++ [T.int .i64 x] := cut_all (by simp; omega)
  exact (imp_sub (by simp (maxSteps := 9000000) -implicitDefEqProofs -dsimp (disch := omega) only [go_sem, g80_0, g80_1, g80_2, g80_3, g80_4, g80_5, g80_6, g80_7, g80_8, g80_9, g80_10, a80_10, n80_10, g80_11, g80_12, g80_13, g80_14, g80_15, g80_16, g80_17, g80_18, g80_19, g80_20, g80_21, i80, cc, Int.sub_sub, Nat.reduceEqDiff, Nat.reduceAdd, Nat.reduceMul, Nat.reduceLeDiff, Nat.reduceBEq, Nat.reduceBNe, Int.reduceEq, ↓reduceIte, reduceCtorEq]) (by simp (maxSteps := 9000000) -implicitDefEqProofs -dsimp (disch := omega) only [go_sem, g80_0, g80_1, g80_2, g80_3, g80_4, g80_5, g80_6, g80_7, g80_8, g80_9, g80_10, a80_10, n80_10, g80_11, g80_12, g80_13, g80_14, g80_15, g80_16, g80_17, g80_18, g80_19, g80_20, g80_21, i80, cc, Int.sub_sub, Nat.reduceEqDiff, Nat.reduceAdd, Nat.reduceMul, Nat.reduceLeDiff, Nat.reduceBEq, Nat.reduceBNe, Int.reduceEq, ↓reduceIte, reduceCtorEq]) rfl)
theorem nd_round {N : Nat} {b : Int} {c4 : Cu} {i : Nat} (hc : c4.ok b) (hb : b ≤ 1000000) (hi : i < N) (hN : N ≤ 15) : Rnd Try.prog (.seq (.seq (.region g80_6) (.cond (.t 21) .skip (.exit 0))) (.seq (.block 1 (.seq (.region g80_7) (.seq (.seq (.region g80_8) (.block 2 (.loop (.seq (.seq (.region g80_9) (.cond (.t 31) .skip (.exit 2))) (.seq (.block 3 (.draw [[], [0], [], [], [2, 3], [4], [1, 5, 4], [0, 1, 2, 3, 4, 5, 6], [7, 6, 6, 0, 1, 2, 3, 4, 5, 6]] g80_10)) (.region g80_11)))))) (.region g80_12)))) (.region g80_13))) (ndS N c4 i) (ndS N c4 (i + 1)) := by
  refine rnd_go ?_
  have o := nI_ok hc i
  have M := pick_ok (nI c4 i).2 (b + 4 * i) 4 o (by omega) (by omega) (by omega)
  have im := pick_in (n := 4) o (by omega)
  have oq := pick_ok2 (n := 4) o
  have ll := nI_len (c := c4) (i := i)
  have e : nI c4 (i + 1) = ((nI c4 i).1 ++ [⟨(hI [] i (pickF (nI c4 i).2 4).2 (if i = 0 then 0 else (pickF (nI c4 i).2 4).1.toNat)).1, false⟩], (hI [] i (pickF (nI c4 i).2 4).2 (if i = 0 then 0 else (pickF (nI c4 i).2 4).1.toNat)).2) := rfl
  unfold ndS
  rw [e]
  generalize (pickF (nI c4 i).2 4).1 = m at *
  generalize (pickF (nI c4 i).2 4).2 = c' at *
  generalize (nI c4 i).1 = l at *
  generalize (nI c4 i).2 = ci at *
  generalize hJ : (if i = 0 then 0 else m.toNat) = J at *
  have hJ2 : (J : Int) ≤ m ∧ (i ≠ 0 → (J : Int) = m) := by
    subst hJ
    split
    · exact ⟨by omega, fun h => absurd ‹i = 0› h⟩
    · exact ⟨by omega, fun _ => by omega⟩
  have rnds : ∀ j, j < J → Rnd Try.prog (.seq (.seq (.region g80_9) (.cond (.t 31) .skip (.exit 2))) (.seq (.block 3 (.draw [[], [0], [], [], [2, 3], [4], [1, 5, 4], [0, 1, 2, 3, 4, 5, 6], [7, 6, 6, 0, 1, 2, 3, 4, 5, 6]] g80_10)) (.region g80_11))) (hdS N i l m c' j) (hdS N i l m c' (j + 1)) := fun j hj => by
    have hi0 : 0 < i := by
      rcases Nat.eq_zero_or_pos i with h | h
      · subst h; simp at hJ; omega
      · exact h
    exact hd_round oq (by omega) hi0 (by omega) (by omega) (by omega)
  have hl := hI_len (l := []) (n := i) (c := c') (i := J)
  simp only [List.length_nil, Nat.zero_add] at hl
  have eo : ∀ h : List Int, ndO (l ++ [⟨h, false⟩]) = ndO l ++ [(.sl true 1 h.length (h.map (T.int .i64))), .bool false] := fun h => ndO_snoc2
  rw [eo]
  simp only [cuT] at M
  simp (maxSteps := 9000000) -implicitDefEqProofs -dsimp (disch := omega) only [go_sem, g80_0, g80_1, g80_2, g80_3, g80_4, g80_5, g80_6, g80_7, g80_8, g80_9, g80_10, a80_10, n80_10, g80_11, g80_12, g80_13, g80_14, g80_15, g80_16, g80_17, g80_18, g80_19, g80_20, g80_21, i80, lt_T, lt_F, le_T, le_F, eq_T, eq_F, and_F, cuT, Nat.reduceEqDiff, Nat.reduceAdd, Nat.reduceMul, Nat.reduceLeDiff, Nat.reduceBEq, Nat.reduceBNe, Int.reduceEq, ↓reduceIte, reduceCtorEq]
  refine call_go false M ?_
  simp (maxSteps := 9000000) -implicitDefEqProofs -dsimp (disch := omega) only [go_sem, g80_0, g80_1, g80_2, g80_3, g80_4, g80_5, g80_6, g80_7, g80_8, g80_9, g80_10, a80_10, n80_10, g80_11, g80_12, g80_13, g80_14, g80_15, g80_16, g80_17, g80_18, g80_19, g80_20, g80_21, i80, lt_T, lt_F, le_T, le_F, eq_T, eq_F, and_F, Nat.reduceEqDiff, Nat.reduceAdd, Nat.reduceMul, Nat.reduceLeDiff, Nat.reduceBEq, Nat.reduceBNe, Int.reduceEq, ↓reduceIte, reduceCtorEq]
  refine loop_f J (fun j => hdS N i l m c' j) ?_ rnds ?_
  · unfold hdS
    exact (imp_fix 2 [] 0 1 rfl rfl rfl).trans (imp_sub (by simp (maxSteps := 9000000) -implicitDefEqProofs -dsimp (disch := omega) only [go_sem, g80_0, g80_1, g80_2, g80_3, g80_4, g80_5, g80_6, g80_7, g80_8, g80_9, g80_10, a80_10, n80_10, g80_11, g80_12, g80_13, g80_14, g80_15, g80_16, g80_17, g80_18, g80_19, g80_20, g80_21, i80, hI, cuT, Int.natCast_zero, Int.sub_zero, Nat.reduceEqDiff, Nat.reduceAdd, Nat.reduceMul, Nat.reduceLeDiff, Nat.reduceBEq, Nat.reduceBNe, Int.reduceEq, ↓reduceIte, reduceCtorEq]) (by simp (maxSteps := 9000000) -implicitDefEqProofs -dsimp (disch := omega) only [go_sem, g80_0, g80_1, g80_2, g80_3, g80_4, g80_5, g80_6, g80_7, g80_8, g80_9, g80_10, a80_10, n80_10, g80_11, g80_12, g80_13, g80_14, g80_15, g80_16, g80_17, g80_18, g80_19, g80_20, g80_21, i80, hI, cuT, Int.natCast_zero, Int.sub_zero, Nat.reduceEqDiff, Nat.reduceAdd, Nat.reduceMul, Nat.reduceLeDiff, Nat.reduceBEq, Nat.reduceBNe, Int.reduceEq, ↓reduceIte, reduceCtorEq]) rfl)
  · unfold hdS
    generalize (hI [] i c' J).1 = h at *
    generalize (hI [] i c' J).2 = cj at *
    by_cases h0 : i = 0
    · subst h0
      have l0 : ndO l = [] := by rw [List.length_eq_zero_iff.1 ll]; rfl
      simp (maxSteps := 9000000) -implicitDefEqProofs -dsimp (disch := omega) only [go_sem, g80_0, g80_1, g80_2, g80_3, g80_4, g80_5, g80_6, g80_7, g80_8, g80_9, g80_10, a80_10, n80_10, g80_11, g80_12, g80_13, g80_14, g80_15, g80_16, g80_17, g80_18, g80_19, g80_20, g80_21, i80, lt_T, lt_F, le_T, le_F, eq_T, eq_F, and_F, cuT, Nat.reduceEqDiff, Nat.reduceAdd, Nat.reduceMul, Nat.reduceLeDiff, Nat.reduceBEq, Nat.reduceBNe, Int.reduceEq, ↓reduceIte, reduceCtorEq]
      refine brP_i (fun h1 => ?_) (fun h1 => ?_)
      · simp (maxSteps := 9000000) -implicitDefEqProofs -dsimp (disch := omega) only [go_sem, g80_0, g80_1, g80_2, g80_3, g80_4, g80_5, g80_6, g80_7, g80_8, g80_9, g80_10, a80_10, n80_10, g80_11, g80_12, g80_13, g80_14, g80_15, g80_16, g80_17, g80_18, g80_19, g80_20, g80_21, i80, lt_T, lt_F, le_T, le_F, eq_T, eq_F, and_F, cuT, Nat.reduceEqDiff, Nat.reduceAdd, Nat.reduceMul, Nat.reduceLeDiff, Nat.reduceBEq, Nat.reduceBNe, Int.reduceEq, ↓reduceIte, reduceCtorEq]
        exact (imp_ren 4 1 rfl rfl).trans (imp_sub (by simp (maxSteps := 9000000) -implicitDefEqProofs -dsimp (disch := omega) only [go_sem, g80_0, g80_1, g80_2, g80_3, g80_4, g80_5, g80_6, g80_7, g80_8, g80_9, g80_10, a80_10, n80_10, g80_11, g80_12, g80_13, g80_14, g80_15, g80_16, g80_17, g80_18, g80_19, g80_20, g80_21, i80, hl, l0, List.nil_append, Nat.reduceEqDiff, Nat.reduceAdd, Nat.reduceMul, Nat.reduceLeDiff, Nat.reduceBEq, Nat.reduceBNe, Int.reduceEq, ↓reduceIte, reduceCtorEq]) (by simp (maxSteps := 9000000) -implicitDefEqProofs -dsimp (disch := omega) only [go_sem, g80_0, g80_1, g80_2, g80_3, g80_4, g80_5, g80_6, g80_7, g80_8, g80_9, g80_10, a80_10, n80_10, g80_11, g80_12, g80_13, g80_14, g80_15, g80_16, g80_17, g80_18, g80_19, g80_20, g80_21, i80, hl, l0, List.nil_append, Nat.reduceEqDiff, Nat.reduceAdd, Nat.reduceMul, Nat.reduceLeDiff, Nat.reduceBEq, Nat.reduceBNe, Int.reduceEq, ↓reduceIte, reduceCtorEq]) rfl)
      · simp (maxSteps := 9000000) -implicitDefEqProofs -dsimp (disch := omega) only [go_sem, g80_0, g80_1, g80_2, g80_3, g80_4, g80_5, g80_6, g80_7, g80_8, g80_9, g80_10, a80_10, n80_10, g80_11, g80_12, g80_13, g80_14, g80_15, g80_16, g80_17, g80_18, g80_19, g80_20, g80_21, i80, lt_T, lt_F, le_T, le_F, eq_T, eq_F, and_F, cuT, Nat.reduceEqDiff, Nat.reduceAdd, Nat.reduceMul, Nat.reduceLeDiff, Nat.reduceBEq, Nat.reduceBNe, Int.reduceEq, ↓reduceIte, reduceCtorEq]
        exact (imp_ren 4 1 rfl rfl).trans (imp_sub (by simp (maxSteps := 9000000) -implicitDefEqProofs -dsimp (disch := omega) only [go_sem, g80_0, g80_1, g80_2, g80_3, g80_4, g80_5, g80_6, g80_7, g80_8, g80_9, g80_10, a80_10, n80_10, g80_11, g80_12, g80_13, g80_14, g80_15, g80_16, g80_17, g80_18, g80_19, g80_20, g80_21, i80, hl, l0, List.nil_append, Nat.reduceEqDiff, Nat.reduceAdd, Nat.reduceMul, Nat.reduceLeDiff, Nat.reduceBEq, Nat.reduceBNe, Int.reduceEq, ↓reduceIte, reduceCtorEq]) (by simp (maxSteps := 9000000) -implicitDefEqProofs -dsimp (disch := omega) only [go_sem, g80_0, g80_1, g80_2, g80_3, g80_4, g80_5, g80_6, g80_7, g80_8, g80_9, g80_10, a80_10, n80_10, g80_11, g80_12, g80_13, g80_14, g80_15, g80_16, g80_17, g80_18, g80_19, g80_20, g80_21, i80, hl, l0, List.nil_append, Nat.reduceEqDiff, Nat.reduceAdd, Nat.reduceMul, Nat.reduceLeDiff, Nat.reduceBEq, Nat.reduceBNe, Int.reduceEq, ↓reduceIte, reduceCtorEq]) rfl)
    · have e2 := hJ2.2 h0
      rw [show m - (J : Int) = 0 by omega]
      simp (maxSteps := 9000000) -implicitDefEqProofs -dsimp (disch := omega) only [go_sem, g80_0, g80_1, g80_2, g80_3, g80_4, g80_5, g80_6, g80_7, g80_8, g80_9, g80_10, a80_10, n80_10, g80_11, g80_12, g80_13, g80_14, g80_15, g80_16, g80_17, g80_18, g80_19, g80_20, g80_21, i80, lt_T, lt_F, le_T, le_F, eq_T, eq_F, and_F, cuT, Nat.reduceEqDiff, Nat.reduceAdd, Nat.reduceMul, Nat.reduceLeDiff, Nat.reduceBEq, Nat.reduceBNe, Int.reduceEq, ↓reduceIte, reduceCtorEq]
      exact (imp_ren 4 1 rfl rfl).trans (imp_sub (by simp (maxSteps := 9000000) -implicitDefEqProofs -dsimp (disch := omega) only [go_sem, g80_0, g80_1, g80_2, g80_3, g80_4, g80_5, g80_6, g80_7, g80_8, g80_9, g80_10, a80_10, n80_10, g80_11, g80_12, g80_13, g80_14, g80_15, g80_16, g80_17, g80_18, g80_19, g80_20, g80_21, i80, hl, Nat.reduceEqDiff, Nat.reduceAdd, Nat.reduceMul, Nat.reduceLeDiff, Nat.reduceBEq, Nat.reduceBNe, Int.reduceEq, ↓reduceIte, reduceCtorEq]) (by simp (maxSteps := 9000000) -implicitDefEqProofs -dsimp (disch := omega) only [go_sem, g80_0, g80_1, g80_2, g80_3, g80_4, g80_5, g80_6, g80_7, g80_8, g80_9, g80_10, a80_10, n80_10, g80_11, g80_12, g80_13, g80_14, g80_15, g80_16, g80_17, g80_18, g80_19, g80_20, g80_21, i80, hl, Nat.reduceEqDiff, Nat.reduceAdd, Nat.reduceMul, Nat.reduceLeDiff, Nat.reduceBEq, Nat.reduceBNe, Int.reduceEq, ↓reduceIte, reduceCtorEq]) rfl)
def rtS (N : Nat) (l : List Nd) (m : Int) (c : Cu) (j : Nat) : St := ⟨[(10, .w (.one (.int .i64 (m - j)))), (9, .w (.one (.hs 2 [] 0 1 (1 + j)))), (5, .w (.one (.int .i64 (N : Nat)))), (4, .w (.one (.hs 1 [] 0 2 N))), (0, .w (.one (.hp 0 [] 0)))], [(2, .sl true 1 (1 + j) ((hI [(N : Int) - 1] N c j).1.map (T.int .i64))), (1, .sl true 2 N (ndO l)), (0, cuT (hI [(N : Int) - 1] N c j).2)], [.one (.hp 0 [] 0)]⟩
theorem rt_round {N : Nat} {l : List Nd} {m b : Int} {c : Cu} {j : Nat} (hc : c.ok b) (hb : b ≤ 1000000000) (hN : 1 ≤ N) (hN2 : N ≤ 15) (hj : (j : Int) < m) (hm : m ≤ 3) : Rnd Try.prog (.seq (.seq (.region g80_16) (.cond (.t 52) .skip (.exit 4))) (.seq (.block 5 (.region g80_17)) (.region g80_18))) (rtS N l m c j) (rtS N l m c (j + 1)) := by
  refine rnd_go ?_
  have o := hI_ok (l := [(N : Int) - 1]) (n := N) hc j
  have M := pick_ok (hI [(N : Int) - 1] N c j).2 (b + j) N o (by omega) (by omega) (by omega)
  have hl := hI_len (l := [(N : Int) - 1]) (n := N) (c := c) (i := j)
  simp only [List.length_singleton] at hl
  have e : hI [(N : Int) - 1] N c (j + 1) = ((hI [(N : Int) - 1] N c j).1 ++ [(pickF (hI [(N : Int) - 1] N c j).2 N).1], (pickF (hI [(N : Int) - 1] N c j).2 N).2) := rfl
  unfold rtS
  rw [e]
  unfold cuT at *
  generalize (pickF (hI [(N : Int) - 1] N c j).2 N).1 = x at *
  generalize (pickF (hI [(N : Int) - 1] N c j).2 N).2 = c' at *
  generalize (hI [(N : Int) - 1] N c j).1 = h at *
  generalize (hI [(N : Int) - 1] N c j).2 = cj at *
  simp (maxSteps := 9000000) -implicitDefEqProofs -dsimp (disch := omega) only [go_sem, g80_0, g80_1, g80_2, g80_3, g80_4, g80_5, g80_6, g80_7, g80_8, g80_9, g80_10, a80_10, n80_10, g80_11, g80_12, g80_13, g80_14, g80_15, g80_16, g80_17, g80_18, g80_19, g80_20, g80_21, i80, lt_T, lt_F, le_T, le_F, eq_T, eq_F, and_F, Nat.reduceEqDiff, Nat.reduceAdd, Nat.reduceMul, Nat.reduceLeDiff, Nat.reduceBEq, Nat.reduceBNe, Int.reduceEq, ↓reduceIte, reduceCtorEq]
  refine call_go false M ?_
  simp (maxSteps := 9000000) -implicitDefEqProofs -dsimp (disch := omega) only [go_sem, g80_0, g80_1, g80_2, g80_3, g80_4, g80_5, g80_6, g80_7, g80_8, g80_9, g80_10, a80_10, n80_10, g80_11, g80_12, g80_13, g80_14, g80_15, g80_16, g80_17, g80_18, g80_19, g80_20, g80_21, i80, lt_T, lt_F, le_T, le_F, eq_T, eq_F, and_F, Nat.reduceEqDiff, Nat.reduceAdd, Nat.reduceMul, Nat.reduceLeDiff, Nat.reduceBEq, Nat.reduceBNe, Int.reduceEq, ↓reduceIte, reduceCtorEq]
  exact (imp_ren 4 2 rfl rfl).trans (imp_sub (by simp (maxSteps := 9000000) -implicitDefEqProofs -dsimp (disch := omega) only [go_sem, g80_0, g80_1, g80_2, g80_3, g80_4, g80_5, g80_6, g80_7, g80_8, g80_9, g80_10, a80_10, n80_10, g80_11, g80_12, g80_13, g80_14, g80_15, g80_16, g80_17, g80_18, g80_19, g80_20, g80_21, i80, Int.sub_sub, Nat.add_assoc, Nat.reduceEqDiff, Nat.reduceAdd, Nat.reduceMul, Nat.reduceLeDiff, Nat.reduceBEq, Nat.reduceBNe, Int.reduceEq, ↓reduceIte, reduceCtorEq]) (by simp (maxSteps := 9000000) -implicitDefEqProofs -dsimp (disch := omega) only [go_sem, g80_0, g80_1, g80_2, g80_3, g80_4, g80_5, g80_6, g80_7, g80_8, g80_9, g80_10, a80_10, n80_10, g80_11, g80_12, g80_13, g80_14, g80_15, g80_16, g80_17, g80_18, g80_19, g80_20, g80_21, i80, Int.sub_sub, Nat.add_assoc, Nat.reduceEqDiff, Nat.reduceAdd, Nat.reduceMul, Nat.reduceLeDiff, Nat.reduceBEq, Nat.reduceBNe, Int.reduceEq, ↓reduceIte, reduceCtorEq]) rfl)
theorem nodes_ok (c : Cu) (b : Int) (hc : c.ok b) (hb : b ≤ 900000) : ∃ (n : List Nd) (r : List Int) (c' : Cu), c'.ok (b + 100) ∧ (1 ≤ n.length ∧ n.length ≤ 15) ∧ (∀ x ∈ n, x.h.length ≤ 3) ∧ (1 ≤ r.length ∧ r.length ≤ 4) ∧ Meets Try.prog 80 [.one (cuT c)] (.tup [.one (.sl true 2 n.length (ndO n)), .one (.sl true 1 r.length (r.map (T.int .i64)))]) [.one (cuT c')] := by
  have M1 := pick_ok c b 7 hc (by omega) (by omega) (by omega)
  have i1 := pick_in (n := 7) hc (by omega)
  have o1 := pick_ok2 (n := 7) hc
  generalize (pickF c 7).1 = x1 at *
  generalize (pickF c 7).2 = c1 at *
  have M2 := one_ok c1 (b + 1) 20 o1 (by omega) (by omega) (by omega)
  have o2 := one_ok2 (n := 20) o1
  generalize (oneF c1 20).1 = y2 at *
  generalize (oneF c1 20).2 = c2 at *
  have M3 := pick_ok c2 (b + 2) 2 (o2.mono (by omega)) (by omega) (by omega) (by omega)
  have i3 := pick_in (n := 2) o2 (by omega)
  have o3 := pick_ok2 (n := 2) o2
  generalize (pickF c2 2).1 = x3 at *
  generalize (pickF c2 2).2 = c3 at *
  obtain ⟨N, hN1, hN2, eN⟩ : ∃ N : Nat, 1 ≤ N ∧ N ≤ 15 ∧ (N : Int) = if y2 = true then 14 + x3 else 1 + x1 := by
    refine ⟨(if y2 = true then 14 + x3 else 1 + x1).toNat, ?_, ?_, ?_⟩ <;> split <;> omega
  obtain ⟨c4, e4, o4⟩ : ∃ c4 : Cu, c4 = (if y2 = true then c3 else c2) ∧ c4.ok (b + 3) := ⟨_, rfl, by
    split
    · exact o3.mono (by omega)
    · exact o2.mono (by omega)⟩
  have o5 := nI_ok o4 N
  have l5 := nI_len (c := c4) (i := N)
  have m5 := nI_mem o4 N
  have M6 := pick_ok (nI c4 N).2 (b + 63) 4 (o5.mono (by omega)) (by omega) (by omega) (by omega)
  have i6 := pick_in (n := 4) o5 (by omega)
  have o6 := pick_ok2 (n := 4) (o5.mono (show b + 3 + 4 * (N : Int) ≤ b + 63 by omega))
  obtain ⟨L, hL⟩ : ∃ L, L = (nI c4 N).1 := ⟨_, rfl⟩
  obtain ⟨c5, hc5⟩ : ∃ c5, c5 = (nI c4 N).2 := ⟨_, rfl⟩
  have rnd1 : ∀ i, i < N → Rnd Try.prog (.seq (.seq (.region g80_6) (.cond (.t 21) .skip (.exit 0))) (.seq (.block 1 (.seq (.region g80_7) (.seq (.seq (.region g80_8) (.block 2 (.loop (.seq (.seq (.region g80_9) (.cond (.t 31) .skip (.exit 2))) (.seq (.block 3 (.draw [[], [0], [], [], [2, 3], [4], [1, 5, 4], [0, 1, 2, 3, 4, 5, 6], [7, 6, 6, 0, 1, 2, 3, 4, 5, 6]] g80_10)) (.region g80_11)))))) (.region g80_12)))) (.region g80_13))) (ndS N c4 i) (ndS N c4 (i + 1)) := fun i hi => nd_round o4 (by omega) hi hN2
  rw [← hL] at l5 m5
  rw [← hc5] at M6 i6 o6
  generalize hm6 : (pickF c5 4).1 = m6 at *
  generalize (pickF c5 4).2 = c6 at *
  have o7 := hI_ok (l := [(N : Int) - 1]) (n := N) o6 m6.toNat
  have l7 := hI_len (l := [(N : Int) - 1]) (n := N) (c := c6) (i := m6.toNat)
  have rnd2 : ∀ j, j < m6.toNat → Rnd Try.prog (.seq (.seq (.region g80_16) (.cond (.t 52) .skip (.exit 4))) (.seq (.block 5 (.region g80_17)) (.region g80_18))) (rtS N L m6 c6 j) (rtS N L m6 c6 (j + 1)) := fun j hj => rt_round o6 (by omega) hN1 hN2 (by omega) (by omega)
  obtain ⟨R, hR⟩ : ∃ R, R = (hI [(N : Int) - 1] N c6 m6.toNat).1 := ⟨_, rfl⟩
  obtain ⟨c7, hc7⟩ : ∃ c7, c7 = (hI [(N : Int) - 1] N c6 m6.toNat).2 := ⟨_, rfl⟩
  rw [← hR] at l7
  rw [← hc7] at o7
  simp only [List.length_singleton] at l7
  have o7' : c7.ok (b + 67) := o7.mono (by omega)
  have M8 := one_ok c7 (b + 67) 12 o7' (by omega) (by omega) (by omega)
  have o8 := one_ok2 (n := 12) o7'
  generalize (oneF c7 12).1 = y8 at *
  generalize (oneF c7 12).2 = c8 at *
  have M9 := pick_ok c8 (b + 68) N (o8.mono (by omega)) (by omega) (by omega) (by omega)
  have i9 := pick_in (n := N) o8 (by omega)
  have o9 := pick_ok2 (n := N) o8
  generalize (pickF c8 N).1 = x9 at *
  generalize (pickF c8 N).2 = c9 at *
  have e9 : (x9.toNat : Int) = x9 := Int.toNat_of_nonneg i9.1
  have h9 : x9.toNat < L.length := by omega
  refine ⟨if y8 = true then L.set x9.toNat ⟨(L.getD x9.toNat default).h, true⟩ else L, R, if y8 = true then c9 else c8, ?_, ?_, ?_, ?_, ?_⟩
  · split
    · exact o9.mono (by omega)
    · exact o8.mono (by omega)
  · split
    · rw [List.length_set]; omega
    · omega
  · intro x hx
    split at hx
    · rcases List.mem_or_eq_of_mem_set hx with hx | rfl
      · exact (m5 x hx).1
      · exact (m5 _ (getD_mem h9)).1
    · exact (m5 x hx).1
  · omega
  have eL : (if y8 = true then L.set x9.toNat ⟨(L.getD x9.toNat default).h, true⟩ else L).length = N := by
    split
    · rw [List.length_set]; omega
    · omega
  rw [eL]
  have t1 : ndS N c4 0 = ndS N c4 0 := rfl
  have b1 := ndO_1 h9
  have qn : (ndO L).length = N * 2 := by rw [ndO_len, l5]
  have e9s : ((ndO L).set (x9.toNat * 2 + 1) (.bool true)) = ndO (L.set x9.toNat ⟨(L.getD x9.toNat default).h, true⟩) := by
    have := ndO_set ⟨(L.getD x9.toNat default).h, true⟩ h9
    simp only at this
    rw [← this]
    exact congrArg (fun z => List.set z _ _) (set_same (ndO_0 h9))
  have e10 : cut (ndO (L.set x9.toNat ⟨(L.getD x9.toNat default).h, true⟩)) 0 (N * 2) = ndO (L.set x9.toNat ⟨(L.getD x9.toNat default).h, true⟩) := ndO_cutN (by rw [List.length_set, l5])
  simp only [cuT] at M1 M2 M3 M6 M8 M9
  cases y2 with
  | true =>
    simp only [if_true, Bool.false_eq_true, if_false] at eN e4
    subst e4
    refine meets_go (ir := i80) (fn := Try.f80) (rx := [(.tmp 2), (.tmp 3)]) rfl rfl (by rfl) (by rfl) (by exact Nat.le_of_ble_eq_true rfl) ?_
    simp (maxSteps := 9000000) -implicitDefEqProofs -dsimp (disch := omega) only [go_sem, g80_0, g80_1, g80_2, g80_3, g80_4, g80_5, g80_6, g80_7, g80_8, g80_9, g80_10, a80_10, n80_10, g80_11, g80_12, g80_13, g80_14, g80_15, g80_16, g80_17, g80_18, g80_19, g80_20, g80_21, i80, lt_T, lt_F, le_T, le_F, eq_T, eq_F, and_F, cuT, Nat.reduceEqDiff, Nat.reduceAdd, Nat.reduceMul, Nat.reduceLeDiff, Nat.reduceBEq, Nat.reduceBNe, Int.reduceEq, ↓reduceIte, reduceCtorEq]
    refine call_go false M1 ?_
    simp (maxSteps := 9000000) -implicitDefEqProofs -dsimp (disch := omega) only [go_sem, lt_T, lt_F, le_T, le_F, eq_T, eq_F, and_F, Nat.reduceEqDiff, Nat.reduceAdd, Nat.reduceMul, Nat.reduceLeDiff, Nat.reduceBEq, Nat.reduceBNe, Int.reduceEq, ↓reduceIte, reduceCtorEq]
    refine call_go false M2 ?_
    simp (maxSteps := 9000000) -implicitDefEqProofs -dsimp (disch := omega) only [go_sem, lt_T, lt_F, le_T, le_F, eq_T, eq_F, and_F, Nat.reduceEqDiff, Nat.reduceAdd, Nat.reduceMul, Nat.reduceLeDiff, Nat.reduceBEq, Nat.reduceBNe, Int.reduceEq, ↓reduceIte, reduceCtorEq]
    refine call_go false M3 ?_
    simp (maxSteps := 9000000) -implicitDefEqProofs -dsimp (disch := omega) only [go_sem, lt_T, lt_F, le_T, le_F, eq_T, eq_F, and_F, Nat.reduceEqDiff, Nat.reduceAdd, Nat.reduceMul, Nat.reduceLeDiff, Nat.reduceBEq, Nat.reduceBNe, Int.reduceEq, ↓reduceIte, reduceCtorEq]
    rw [← eN]
    refine loop_f N (fun i => ndS N c4 i) ?_ rnd1 ?_
    · unfold ndS
      exact (imp_adopt 4 1 2 rfl rfl).trans (imp_sub (by simp (maxSteps := 9000000) -implicitDefEqProofs -dsimp (disch := omega) only [go_sem, g80_0, g80_1, g80_2, g80_3, g80_4, g80_5, g80_6, g80_7, g80_8, g80_9, g80_10, a80_10, n80_10, g80_11, g80_12, g80_13, g80_14, g80_15, g80_16, g80_17, g80_18, g80_19, g80_20, g80_21, i80, nI, cuT, ndO_nil, Nat.reduceEqDiff, Nat.reduceAdd, Nat.reduceMul, Nat.reduceLeDiff, Nat.reduceBEq, Nat.reduceBNe, Int.reduceEq, ↓reduceIte, reduceCtorEq]) (by simp (maxSteps := 9000000) -implicitDefEqProofs -dsimp (disch := omega) only [go_sem, g80_0, g80_1, g80_2, g80_3, g80_4, g80_5, g80_6, g80_7, g80_8, g80_9, g80_10, a80_10, n80_10, g80_11, g80_12, g80_13, g80_14, g80_15, g80_16, g80_17, g80_18, g80_19, g80_20, g80_21, i80, nI, cuT, ndO_nil, Nat.reduceEqDiff, Nat.reduceAdd, Nat.reduceMul, Nat.reduceLeDiff, Nat.reduceBEq, Nat.reduceBNe, Int.reduceEq, ↓reduceIte, reduceCtorEq]) rfl)
    · unfold ndS
      rw [← hL, ← hc5]
      simp (maxSteps := 9000000) -implicitDefEqProofs -dsimp (disch := omega) only [go_sem, g80_0, g80_1, g80_2, g80_3, g80_4, g80_5, g80_6, g80_7, g80_8, g80_9, g80_10, a80_10, n80_10, g80_11, g80_12, g80_13, g80_14, g80_15, g80_16, g80_17, g80_18, g80_19, g80_20, g80_21, i80, lt_T, lt_F, le_T, le_F, eq_T, eq_F, and_F, cuT, Nat.reduceEqDiff, Nat.reduceAdd, Nat.reduceMul, Nat.reduceLeDiff, Nat.reduceBEq, Nat.reduceBNe, Int.reduceEq, ↓reduceIte, reduceCtorEq]
      refine call_go false M6 ?_
      simp (maxSteps := 9000000) -implicitDefEqProofs -dsimp (disch := omega) only [go_sem, g80_0, g80_1, g80_2, g80_3, g80_4, g80_5, g80_6, g80_7, g80_8, g80_9, g80_10, a80_10, n80_10, g80_11, g80_12, g80_13, g80_14, g80_15, g80_16, g80_17, g80_18, g80_19, g80_20, g80_21, i80, lt_T, lt_F, le_T, le_F, eq_T, eq_F, and_F, Nat.reduceEqDiff, Nat.reduceAdd, Nat.reduceMul, Nat.reduceLeDiff, Nat.reduceBEq, Nat.reduceBNe, Int.reduceEq, ↓reduceIte, reduceCtorEq]
      refine loop_f m6.toNat (fun j => rtS N L m6 c6 j) ?_ rnd2 ?_
      · unfold rtS
        exact (imp_sub (by simp (maxSteps := 9000000) -implicitDefEqProofs -dsimp (disch := omega) only [go_sem, g80_0, g80_1, g80_2, g80_3, g80_4, g80_5, g80_6, g80_7, g80_8, g80_9, g80_10, a80_10, n80_10, g80_11, g80_12, g80_13, g80_14, g80_15, g80_16, g80_17, g80_18, g80_19, g80_20, g80_21, i80, hI, cuT, Int.natCast_zero, Int.sub_zero, Nat.reduceEqDiff, Nat.reduceAdd, Nat.reduceMul, Nat.reduceLeDiff, Nat.reduceBEq, Nat.reduceBNe, Int.reduceEq, ↓reduceIte, reduceCtorEq]) (by simp (maxSteps := 9000000) -implicitDefEqProofs -dsimp (disch := omega) only [go_sem, g80_0, g80_1, g80_2, g80_3, g80_4, g80_5, g80_6, g80_7, g80_8, g80_9, g80_10, a80_10, n80_10, g80_11, g80_12, g80_13, g80_14, g80_15, g80_16, g80_17, g80_18, g80_19, g80_20, g80_21, i80, hI, cuT, Int.natCast_zero, Int.sub_zero, Nat.reduceEqDiff, Nat.reduceAdd, Nat.reduceMul, Nat.reduceLeDiff, Nat.reduceBEq, Nat.reduceBNe, Int.reduceEq, ↓reduceIte, reduceCtorEq]) rfl)
      · unfold rtS
        rw [← hR, ← hc7, show m6 - (m6.toNat : Int) = 0 by omega, ← l7]
        cases y8 with
        | true =>
          simp (maxSteps := 9000000) -implicitDefEqProofs -dsimp (disch := omega) only [go_sem, g80_0, g80_1, g80_2, g80_3, g80_4, g80_5, g80_6, g80_7, g80_8, g80_9, g80_10, a80_10, n80_10, g80_11, g80_12, g80_13, g80_14, g80_15, g80_16, g80_17, g80_18, g80_19, g80_20, g80_21, i80, lt_T, lt_F, le_T, le_F, eq_T, eq_F, and_F, cuT, Nat.reduceEqDiff, Nat.reduceAdd, Nat.reduceMul, Nat.reduceLeDiff, Nat.reduceBEq, Nat.reduceBNe, Int.reduceEq, ↓reduceIte, reduceCtorEq]
          refine call_go false M8 ?_
          simp (maxSteps := 9000000) -implicitDefEqProofs -dsimp (disch := omega) only [go_sem, g80_0, g80_1, g80_2, g80_3, g80_4, g80_5, g80_6, g80_7, g80_8, g80_9, g80_10, a80_10, n80_10, g80_11, g80_12, g80_13, g80_14, g80_15, g80_16, g80_17, g80_18, g80_19, g80_20, g80_21, i80, lt_T, lt_F, le_T, le_F, eq_T, eq_F, and_F, Nat.reduceEqDiff, Nat.reduceAdd, Nat.reduceMul, Nat.reduceLeDiff, Nat.reduceBEq, Nat.reduceBNe, Int.reduceEq, ↓reduceIte, reduceCtorEq]
          refine call_go false M9 ?_
          simp (maxSteps := 9000000) -implicitDefEqProofs -dsimp (disch := omega) only [go_sem, g80_0, g80_1, g80_2, g80_3, g80_4, g80_5, g80_6, g80_7, g80_8, g80_9, g80_10, a80_10, n80_10, g80_11, g80_12, g80_13, g80_14, g80_15, g80_16, g80_17, g80_18, g80_19, g80_20, g80_21, i80, lt_T, lt_F, le_T, le_F, eq_T, eq_F, and_F, b1, e9s, e10, Nat.reduceEqDiff, Nat.reduceAdd, Nat.reduceMul, Nat.reduceLeDiff, Nat.reduceBEq, Nat.reduceBNe, Int.reduceEq, ↓reduceIte, reduceCtorEq]
          | false =>
          simp (maxSteps := 9000000) -implicitDefEqProofs -dsimp (disch := omega) only [go_sem, g80_0, g80_1, g80_2, g80_3, g80_4, g80_5, g80_6, g80_7, g80_8, g80_9, g80_10, a80_10, n80_10, g80_11, g80_12, g80_13, g80_14, g80_15, g80_16, g80_17, g80_18, g80_19, g80_20, g80_21, i80, lt_T, lt_F, le_T, le_F, eq_T, eq_F, and_F, cuT, Nat.reduceEqDiff, Nat.reduceAdd, Nat.reduceMul, Nat.reduceLeDiff, Nat.reduceBEq, Nat.reduceBNe, Int.reduceEq, ↓reduceIte, reduceCtorEq]
          refine call_go false M8 ?_
          simp (maxSteps := 9000000) -implicitDefEqProofs -dsimp (disch := omega) only [go_sem, g80_0, g80_1, g80_2, g80_3, g80_4, g80_5, g80_6, g80_7, g80_8, g80_9, g80_10, a80_10, n80_10, g80_11, g80_12, g80_13, g80_14, g80_15, g80_16, g80_17, g80_18, g80_19, g80_20, g80_21, i80, lt_T, lt_F, le_T, le_F, eq_T, eq_F, and_F, Nat.reduceEqDiff, Nat.reduceAdd, Nat.reduceMul, Nat.reduceLeDiff, Nat.reduceBEq, Nat.reduceBNe, Int.reduceEq, ↓reduceIte, reduceCtorEq]
  | false =>
    simp only [if_true, Bool.false_eq_true, if_false] at eN e4
    subst e4
    refine meets_go (ir := i80) (fn := Try.f80) (rx := [(.tmp 2), (.tmp 3)]) rfl rfl (by rfl) (by rfl) (by exact Nat.le_of_ble_eq_true rfl) ?_
    simp (maxSteps := 9000000) -implicitDefEqProofs -dsimp (disch := omega) only [go_sem, g80_0, g80_1, g80_2, g80_3, g80_4, g80_5, g80_6, g80_7, g80_8, g80_9, g80_10, a80_10, n80_10, g80_11, g80_12, g80_13, g80_14, g80_15, g80_16, g80_17, g80_18, g80_19, g80_20, g80_21, i80, lt_T, lt_F, le_T, le_F, eq_T, eq_F, and_F, cuT, Nat.reduceEqDiff, Nat.reduceAdd, Nat.reduceMul, Nat.reduceLeDiff, Nat.reduceBEq, Nat.reduceBNe, Int.reduceEq, ↓reduceIte, reduceCtorEq]
    refine call_go false M1 ?_
    simp (maxSteps := 9000000) -implicitDefEqProofs -dsimp (disch := omega) only [go_sem, lt_T, lt_F, le_T, le_F, eq_T, eq_F, and_F, Nat.reduceEqDiff, Nat.reduceAdd, Nat.reduceMul, Nat.reduceLeDiff, Nat.reduceBEq, Nat.reduceBNe, Int.reduceEq, ↓reduceIte, reduceCtorEq]
    refine call_go false M2 ?_
    simp (maxSteps := 9000000) -implicitDefEqProofs -dsimp (disch := omega) only [go_sem, lt_T, lt_F, le_T, le_F, eq_T, eq_F, and_F, Nat.reduceEqDiff, Nat.reduceAdd, Nat.reduceMul, Nat.reduceLeDiff, Nat.reduceBEq, Nat.reduceBNe, Int.reduceEq, ↓reduceIte, reduceCtorEq]
    rw [← eN]
    refine loop_f N (fun i => ndS N c4 i) ?_ rnd1 ?_
    · unfold ndS
      exact (imp_adopt 4 1 2 rfl rfl).trans (imp_sub (by simp (maxSteps := 9000000) -implicitDefEqProofs -dsimp (disch := omega) only [go_sem, g80_0, g80_1, g80_2, g80_3, g80_4, g80_5, g80_6, g80_7, g80_8, g80_9, g80_10, a80_10, n80_10, g80_11, g80_12, g80_13, g80_14, g80_15, g80_16, g80_17, g80_18, g80_19, g80_20, g80_21, i80, nI, cuT, ndO_nil, Nat.reduceEqDiff, Nat.reduceAdd, Nat.reduceMul, Nat.reduceLeDiff, Nat.reduceBEq, Nat.reduceBNe, Int.reduceEq, ↓reduceIte, reduceCtorEq]) (by simp (maxSteps := 9000000) -implicitDefEqProofs -dsimp (disch := omega) only [go_sem, g80_0, g80_1, g80_2, g80_3, g80_4, g80_5, g80_6, g80_7, g80_8, g80_9, g80_10, a80_10, n80_10, g80_11, g80_12, g80_13, g80_14, g80_15, g80_16, g80_17, g80_18, g80_19, g80_20, g80_21, i80, nI, cuT, ndO_nil, Nat.reduceEqDiff, Nat.reduceAdd, Nat.reduceMul, Nat.reduceLeDiff, Nat.reduceBEq, Nat.reduceBNe, Int.reduceEq, ↓reduceIte, reduceCtorEq]) rfl)
    · unfold ndS
      rw [← hL, ← hc5]
      simp (maxSteps := 9000000) -implicitDefEqProofs -dsimp (disch := omega) only [go_sem, g80_0, g80_1, g80_2, g80_3, g80_4, g80_5, g80_6, g80_7, g80_8, g80_9, g80_10, a80_10, n80_10, g80_11, g80_12, g80_13, g80_14, g80_15, g80_16, g80_17, g80_18, g80_19, g80_20, g80_21, i80, lt_T, lt_F, le_T, le_F, eq_T, eq_F, and_F, cuT, Nat.reduceEqDiff, Nat.reduceAdd, Nat.reduceMul, Nat.reduceLeDiff, Nat.reduceBEq, Nat.reduceBNe, Int.reduceEq, ↓reduceIte, reduceCtorEq]
      refine call_go false M6 ?_
      simp (maxSteps := 9000000) -implicitDefEqProofs -dsimp (disch := omega) only [go_sem, g80_0, g80_1, g80_2, g80_3, g80_4, g80_5, g80_6, g80_7, g80_8, g80_9, g80_10, a80_10, n80_10, g80_11, g80_12, g80_13, g80_14, g80_15, g80_16, g80_17, g80_18, g80_19, g80_20, g80_21, i80, lt_T, lt_F, le_T, le_F, eq_T, eq_F, and_F, Nat.reduceEqDiff, Nat.reduceAdd, Nat.reduceMul, Nat.reduceLeDiff, Nat.reduceBEq, Nat.reduceBNe, Int.reduceEq, ↓reduceIte, reduceCtorEq]
      refine loop_f m6.toNat (fun j => rtS N L m6 c6 j) ?_ rnd2 ?_
      · unfold rtS
        exact (imp_sub (by simp (maxSteps := 9000000) -implicitDefEqProofs -dsimp (disch := omega) only [go_sem, g80_0, g80_1, g80_2, g80_3, g80_4, g80_5, g80_6, g80_7, g80_8, g80_9, g80_10, a80_10, n80_10, g80_11, g80_12, g80_13, g80_14, g80_15, g80_16, g80_17, g80_18, g80_19, g80_20, g80_21, i80, hI, cuT, Int.natCast_zero, Int.sub_zero, Nat.reduceEqDiff, Nat.reduceAdd, Nat.reduceMul, Nat.reduceLeDiff, Nat.reduceBEq, Nat.reduceBNe, Int.reduceEq, ↓reduceIte, reduceCtorEq]) (by simp (maxSteps := 9000000) -implicitDefEqProofs -dsimp (disch := omega) only [go_sem, g80_0, g80_1, g80_2, g80_3, g80_4, g80_5, g80_6, g80_7, g80_8, g80_9, g80_10, a80_10, n80_10, g80_11, g80_12, g80_13, g80_14, g80_15, g80_16, g80_17, g80_18, g80_19, g80_20, g80_21, i80, hI, cuT, Int.natCast_zero, Int.sub_zero, Nat.reduceEqDiff, Nat.reduceAdd, Nat.reduceMul, Nat.reduceLeDiff, Nat.reduceBEq, Nat.reduceBNe, Int.reduceEq, ↓reduceIte, reduceCtorEq]) rfl)
      · unfold rtS
        rw [← hR, ← hc7, show m6 - (m6.toNat : Int) = 0 by omega, ← l7]
        cases y8 with
        | true =>
          simp (maxSteps := 9000000) -implicitDefEqProofs -dsimp (disch := omega) only [go_sem, g80_0, g80_1, g80_2, g80_3, g80_4, g80_5, g80_6, g80_7, g80_8, g80_9, g80_10, a80_10, n80_10, g80_11, g80_12, g80_13, g80_14, g80_15, g80_16, g80_17, g80_18, g80_19, g80_20, g80_21, i80, lt_T, lt_F, le_T, le_F, eq_T, eq_F, and_F, cuT, Nat.reduceEqDiff, Nat.reduceAdd, Nat.reduceMul, Nat.reduceLeDiff, Nat.reduceBEq, Nat.reduceBNe, Int.reduceEq, ↓reduceIte, reduceCtorEq]
          refine call_go false M8 ?_
          simp (maxSteps := 9000000) -implicitDefEqProofs -dsimp (disch := omega) only [go_sem, g80_0, g80_1, g80_2, g80_3, g80_4, g80_5, g80_6, g80_7, g80_8, g80_9, g80_10, a80_10, n80_10, g80_11, g80_12, g80_13, g80_14, g80_15, g80_16, g80_17, g80_18, g80_19, g80_20, g80_21, i80, lt_T, lt_F, le_T, le_F, eq_T, eq_F, and_F, Nat.reduceEqDiff, Nat.reduceAdd, Nat.reduceMul, Nat.reduceLeDiff, Nat.reduceBEq, Nat.reduceBNe, Int.reduceEq, ↓reduceIte, reduceCtorEq]
          refine call_go false M9 ?_
          simp (maxSteps := 9000000) -implicitDefEqProofs -dsimp (disch := omega) only [go_sem, g80_0, g80_1, g80_2, g80_3, g80_4, g80_5, g80_6, g80_7, g80_8, g80_9, g80_10, a80_10, n80_10, g80_11, g80_12, g80_13, g80_14, g80_15, g80_16, g80_17, g80_18, g80_19, g80_20, g80_21, i80, lt_T, lt_F, le_T, le_F, eq_T, eq_F, and_F, b1, e9s, e10, Nat.reduceEqDiff, Nat.reduceAdd, Nat.reduceMul, Nat.reduceLeDiff, Nat.reduceBEq, Nat.reduceBNe, Int.reduceEq, ↓reduceIte, reduceCtorEq]
          | false =>
          simp (maxSteps := 9000000) -implicitDefEqProofs -dsimp (disch := omega) only [go_sem, g80_0, g80_1, g80_2, g80_3, g80_4, g80_5, g80_6, g80_7, g80_8, g80_9, g80_10, a80_10, n80_10, g80_11, g80_12, g80_13, g80_14, g80_15, g80_16, g80_17, g80_18, g80_19, g80_20, g80_21, i80, lt_T, lt_F, le_T, le_F, eq_T, eq_F, and_F, cuT, Nat.reduceEqDiff, Nat.reduceAdd, Nat.reduceMul, Nat.reduceLeDiff, Nat.reduceBEq, Nat.reduceBNe, Int.reduceEq, ↓reduceIte, reduceCtorEq]
          refine call_go false M8 ?_
          simp (maxSteps := 9000000) -implicitDefEqProofs -dsimp (disch := omega) only [go_sem, g80_0, g80_1, g80_2, g80_3, g80_4, g80_5, g80_6, g80_7, g80_8, g80_9, g80_10, a80_10, n80_10, g80_11, g80_12, g80_13, g80_14, g80_15, g80_16, g80_17, g80_18, g80_19, g80_20, g80_21, i80, lt_T, lt_F, le_T, le_F, eq_T, eq_F, and_F, Nat.reduceEqDiff, Nat.reduceAdd, Nat.reduceMul, Nat.reduceLeDiff, Nat.reduceBEq, Nat.reduceBNe, Int.reduceEq, ↓reduceIte, reduceCtorEq]
end Go.Proofs.YtdhclelfnbjikaaT
