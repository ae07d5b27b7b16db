/- Functions of the program, each with what it returns and leaves. No condition. -/
import Derived.Test.YtdhclelfnbjikaaFn5
import Derived.Test.YtdhclelfnbjikaaFn4
import Derived.Test.YtdhclelfnbjikaaTree8
import Derived.Test.YtdhclelfnbjikaaFn3
import Derived.KernelRfl
set_option linter.all false
set_option linter.unusedVariables false
set_option linter.unusedSimpArgs false
set_option linter.unusedSectionVars false
set_option linter.unnecessarySimpa false
set_option linter.deprecated false
/- Functions of the program as contracts: drawn graphs. No condition. -/
set_option maxRecDepth 100000
set_option maxHeartbeats 8000000
set_option linter.unusedSimpArgs false
set_option linter.unusedVariables false
namespace Go.Proofs.YtdhclelfnbjikaaT
open Go Go.RowKit
theorem sw_good {n : List Nd} {r : List Int} (h : NodesOk n r) : GoodG ⟨swN n r, r, countsF (swN n r) r⟩ := by
  refine ⟨sw_nodes h, rfl, fun i hi hg => ?_⟩
  simp only [swN_len] at hi
  simp only at hg ⊢
  rw [counts_get (by rw [swN_len]; exact hi)]
  have n1 := occ_nn (j := i) (l := r)
  have n2 := tots_nn (j := i) (n := swN n r)
  rw [swN_get hi] at hg
  have hr : Rch n r (i : Int) := by
    by_cases hr : Rch n r (i : Int)
    · exact hr
    · rw [swG, if_neg hr] at hg; simp at hg
  generalize hy : (i : Int) = y at hr
  cases hr with
  | root h1 =>
    intro e
    have : occ i r = 0 := by omega
    exact occ_zero this y h1 (by omega)
  | @step x _ h1 h2 =>
    intro e
    have hx := rch_hold h h1
    have a := hx.1
    have b := hx.2.1
    have ex : swG n r x.toNat = n.getD x.toNat default := by rw [swG, if_pos (by rw [Int.toNat_of_nonneg a]; exact h1)]
    have hm : n.getD x.toNat default ∈ swN n r := by
      rw [← ex, ← swN_get (show x.toNat < n.length by omega)]
      exact getD_mem (by rw [swN_len]; omega)
    have := tots_le (j := i) hm
    have := occ_nn (j := i) (l := (n.getD x.toNat default).h)
    have z : occ i (n.getD x.toNat default).h = 0 := by omega
    exact occ_zero z y h2 (by omega)
theorem dr_good {g : Gr} {k : Int} (h : DrOk g k) : GoodG ⟨(drF g k.toNat).n, delF g.r k.toNat, (drF g k.toNat).c⟩ := by
  obtain ⟨hG, h1, h2⟩ := h
  have hk : k.toNat < g.r.length := by omega
  have := delF_len hk
  exact sem_good (drF_sem hG hk) hG.1.2.2.1 (by have := hG.1.2.2.2; omega)
def g0 : Gr := ⟨[⟨[], false⟩], [0], [1]⟩
theorem g0_good : GoodG g0 := by
  refine ⟨⟨fun i hi => ?_, fun y hy => ?_, by decide, by decide⟩, rfl, fun i hi hg => ?_⟩
  · simp only [g0, List.length_singleton] at hi
    obtain rfl : i = 0 := by omega
    exact ⟨fun y hy => by simp [g0] at hy, by simp [g0], by simp [g0]⟩
  · simp only [g0, List.mem_singleton] at hy
    subst hy
    exact ⟨by decide, by decide, rfl⟩
  · simp only [g0, List.length_singleton] at hi
    obtain rfl : i = 0 := by omega
    simp [g0]
/-- a round: a root let go -/
noncomputable def dgF (q : Gr × Cu) : Gr × Cu := (if DrOk q.1 (pickF q.2 3).1 ∧ 0 < (delF q.1.r (pickF q.2 3).1.toNat).length then ⟨(drF q.1 (pickF q.2 3).1.toNat).n, delF q.1.r (pickF q.2 3).1.toNat, (drF q.1 (pickF q.2 3).1.toNat).c⟩ else q.1, (pickF q.2 3).2)
noncomputable def dgI (q : Gr × Cu) : Nat → Gr × Cu
  | 0 => q
  | i + 1 => dgF (dgI q i)
theorem dgI_good {q : Gr × Cu} {b : Int} (h : GoodG q.1) (hc : q.2.ok b) : ∀ i : Nat, GoodG (dgI q i).1 ∧ (dgI q i).2.ok (b + i)
  | 0 => ⟨h, by simpa [dgI] using hc⟩
  | i + 1 => by
    obtain ⟨h1, h2⟩ := dgI_good h hc i
    refine ⟨?_, (pick_ok2 (n := 3) h2).mono (by omega)⟩
    simp only [dgI, dgF]
    split
    · rename_i w; exact dr_good w.1
    · exact h1
def g78_0 : List Gop := [⟨none, (some 2), (.alloc [.nil, .nil, .nil])⟩]
def g78_1 : List Gop := [⟨none, (some 13), (.mov (.t 0))⟩, ⟨none, (some 14), (.call 80 [(.t 13)])⟩, ⟨none, (some 12), (.mov (.t 14))⟩, ⟨none, (some 15), (.ext (.t 12) 0)⟩, ⟨none, (some 16), (.ext (.t 12) 1)⟩, ⟨none, (some 3), (.mov (.t 15))⟩, ⟨none, (some 4), (.mov (.t 16))⟩]
def g78_2 : List Gop := [⟨none, (some 18), (.mov (.t 3))⟩, ⟨none, (some 19), (.mov (.t 4))⟩, ⟨none, (some 20), (.build [.nil, .nil, .nil] [(0, (1, (.t 18))), (1, (1, (.t 19)))])⟩, ⟨none, (some 21), (.call 39 [(.t 20)])⟩, ⟨none, (some 17), (.mov (.t 21))⟩, ⟨none, (some 22), (.ext (.t 17) 0)⟩, ⟨none, (some 23), (.ext (.t 17) 1)⟩, ⟨none, (some 24), (.ext (.t 17) 2)⟩, ⟨none, (some 5), (.alloc [.nil, .nil, .nil])⟩, ⟨none, none, (.store 3 (.t 5) (.t 22))⟩, ⟨none, (some 6), (.mov (.t 23))⟩, ⟨none, (some 7), (.mov (.t 24))⟩]
def g78_3 : List Gop := [⟨none, (some 25), (.mov (.t 7))⟩, ⟨none, (some 26), (.un .not (.t 25))⟩]
def g78_4 : List Gop := [⟨none, (some 28), (.build [.nil, (.bool .false)] [])⟩, ⟨none, (some 29), (.lit 2 1 [.nil, (.bool .false)] [(0, (.t 28))])⟩, ⟨none, (some 30), (.lit 1 1 [(.int .i64 0)] [(0, (.k (.one (.int .i64 0))))])⟩, ⟨none, (some 31), (.call 29 [(.t 29), (.t 30)])⟩, ⟨none, (some 27), (.mov (.t 31))⟩, ⟨none, (some 32), (.ext (.t 27) 0)⟩, ⟨none, (some 33), (.ext (.t 27) 1)⟩, ⟨none, none, (.store 3 (.t 5) (.t 32))⟩]
def g78_5 : List Gop := [⟨none, (some 34), (.mov (.t 0))⟩, ⟨none, (some 35), (.call 79 [(.t 34), (.k (.one (.int .i64 3)))])⟩, ⟨none, (some 8), (.mov (.t 35))⟩]
def g78_6 : List Gop := [⟨none, (some 36), (.mov (.t 8))⟩, ⟨none, (some 37), (.bin .gtr (.t 36) (.k (.one (.int .i64 0))))⟩]
def g78_7 : List Gop := [⟨none, (some 41), (.load (some 3) (.t 5))⟩, ⟨none, (some 42), (.mov (.t 0))⟩, ⟨none, (some 43), (.call 79 [(.t 42), (.k (.one (.int .i64 3)))])⟩, ⟨none, (some 44), (.call 41 [(.t 41), (.t 43)])⟩, ⟨none, (some 40), (.mov (.t 44))⟩, ⟨none, (some 45), (.ext (.t 40) 0)⟩, ⟨none, (some 46), (.ext (.t 40) 1)⟩, ⟨none, (some 47), (.ext (.t 40) 2)⟩, ⟨none, (some 9), (.alloc [.nil, .nil, .nil])⟩, ⟨none, none, (.store 3 (.t 9) (.t 45))⟩, ⟨none, (some 10), (.mov (.t 46))⟩, ⟨none, (some 11), (.mov (.t 47))⟩]
def a78_7 : List (List Nat) := [[], [], [1], [0, 1, 2], [0, 1, 2, 3], [0, 1, 2, 3, 4], [0, 1, 2, 3, 4], [0, 1, 2, 3, 4], [], [0, 1, 2, 3, 4, 5, 8], [0, 1, 2, 3, 4, 5, 6, 8, 9], [0, 1, 2, 3, 4, 5, 6, 7, 8, 9, 10]]
def n78_7 : Nat := 11 -- of 12
def g78_8 : List Gop := [⟨none, (some 48), (.mov (.t 11))⟩, ⟨none, (some 49), (.mov (.t 48))⟩, ⟨(some (49, .true)), (some 50), (.faddr (.t 9) 1)⟩, ⟨(some (49, .true)), (some 51), (.load none (.t 50))⟩, ⟨(some (49, .true)), (some 52), (.len (.t 51))⟩, ⟨(some (49, .true)), (some 53), (.bin .gtr (.t 52) (.k (.one (.int .i64 0))))⟩, ⟨none, (some 54), (.pick (.t 49) (.t 53) (.k (.one (.bool .false))))⟩]
def g78_9 : List Gop := [⟨none, (some 55), (.load (some 3) (.t 9))⟩, ⟨none, none, (.store 3 (.t 5) (.t 55))⟩]
def g78_10 : List Gop := [⟨none, (some 38), (.mov (.t 8))⟩, ⟨none, (some 39), (.bin .sub (.t 38) (.k (.one (.int .i64 1))))⟩, ⟨none, (some 8), (.mov (.t 39))⟩]
def g78_11 : List Gop := [⟨none, (some 56), (.faddr (.t 5) 2)⟩, ⟨none, (some 57), (.load none (.t 56))⟩, ⟨none, (some 58), (.len (.t 57))⟩, ⟨none, (some 59), (.bin .gtr (.t 58) (.k (.one (.int .i64 0))))⟩, ⟨none, (some 60), (.mov (.t 59))⟩, ⟨(some (60, .true)), (some 61), (.mov (.t 0))⟩, ⟨(some (60, .true)), (some 62), (.call 89 [(.t 61), (.k (.one (.int .i64 20)))])⟩, ⟨none, (some 63), (.pick (.t 60) (.t 62) (.k (.one (.bool .false))))⟩]
def g78_12 : List Gop := [⟨none, (some 64), (.faddr (.t 5) 2)⟩, ⟨none, (some 65), (.load none (.t 64))⟩, ⟨none, (some 66), (.mov (.t 0))⟩, ⟨none, (some 67), (.faddr (.t 5) 2)⟩, ⟨none, (some 68), (.load none (.t 67))⟩, ⟨none, (some 69), (.len (.t 68))⟩, ⟨none, (some 70), (.call 79 [(.t 66), (.t 69)])⟩, ⟨none, (some 71), (.iaddr 1 (.t 65) (.t 70))⟩, ⟨none, (some 72), (.load none (.t 71))⟩, ⟨none, (some 73), (.bin .add (.t 72) (.k (.one (.int .i64 1))))⟩, ⟨none, (some 74), (.iaddr 1 (.t 65) (.t 70))⟩, ⟨none, none, (.store 1 (.t 74) (.t 73))⟩]
def a78_12 : List (List Nat) := [[], [0], [], [], [3], [3, 4], [2, 3, 4, 5], [0, 1, 2, 3, 4, 5, 6], [0, 1, 2, 3, 4, 5, 6, 7], [0, 1, 2, 3, 4, 5, 6, 7, 8], [0, 1, 2, 3, 4, 5, 6, 7, 8, 9], [0, 1, 2, 3, 4, 5, 6, 7, 8, 9, 10]]
def n78_12 : Nat := 7 -- of 12
def g78_13 : List Gop := [⟨none, (some 75), (.load (some 3) (.t 5))⟩, ⟨none, none, (.store 3 (.t 2) (.t 75))⟩]
def i78 : Ir := (.seq (.region g78_0) (.seq (.region g78_1) (.seq (.region g78_2) (.seq (.seq (.region g78_3) (.cond (.t 26) (.region g78_4) .skip)) (.seq (.seq (.region g78_5) (.block 0 (.loop (.seq (.seq (.region g78_6) (.cond (.t 37) .skip (.exit 0))) (.seq (.block 1 (.seq (.draw [[], [], [1], [0, 2, 2], [3], [4], [4], [4], [], [8, 5, 3, 0, 1, 2, 3, 4, 5, 8], [6, 9, 0, 1, 2, 3, 4, 5, 6, 8, 9], [7, 10, 0, 1, 2, 3, 4, 5, 6, 7, 8, 9, 10]] g78_7) (.seq (.region g78_8) (.cond (.t 54) (.region g78_9) .skip)))) (.region g78_10)))))) (.seq (.seq (.region g78_11) (.cond (.t 63) (.draw [[], [0], [], [], [3], [4], [2, 5], [1, 6], [7], [8], [1, 6, 0, 1, 2, 3, 4, 5, 6, 7, 8, 9], [10, 9, 6, 0, 1, 2, 3, 4, 5, 6, 7, 8, 9]] g78_12) .skip)) (.seq (.region g78_13) .ret)))))))
theorem good_small {g : Gr} (h : GoodG g) : Small g := by
  have cl := good_cl h
  have h14 := h.1.2.2.1
  have h6 := h.1.2.2.2
  exact ⟨by omega, fun x hx => by
    obtain ⟨j, hj, rfl⟩ := mem_getD hx
    have := (h.1.1 j hj).2.1
    omega, by omega, by omega⟩
def dgS (g : Gr) (m : Int) (c : Cu) : St := ⟨[(8, .w (.one (.int .i64 m))), (5, .w (.one (.hp 5 [] 0))), (2, .w (.one (.hp 1 [] 0))), (0, .w (.one (.hp 0 [] 0)))], [(5, .bx true [.sl true 2 g.n.length (ndR g.n), (.sl true 1 g.r.length (g.r.map (T.int .i64))), .sl true 1 g.n.length (g.c.map (T.int .i64))]), (1, .bx true [.sl true 0 0 [], .sl true 0 0 [], .sl true 0 0 []]), (0, cuT c)], [.one (.hp 0 [] 0)]⟩
theorem dg_round {g : Gr} {m b : Int} {c : Cu} (hG : GoodG g) (hc : c.ok b) (hb : b ≤ 900000) (hm : 0 < m) (hm2 : m ≤ 3) : Rnd Try.prog (.seq (.seq (.region g78_6) (.cond (.t 37) .skip (.exit 0))) (.seq (.block 1 (.seq (.draw [[], [], [1], [0, 2, 2], [3], [4], [4], [4], [], [8, 5, 3, 0, 1, 2, 3, 4, 5, 8], [6, 9, 0, 1, 2, 3, 4, 5, 6, 8, 9], [7, 10, 0, 1, 2, 3, 4, 5, 6, 7, 8, 9, 10]] g78_7) (.seq (.region g78_8) (.cond (.t 54) (.region g78_9) .skip)))) (.region g78_10))) (dgS g m c) (dgS (dgF (g, c)).1 (m - 1) (dgF (g, c)).2) := by
  refine rnd_go ?_
  have M1 := pick_ok c b 3 hc (by omega) (by omega) (by omega)
  have cl := good_cl hG
  have M2 := specDrop_ok g (pickF c 3).1 (good_small hG)
  have hs := good_small hG
  unfold dgF
  simp only
  generalize (pickF c 3).1 = x at *
  generalize (pickF c 3).2 = c' at *
  unfold dgS
  simp only [cuT] at *
  by_cases hD : DrOk g x
  · have hx : x.toNat < g.r.length := by have := hD.2.1; have := hD.2.2; omega
    have I := drF_sem hD.1 hx
    have dl := delF_len hx
    have sr := hs.r
    rw [DrRes, if_pos hD] at M2
    by_cases hr : 0 < (delF g.r x.toNat).length
    · rw [if_pos ⟨hD, hr⟩]
      have l1 : (drF g x.toNat).n.length = g.n.length := I.ln
      have l2 := I.lc
      simp only [l1]
      generalize drF g x.toNat = U at *
      generalize delF g.r x.toNat = dr at *
      simp (maxSteps := 9000000) -implicitDefEqProofs -dsimp (disch := omega) only [go_sem, g78_0, g78_1, g78_2, g78_3, g78_4, g78_5, g78_6, g78_7, a78_7, n78_7, g78_8, g78_9, g78_10, g78_11, g78_12, a78_12, n78_12, g78_13, i78, lt_T, lt_F, le_T, le_F, eq_T, eq_F, and_F, cl, Nat.reduceEqDiff, Nat.reduceAdd, Nat.reduceMul, Nat.reduceLeDiff, Nat.reduceBEq, Nat.reduceBNe, Int.reduceEq, ↓reduceIte, reduceCtorEq]
      refine drawm_go n78_7 a78_7 [(2, .framed [5]), (9, .many [] [6])] (by decide +kernel) ?_
      simp (maxSteps := 9000000) -implicitDefEqProofs -dsimp (disch := omega) only [go_sem, g78_0, g78_1, g78_2, g78_3, g78_4, g78_5, g78_6, g78_7, a78_7, n78_7, g78_8, g78_9, g78_10, g78_11, g78_12, a78_12, n78_12, g78_13, i78, lt_T, lt_F, le_T, le_F, eq_T, eq_F, and_F, cl, Nat.reduceEqDiff, Nat.reduceAdd, Nat.reduceMul, Nat.reduceLeDiff, Nat.reduceBEq, Nat.reduceBNe, Int.reduceEq, ↓reduceIte, reduceCtorEq]
      refine call_go false M1 ?_
      simp (maxSteps := 9000000) -implicitDefEqProofs -dsimp (disch := omega) only [go_sem, g78_0, g78_1, g78_2, g78_3, g78_4, g78_5, g78_6, g78_7, a78_7, n78_7, g78_8, g78_9, g78_10, g78_11, g78_12, a78_12, n78_12, g78_13, i78, lt_T, lt_F, le_T, le_F, eq_T, eq_F, and_F, cl, Nat.reduceEqDiff, Nat.reduceAdd, Nat.reduceMul, Nat.reduceLeDiff, Nat.reduceBEq, Nat.reduceBNe, Int.reduceEq, ↓reduceIte, reduceCtorEq]
      refine calla_go true M2 ?_
      simp (maxSteps := 9000000) -implicitDefEqProofs -dsimp (disch := omega) only [go_sem, g78_0, g78_1, g78_2, g78_3, g78_4, g78_5, g78_6, g78_7, a78_7, n78_7, g78_8, g78_9, g78_10, g78_11, g78_12, a78_12, n78_12, g78_13, i78, lt_T, lt_F, le_T, le_F, eq_T, eq_F, and_F, cl, Nat.reduceEqDiff, Nat.reduceAdd, Nat.reduceMul, Nat.reduceLeDiff, Nat.reduceBEq, Nat.reduceBNe, Int.reduceEq, ↓reduceIte, reduceCtorEq]
      exact (imp_ros 5 [0] (t2 := .bx true [.sl true 2 g.n.length (ndR U.n), (.sl true 1 dr.length (dr.map (T.int .i64))), .sl true 1 g.n.length (U.c.map (T.int .i64))]) rfl rfl (by rw [ndO_ro]; rfl)).trans (imp_sub (by simp (maxSteps := 9000000) -implicitDefEqProofs -dsimp (disch := omega) only [go_sem, g78_0, g78_1, g78_2, g78_3, g78_4, g78_5, g78_6, g78_7, a78_7, n78_7, g78_8, g78_9, g78_10, g78_11, g78_12, a78_12, n78_12, g78_13, i78, l1, Nat.reduceEqDiff, Nat.reduceAdd, Nat.reduceMul, Nat.reduceLeDiff, Nat.reduceBEq, Nat.reduceBNe, Int.reduceEq, ↓reduceIte, reduceCtorEq]) (by simp (maxSteps := 9000000) -implicitDefEqProofs -dsimp (disch := omega) only [go_sem, g78_0, g78_1, g78_2, g78_3, g78_4, g78_5, g78_6, g78_7, a78_7, n78_7, g78_8, g78_9, g78_10, g78_11, g78_12, a78_12, n78_12, g78_13, i78, l1, Nat.reduceEqDiff, Nat.reduceAdd, Nat.reduceMul, Nat.reduceLeDiff, Nat.reduceBEq, Nat.reduceBNe, Int.reduceEq, ↓reduceIte, reduceCtorEq]) rfl)
    · rw [if_neg (fun w => hr w.2)]
      have l1 : (drF g x.toNat).n.length = g.n.length := I.ln
      have l2 := I.lc
      have l3 : (delF g.r x.toNat).length = 0 := by omega
      generalize drF g x.toNat = U at *
      generalize delF g.r x.toNat = dr at *
      simp (maxSteps := 9000000) -implicitDefEqProofs -dsimp (disch := omega) only [go_sem, g78_0, g78_1, g78_2, g78_3, g78_4, g78_5, g78_6, g78_7, a78_7, n78_7, g78_8, g78_9, g78_10, g78_11, g78_12, a78_12, n78_12, g78_13, i78, lt_T, lt_F, le_T, le_F, eq_T, eq_F, and_F, cl, Nat.reduceEqDiff, Nat.reduceAdd, Nat.reduceMul, Nat.reduceLeDiff, Nat.reduceBEq, Nat.reduceBNe, Int.reduceEq, ↓reduceIte, reduceCtorEq]
      refine drawm_go n78_7 a78_7 [(2, .framed [5]), (9, .many [] [6])] (by decide +kernel) ?_
      simp (maxSteps := 9000000) -implicitDefEqProofs -dsimp (disch := omega) only [go_sem, g78_0, g78_1, g78_2, g78_3, g78_4, g78_5, g78_6, g78_7, a78_7, n78_7, g78_8, g78_9, g78_10, g78_11, g78_12, a78_12, n78_12, g78_13, i78, lt_T, lt_F, le_T, le_F, eq_T, eq_F, and_F, cl, Nat.reduceEqDiff, Nat.reduceAdd, Nat.reduceMul, Nat.reduceLeDiff, Nat.reduceBEq, Nat.reduceBNe, Int.reduceEq, ↓reduceIte, reduceCtorEq]
      refine call_go false M1 ?_
      simp (maxSteps := 9000000) -implicitDefEqProofs -dsimp (disch := omega) only [go_sem, g78_0, g78_1, g78_2, g78_3, g78_4, g78_5, g78_6, g78_7, a78_7, n78_7, g78_8, g78_9, g78_10, g78_11, g78_12, a78_12, n78_12, g78_13, i78, lt_T, lt_F, le_T, le_F, eq_T, eq_F, and_F, cl, Nat.reduceEqDiff, Nat.reduceAdd, Nat.reduceMul, Nat.reduceLeDiff, Nat.reduceBEq, Nat.reduceBNe, Int.reduceEq, ↓reduceIte, reduceCtorEq]
      refine calla_go true M2 ?_
      simp (maxSteps := 9000000) -implicitDefEqProofs -dsimp (disch := omega) only [go_sem, g78_0, g78_1, g78_2, g78_3, g78_4, g78_5, g78_6, g78_7, a78_7, n78_7, g78_8, g78_9, g78_10, g78_11, g78_12, a78_12, n78_12, g78_13, i78, lt_T, lt_F, le_T, le_F, eq_T, eq_F, and_F, cl, Nat.reduceEqDiff, Nat.reduceAdd, Nat.reduceMul, Nat.reduceLeDiff, Nat.reduceBEq, Nat.reduceBNe, Int.reduceEq, ↓reduceIte, reduceCtorEq]
      exact (imp_sub (by simp (maxSteps := 9000000) -implicitDefEqProofs -dsimp (disch := omega) only [go_sem, g78_0, g78_1, g78_2, g78_3, g78_4, g78_5, g78_6, g78_7, a78_7, n78_7, g78_8, g78_9, g78_10, g78_11, g78_12, a78_12, n78_12, g78_13, i78, Nat.reduceEqDiff, Nat.reduceAdd, Nat.reduceMul, Nat.reduceLeDiff, Nat.reduceBEq, Nat.reduceBNe, Int.reduceEq, ↓reduceIte, reduceCtorEq]) (by simp (maxSteps := 9000000) -implicitDefEqProofs -dsimp (disch := omega) only [go_sem, g78_0, g78_1, g78_2, g78_3, g78_4, g78_5, g78_6, g78_7, a78_7, n78_7, g78_8, g78_9, g78_10, g78_11, g78_12, a78_12, n78_12, g78_13, i78, Nat.reduceEqDiff, Nat.reduceAdd, Nat.reduceMul, Nat.reduceLeDiff, Nat.reduceBEq, Nat.reduceBNe, Int.reduceEq, ↓reduceIte, reduceCtorEq]) rfl)
  · rw [DrRes, if_neg hD] at M2
    rw [if_neg (fun w => hD w.1)]
    simp (maxSteps := 9000000) -implicitDefEqProofs -dsimp (disch := omega) only [go_sem, g78_0, g78_1, g78_2, g78_3, g78_4, g78_5, g78_6, g78_7, a78_7, n78_7, g78_8, g78_9, g78_10, g78_11, g78_12, a78_12, n78_12, g78_13, i78, lt_T, lt_F, le_T, le_F, eq_T, eq_F, and_F, cl, Nat.reduceEqDiff, Nat.reduceAdd, Nat.reduceMul, Nat.reduceLeDiff, Nat.reduceBEq, Nat.reduceBNe, Int.reduceEq, ↓reduceIte, reduceCtorEq]
    refine drawm_go n78_7 a78_7 [(2, .framed [5]), (9, .many [] [6])] (by decide +kernel) ?_
    simp (maxSteps := 9000000) -implicitDefEqProofs -dsimp (disch := omega) only [go_sem, g78_0, g78_1, g78_2, g78_3, g78_4, g78_5, g78_6, g78_7, a78_7, n78_7, g78_8, g78_9, g78_10, g78_11, g78_12, a78_12, n78_12, g78_13, i78, lt_T, lt_F, le_T, le_F, eq_T, eq_F, and_F, cl, Nat.reduceEqDiff, Nat.reduceAdd, Nat.reduceMul, Nat.reduceLeDiff, Nat.reduceBEq, Nat.reduceBNe, Int.reduceEq, ↓reduceIte, reduceCtorEq]
    refine call_go false M1 ?_
    simp (maxSteps := 9000000) -implicitDefEqProofs -dsimp (disch := omega) only [go_sem, g78_0, g78_1, g78_2, g78_3, g78_4, g78_5, g78_6, g78_7, a78_7, n78_7, g78_8, g78_9, g78_10, g78_11, g78_12, a78_12, n78_12, g78_13, i78, lt_T, lt_F, le_T, le_F, eq_T, eq_F, and_F, cl, Nat.reduceEqDiff, Nat.reduceAdd, Nat.reduceMul, Nat.reduceLeDiff, Nat.reduceBEq, Nat.reduceBNe, Int.reduceEq, ↓reduceIte, reduceCtorEq]
    refine calla_go true M2 ?_
    simp (maxSteps := 9000000) -implicitDefEqProofs -dsimp (disch := omega) only [go_sem, g78_0, g78_1, g78_2, g78_3, g78_4, g78_5, g78_6, g78_7, a78_7, n78_7, g78_8, g78_9, g78_10, g78_11, g78_12, a78_12, n78_12, g78_13, i78, lt_T, lt_F, le_T, le_F, eq_T, eq_F, and_F, cl, Nat.reduceEqDiff, Nat.reduceAdd, Nat.reduceMul, Nat.reduceLeDiff, Nat.reduceBEq, Nat.reduceBNe, Int.reduceEq, ↓reduceIte, reduceCtorEq]
    exact (imp_sub (by simp (maxSteps := 9000000) -implicitDefEqProofs -dsimp (disch := omega) only [go_sem, g78_0, g78_1, g78_2, g78_3, g78_4, g78_5, g78_6, g78_7, a78_7, n78_7, g78_8, g78_9, g78_10, g78_11, g78_12, a78_12, n78_12, g78_13, i78, Nat.reduceEqDiff, Nat.reduceAdd, Nat.reduceMul, Nat.reduceLeDiff, Nat.reduceBEq, Nat.reduceBNe, Int.reduceEq, ↓reduceIte, reduceCtorEq]) (by simp (maxSteps := 9000000) -implicitDefEqProofs -dsimp (disch := omega) only [go_sem, g78_0, g78_1, g78_2, g78_3, g78_4, g78_5, g78_6, g78_7, a78_7, n78_7, g78_8, g78_9, g78_10, g78_11, g78_12, a78_12, n78_12, g78_13, i78, Nat.reduceEqDiff, Nat.reduceAdd, Nat.reduceMul, Nat.reduceLeDiff, Nat.reduceBEq, Nat.reduceBNe, Int.reduceEq, ↓reduceIte, reduceCtorEq]) rfl)
theorem meets_args {P : Program} {f : FuncId} {targs targs' : List TW} {res : TV} {outs : List TW} (h : ∀ (w : World) (ro : Nat → Prop) args F, RTWL w ro targs' args F → RTWL w ro targs args F) (M : Meets P f targs res outs) : Meets P f targs' res outs :=
  fun w ro args F h1 h2 h3 h4 => M w ro args F (h w ro args F h1) h2 h3 h4
theorem rep_nil0 {w : World} {ro : Nat → Prop} {o o' : Bool} {st : Nat} {v : Value} {F : List Nat} (h : Rep w ro (.sl o 0 0 []) v F) : Rep w ro (.sl o' st 0 []) v F := by
  simp only [Rep] at h ⊢
  rcases h with h | ⟨b, o, cap, F', _, h, _⟩
  · exact .inl h
  · exact absurd h.2 (by omega)
theorem ng0 : Meets Try.prog 29 [.one (.sl false 2 1 [.sl false 0 0 [], .bool false]), .one (.sl false 1 1 [.int .i64 0])] (.tup [.agg [.sl true 2 1 (ndO [⟨[], false⟩]), .sl true 1 1 [.int .i64 0], .sl true 1 1 [.int .i64 1]], .one (.bool true)]) [.one .hole, .one .hole] := by
  have M := specNew_ok [⟨[], false⟩] [0] (by decide) (by simp) (by decide)
  rw [NgRes, if_pos ⟨g0_good.1, g0_good⟩] at M
  refine meets_args (fun w ro args F h => ?_) M
  obtain ⟨v1, vs1, F1, F2, rfl, h1, ⟨v2, vs2, F3, F4, rfl, h2, h3, rfl⟩, rfl⟩ := h
  refine ⟨v1, _, F1, _, rfl, ?_, ⟨v2, _, F3, _, rfl, h2, h3, rfl⟩, rfl⟩
  simp only [RTW, Rep] at h1 ⊢
  rcases h1 with ⟨h, _⟩ | ⟨b, o, cap, F', k1, k2, k3, k4, k5⟩
  · simp at h
  · refine .inr ⟨b, o, cap, F', k1, k2, k3, k4, ?_⟩
    obtain ⟨u1, G1, G2, q1, q2, q3, rfl⟩ := k5
    exact ⟨u1, G1, G2, q1, rep_nil0 q2, q3, rfl⟩
def dgE (g : Gr) (c : Cu) : St := ⟨[(5, .w (.one (.hp 5 [] 0))), (2, .w (.one (.hp 1 [] 0))), (0, .w (.one (.hp 0 [] 0)))], [(5, .bx true [.sl true 2 g.n.length (ndR g.n), (.sl true 1 g.r.length (g.r.map (T.int .i64))), .sl true 1 g.n.length (g.c.map (T.int .i64))]), (1, .bx true [.sl true 0 0 [], .sl true 0 0 [], .sl true 0 0 []]), (0, cuT c)], [.one (.hp 0 [] 0)]⟩
def iG10 : Ir := (.seq (.region g78_0) (.seq (.region g78_1) (.mark (.seq (.region g78_2) (.seq (.seq (.region g78_3) (.cond (.t 26) (.region g78_4) .skip)) (.seq (.mark (.seq (.region g78_5) (.block 0 (.loop (.seq (.seq (.region g78_6) (.cond (.t 37) .skip (.exit 0))) (.seq (.block 1 (.seq (.draw [[], [], [1], [0, 2, 2], [3], [4], [4], [4], [], [8, 5, 3, 0, 1, 2, 3, 4, 5, 8], [6, 9, 0, 1, 2, 3, 4, 5, 6, 8, 9], [7, 10, 0, 1, 2, 3, 4, 5, 6, 7, 8, 9, 10]] g78_7) (.seq (.region g78_8) (.cond (.t 54) (.region g78_9) .skip)))) (.region g78_10))))))) (.seq (.mark (.seq (.region g78_11) (.cond (.t 63) (.draw [[], [0], [], [], [3], [4], [2, 5], [1, 6], [7], [8], [1, 6, 0, 1, 2, 3, 4, 5, 6, 7, 8, 9], [10, 9, 6, 0, 1, 2, 3, 4, 5, 6, 7, 8, 9]] g78_12) .skip))) (.seq (.region g78_13) .ret))))))))
theorem graph10_ok (c : Cu) (b : Int) (hc : c.ok b) (hb : b ≤ 800000) : ∃ (g : Gr) (c' : Cu), c'.ok (b + 200) ∧ (Small g ∧ g.n.length ≤ 14 ∧ g.r.length ≤ 6) ∧ Meets Try.prog 78 [.one (cuT c)] (.w (.agg [.sl true 2 g.n.length (ndR g.n), (.sl true 1 g.r.length (g.r.map (T.int .i64))), (.sl true 1 g.c.length (g.c.map (T.int .i64)))])) [.one (cuT c')] := by
  obtain ⟨n, r, c1, o1, n1, n2, n3, M1⟩ := nodes_ok c b hc (by omega)
  have M2 := specSweep_ok ⟨n, r, []⟩ ⟨by simp only; omega, fun x hx => by have := n2 x hx; omega, by simp only; omega, by simp⟩
  obtain ⟨g1, hg1, hG1⟩ : ∃ g1 : Gr, g1 = (if NodesOk n r then ⟨swN n r, r, countsF (swN n r) r⟩ else g0) ∧ GoodG g1 := ⟨_, rfl, by
    split
    · rename_i h; exact sw_good h
    · exact g0_good⟩
  have M3 := pick_ok c1 (b + 100) 3 o1 (by omega) (by omega) (by omega)
  have i3 := pick_in (n := 3) o1 (by omega)
  have o3 := pick_ok2 (n := 3) o1
  generalize (pickF c1 3).1 = m at *
  generalize (pickF c1 3).2 = c3 at *
  have hD : ∀ i : Nat, GoodG (dgI (g1, c3) i).1 ∧ (dgI (g1, c3) i).2.ok (b + 100 + 1 + i) := fun i => dgI_good (q := (g1, c3)) hG1 o3 i
  have rnds : ∀ i : Nat, i < m.toNat → Rnd Try.prog (.seq (.seq (.region g78_6) (.cond (.t 37) .skip (.exit 0))) (.seq (.block 1 (.seq (.draw [[], [], [1], [0, 2, 2], [3], [4], [4], [4], [], [8, 5, 3, 0, 1, 2, 3, 4, 5, 8], [6, 9, 0, 1, 2, 3, 4, 5, 6, 8, 9], [7, 10, 0, 1, 2, 3, 4, 5, 6, 7, 8, 9, 10]] g78_7) (.seq (.region g78_8) (.cond (.t 54) (.region g78_9) .skip)))) (.region g78_10))) (dgS (dgI (g1, c3) i).1 (m - i) (dgI (g1, c3) i).2) (dgS (dgI (g1, c3) (i + 1)).1 (m - (i + 1 : Nat)) (dgI (g1, c3) (i + 1)).2) := fun i hi => by
    have := dg_round (m := m - i) (hD i).1 (hD i).2 (by omega) (by omega) (by omega)
    rw [show m - ((i + 1 : Nat) : Int) = m - i - 1 by omega]
    exact this
  obtain ⟨g2, hg2⟩ : ∃ g2, g2 = (dgI (g1, c3) m.toNat).1 := ⟨_, rfl⟩
  obtain ⟨c4, hc4⟩ : ∃ c4, c4 = (dgI (g1, c3) m.toNat).2 := ⟨_, rfl⟩
  have hG2 : GoodG g2 := hg2 ▸ (hD m.toNat).1
  have o4 : c4.ok (b + 104) := hc4 ▸ (hD m.toNat).2.mono (by omega)
  have M5 := one_ok c4 (b + 104) 20 o4 (by omega) (by omega) (by omega)
  have o5 := one_ok2 (n := 20) o4
  generalize (oneF c4 20).1 = y5 at *
  generalize (oneF c4 20).2 = c5 at *
  have hs := good_small hG2
  have cl := good_cl hG2
  have h14 := hG2.1.2.2.1
  by_cases hp : 0 < g2.n.length
  · have M6 := pick_ok c5 (b + 105) g2.n.length (o5.mono (by omega)) (by omega) (by omega) (by omega)
    have i6 := pick_in (n := g2.n.length) o5 (by omega)
    have o6 := pick_ok2 (n := g2.n.length) o5
    generalize (pickF c5 g2.n.length).1 = x6 at *
    generalize (pickF c5 g2.n.length).2 = c6 at *
    have e6 : (x6.toNat : Int) = x6 := Int.toNat_of_nonneg i6.1
    have cb := good_cb hG2 (j := x6.toNat)
    refine ⟨⟨g2.n, g2.r, if y5 = true then g2.c.set x6.toNat (g2.c.getD x6.toNat default + 1) else g2.c⟩, if y5 = true then c6 else c5, ?_, ?_, ?_⟩
    · split
      · exact o6.mono (by omega)
      · exact o5.mono (by omega)
    · refine ⟨⟨hs.n, hs.h, hs.r, ?_⟩, h14, hG2.1.2.2.2⟩
      simp only
      split
      · rw [List.length_set]; exact hs.c
      · exact hs.c
    have eL : (if y5 = true then g2.c.set x6.toNat (g2.c.getD x6.toNat default + 1) else g2.c).length = g2.n.length := by
      split
      · rw [List.length_set]; exact cl
      · exact cl
    simp only [eL]
    have eS : (g2.c.set x6.toNat (g2.c.getD x6.toNat default + 1)).length = g2.n.length := by rw [List.length_set]; exact cl
    simp only [cuT] at M1 M3 M5 M6
    by_cases hT : NodesOk n r
    · rw [SwRes, if_pos hT] at M2
      rw [if_pos hT] at hg1
      simp only [cuT]
      refine meets_go (ir := iG10) (fn := Try.f78) (rx := [(.cell 2 (some 3))]) rfl rfl (by rfl) (by rfl) (by exact Nat.le_of_ble_eq_true rfl) ?_
      simp (maxSteps := 9000000) -implicitDefEqProofs -dsimp (disch := omega) only [go_sem, g78_0, g78_1, g78_2, g78_3, g78_4, g78_5, g78_6, g78_7, a78_7, n78_7, g78_8, g78_9, g78_10, g78_11, g78_12, a78_12, n78_12, g78_13, i78, lt_T, lt_F, le_T, le_F, eq_T, eq_F, and_F, iG10, Nat.reduceEqDiff, Nat.reduceAdd, Nat.reduceMul, Nat.reduceLeDiff, Nat.reduceBEq, Nat.reduceBNe, Int.reduceEq, ↓reduceIte, reduceCtorEq]
      refine call_go false M1 ?_
      simp (maxSteps := 9000000) -implicitDefEqProofs -dsimp (disch := omega) only [go_sem, lt_T, lt_F, le_T, le_F, eq_T, eq_F, and_F, Nat.reduceEqDiff, Nat.reduceAdd, Nat.reduceMul, Nat.reduceLeDiff, Nat.reduceBEq, Nat.reduceBNe, Int.reduceEq, ↓reduceIte, reduceCtorEq]
      refine mark_imp ⟨[(4, .w (.one (.hs 3 [] 0 1 r.length))), (3, .w (.one (.hs 2 [] 0 2 n.length))), (2, .w (.one (.hp 1 [] 0))), (0, .w (.one (.hp 0 [] 0)))], [(3, (.sl false 1 r.length (r.map (T.int .i64)))), (2, .sl false 2 n.length (ndR n)), (0, .bx true [(.sl false 1 c1.code.length (c1.code.map (T.int .u8))), .int .i64 c1.at_, .int .u64 c1.seed]), (1, .bx true [.sl true 0 0 [], .sl true 0 0 [], .sl true 0 0 []])], [.one (.hp 0 [] 0)]⟩ ((imp_ro 3 [] (x := (.sl true 1 r.length (r.map (T.int .i64)))) (t2 := (.sl false 1 r.length (r.map (T.int .i64)))) rfl rfl (by simp (maxSteps := 9000000) -implicitDefEqProofs -dsimp (disch := omega) only [go_sem, Nat.reduceEqDiff, Nat.reduceAdd, Nat.reduceMul, Nat.reduceLeDiff, Nat.reduceBEq, Nat.reduceBNe, Int.reduceEq, ↓reduceIte, reduceCtorEq])).trans ((imp_ro 2 [] (x := .sl true 2 n.length (ndO n)) (t2 := .sl false 2 n.length (ndR n)) rfl rfl (by simp (maxSteps := 9000000) -implicitDefEqProofs -dsimp (disch := omega) only [go_sem, ndO_ro, Nat.reduceEqDiff, Nat.reduceAdd, Nat.reduceMul, Nat.reduceLeDiff, Nat.reduceBEq, Nat.reduceBNe, Int.reduceEq, ↓reduceIte, reduceCtorEq])).trans (imp_sub (by simp (maxSteps := 9000000) -implicitDefEqProofs -dsimp (disch := omega) only [go_sem, Nat.reduceEqDiff, Nat.reduceAdd, Nat.reduceMul, Nat.reduceLeDiff, Nat.reduceBEq, Nat.reduceBNe, Int.reduceEq, ↓reduceIte, reduceCtorEq]) (by simp (maxSteps := 9000000) -implicitDefEqProofs -dsimp (disch := omega) only [go_sem, Nat.reduceEqDiff, Nat.reduceAdd, Nat.reduceMul, Nat.reduceLeDiff, Nat.reduceBEq, Nat.reduceBNe, Int.reduceEq, ↓reduceIte, reduceCtorEq]) rfl))) ?_
      simp (maxSteps := 9000000) -implicitDefEqProofs -dsimp (disch := omega) only [go_sem, lt_T, lt_F, le_T, le_F, eq_T, eq_F, and_F, Nat.reduceEqDiff, Nat.reduceAdd, Nat.reduceMul, Nat.reduceLeDiff, Nat.reduceBEq, Nat.reduceBNe, Int.reduceEq, ↓reduceIte, reduceCtorEq]
      refine call_go false M2 ?_
      simp (maxSteps := 9000000) -implicitDefEqProofs -dsimp (disch := omega) only [go_sem, lt_T, lt_F, le_T, le_F, eq_T, eq_F, and_F, Nat.reduceEqDiff, Nat.reduceAdd, Nat.reduceMul, Nat.reduceLeDiff, Nat.reduceBEq, Nat.reduceBNe, Int.reduceEq, ↓reduceIte, reduceCtorEq]
      refine mark_imp (dgE g1 c1) ?_ ?_
      · rw [hg1]
        unfold dgE
        simp only [swN_len, cuT, g0, List.length_singleton]
        have hcut : cut (ndR (swN n r)) 0 (n.length * 2) = ndR (swN n r) := ndR_cutN (by rw [swN_len])
        have hcc : cut ((countsF (swN n r) r).map (T.int .i64)) 0 n.length = (countsF (swN n r) r).map (T.int .i64) := cut_all (by rw [List.length_map, countsF_len, swN_len]; exact Nat.le_refl _)
        exact (imp_ren 8 5 rfl rfl).trans (imp_sub (by simp (maxSteps := 9000000) -implicitDefEqProofs -dsimp (disch := omega) only [go_sem, swN_len, hcut, hcc, Nat.reduceEqDiff, Nat.reduceAdd, Nat.reduceMul, Nat.reduceLeDiff, Nat.reduceBEq, Nat.reduceBNe, Int.reduceEq, ↓reduceIte, reduceCtorEq]) (by simp (maxSteps := 9000000) -implicitDefEqProofs -dsimp (disch := omega) only [go_sem, swN_len, hcut, hcc, Nat.reduceEqDiff, Nat.reduceAdd, Nat.reduceMul, Nat.reduceLeDiff, Nat.reduceBEq, Nat.reduceBNe, Int.reduceEq, ↓reduceIte, reduceCtorEq]) rfl)
      unfold dgE
      simp (maxSteps := 9000000) -implicitDefEqProofs -dsimp (disch := omega) only [go_sem, lt_T, lt_F, le_T, le_F, eq_T, eq_F, and_F, cuT, Nat.reduceEqDiff, Nat.reduceAdd, Nat.reduceMul, Nat.reduceLeDiff, Nat.reduceBEq, Nat.reduceBNe, Int.reduceEq, ↓reduceIte, reduceCtorEq]
      refine call_go false M3 ?_
      simp (maxSteps := 9000000) -implicitDefEqProofs -dsimp (disch := omega) only [go_sem, lt_T, lt_F, le_T, le_F, eq_T, eq_F, and_F, Nat.reduceEqDiff, Nat.reduceAdd, Nat.reduceMul, Nat.reduceLeDiff, Nat.reduceBEq, Nat.reduceBNe, Int.reduceEq, ↓reduceIte, reduceCtorEq]
      refine loop_f m.toNat (fun i => dgS (dgI (g1, c3) i).1 (m - i) (dgI (g1, c3) i).2) ?_ rnds ?_
      · unfold dgS
        exact (imp_sub (by simp (maxSteps := 9000000) -implicitDefEqProofs -dsimp (disch := omega) only [go_sem, g78_0, g78_1, g78_2, g78_3, g78_4, g78_5, g78_6, g78_7, a78_7, n78_7, g78_8, g78_9, g78_10, g78_11, g78_12, a78_12, n78_12, g78_13, i78, dgI, cuT, Int.natCast_zero, Int.sub_zero, Nat.reduceEqDiff, Nat.reduceAdd, Nat.reduceMul, Nat.reduceLeDiff, Nat.reduceBEq, Nat.reduceBNe, Int.reduceEq, ↓reduceIte, reduceCtorEq]) (by simp (maxSteps := 9000000) -implicitDefEqProofs -dsimp (disch := omega) only [go_sem, g78_0, g78_1, g78_2, g78_3, g78_4, g78_5, g78_6, g78_7, a78_7, n78_7, g78_8, g78_9, g78_10, g78_11, g78_12, a78_12, n78_12, g78_13, i78, dgI, cuT, Int.natCast_zero, Int.sub_zero, Nat.reduceEqDiff, Nat.reduceAdd, Nat.reduceMul, Nat.reduceLeDiff, Nat.reduceBEq, Nat.reduceBNe, Int.reduceEq, ↓reduceIte, reduceCtorEq]) rfl)
      · show wx _ _ _ (dgS (dgI (g1, c3) m.toNat).1 (m - (m.toNat : Nat)) (dgI (g1, c3) m.toNat).2)
        rw [← hg2, ← hc4, show m - (m.toNat : Int) = 0 by omega]
        unfold dgS
        simp (maxSteps := 9000000) -implicitDefEqProofs -dsimp (disch := omega) only [go_sem, g78_0, g78_1, g78_2, g78_3, g78_4, g78_5, g78_6, g78_7, a78_7, n78_7, g78_8, g78_9, g78_10, g78_11, g78_12, a78_12, n78_12, g78_13, i78, lt_T, lt_F, le_T, le_F, eq_T, eq_F, and_F, cuT, Nat.reduceEqDiff, Nat.reduceAdd, Nat.reduceMul, Nat.reduceLeDiff, Nat.reduceBEq, Nat.reduceBNe, Int.reduceEq, ↓reduceIte, reduceCtorEq]
        refine mark_imp (dgE g2 c4) ?_ ?_
        · unfold dgE
          exact (imp_sub (by simp (maxSteps := 9000000) -implicitDefEqProofs -dsimp (disch := omega) only [go_sem, g78_0, g78_1, g78_2, g78_3, g78_4, g78_5, g78_6, g78_7, a78_7, n78_7, g78_8, g78_9, g78_10, g78_11, g78_12, a78_12, n78_12, g78_13, i78, cuT, Nat.reduceEqDiff, Nat.reduceAdd, Nat.reduceMul, Nat.reduceLeDiff, Nat.reduceBEq, Nat.reduceBNe, Int.reduceEq, ↓reduceIte, reduceCtorEq]) (by simp (maxSteps := 9000000) -implicitDefEqProofs -dsimp (disch := omega) only [go_sem, g78_0, g78_1, g78_2, g78_3, g78_4, g78_5, g78_6, g78_7, a78_7, n78_7, g78_8, g78_9, g78_10, g78_11, g78_12, a78_12, n78_12, g78_13, i78, cuT, Nat.reduceEqDiff, Nat.reduceAdd, Nat.reduceMul, Nat.reduceLeDiff, Nat.reduceBEq, Nat.reduceBNe, Int.reduceEq, ↓reduceIte, reduceCtorEq]) rfl)
        unfold dgE
        cases y5 with
        | true =>
          simp (maxSteps := 9000000) -implicitDefEqProofs -dsimp (disch := omega) only [go_sem, g78_0, g78_1, g78_2, g78_3, g78_4, g78_5, g78_6, g78_7, a78_7, n78_7, g78_8, g78_9, g78_10, g78_11, g78_12, a78_12, n78_12, g78_13, i78, lt_T, lt_F, le_T, le_F, eq_T, eq_F, and_F, cuT, Nat.reduceEqDiff, Nat.reduceAdd, Nat.reduceMul, Nat.reduceLeDiff, Nat.reduceBEq, Nat.reduceBNe, Int.reduceEq, ↓reduceIte, reduceCtorEq]
          refine call_go false M5 ?_
          simp (maxSteps := 9000000) -implicitDefEqProofs -dsimp (disch := omega) only [go_sem, g78_0, g78_1, g78_2, g78_3, g78_4, g78_5, g78_6, g78_7, a78_7, n78_7, g78_8, g78_9, g78_10, g78_11, g78_12, a78_12, n78_12, g78_13, i78, lt_T, lt_F, le_T, le_F, eq_T, eq_F, and_F, Nat.reduceEqDiff, Nat.reduceAdd, Nat.reduceMul, Nat.reduceLeDiff, Nat.reduceBEq, Nat.reduceBNe, Int.reduceEq, ↓reduceIte, reduceCtorEq]
          refine drawm_go n78_12 a78_12 [(6, .framed [5])] (by decide +kernel) ?_
          simp (maxSteps := 9000000) -implicitDefEqProofs -dsimp (disch := omega) only [go_sem, g78_0, g78_1, g78_2, g78_3, g78_4, g78_5, g78_6, g78_7, a78_7, n78_7, g78_8, g78_9, g78_10, g78_11, g78_12, a78_12, n78_12, g78_13, i78, lt_T, lt_F, le_T, le_F, eq_T, eq_F, and_F, Nat.reduceEqDiff, Nat.reduceAdd, Nat.reduceMul, Nat.reduceLeDiff, Nat.reduceBEq, Nat.reduceBNe, Int.reduceEq, ↓reduceIte, reduceCtorEq]
          refine call_go false M6 ?_
          simp (maxSteps := 9000000) -implicitDefEqProofs -dsimp (disch := omega) only [go_sem, g78_0, g78_1, g78_2, g78_3, g78_4, g78_5, g78_6, g78_7, a78_7, n78_7, g78_8, g78_9, g78_10, g78_11, g78_12, a78_12, n78_12, g78_13, i78, lt_T, lt_F, le_T, le_F, eq_T, eq_F, and_F, cl, eS, Nat.reduceEqDiff, Nat.reduceAdd, Nat.reduceMul, Nat.reduceLeDiff, Nat.reduceBEq, Nat.reduceBNe, Int.reduceEq, ↓reduceIte, reduceCtorEq]
        | false =>
          simp (maxSteps := 9000000) -implicitDefEqProofs -dsimp (disch := omega) only [go_sem, g78_0, g78_1, g78_2, g78_3, g78_4, g78_5, g78_6, g78_7, a78_7, n78_7, g78_8, g78_9, g78_10, g78_11, g78_12, a78_12, n78_12, g78_13, i78, lt_T, lt_F, le_T, le_F, eq_T, eq_F, and_F, cuT, Nat.reduceEqDiff, Nat.reduceAdd, Nat.reduceMul, Nat.reduceLeDiff, Nat.reduceBEq, Nat.reduceBNe, Int.reduceEq, ↓reduceIte, reduceCtorEq]
          refine call_go false M5 ?_
          simp (maxSteps := 9000000) -implicitDefEqProofs -dsimp (disch := omega) only [go_sem, g78_0, g78_1, g78_2, g78_3, g78_4, g78_5, g78_6, g78_7, a78_7, n78_7, g78_8, g78_9, g78_10, g78_11, g78_12, a78_12, n78_12, g78_13, i78, lt_T, lt_F, le_T, le_F, eq_T, eq_F, and_F, cl, Nat.reduceEqDiff, Nat.reduceAdd, Nat.reduceMul, Nat.reduceLeDiff, Nat.reduceBEq, Nat.reduceBNe, Int.reduceEq, ↓reduceIte, reduceCtorEq]
    · rw [SwRes, if_neg hT] at M2
      rw [if_neg hT] at hg1
      simp only [cuT]
      refine meets_go (ir := iG10) (fn := Try.f78) (rx := [(.cell 2 (some 3))]) rfl rfl (by rfl) (by rfl) (by exact Nat.le_of_ble_eq_true rfl) ?_
      simp (maxSteps := 9000000) -implicitDefEqProofs -dsimp (disch := omega) only [go_sem, g78_0, g78_1, g78_2, g78_3, g78_4, g78_5, g78_6, g78_7, a78_7, n78_7, g78_8, g78_9, g78_10, g78_11, g78_12, a78_12, n78_12, g78_13, i78, lt_T, lt_F, le_T, le_F, eq_T, eq_F, and_F, iG10, Nat.reduceEqDiff, Nat.reduceAdd, Nat.reduceMul, Nat.reduceLeDiff, Nat.reduceBEq, Nat.reduceBNe, Int.reduceEq, ↓reduceIte, reduceCtorEq]
      refine call_go false M1 ?_
      simp (maxSteps := 9000000) -implicitDefEqProofs -dsimp (disch := omega) only [go_sem, lt_T, lt_F, le_T, le_F, eq_T, eq_F, and_F, Nat.reduceEqDiff, Nat.reduceAdd, Nat.reduceMul, Nat.reduceLeDiff, Nat.reduceBEq, Nat.reduceBNe, Int.reduceEq, ↓reduceIte, reduceCtorEq]
      refine mark_imp ⟨[(4, .w (.one (.hs 3 [] 0 1 r.length))), (3, .w (.one (.hs 2 [] 0 2 n.length))), (2, .w (.one (.hp 1 [] 0))), (0, .w (.one (.hp 0 [] 0)))], [(3, (.sl false 1 r.length (r.map (T.int .i64)))), (2, .sl false 2 n.length (ndR n)), (0, .bx true [(.sl false 1 c1.code.length (c1.code.map (T.int .u8))), .int .i64 c1.at_, .int .u64 c1.seed]), (1, .bx true [.sl true 0 0 [], .sl true 0 0 [], .sl true 0 0 []])], [.one (.hp 0 [] 0)]⟩ ((imp_ro 3 [] (x := (.sl true 1 r.length (r.map (T.int .i64)))) (t2 := (.sl false 1 r.length (r.map (T.int .i64)))) rfl rfl (by simp (maxSteps := 9000000) -implicitDefEqProofs -dsimp (disch := omega) only [go_sem, Nat.reduceEqDiff, Nat.reduceAdd, Nat.reduceMul, Nat.reduceLeDiff, Nat.reduceBEq, Nat.reduceBNe, Int.reduceEq, ↓reduceIte, reduceCtorEq])).trans ((imp_ro 2 [] (x := .sl true 2 n.length (ndO n)) (t2 := .sl false 2 n.length (ndR n)) rfl rfl (by simp (maxSteps := 9000000) -implicitDefEqProofs -dsimp (disch := omega) only [go_sem, ndO_ro, Nat.reduceEqDiff, Nat.reduceAdd, Nat.reduceMul, Nat.reduceLeDiff, Nat.reduceBEq, Nat.reduceBNe, Int.reduceEq, ↓reduceIte, reduceCtorEq])).trans (imp_sub (by simp (maxSteps := 9000000) -implicitDefEqProofs -dsimp (disch := omega) only [go_sem, Nat.reduceEqDiff, Nat.reduceAdd, Nat.reduceMul, Nat.reduceLeDiff, Nat.reduceBEq, Nat.reduceBNe, Int.reduceEq, ↓reduceIte, reduceCtorEq]) (by simp (maxSteps := 9000000) -implicitDefEqProofs -dsimp (disch := omega) only [go_sem, Nat.reduceEqDiff, Nat.reduceAdd, Nat.reduceMul, Nat.reduceLeDiff, Nat.reduceBEq, Nat.reduceBNe, Int.reduceEq, ↓reduceIte, reduceCtorEq]) rfl))) ?_
      simp (maxSteps := 9000000) -implicitDefEqProofs -dsimp (disch := omega) only [go_sem, lt_T, lt_F, le_T, le_F, eq_T, eq_F, and_F, Nat.reduceEqDiff, Nat.reduceAdd, Nat.reduceMul, Nat.reduceLeDiff, Nat.reduceBEq, Nat.reduceBNe, Int.reduceEq, ↓reduceIte, reduceCtorEq]
      refine call_go false M2 ?_
      simp (maxSteps := 9000000) -implicitDefEqProofs -dsimp (disch := omega) only [go_sem, lt_T, lt_F, le_T, le_F, eq_T, eq_F, and_F, Nat.reduceEqDiff, Nat.reduceAdd, Nat.reduceMul, Nat.reduceLeDiff, Nat.reduceBEq, Nat.reduceBNe, Int.reduceEq, ↓reduceIte, reduceCtorEq]
      refine call_go true ng0 ?_
      have c02 : cut (ndO [⟨[], false⟩]) 0 2 = ndO [⟨[], false⟩] := ndO_cutN rfl
      simp (maxSteps := 9000000) -implicitDefEqProofs -dsimp (disch := omega) only [go_sem, lt_T, lt_F, le_T, le_F, eq_T, eq_F, and_F, c02, Nat.reduceEqDiff, Nat.reduceAdd, Nat.reduceMul, Nat.reduceLeDiff, Nat.reduceBEq, Nat.reduceBNe, Int.reduceEq, ↓reduceIte, reduceCtorEq]
      refine mark_imp (dgE g1 c1) ?_ ?_
      · rw [hg1]
        unfold dgE
        simp only [swN_len, cuT, g0, List.length_singleton]
        refine (imp_ros 4 [0] (t2 := .bx true [.sl true 2 1 (ndR [⟨[], false⟩]), .sl true 1 1 [.int .i64 0], .sl true 1 1 [.int .i64 1]]) rfl rfl (by rw [ndO_ro]; rfl)).trans ?_
        refine Imp.trans (b := ⟨[(5, .w (.one (.hp 4 [] 0))), (2, .w (.one (.hp 1 [] 0))), (0, .w (.one (.hp 0 [] 0)))], [(4, .bx true [.sl true 2 1 (ndR [⟨[], false⟩]), .sl true 1 1 [.int .i64 0], .sl true 1 1 [.int .i64 1]]), (1, .bx true [.sl true 0 0 [], .sl true 0 0 [], .sl true 0 0 []]), (0, .bx true [(.sl false 1 c1.code.length (c1.code.map (T.int .u8))), .int .i64 c1.at_, .int .u64 c1.seed])], [.one (.hp 0 [] 0)]⟩) (imp_sub (by simp (maxSteps := 9000000) -implicitDefEqProofs -dsimp (disch := omega) only [go_sem, Nat.reduceEqDiff, Nat.reduceAdd, Nat.reduceMul, Nat.reduceLeDiff, Nat.reduceBEq, Nat.reduceBNe, Int.reduceEq, ↓reduceIte, reduceCtorEq]) (by simp (maxSteps := 9000000) -implicitDefEqProofs -dsimp (disch := omega) only [go_sem, Nat.reduceEqDiff, Nat.reduceAdd, Nat.reduceMul, Nat.reduceLeDiff, Nat.reduceBEq, Nat.reduceBNe, Int.reduceEq, ↓reduceIte, reduceCtorEq]) rfl) ?_
        exact (imp_ren 4 5 rfl rfl).trans (imp_sub (by simp (maxSteps := 9000000) -implicitDefEqProofs -dsimp (disch := omega) only [go_sem, Nat.reduceEqDiff, Nat.reduceAdd, Nat.reduceMul, Nat.reduceLeDiff, Nat.reduceBEq, Nat.reduceBNe, Int.reduceEq, ↓reduceIte, reduceCtorEq]) (by simp (maxSteps := 9000000) -implicitDefEqProofs -dsimp (disch := omega) only [go_sem, Nat.reduceEqDiff, Nat.reduceAdd, Nat.reduceMul, Nat.reduceLeDiff, Nat.reduceBEq, Nat.reduceBNe, Int.reduceEq, ↓reduceIte, reduceCtorEq]) rfl)
      unfold dgE
      simp (maxSteps := 9000000) -implicitDefEqProofs -dsimp (disch := omega) only [go_sem, lt_T, lt_F, le_T, le_F, eq_T, eq_F, and_F, cuT, Nat.reduceEqDiff, Nat.reduceAdd, Nat.reduceMul, Nat.reduceLeDiff, Nat.reduceBEq, Nat.reduceBNe, Int.reduceEq, ↓reduceIte, reduceCtorEq]
      refine call_go false M3 ?_
      simp (maxSteps := 9000000) -implicitDefEqProofs -dsimp (disch := omega) only [go_sem, lt_T, lt_F, le_T, le_F, eq_T, eq_F, and_F, Nat.reduceEqDiff, Nat.reduceAdd, Nat.reduceMul, Nat.reduceLeDiff, Nat.reduceBEq, Nat.reduceBNe, Int.reduceEq, ↓reduceIte, reduceCtorEq]
      refine loop_f m.toNat (fun i => dgS (dgI (g1, c3) i).1 (m - i) (dgI (g1, c3) i).2) ?_ rnds ?_
      · unfold dgS
        exact (imp_sub (by simp (maxSteps := 9000000) -implicitDefEqProofs -dsimp (disch := omega) only [go_sem, g78_0, g78_1, g78_2, g78_3, g78_4, g78_5, g78_6, g78_7, a78_7, n78_7, g78_8, g78_9, g78_10, g78_11, g78_12, a78_12, n78_12, g78_13, i78, dgI, cuT, Int.natCast_zero, Int.sub_zero, Nat.reduceEqDiff, Nat.reduceAdd, Nat.reduceMul, Nat.reduceLeDiff, Nat.reduceBEq, Nat.reduceBNe, Int.reduceEq, ↓reduceIte, reduceCtorEq]) (by simp (maxSteps := 9000000) -implicitDefEqProofs -dsimp (disch := omega) only [go_sem, g78_0, g78_1, g78_2, g78_3, g78_4, g78_5, g78_6, g78_7, a78_7, n78_7, g78_8, g78_9, g78_10, g78_11, g78_12, a78_12, n78_12, g78_13, i78, dgI, cuT, Int.natCast_zero, Int.sub_zero, Nat.reduceEqDiff, Nat.reduceAdd, Nat.reduceMul, Nat.reduceLeDiff, Nat.reduceBEq, Nat.reduceBNe, Int.reduceEq, ↓reduceIte, reduceCtorEq]) rfl)
      · show wx _ _ _ (dgS (dgI (g1, c3) m.toNat).1 (m - (m.toNat : Nat)) (dgI (g1, c3) m.toNat).2)
        rw [← hg2, ← hc4, show m - (m.toNat : Int) = 0 by omega]
        unfold dgS
        simp (maxSteps := 9000000) -implicitDefEqProofs -dsimp (disch := omega) only [go_sem, g78_0, g78_1, g78_2, g78_3, g78_4, g78_5, g78_6, g78_7, a78_7, n78_7, g78_8, g78_9, g78_10, g78_11, g78_12, a78_12, n78_12, g78_13, i78, lt_T, lt_F, le_T, le_F, eq_T, eq_F, and_F, cuT, Nat.reduceEqDiff, Nat.reduceAdd, Nat.reduceMul, Nat.reduceLeDiff, Nat.reduceBEq, Nat.reduceBNe, Int.reduceEq, ↓reduceIte, reduceCtorEq]
        refine mark_imp (dgE g2 c4) ?_ ?_
        · unfold dgE
          exact (imp_sub (by simp (maxSteps := 9000000) -implicitDefEqProofs -dsimp (disch := omega) only [go_sem, g78_0, g78_1, g78_2, g78_3, g78_4, g78_5, g78_6, g78_7, a78_7, n78_7, g78_8, g78_9, g78_10, g78_11, g78_12, a78_12, n78_12, g78_13, i78, cuT, Nat.reduceEqDiff, Nat.reduceAdd, Nat.reduceMul, Nat.reduceLeDiff, Nat.reduceBEq, Nat.reduceBNe, Int.reduceEq, ↓reduceIte, reduceCtorEq]) (by simp (maxSteps := 9000000) -implicitDefEqProofs -dsimp (disch := omega) only [go_sem, g78_0, g78_1, g78_2, g78_3, g78_4, g78_5, g78_6, g78_7, a78_7, n78_7, g78_8, g78_9, g78_10, g78_11, g78_12, a78_12, n78_12, g78_13, i78, cuT, Nat.reduceEqDiff, Nat.reduceAdd, Nat.reduceMul, Nat.reduceLeDiff, Nat.reduceBEq, Nat.reduceBNe, Int.reduceEq, ↓reduceIte, reduceCtorEq]) rfl)
        unfold dgE
        cases y5 with
        | true =>
          simp (maxSteps := 9000000) -implicitDefEqProofs -dsimp (disch := omega) only [go_sem, g78_0, g78_1, g78_2, g78_3, g78_4, g78_5, g78_6, g78_7, a78_7, n78_7, g78_8, g78_9, g78_10, g78_11, g78_12, a78_12, n78_12, g78_13, i78, lt_T, lt_F, le_T, le_F, eq_T, eq_F, and_F, cuT, Nat.reduceEqDiff, Nat.reduceAdd, Nat.reduceMul, Nat.reduceLeDiff, Nat.reduceBEq, Nat.reduceBNe, Int.reduceEq, ↓reduceIte, reduceCtorEq]
          refine call_go false M5 ?_
          simp (maxSteps := 9000000) -implicitDefEqProofs -dsimp (disch := omega) only [go_sem, g78_0, g78_1, g78_2, g78_3, g78_4, g78_5, g78_6, g78_7, a78_7, n78_7, g78_8, g78_9, g78_10, g78_11, g78_12, a78_12, n78_12, g78_13, i78, lt_T, lt_F, le_T, le_F, eq_T, eq_F, and_F, Nat.reduceEqDiff, Nat.reduceAdd, Nat.reduceMul, Nat.reduceLeDiff, Nat.reduceBEq, Nat.reduceBNe, Int.reduceEq, ↓reduceIte, reduceCtorEq]
          refine drawm_go n78_12 a78_12 [(6, .framed [5])] (by decide +kernel) ?_
          simp (maxSteps := 9000000) -implicitDefEqProofs -dsimp (disch := omega) only [go_sem, g78_0, g78_1, g78_2, g78_3, g78_4, g78_5, g78_6, g78_7, a78_7, n78_7, g78_8, g78_9, g78_10, g78_11, g78_12, a78_12, n78_12, g78_13, i78, lt_T, lt_F, le_T, le_F, eq_T, eq_F, and_F, Nat.reduceEqDiff, Nat.reduceAdd, Nat.reduceMul, Nat.reduceLeDiff, Nat.reduceBEq, Nat.reduceBNe, Int.reduceEq, ↓reduceIte, reduceCtorEq]
          refine call_go false M6 ?_
          simp (maxSteps := 9000000) -implicitDefEqProofs -dsimp (disch := omega) only [go_sem, g78_0, g78_1, g78_2, g78_3, g78_4, g78_5, g78_6, g78_7, a78_7, n78_7, g78_8, g78_9, g78_10, g78_11, g78_12, a78_12, n78_12, g78_13, i78, lt_T, lt_F, le_T, le_F, eq_T, eq_F, and_F, cl, eS, Nat.reduceEqDiff, Nat.reduceAdd, Nat.reduceMul, Nat.reduceLeDiff, Nat.reduceBEq, Nat.reduceBNe, Int.reduceEq, ↓reduceIte, reduceCtorEq]
        | false =>
          simp (maxSteps := 9000000) -implicitDefEqProofs -dsimp (disch := omega) only [go_sem, g78_0, g78_1, g78_2, g78_3, g78_4, g78_5, g78_6, g78_7, a78_7, n78_7, g78_8, g78_9, g78_10, g78_11, g78_12, a78_12, n78_12, g78_13, i78, lt_T, lt_F, le_T, le_F, eq_T, eq_F, and_F, cuT, Nat.reduceEqDiff, Nat.reduceAdd, Nat.reduceMul, Nat.reduceLeDiff, Nat.reduceBEq, Nat.reduceBNe, Int.reduceEq, ↓reduceIte, reduceCtorEq]
          refine call_go false M5 ?_
          simp (maxSteps := 9000000) -implicitDefEqProofs -dsimp (disch := omega) only [go_sem, g78_0, g78_1, g78_2, g78_3, g78_4, g78_5, g78_6, g78_7, a78_7, n78_7, g78_8, g78_9, g78_10, g78_11, g78_12, a78_12, n78_12, g78_13, i78, lt_T, lt_F, le_T, le_F, eq_T, eq_F, and_F, cl, Nat.reduceEqDiff, Nat.reduceAdd, Nat.reduceMul, Nat.reduceLeDiff, Nat.reduceBEq, Nat.reduceBNe, Int.reduceEq, ↓reduceIte, reduceCtorEq]
  · have h0 : g2.n.length = 0 := by omega
    have c0 : g2.c.length = 0 := by omega
    have nl : g2.n = [] := List.length_eq_zero_iff.1 h0
    have nc : g2.c = [] := List.length_eq_zero_iff.1 c0
    refine ⟨g2, c4, o4.mono (by omega), ⟨hs, h14, hG2.1.2.2.2⟩, ?_⟩
    simp only [cl]
    simp only [cuT] at M1 M3
    by_cases hT : NodesOk n r
    · rw [SwRes, if_pos hT] at M2
      rw [if_pos hT] at hg1
      simp only [cuT]
      refine meets_go (ir := iG10) (fn := Try.f78) (rx := [(.cell 2 (some 3))]) rfl rfl (by rfl) (by rfl) (by exact Nat.le_of_ble_eq_true rfl) ?_
      simp (maxSteps := 9000000) -implicitDefEqProofs -dsimp (disch := omega) only [go_sem, g78_0, g78_1, g78_2, g78_3, g78_4, g78_5, g78_6, g78_7, a78_7, n78_7, g78_8, g78_9, g78_10, g78_11, g78_12, a78_12, n78_12, g78_13, i78, lt_T, lt_F, le_T, le_F, eq_T, eq_F, and_F, iG10, Nat.reduceEqDiff, Nat.reduceAdd, Nat.reduceMul, Nat.reduceLeDiff, Nat.reduceBEq, Nat.reduceBNe, Int.reduceEq, ↓reduceIte, reduceCtorEq]
      refine call_go false M1 ?_
      simp (maxSteps := 9000000) -implicitDefEqProofs -dsimp (disch := omega) only [go_sem, lt_T, lt_F, le_T, le_F, eq_T, eq_F, and_F, Nat.reduceEqDiff, Nat.reduceAdd, Nat.reduceMul, Nat.reduceLeDiff, Nat.reduceBEq, Nat.reduceBNe, Int.reduceEq, ↓reduceIte, reduceCtorEq]
      refine mark_imp ⟨[(4, .w (.one (.hs 3 [] 0 1 r.length))), (3, .w (.one (.hs 2 [] 0 2 n.length))), (2, .w (.one (.hp 1 [] 0))), (0, .w (.one (.hp 0 [] 0)))], [(3, (.sl false 1 r.length (r.map (T.int .i64)))), (2, .sl false 2 n.length (ndR n)), (0, .bx true [(.sl false 1 c1.code.length (c1.code.map (T.int .u8))), .int .i64 c1.at_, .int .u64 c1.seed]), (1, .bx true [.sl true 0 0 [], .sl true 0 0 [], .sl true 0 0 []])], [.one (.hp 0 [] 0)]⟩ ((imp_ro 3 [] (x := (.sl true 1 r.length (r.map (T.int .i64)))) (t2 := (.sl false 1 r.length (r.map (T.int .i64)))) rfl rfl (by simp (maxSteps := 9000000) -implicitDefEqProofs -dsimp (disch := omega) only [go_sem, Nat.reduceEqDiff, Nat.reduceAdd, Nat.reduceMul, Nat.reduceLeDiff, Nat.reduceBEq, Nat.reduceBNe, Int.reduceEq, ↓reduceIte, reduceCtorEq])).trans ((imp_ro 2 [] (x := .sl true 2 n.length (ndO n)) (t2 := .sl false 2 n.length (ndR n)) rfl rfl (by simp (maxSteps := 9000000) -implicitDefEqProofs -dsimp (disch := omega) only [go_sem, ndO_ro, Nat.reduceEqDiff, Nat.reduceAdd, Nat.reduceMul, Nat.reduceLeDiff, Nat.reduceBEq, Nat.reduceBNe, Int.reduceEq, ↓reduceIte, reduceCtorEq])).trans (imp_sub (by simp (maxSteps := 9000000) -implicitDefEqProofs -dsimp (disch := omega) only [go_sem, Nat.reduceEqDiff, Nat.reduceAdd, Nat.reduceMul, Nat.reduceLeDiff, Nat.reduceBEq, Nat.reduceBNe, Int.reduceEq, ↓reduceIte, reduceCtorEq]) (by simp (maxSteps := 9000000) -implicitDefEqProofs -dsimp (disch := omega) only [go_sem, Nat.reduceEqDiff, Nat.reduceAdd, Nat.reduceMul, Nat.reduceLeDiff, Nat.reduceBEq, Nat.reduceBNe, Int.reduceEq, ↓reduceIte, reduceCtorEq]) rfl))) ?_
      simp (maxSteps := 9000000) -implicitDefEqProofs -dsimp (disch := omega) only [go_sem, lt_T, lt_F, le_T, le_F, eq_T, eq_F, and_F, Nat.reduceEqDiff, Nat.reduceAdd, Nat.reduceMul, Nat.reduceLeDiff, Nat.reduceBEq, Nat.reduceBNe, Int.reduceEq, ↓reduceIte, reduceCtorEq]
      refine call_go false M2 ?_
      simp (maxSteps := 9000000) -implicitDefEqProofs -dsimp (disch := omega) only [go_sem, lt_T, lt_F, le_T, le_F, eq_T, eq_F, and_F, Nat.reduceEqDiff, Nat.reduceAdd, Nat.reduceMul, Nat.reduceLeDiff, Nat.reduceBEq, Nat.reduceBNe, Int.reduceEq, ↓reduceIte, reduceCtorEq]
      refine mark_imp (dgE g1 c1) ?_ ?_
      · rw [hg1]
        unfold dgE
        simp only [swN_len, cuT, g0, List.length_singleton]
        have hcut : cut (ndR (swN n r)) 0 (n.length * 2) = ndR (swN n r) := ndR_cutN (by rw [swN_len])
        have hcc : cut ((countsF (swN n r) r).map (T.int .i64)) 0 n.length = (countsF (swN n r) r).map (T.int .i64) := cut_all (by rw [List.length_map, countsF_len, swN_len]; exact Nat.le_refl _)
        exact (imp_ren 8 5 rfl rfl).trans (imp_sub (by simp (maxSteps := 9000000) -implicitDefEqProofs -dsimp (disch := omega) only [go_sem, swN_len, hcut, hcc, Nat.reduceEqDiff, Nat.reduceAdd, Nat.reduceMul, Nat.reduceLeDiff, Nat.reduceBEq, Nat.reduceBNe, Int.reduceEq, ↓reduceIte, reduceCtorEq]) (by simp (maxSteps := 9000000) -implicitDefEqProofs -dsimp (disch := omega) only [go_sem, swN_len, hcut, hcc, Nat.reduceEqDiff, Nat.reduceAdd, Nat.reduceMul, Nat.reduceLeDiff, Nat.reduceBEq, Nat.reduceBNe, Int.reduceEq, ↓reduceIte, reduceCtorEq]) rfl)
      unfold dgE
      simp (maxSteps := 9000000) -implicitDefEqProofs -dsimp (disch := omega) only [go_sem, lt_T, lt_F, le_T, le_F, eq_T, eq_F, and_F, cuT, Nat.reduceEqDiff, Nat.reduceAdd, Nat.reduceMul, Nat.reduceLeDiff, Nat.reduceBEq, Nat.reduceBNe, Int.reduceEq, ↓reduceIte, reduceCtorEq]
      refine call_go false M3 ?_
      simp (maxSteps := 9000000) -implicitDefEqProofs -dsimp (disch := omega) only [go_sem, lt_T, lt_F, le_T, le_F, eq_T, eq_F, and_F, Nat.reduceEqDiff, Nat.reduceAdd, Nat.reduceMul, Nat.reduceLeDiff, Nat.reduceBEq, Nat.reduceBNe, Int.reduceEq, ↓reduceIte, reduceCtorEq]
      refine loop_f m.toNat (fun i => dgS (dgI (g1, c3) i).1 (m - i) (dgI (g1, c3) i).2) ?_ rnds ?_
      · unfold dgS
        exact (imp_sub (by simp (maxSteps := 9000000) -implicitDefEqProofs -dsimp (disch := omega) only [go_sem, g78_0, g78_1, g78_2, g78_3, g78_4, g78_5, g78_6, g78_7, a78_7, n78_7, g78_8, g78_9, g78_10, g78_11, g78_12, a78_12, n78_12, g78_13, i78, dgI, cuT, Int.natCast_zero, Int.sub_zero, Nat.reduceEqDiff, Nat.reduceAdd, Nat.reduceMul, Nat.reduceLeDiff, Nat.reduceBEq, Nat.reduceBNe, Int.reduceEq, ↓reduceIte, reduceCtorEq]) (by simp (maxSteps := 9000000) -implicitDefEqProofs -dsimp (disch := omega) only [go_sem, g78_0, g78_1, g78_2, g78_3, g78_4, g78_5, g78_6, g78_7, a78_7, n78_7, g78_8, g78_9, g78_10, g78_11, g78_12, a78_12, n78_12, g78_13, i78, dgI, cuT, Int.natCast_zero, Int.sub_zero, Nat.reduceEqDiff, Nat.reduceAdd, Nat.reduceMul, Nat.reduceLeDiff, Nat.reduceBEq, Nat.reduceBNe, Int.reduceEq, ↓reduceIte, reduceCtorEq]) rfl)
      · show wx _ _ _ (dgS (dgI (g1, c3) m.toNat).1 (m - (m.toNat : Nat)) (dgI (g1, c3) m.toNat).2)
        rw [← hg2, ← hc4, show m - (m.toNat : Int) = 0 by omega]
        unfold dgS
        simp (maxSteps := 9000000) -implicitDefEqProofs -dsimp (disch := omega) only [go_sem, g78_0, g78_1, g78_2, g78_3, g78_4, g78_5, g78_6, g78_7, a78_7, n78_7, g78_8, g78_9, g78_10, g78_11, g78_12, a78_12, n78_12, g78_13, i78, lt_T, lt_F, le_T, le_F, eq_T, eq_F, and_F, cuT, Nat.reduceEqDiff, Nat.reduceAdd, Nat.reduceMul, Nat.reduceLeDiff, Nat.reduceBEq, Nat.reduceBNe, Int.reduceEq, ↓reduceIte, reduceCtorEq]
        refine mark_imp (dgE g2 c4) ?_ ?_
        · unfold dgE
          exact (imp_sub (by simp (maxSteps := 9000000) -implicitDefEqProofs -dsimp (disch := omega) only [go_sem, g78_0, g78_1, g78_2, g78_3, g78_4, g78_5, g78_6, g78_7, a78_7, n78_7, g78_8, g78_9, g78_10, g78_11, g78_12, a78_12, n78_12, g78_13, i78, cuT, Nat.reduceEqDiff, Nat.reduceAdd, Nat.reduceMul, Nat.reduceLeDiff, Nat.reduceBEq, Nat.reduceBNe, Int.reduceEq, ↓reduceIte, reduceCtorEq]) (by simp (maxSteps := 9000000) -implicitDefEqProofs -dsimp (disch := omega) only [go_sem, g78_0, g78_1, g78_2, g78_3, g78_4, g78_5, g78_6, g78_7, a78_7, n78_7, g78_8, g78_9, g78_10, g78_11, g78_12, a78_12, n78_12, g78_13, i78, cuT, Nat.reduceEqDiff, Nat.reduceAdd, Nat.reduceMul, Nat.reduceLeDiff, Nat.reduceBEq, Nat.reduceBNe, Int.reduceEq, ↓reduceIte, reduceCtorEq]) rfl)
        unfold dgE
        simp (maxSteps := 9000000) -implicitDefEqProofs -dsimp (disch := omega) only [go_sem, g78_0, g78_1, g78_2, g78_3, g78_4, g78_5, g78_6, g78_7, a78_7, n78_7, g78_8, g78_9, g78_10, g78_11, g78_12, a78_12, n78_12, g78_13, i78, lt_T, lt_F, le_T, le_F, eq_T, eq_F, and_F, cuT, h0, nl, nc, Nat.reduceEqDiff, Nat.reduceAdd, Nat.reduceMul, Nat.reduceLeDiff, Nat.reduceBEq, Nat.reduceBNe, Int.reduceEq, ↓reduceIte, reduceCtorEq]
    · rw [SwRes, if_neg hT] at M2
      rw [if_neg hT] at hg1
      simp only [cuT]
      refine meets_go (ir := iG10) (fn := Try.f78) (rx := [(.cell 2 (some 3))]) rfl rfl (by rfl) (by rfl) (by exact Nat.le_of_ble_eq_true rfl) ?_
      simp (maxSteps := 9000000) -implicitDefEqProofs -dsimp (disch := omega) only [go_sem, g78_0, g78_1, g78_2, g78_3, g78_4, g78_5, g78_6, g78_7, a78_7, n78_7, g78_8, g78_9, g78_10, g78_11, g78_12, a78_12, n78_12, g78_13, i78, lt_T, lt_F, le_T, le_F, eq_T, eq_F, and_F, iG10, Nat.reduceEqDiff, Nat.reduceAdd, Nat.reduceMul, Nat.reduceLeDiff, Nat.reduceBEq, Nat.reduceBNe, Int.reduceEq, ↓reduceIte, reduceCtorEq]
      refine call_go false M1 ?_
      simp (maxSteps := 9000000) -implicitDefEqProofs -dsimp (disch := omega) only [go_sem, lt_T, lt_F, le_T, le_F, eq_T, eq_F, and_F, Nat.reduceEqDiff, Nat.reduceAdd, Nat.reduceMul, Nat.reduceLeDiff, Nat.reduceBEq, Nat.reduceBNe, Int.reduceEq, ↓reduceIte, reduceCtorEq]
      refine mark_imp ⟨[(4, .w (.one (.hs 3 [] 0 1 r.length))), (3, .w (.one (.hs 2 [] 0 2 n.length))), (2, .w (.one (.hp 1 [] 0))), (0, .w (.one (.hp 0 [] 0)))], [(3, (.sl false 1 r.length (r.map (T.int .i64)))), (2, .sl false 2 n.length (ndR n)), (0, .bx true [(.sl false 1 c1.code.length (c1.code.map (T.int .u8))), .int .i64 c1.at_, .int .u64 c1.seed]), (1, .bx true [.sl true 0 0 [], .sl true 0 0 [], .sl true 0 0 []])], [.one (.hp 0 [] 0)]⟩ ((imp_ro 3 [] (x := (.sl true 1 r.length (r.map (T.int .i64)))) (t2 := (.sl false 1 r.length (r.map (T.int .i64)))) rfl rfl (by simp (maxSteps := 9000000) -implicitDefEqProofs -dsimp (disch := omega) only [go_sem, Nat.reduceEqDiff, Nat.reduceAdd, Nat.reduceMul, Nat.reduceLeDiff, Nat.reduceBEq, Nat.reduceBNe, Int.reduceEq, ↓reduceIte, reduceCtorEq])).trans ((imp_ro 2 [] (x := .sl true 2 n.length (ndO n)) (t2 := .sl false 2 n.length (ndR n)) rfl rfl (by simp (maxSteps := 9000000) -implicitDefEqProofs -dsimp (disch := omega) only [go_sem, ndO_ro, Nat.reduceEqDiff, Nat.reduceAdd, Nat.reduceMul, Nat.reduceLeDiff, Nat.reduceBEq, Nat.reduceBNe, Int.reduceEq, ↓reduceIte, reduceCtorEq])).trans (imp_sub (by simp (maxSteps := 9000000) -implicitDefEqProofs -dsimp (disch := omega) only [go_sem, Nat.reduceEqDiff, Nat.reduceAdd, Nat.reduceMul, Nat.reduceLeDiff, Nat.reduceBEq, Nat.reduceBNe, Int.reduceEq, ↓reduceIte, reduceCtorEq]) (by simp (maxSteps := 9000000) -implicitDefEqProofs -dsimp (disch := omega) only [go_sem, Nat.reduceEqDiff, Nat.reduceAdd, Nat.reduceMul, Nat.reduceLeDiff, Nat.reduceBEq, Nat.reduceBNe, Int.reduceEq, ↓reduceIte, reduceCtorEq]) rfl))) ?_
      simp (maxSteps := 9000000) -implicitDefEqProofs -dsimp (disch := omega) only [go_sem, lt_T, lt_F, le_T, le_F, eq_T, eq_F, and_F, Nat.reduceEqDiff, Nat.reduceAdd, Nat.reduceMul, Nat.reduceLeDiff, Nat.reduceBEq, Nat.reduceBNe, Int.reduceEq, ↓reduceIte, reduceCtorEq]
      refine call_go false M2 ?_
      simp (maxSteps := 9000000) -implicitDefEqProofs -dsimp (disch := omega) only [go_sem, lt_T, lt_F, le_T, le_F, eq_T, eq_F, and_F, Nat.reduceEqDiff, Nat.reduceAdd, Nat.reduceMul, Nat.reduceLeDiff, Nat.reduceBEq, Nat.reduceBNe, Int.reduceEq, ↓reduceIte, reduceCtorEq]
      refine call_go true ng0 ?_
      have c02 : cut (ndO [⟨[], false⟩]) 0 2 = ndO [⟨[], false⟩] := ndO_cutN rfl
      simp (maxSteps := 9000000) -implicitDefEqProofs -dsimp (disch := omega) only [go_sem, lt_T, lt_F, le_T, le_F, eq_T, eq_F, and_F, c02, Nat.reduceEqDiff, Nat.reduceAdd, Nat.reduceMul, Nat.reduceLeDiff, Nat.reduceBEq, Nat.reduceBNe, Int.reduceEq, ↓reduceIte, reduceCtorEq]
      refine mark_imp (dgE g1 c1) ?_ ?_
      · rw [hg1]
        unfold dgE
        simp only [swN_len, cuT, g0, List.length_singleton]
        refine (imp_ros 4 [0] (t2 := .bx true [.sl true 2 1 (ndR [⟨[], false⟩]), .sl true 1 1 [.int .i64 0], .sl true 1 1 [.int .i64 1]]) rfl rfl (by rw [ndO_ro]; rfl)).trans ?_
        refine Imp.trans (b := ⟨[(5, .w (.one (.hp 4 [] 0))), (2, .w (.one (.hp 1 [] 0))), (0, .w (.one (.hp 0 [] 0)))], [(4, .bx true [.sl true 2 1 (ndR [⟨[], false⟩]), .sl true 1 1 [.int .i64 0], .sl true 1 1 [.int .i64 1]]), (1, .bx true [.sl true 0 0 [], .sl true 0 0 [], .sl true 0 0 []]), (0, .bx true [(.sl false 1 c1.code.length (c1.code.map (T.int .u8))), .int .i64 c1.at_, .int .u64 c1.seed])], [.one (.hp 0 [] 0)]⟩) (imp_sub (by simp (maxSteps := 9000000) -implicitDefEqProofs -dsimp (disch := omega) only [go_sem, Nat.reduceEqDiff, Nat.reduceAdd, Nat.reduceMul, Nat.reduceLeDiff, Nat.reduceBEq, Nat.reduceBNe, Int.reduceEq, ↓reduceIte, reduceCtorEq]) (by simp (maxSteps := 9000000) -implicitDefEqProofs -dsimp (disch := omega) only [go_sem, Nat.reduceEqDiff, Nat.reduceAdd, Nat.reduceMul, Nat.reduceLeDiff, Nat.reduceBEq, Nat.reduceBNe, Int.reduceEq, ↓reduceIte, reduceCtorEq]) rfl) ?_
        exact (imp_ren 4 5 rfl rfl).trans (imp_sub (by simp (maxSteps := 9000000) -implicitDefEqProofs -dsimp (disch := omega) only [go_sem, Nat.reduceEqDiff, Nat.reduceAdd, Nat.reduceMul, Nat.reduceLeDiff, Nat.reduceBEq, Nat.reduceBNe, Int.reduceEq, ↓reduceIte, reduceCtorEq]) (by simp (maxSteps := 9000000) -implicitDefEqProofs -dsimp (disch := omega) only [go_sem, Nat.reduceEqDiff, Nat.reduceAdd, Nat.reduceMul, Nat.reduceLeDiff, Nat.reduceBEq, Nat.reduceBNe, Int.reduceEq, ↓reduceIte, reduceCtorEq]) rfl)
      unfold dgE
      simp (maxSteps := 9000000) -implicitDefEqProofs -dsimp (disch := omega) only [go_sem, lt_T, lt_F, le_T, le_F, eq_T, eq_F, and_F, cuT, Nat.reduceEqDiff, Nat.reduceAdd, Nat.reduceMul, Nat.reduceLeDiff, Nat.reduceBEq, Nat.reduceBNe, Int.reduceEq, ↓reduceIte, reduceCtorEq]
      refine call_go false M3 ?_
      simp (maxSteps := 9000000) -implicitDefEqProofs -dsimp (disch := omega) only [go_sem, lt_T, lt_F, le_T, le_F, eq_T, eq_F, and_F, Nat.reduceEqDiff, Nat.reduceAdd, Nat.reduceMul, Nat.reduceLeDiff, Nat.reduceBEq, Nat.reduceBNe, Int.reduceEq, ↓reduceIte, reduceCtorEq]
      refine loop_f m.toNat (fun i => dgS (dgI (g1, c3) i).1 (m - i) (dgI (g1, c3) i).2) ?_ rnds ?_
      · unfold dgS
        exact (imp_sub (by simp (maxSteps := 9000000) -implicitDefEqProofs -dsimp (disch := omega) only [go_sem, g78_0, g78_1, g78_2, g78_3, g78_4, g78_5, g78_6, g78_7, a78_7, n78_7, g78_8, g78_9, g78_10, g78_11, g78_12, a78_12, n78_12, g78_13, i78, dgI, cuT, Int.natCast_zero, Int.sub_zero, Nat.reduceEqDiff, Nat.reduceAdd, Nat.reduceMul, Nat.reduceLeDiff, Nat.reduceBEq, Nat.reduceBNe, Int.reduceEq, ↓reduceIte, reduceCtorEq]) (by simp (maxSteps := 9000000) -implicitDefEqProofs -dsimp (disch := omega) only [go_sem, g78_0, g78_1, g78_2, g78_3, g78_4, g78_5, g78_6, g78_7, a78_7, n78_7, g78_8, g78_9, g78_10, g78_11, g78_12, a78_12, n78_12, g78_13, i78, dgI, cuT, Int.natCast_zero, Int.sub_zero, Nat.reduceEqDiff, Nat.reduceAdd, Nat.reduceMul, Nat.reduceLeDiff, Nat.reduceBEq, Nat.reduceBNe, Int.reduceEq, ↓reduceIte, reduceCtorEq]) rfl)
      · show wx _ _ _ (dgS (dgI (g1, c3) m.toNat).1 (m - (m.toNat : Nat)) (dgI (g1, c3) m.toNat).2)
        rw [← hg2, ← hc4, show m - (m.toNat : Int) = 0 by omega]
        unfold dgS
        simp (maxSteps := 9000000) -implicitDefEqProofs -dsimp (disch := omega) only [go_sem, g78_0, g78_1, g78_2, g78_3, g78_4, g78_5, g78_6, g78_7, a78_7, n78_7, g78_8, g78_9, g78_10, g78_11, g78_12, a78_12, n78_12, g78_13, i78, lt_T, lt_F, le_T, le_F, eq_T, eq_F, and_F, cuT, Nat.reduceEqDiff, Nat.reduceAdd, Nat.reduceMul, Nat.reduceLeDiff, Nat.reduceBEq, Nat.reduceBNe, Int.reduceEq, ↓reduceIte, reduceCtorEq]
        refine mark_imp (dgE g2 c4) ?_ ?_
        · unfold dgE
          exact (imp_sub (by simp (maxSteps := 9000000) -implicitDefEqProofs -dsimp (disch := omega) only [go_sem, g78_0, g78_1, g78_2, g78_3, g78_4, g78_5, g78_6, g78_7, a78_7, n78_7, g78_8, g78_9, g78_10, g78_11, g78_12, a78_12, n78_12, g78_13, i78, cuT, Nat.reduceEqDiff, Nat.reduceAdd, Nat.reduceMul, Nat.reduceLeDiff, Nat.reduceBEq, Nat.reduceBNe, Int.reduceEq, ↓reduceIte, reduceCtorEq]) (by simp (maxSteps := 9000000) -implicitDefEqProofs -dsimp (disch := omega) only [go_sem, g78_0, g78_1, g78_2, g78_3, g78_4, g78_5, g78_6, g78_7, a78_7, n78_7, g78_8, g78_9, g78_10, g78_11, g78_12, a78_12, n78_12, g78_13, i78, cuT, Nat.reduceEqDiff, Nat.reduceAdd, Nat.reduceMul, Nat.reduceLeDiff, Nat.reduceBEq, Nat.reduceBNe, Int.reduceEq, ↓reduceIte, reduceCtorEq]) rfl)
        unfold dgE
        simp (maxSteps := 9000000) -implicitDefEqProofs -dsimp (disch := omega) only [go_sem, g78_0, g78_1, g78_2, g78_3, g78_4, g78_5, g78_6, g78_7, a78_7, n78_7, g78_8, g78_9, g78_10, g78_11, g78_12, a78_12, n78_12, g78_13, i78, lt_T, lt_F, le_T, le_F, eq_T, eq_F, and_F, cuT, h0, nl, nc, Nat.reduceEqDiff, Nat.reduceAdd, Nat.reduceMul, Nat.reduceLeDiff, Nat.reduceBEq, Nat.reduceBNe, Int.reduceEq, ↓reduceIte, reduceCtorEq]
end Go.Proofs.YtdhclelfnbjikaaT

/- Functions of the program as contracts: drawn arguments of graphs. No condition. -/
set_option maxRecDepth 100000
set_option maxHeartbeats 8000000
set_option linter.unusedSimpArgs false
set_option linter.unusedVariables false
namespace Go.Proofs.YtdhclelfnbjikaaT
open Go Go.RowKit
def Bytes (l : List Int) : Prop := (∀ x ∈ l, 0 ≤ x ∧ x ≤ 255) ∧ (l.length : Int) ≤ 9223372036854775807
theorem Bytes.cu {l : List Int} (h : Bytes l) : (⟨l, 0, 0⟩ : Cu).ok 0 := ⟨h.1, h.2, by simp, by simp, by simp, by simp⟩
def g53_0 : List Gop := [⟨none, (some 2), (.mov (.k (.one .nil)))⟩, ⟨none, (some 3), (.mov (.k (.one .nil)))⟩]
def g53_1 : List Gop := [⟨none, (some 5), (.mov (.t 0))⟩, ⟨none, (some 6), (.build [.nil, (.int .i64 0), (.int .u64 0)] [(0, (1, (.t 5)))])⟩, ⟨none, (some 7), (.box (.t 6))⟩, ⟨none, (some 4), (.mov (.t 7))⟩]
def g53_2 : List Gop := [⟨none, (some 8), (.mov (.t 4))⟩, ⟨none, (some 9), (.call 80 [(.t 8)])⟩, ⟨none, (some 10), (.ext (.t 9) 0)⟩, ⟨none, (some 11), (.ext (.t 9) 1)⟩, ⟨none, (some 2), (.mov (.t 10))⟩, ⟨none, (some 3), (.mov (.t 11))⟩]
def i53 : Ir := (.seq (.region g53_0) (.seq (.region g53_1) (.seq (.region g53_2) .ret)))
theorem drawNewGraph_ok (code : List Int) (h : Bytes code) : ∃ (n : List Nd) (r : List Int), n.length ≤ 15 ∧ (∀ x ∈ n, x.h.length ≤ 3) ∧ r.length ≤ 4 ∧ Meets Try.prog 53 [.one (.sl false 1 code.length (code.map (T.int .u8)))] (.tup [.one (.sl true 2 n.length (ndO n)), .one (.sl true 1 r.length (r.map (T.int .i64)))]) [.one .hole] := by
  obtain ⟨n, r, c1, o1, n1, n2, n3, M1⟩ := nodes_ok ⟨code, 0, 0⟩ 0 h.cu (by omega)
  refine ⟨n, r, n1.2, n2, n3.2, ?_⟩
  unfold cuT at *
  refine meets_go (ir := i53) (fn := Try.f53) (rx := [(.tmp 2), (.tmp 3)]) rfl rfl (by rfl) (by rfl) (by exact Nat.le_of_ble_eq_true rfl) ?_
  simp (maxSteps := 9000000) -implicitDefEqProofs -dsimp (disch := omega) only [go_sem, g53_0, g53_1, g53_2, i53, Nat.reduceEqDiff, Nat.reduceAdd, Nat.reduceMul, Nat.reduceLeDiff, Nat.reduceBEq, Nat.reduceBNe, Int.reduceEq, ↓reduceIte, reduceCtorEq]
  refine call_go false M1 ?_
  simp (maxSteps := 9000000) -implicitDefEqProofs -dsimp (disch := omega) only [go_sem, Nat.reduceEqDiff, Nat.reduceAdd, Nat.reduceMul, Nat.reduceLeDiff, Nat.reduceBEq, Nat.reduceBNe, Int.reduceEq, ↓reduceIte, reduceCtorEq]
def g51_0 : List Gop := [⟨none, (some 2), (.alloc [.nil, .nil, .nil])⟩]
def g51_1 : List Gop := [⟨none, (some 6), (.mov (.t 0))⟩, ⟨none, (some 7), (.build [.nil, (.int .i64 0), (.int .u64 0)] [(0, (1, (.t 6)))])⟩, ⟨none, (some 8), (.box (.t 7))⟩, ⟨none, (some 3), (.mov (.t 8))⟩]
def g51_2 : List Gop := [⟨none, (some 10), (.mov (.t 3))⟩, ⟨none, (some 11), (.call 80 [(.t 10)])⟩, ⟨none, (some 9), (.mov (.t 11))⟩, ⟨none, (some 12), (.ext (.t 9) 0)⟩, ⟨none, (some 13), (.ext (.t 9) 1)⟩, ⟨none, (some 4), (.mov (.t 12))⟩, ⟨none, (some 5), (.mov (.t 13))⟩]
def g51_3 : List Gop := [⟨none, (some 14), (.mov (.t 4))⟩, ⟨none, (some 15), (.mov (.t 5))⟩, ⟨none, (some 16), (.build [.nil, .nil, .nil] [(0, (1, (.t 14))), (1, (1, (.t 15)))])⟩, ⟨none, none, (.store 3 (.t 2) (.t 16))⟩]
def i51 : Ir := (.seq (.region g51_0) (.seq (.region g51_1) (.seq (.region g51_2) (.seq (.region g51_3) .ret))))
theorem drawSweepGraph_ok (code : List Int) (h : Bytes code) : ∃ (n : List Nd) (r : List Int), n.length ≤ 15 ∧ (∀ x ∈ n, x.h.length ≤ 3) ∧ r.length ≤ 4 ∧ Meets Try.prog 51 [.one (.sl false 1 code.length (code.map (T.int .u8)))] (.w (.agg [.sl true 2 n.length (ndO n), (.sl true 1 r.length (r.map (T.int .i64))), .sl true 0 0 []])) [.one .hole] := by
  obtain ⟨n, r, c1, o1, n1, n2, n3, M1⟩ := nodes_ok ⟨code, 0, 0⟩ 0 h.cu (by omega)
  refine ⟨n, r, n1.2, n2, n3.2, ?_⟩
  unfold cuT at *
  refine meets_go (ir := i51) (fn := Try.f51) (rx := [(.cell 2 (some 3))]) rfl rfl (by rfl) (by rfl) (by exact Nat.le_of_ble_eq_true rfl) ?_
  simp (maxSteps := 9000000) -implicitDefEqProofs -dsimp (disch := omega) only [go_sem, g51_0, g51_1, g51_2, g51_3, i51, Nat.reduceEqDiff, Nat.reduceAdd, Nat.reduceMul, Nat.reduceLeDiff, Nat.reduceBEq, Nat.reduceBNe, Int.reduceEq, ↓reduceIte, reduceCtorEq]
  refine call_go false M1 ?_
  simp (maxSteps := 9000000) -implicitDefEqProofs -dsimp (disch := omega) only [go_sem, Nat.reduceEqDiff, Nat.reduceAdd, Nat.reduceMul, Nat.reduceLeDiff, Nat.reduceBEq, Nat.reduceBNe, Int.reduceEq, ↓reduceIte, reduceCtorEq]
def g81_0 : List Gop := [⟨none, (some 2), (.alloc [.nil, .nil, .nil])⟩]
def g81_1 : List Gop := [⟨none, (some 4), (.mov (.t 0))⟩, ⟨none, (some 5), (.build [.nil, (.int .i64 0), (.int .u64 0)] [(0, (1, (.t 4)))])⟩, ⟨none, (some 6), (.box (.t 5))⟩, ⟨none, (some 3), (.mov (.t 6))⟩]
def g81_2 : List Gop := [⟨none, (some 7), (.mov (.t 3))⟩, ⟨none, (some 8), (.call 78 [(.t 7)])⟩, ⟨none, none, (.store 3 (.t 2) (.t 8))⟩]
def i81 : Ir := (.seq (.region g81_0) (.seq (.region g81_1) (.seq (.region g81_2) .ret)))
theorem drawGoodGraph_ok (code : List Int) (h : Bytes code) : ∃ g : Gr, (Small g ∧ g.n.length ≤ 14 ∧ g.r.length ≤ 6) ∧ Meets Try.prog 81 [.one (.sl false 1 code.length (code.map (T.int .u8)))] (.w (.agg [.sl true 2 g.n.length (ndR g.n), (.sl true 1 g.r.length (g.r.map (T.int .i64))), (.sl true 1 g.c.length (g.c.map (T.int .i64)))])) [.one .hole] := by
  obtain ⟨g, c1, o1, hs, M1⟩ := graph10_ok ⟨code, 0, 0⟩ 0 h.cu (by omega)
  refine ⟨g, hs, ?_⟩
  unfold cuT at *
  refine meets_go (ir := i81) (fn := Try.f81) (rx := [(.cell 2 (some 3))]) rfl rfl (by rfl) (by rfl) (by exact Nat.le_of_ble_eq_true rfl) ?_
  simp (maxSteps := 9000000) -implicitDefEqProofs -dsimp (disch := omega) only [go_sem, g81_0, g81_1, g81_2, i81, Nat.reduceEqDiff, Nat.reduceAdd, Nat.reduceMul, Nat.reduceLeDiff, Nat.reduceBEq, Nat.reduceBNe, Int.reduceEq, ↓reduceIte, reduceCtorEq]
  refine call_go false M1 ?_
  simp (maxSteps := 9000000) -implicitDefEqProofs -dsimp (disch := omega) only [go_sem, Nat.reduceEqDiff, Nat.reduceAdd, Nat.reduceMul, Nat.reduceLeDiff, Nat.reduceBEq, Nat.reduceBNe, Int.reduceEq, ↓reduceIte, reduceCtorEq]
def g54_0 : List Gop := [⟨none, (some 2), (.alloc [.nil, .nil, .nil])⟩]
def g54_1 : List Gop := [⟨none, (some 3), (.mov (.t 0))⟩, ⟨none, (some 4), (.call 81 [(.t 3)])⟩, ⟨none, none, (.store 3 (.t 2) (.t 4))⟩]
def i54 : Ir := (.seq (.region g54_0) (.seq (.region g54_1) .ret))
theorem drawReachedIn_ok (code : List Int) (h : Bytes code) : ∃ g : Gr, (Small g ∧ g.n.length ≤ 14 ∧ g.r.length ≤ 6) ∧ Meets Try.prog 54 [.one (.sl false 1 code.length (code.map (T.int .u8)))] (.w (.agg [.sl true 2 g.n.length (ndR g.n), (.sl true 1 g.r.length (g.r.map (T.int .i64))), (.sl true 1 g.c.length (g.c.map (T.int .i64)))])) [.one .hole] := by
  obtain ⟨g, hs, M1⟩ := drawGoodGraph_ok code h
  refine ⟨g, hs, ?_⟩
  refine meets_go (ir := i54) (fn := Try.f54) (rx := [(.cell 2 (some 3))]) rfl rfl (by rfl) (by rfl) (by exact Nat.le_of_ble_eq_true rfl) ?_
  simp (maxSteps := 9000000) -implicitDefEqProofs -dsimp (disch := omega) only [go_sem, g54_0, g54_1, i54, Nat.reduceEqDiff, Nat.reduceAdd, Nat.reduceMul, Nat.reduceLeDiff, Nat.reduceBEq, Nat.reduceBNe, Int.reduceEq, ↓reduceIte, reduceCtorEq]
  refine call_go false M1 ?_
  simp (maxSteps := 9000000) -implicitDefEqProofs -dsimp (disch := omega) only [go_sem, Nat.reduceEqDiff, Nat.reduceAdd, Nat.reduceMul, Nat.reduceLeDiff, Nat.reduceBEq, Nat.reduceBNe, Int.reduceEq, ↓reduceIte, reduceCtorEq]
def g52_0 : List Gop := [⟨none, (some 2), (.alloc [.nil, .nil, .nil])⟩, ⟨none, (some 3), (.mov (.k (.one (.int .i64 0))))⟩]
def g52_1 : List Gop := [⟨none, (some 6), (.mov (.t 0))⟩, ⟨none, (some 7), (.build [.nil, (.int .i64 0), (.int .u64 0)] [(0, (1, (.t 6)))])⟩, ⟨none, (some 8), (.box (.t 7))⟩, ⟨none, (some 4), (.mov (.t 8))⟩]
def g52_2 : List Gop := [⟨none, (some 9), (.mov (.t 4))⟩, ⟨none, (some 10), (.call 78 [(.t 9)])⟩, ⟨none, (some 5), (.alloc [.nil, .nil, .nil])⟩, ⟨none, none, (.store 3 (.t 5) (.t 10))⟩]
def g52_3 : List Gop := [⟨none, (some 11), (.load (some 3) (.t 5))⟩, ⟨none, (some 12), (.mov (.t 4))⟩, ⟨none, (some 13), (.faddr (.t 5) 0)⟩, ⟨none, (some 14), (.load none (.t 13))⟩, ⟨none, (some 15), (.len (.t 14))⟩, ⟨none, (some 16), (.bin .add (.t 15) (.k (.one (.int .i64 2))))⟩, ⟨none, (some 17), (.call 79 [(.t 12), (.t 16)])⟩, ⟨none, (some 18), (.bin .sub (.t 17) (.k (.one (.int .i64 1))))⟩, ⟨none, none, (.store 3 (.t 2) (.t 11))⟩, ⟨none, (some 3), (.mov (.t 18))⟩]
def a52_3 : List (List Nat) := [[], [], [], [2], [2, 3], [2, 3, 4], [1, 2, 3, 4, 5], [1, 2, 3, 4, 5, 6], [0, 1, 2, 3, 4, 5, 6], [0, 1, 2, 3, 4, 5, 6, 7, 8]]
def n52_3 : Nat := 9 -- of 10
def i52 : Ir := (.seq (.region g52_0) (.seq (.region g52_1) (.seq (.region g52_2) (.seq (.draw [[], [], [], [2], [3], [4], [1, 5], [6], [0, 6, 0], [7, 8, 0, 1, 2, 3, 4, 5, 6, 7, 8]] g52_3) .ret))))
theorem drawHoldRoot_ok (code : List Int) (h : Bytes code) : ∃ (g : Gr) (k : Int), (Small g ∧ g.n.length ≤ 14 ∧ g.r.length ≤ 6) ∧ Meets Try.prog 52 [.one (.sl false 1 code.length (code.map (T.int .u8)))] (.tup [.agg [.sl true 2 g.n.length (ndR g.n), (.sl true 1 g.r.length (g.r.map (T.int .i64))), (.sl true 1 g.c.length (g.c.map (T.int .i64)))], .one (.int .i64 k)]) [.one .hole] := by
  obtain ⟨g, c1, o1, hs, M1⟩ := graph10_ok ⟨code, 0, 0⟩ 0 h.cu (by omega)
  obtain ⟨hs1, h14, h6⟩ := hs
  have M2 := pick_ok c1 (0 + 200) (g.n.length + 2) o1 (by omega) (by omega) (by omega)
  have i2 := pick_in (n := g.n.length + 2) o1 (by omega)
  refine ⟨g, (pickF c1 (g.n.length + 2)).1 - 1, ⟨hs1, h14, h6⟩, ?_⟩
  unfold cuT at *
  generalize (pickF c1 (g.n.length + 2)).1 = x at *
  generalize (pickF c1 (g.n.length + 2)).2 = c2 at *
  refine meets_go (ir := i52) (fn := Try.f52) (rx := [(.cell 2 (some 3)), (.tmp 3)]) rfl rfl (by rfl) (by rfl) (by exact Nat.le_of_ble_eq_true rfl) ?_
  simp (maxSteps := 9000000) -implicitDefEqProofs -dsimp (disch := omega) only [go_sem, g52_0, g52_1, g52_2, g52_3, a52_3, n52_3, i52, Nat.reduceEqDiff, Nat.reduceAdd, Nat.reduceMul, Nat.reduceLeDiff, Nat.reduceBEq, Nat.reduceBNe, Int.reduceEq, ↓reduceIte, reduceCtorEq]
  refine call_go false M1 ?_
  simp (maxSteps := 9000000) -implicitDefEqProofs -dsimp (disch := omega) only [go_sem, Nat.reduceEqDiff, Nat.reduceAdd, Nat.reduceMul, Nat.reduceLeDiff, Nat.reduceBEq, Nat.reduceBNe, Int.reduceEq, ↓reduceIte, reduceCtorEq]
  refine drawm_go n52_3 a52_3 [(6, .framed [6]), (8, .framed [])] (by decide +kernel) ?_
  simp (maxSteps := 9000000) -implicitDefEqProofs -dsimp (disch := omega) only [go_sem, n52_3, a52_3, Nat.reduceEqDiff, Nat.reduceAdd, Nat.reduceMul, Nat.reduceLeDiff, Nat.reduceBEq, Nat.reduceBNe, Int.reduceEq, ↓reduceIte, reduceCtorEq]
  refine call_go false M2 ?_
  simp (maxSteps := 9000000) -implicitDefEqProofs -dsimp (disch := omega) only [go_sem, n52_3, a52_3, lt_T, lt_F, le_T, le_F, eq_T, eq_F, and_F, Nat.reduceEqDiff, Nat.reduceAdd, Nat.reduceMul, Nat.reduceLeDiff, Nat.reduceBEq, Nat.reduceBNe, Int.reduceEq, ↓reduceIte, reduceCtorEq]
end Go.Proofs.YtdhclelfnbjikaaT

/- Functions of the program as contracts: the drawn law of counts. No condition. -/
set_option maxRecDepth 100000
set_option maxHeartbeats 8000000
set_option linter.unusedSimpArgs false
set_option linter.unusedVariables false
namespace Go.Proofs.YtdhclelfnbjikaaT
open Go Go.RowKit
theorem sameG3 {n : List Nd} {r c : List Int} (s : Small ⟨n, r, c⟩) : Meets Try.prog 47 [.agg [.sl false 2 n.length (ndR n), (.sl false 1 r.length (r.map (T.int .i64))), (.sl false 1 c.length (c.map (T.int .i64)))], .agg [.sl false 2 n.length (ndR n), (.sl false 1 r.length (r.map (T.int .i64))), (.sl false 1 c.length (c.map (T.int .i64)))]] (.w (.one (.bool true))) [.agg [.hole, .hole, .hole], .agg [.hole, .hole, .hole]] := sameGraphs_ok ⟨n, r, c⟩ s
theorem goodG3 {n : List Nd} {r c : List Int} (h : GoodG ⟨n, r, c⟩) : Meets Try.prog 27 [.agg [.sl false 2 n.length (ndR n), (.sl false 1 r.length (r.map (T.int .i64))), (.sl false 1 c.length (c.map (T.int .i64)))]] (.w (.one (.bool true))) [.agg [.hole, .hole, .hole]] := by
  have s := good_small h
  have M := implGoodGraph_ok ⟨n, r, c⟩ s.n s.h s.r s.c
  rw [decide_eq_true h] at M
  exact M
theorem reachG3 {n : List Nd} {r c : List Int} (h : GoodG ⟨n, r, c⟩) : Meets Try.prog 34 [.agg [.sl false 2 n.length (ndR n), (.sl false 1 r.length (r.map (T.int .i64))), (.sl false 1 c.length (c.map (T.int .i64)))]] (.tup [.one (.sl true 1 (rchL n r).length ((rchL n r).map (T.int .i64))), .one (.bool true)]) [.agg [.hole, .hole, .hole]] := by
  have M := implReachedIn_ok ⟨n, r, c⟩ (good_small h)
  rw [ReRes, if_pos h] at M
  exact M
theorem small0 : Small ⟨[], [], []⟩ := ⟨by decide, by simp, by decide, by decide⟩
def fcS (m : Nat) (more : List Int) : St := ⟨[(1, .w (.one (.hs 1 [] 0 1 more.length)))], [(1, (.sl false 1 more.length (more.map (T.int .u8))))], [.one (.hs 0 [] 0 1 m), .one (.hs 1 [] 0 1 more.length)]⟩
end Go.Proofs.YtdhclelfnbjikaaT

/- Functions of the program as contracts: the drawn law of counts. No condition. -/
set_option maxRecDepth 100000
set_option maxHeartbeats 8000000
set_option linter.unusedSimpArgs false
set_option linter.unusedVariables false
namespace Go.Proofs.YtdhclelfnbjikaaT
open Go Go.RowKit
theorem rch_nat {n : List Nd} {r : List Int} (h : NodesOk n r) {y : Int} (hy : y ∈ rchL n r) : ∃ k : Nat, k < n.length ∧ y = (k : Int) := by
  have := rch_hold h ((rchL_mem h).1 hy)
  have a := this.1
  have b := this.2.1
  exact ⟨y.toNat, by omega, by omega⟩
end Go.Proofs.YtdhclelfnbjikaaT

/- What a code reads as. No condition. -/
set_option maxRecDepth 100000
set_option maxHeartbeats 8000000
set_option linter.unusedSimpArgs false
set_option linter.unusedVariables false
namespace Go.Proofs.YtdhclelfnbjikaaT
open Go Go.RowKit
theorem told_Bytes : Told Try.prog 56 (fun l : List Int => [(.sl false 1 l.length (l.map (T.int .u8)))]) Bytes :=
  told_iso (told_slice (k := 1) (told_int (k := .u8) Try.underlying5) (by kernel_rfl) (fun _ => rfl) (by decide) Try.underlying56) fun l h => ⟨l, by rw [flat_one], fun x hx => by
    have := h.2 x hx
    simp only [Lit.wf, Bool.and_eq_true, decide_eq_true_eq] at this
    have e1 : IntKind.u8.min = 0 := by decide
    have e2 : IntKind.u8.max = 255 := by decide
    rw [e1, e2] at this
    exact this, by have := h.1; unfold maxLen at this; omega⟩
end Go.Proofs.YtdhclelfnbjikaaT
