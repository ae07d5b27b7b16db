/- Functions of the program, each with what it returns and leaves. No condition. -/
import Derived.Test.YtjlodcoeegpkaaaFn1
set_option linter.all false
set_option linter.unusedVariables false
set_option linter.unusedSimpArgs false
set_option linter.unusedSectionVars false
set_option linter.unnecessarySimpa false
set_option linter.deprecated false
/- Functions of the program as contracts: crashes. No condition. -/
set_option maxRecDepth 100000
set_option maxHeartbeats 4000000
set_option linter.unusedSimpArgs false
set_option linter.unusedVariables false
namespace Go.Proofs.YtjlodcoeegpkaaaT
open Go
def g102_0 : List Gop := [⟨none, (some 4), (.mov (.k (.one (.int .i64 0))))⟩]
def g102_1 : List Gop := [⟨none, (some 6), (.mov (.t 0))⟩, ⟨none, (some 7), (.len (.t 6))⟩, ⟨none, (some 8), (.mov (.k (.one (.int .i64 0))))⟩]
def g102_2 : List Gop := [⟨none, (some 9), (.bin .lss (.t 8) (.t 7))⟩]
def g102_3 : List Gop := [⟨none, (some 10), (.mov (.t 8))⟩, ⟨none, (some 5), (.mov (.t 10))⟩]
def g102_4 : List Gop := [⟨none, (some 11), (.mov (.t 1))⟩, ⟨none, (some 12), (.mov (.t 0))⟩, ⟨none, (some 13), (.mov (.t 5))⟩, ⟨none, (some 14), (.iaddr 1 (.t 12) (.t 13))⟩, ⟨none, (some 15), (.load none (.t 14))⟩, ⟨none, (some 16), (.bin .eql (.t 11) (.t 15))⟩]
def g102_5 : List Gop := [⟨none, (some 17), (.mov (.t 5))⟩, ⟨none, (some 4), (.mov (.t 17))⟩]
def g102_6 : List Gop := [⟨none, (some 18), (.bin .add (.t 8) (.k (.one (.int .i64 1))))⟩, ⟨none, (some 8), (.mov (.t 18))⟩]
def g102_7 : List Gop := [⟨none, (some 4), (.mov (.k (.one (.int .i64 (-1)))))⟩]
def i102 : Ir := (.seq (.region g102_0) (.seq (.seq (.region g102_1) (.block 0 (.loop (.seq (.region g102_2) (.seq (.cond (.t 9) .skip (.exit 0)) (.seq (.block 1 (.seq (.region g102_3) (.seq (.region g102_4) (.cond (.t 16) (.seq (.region g102_5) .ret) .skip)))) (.region g102_6))))))) (.seq (.region g102_7) .ret)))
theorem index_ok (l : List Int) (x : Int) (hl : l.length ≤ 1048576) : ∃ n : Int, Meets Try.prog 102 [.one (.sl false 1 l.length (l.map (T.int .i64))), .one (.int .i64 x)] (.w (.one (.int .i64 n))) [.one .hole, .one .hole] ∧ (0 ≤ n ↔ x ∈ l) := by
  have key : ∀ n : Nat, n ≤ l.length → (∀ j, j < n → x ≠ l.getD j default) → (n < l.length → x = l.getD n default) → Meets Try.prog 102 [.one (.sl false 1 l.length (l.map (T.int .i64))), .one (.int .i64 x)] (.w (.one (.int .i64 (if n < l.length then (n : Int) else -1)))) [.one .hole, .one .hole] := by
    intro n hn h0 h1
    refine meets_go (ir := i102) (fn := Try.f102) (rx := [(.tmp 4)]) rfl rfl (by rfl) (by rfl) (by exact Nat.le_of_ble_eq_true rfl) ?_
    simp (maxSteps := 9000000) -implicitDefEqProofs -dsimp (disch := omega) only [go_sem, g102_0, g102_1, g102_2, g102_3, g102_4, g102_5, g102_6, g102_7, i102, Nat.reduceEqDiff, Nat.reduceAdd, Nat.reduceMul, Nat.reduceLeDiff, Nat.reduceBEq, Nat.reduceBNe, Int.reduceEq, ↓reduceIte, reduceCtorEq]
    refine loop_n n (fun i => ⟨[(8, .w (.one (.int .i64 (i : Nat)))), (7, .w (.one (.int .i64 l.length))), (0, .w (.one (.hs 0 [] 0 1 l.length))), (1, .w (.one (.int .i64 x)))],
      [(0, (.sl false 1 l.length (l.map (T.int .i64))))], [.one (.hs 0 [] 0 1 l.length), .one (.int .i64 x)]⟩) (fun i => True) ?_ trivial ?_
    · exact (imp_sub (by simp (maxSteps := 9000000) -implicitDefEqProofs -dsimp (disch := omega) only [go_sem, g102_0, g102_1, g102_2, g102_3, g102_4, g102_5, g102_6, g102_7, i102, Nat.reduceEqDiff, Nat.reduceAdd, Nat.reduceMul, Nat.reduceLeDiff, Nat.reduceBEq, Nat.reduceBNe, Int.reduceEq, ↓reduceIte, reduceCtorEq]) (by simp (maxSteps := 9000000) -implicitDefEqProofs -dsimp (disch := omega) only [go_sem, g102_0, g102_1, g102_2, g102_3, g102_4, g102_5, g102_6, g102_7, i102, Nat.reduceEqDiff, Nat.reduceAdd, Nat.reduceMul, Nat.reduceLeDiff, Nat.reduceBEq, Nat.reduceBNe, Int.reduceEq, ↓reduceIte, reduceCtorEq]) rfl)
    · intro i hi _
      simp (maxSteps := 9000000) -implicitDefEqProofs -dsimp (disch := omega) only [go_sem, g102_0, g102_1, g102_2, g102_3, g102_4, g102_5, g102_6, g102_7, i102, Nat.reduceEqDiff, Nat.reduceAdd, Nat.reduceMul, Nat.reduceLeDiff, Nat.reduceBEq, Nat.reduceBNe, Int.reduceEq, ↓reduceIte, reduceCtorEq]
      refine brP_i (fun h2 => ?_) (fun h2 => ?_)
      · by_cases e : i < n
        · simp (maxSteps := 9000000) -implicitDefEqProofs -dsimp (disch := omega) only [go_sem, g102_0, g102_1, g102_2, g102_3, g102_4, g102_5, g102_6, g102_7, i102, h0 i e, Nat.reduceEqDiff, Nat.reduceAdd, Nat.reduceMul, Nat.reduceLeDiff, Nat.reduceBEq, Nat.reduceBNe, Int.reduceEq, ↓reduceIte, reduceCtorEq]
          exact ⟨by omega, (imp_sub (by simp (maxSteps := 9000000) -implicitDefEqProofs -dsimp (disch := omega) only [go_sem, g102_0, g102_1, g102_2, g102_3, g102_4, g102_5, g102_6, g102_7, i102, Nat.reduceEqDiff, Nat.reduceAdd, Nat.reduceMul, Nat.reduceLeDiff, Nat.reduceBEq, Nat.reduceBNe, Int.reduceEq, ↓reduceIte, reduceCtorEq]) (by simp (maxSteps := 9000000) -implicitDefEqProofs -dsimp (disch := omega) only [go_sem, g102_0, g102_1, g102_2, g102_3, g102_4, g102_5, g102_6, g102_7, i102, Nat.reduceEqDiff, Nat.reduceAdd, Nat.reduceMul, Nat.reduceLeDiff, Nat.reduceBEq, Nat.reduceBNe, Int.reduceEq, ↓reduceIte, reduceCtorEq]) rfl)⟩
        · obtain rfl : i = n := by omega
          simp (maxSteps := 9000000) -implicitDefEqProofs -dsimp (disch := omega) only [go_sem, g102_0, g102_1, g102_2, g102_3, g102_4, g102_5, g102_6, g102_7, i102, ← h1 (by omega), Nat.reduceEqDiff, Nat.reduceAdd, Nat.reduceMul, Nat.reduceLeDiff, Nat.reduceBEq, Nat.reduceBNe, Int.reduceEq, ↓reduceIte, reduceCtorEq]
          exact need_i (by rw [if_pos (by omega)]) (by simp (maxSteps := 9000000) -implicitDefEqProofs -dsimp (disch := omega) only [go_sem, g102_0, g102_1, g102_2, g102_3, g102_4, g102_5, g102_6, g102_7, i102, Nat.reduceEqDiff, Nat.reduceAdd, Nat.reduceMul, Nat.reduceLeDiff, Nat.reduceBEq, Nat.reduceBNe, Int.reduceEq, ↓reduceIte, reduceCtorEq])
      · simp (maxSteps := 9000000) -implicitDefEqProofs -dsimp (disch := omega) only [go_sem, g102_0, g102_1, g102_2, g102_3, g102_4, g102_5, g102_6, g102_7, i102, Nat.reduceEqDiff, Nat.reduceAdd, Nat.reduceMul, Nat.reduceLeDiff, Nat.reduceBEq, Nat.reduceBNe, Int.reduceEq, ↓reduceIte, reduceCtorEq]
        exact need_i (by rw [if_neg (by omega)]) (by simp (maxSteps := 9000000) -implicitDefEqProofs -dsimp (disch := omega) only [go_sem, g102_0, g102_1, g102_2, g102_3, g102_4, g102_5, g102_6, g102_7, i102, Nat.reduceEqDiff, Nat.reduceAdd, Nat.reduceMul, Nat.reduceLeDiff, Nat.reduceBEq, Nat.reduceBNe, Int.reduceEq, ↓reduceIte, reduceCtorEq])
  have least : ∃ n : Nat, n ≤ l.length ∧ (∀ j, j < n → x ≠ l.getD j default) ∧ (n < l.length → x = l.getD n default) := by
    have : ∀ k, k ≤ l.length → (∀ j, j < k → x ≠ l.getD j default) ∨ ∃ n : Nat, n < k ∧ (∀ j, j < n → x ≠ l.getD j default) ∧ x = l.getD n default := by
      intro k
      induction k with
      | zero => intro _; exact .inl fun j hj => by omega
      | succ k ih =>
        intro hk
        rcases ih (by omega) with h | ⟨n, h1, h2, h3⟩
        · by_cases hp : x = l.getD k default
          · exact .inr ⟨k, by omega, h, hp⟩
          · exact .inl (all_succ h hp)
        · exact .inr ⟨n, by omega, h2, h3⟩
    rcases this l.length (Nat.le_refl _) with h | ⟨n, h1, h2, h3⟩
    · exact ⟨l.length, Nat.le_refl _, h, fun h => by omega⟩
    · exact ⟨n, by omega, h2, fun _ => h3⟩
  obtain ⟨n, h1, h2, h3⟩ := least
  refine ⟨_, key n h1 h2 h3, ?_⟩
  split
  · rename_i hn
    exact ⟨fun _ => h3 hn ▸ getD_mem hn, fun _ => by omega⟩
  · rename_i hn
    refine ⟨fun h => by omega, fun h => ?_⟩
    obtain ⟨j, hj, e⟩ := mem_getD h
    exact absurd e.symm (h2 j (by omega))
def g94_0 : List Gop := [⟨none, (some 4), (.mov (.k (.one (.bool .false))))⟩]
def g94_1 : List Gop := [⟨none, (some 5), (.mov (.t 0))⟩, ⟨none, (some 6), (.mov (.t 1))⟩, ⟨none, (some 7), (.call 102 [(.t 5), (.t 6)])⟩, ⟨none, (some 8), (.bin .geq (.t 7) (.k (.one (.int .i64 0))))⟩, ⟨none, (some 4), (.mov (.t 8))⟩]
def i94 : Ir := (.seq (.region g94_0) (.seq (.region g94_1) .ret))
theorem contains_ok (l : List Int) (x : Int) (hl : l.length ≤ 1048576) : Meets Try.prog 94 [.one (.sl false 1 l.length (l.map (T.int .i64))), .one (.int .i64 x)] (.w (.one (.bool (decide (x ∈ l))))) [.one .hole, .one .hole] := by
  obtain ⟨n, hI, hn⟩ := index_ok l x hl
  refine meets_go (ir := i94) (fn := Try.f94) (rx := [(.tmp 4)]) rfl rfl (by rfl) (by rfl) (by exact Nat.le_of_ble_eq_true rfl) ?_
  simp (maxSteps := 9000000) -implicitDefEqProofs -dsimp (disch := omega) only [go_sem, g94_0, g94_1, i94, Nat.reduceEqDiff, Nat.reduceAdd, Nat.reduceMul, Nat.reduceLeDiff, Nat.reduceBEq, Nat.reduceBNe, Int.reduceEq, ↓reduceIte, reduceCtorEq]
  refine call_go false hI ?_
  simp (maxSteps := 9000000) -implicitDefEqProofs -dsimp (disch := omega) only [go_sem, g94_0, g94_1, i94, Nat.reduceEqDiff, Nat.reduceAdd, Nat.reduceMul, Nat.reduceLeDiff, Nat.reduceBEq, Nat.reduceBNe, Int.reduceEq, ↓reduceIte, reduceCtorEq]
  exact need_i (res_dec hn.symm) (by simp (maxSteps := 9000000) -implicitDefEqProofs -dsimp (disch := omega) only [go_sem, g94_0, g94_1, i94, Nat.reduceEqDiff, Nat.reduceAdd, Nat.reduceMul, Nat.reduceLeDiff, Nat.reduceBEq, Nat.reduceBNe, Int.reduceEq, ↓reduceIte, reduceCtorEq])
def crashF (p h : List ByteArray) (kept : List Int) (j : Nat) : ByteArray := if (j : Int) ∈ kept then h.getD j default else p.getD j default
def crashP (p h : List ByteArray) (kept : List Int) : List ByteArray := (List.range p.length).map (crashF p h kept)
def crashH (h : List ByteArray) : List ByteArray := (List.range h.length).map fun _ => e0
def g75_0 : List Gop := [⟨none, (some 2), (.box (.t 0))⟩, ⟨none, (some 4), (.alloc [.nil, .nil, .nil])⟩]
def g75_1 : List Gop := [⟨none, (some 7), (.faddr (.t 2) 1)⟩, ⟨none, (some 8), (.load none (.t 7))⟩, ⟨none, (some 9), (.len (.t 8))⟩, ⟨none, (some 10), (.mov (.k (.one (.int .i64 0))))⟩]
def g75_2 : List Gop := [⟨none, (some 11), (.bin .lss (.t 10) (.t 9))⟩]
def g75_3 : List Gop := [⟨none, (some 12), (.mov (.t 10))⟩, ⟨none, (some 13), (.iaddr 1 (.t 8) (.t 10))⟩, ⟨none, (some 14), (.load none (.t 13))⟩, ⟨none, (some 5), (.mov (.t 12))⟩, ⟨none, (some 6), (.mov (.t 14))⟩]
def g75_4 : List Gop := [⟨none, (some 15), (.mov (.t 1))⟩, ⟨none, (some 16), (.mov (.t 5))⟩, ⟨none, (some 17), (.call 89 [(.t 15), (.t 16)])⟩]
def g75_5 : List Gop := [⟨none, (some 18), (.faddr (.t 2) 0)⟩, ⟨none, (some 19), (.load none (.t 18))⟩, ⟨none, (some 20), (.mov (.t 5))⟩, ⟨none, (some 21), (.mov (.t 6))⟩, ⟨none, (some 22), (.iaddr 1 (.t 19) (.t 20))⟩, ⟨none, none, (.store 1 (.t 22) (.t 21))⟩]
def g75_6 : List Gop := [⟨none, (some 23), (.faddr (.t 2) 1)⟩, ⟨none, (some 24), (.load none (.t 23))⟩, ⟨none, (some 25), (.mov (.t 5))⟩, ⟨none, (some 26), (.iaddr 1 (.t 24) (.t 25))⟩, ⟨none, none, (.store 1 (.t 26) (.k (.one (.str ⟨#[]⟩))))⟩]
def g75_7 : List Gop := [⟨none, (some 27), (.bin .add (.t 10) (.k (.one (.int .i64 1))))⟩, ⟨none, (some 10), (.mov (.t 27))⟩]
def g75_8 : List Gop := [⟨none, (some 28), (.load (some 3) (.t 2))⟩, ⟨none, none, (.store 3 (.t 4) (.t 28))⟩]
def i75 : Ir := (.seq (.region g75_0) (.seq (.seq (.region g75_1) (.block 0 (.loop (.seq (.region g75_2) (.seq (.cond (.t 11) .skip (.exit 0)) (.seq (.block 1 (.seq (.region g75_3) (.seq (.seq (.region g75_4) (.cond (.t 17) (.region g75_5) .skip)) (.region g75_6)))) (.region g75_7))))))) (.seq (.region g75_8) .ret)))
theorem l7Crash_ok (p h : List ByteArray) (b : List Bool) (kept : List Int) (hp : p.length ≤ 1048576) (he : h.length = p.length) (hk : kept.length ≤ 1048576) : Meets Try.prog 75 [.agg [(.sl true 1 p.length (p.map T.str)), (.sl true 1 h.length (h.map T.str)), (.sl true 1 b.length (b.map T.bool))], .one (.sl false 1 kept.length (kept.map (T.int .i64)))] (.w (.agg [(.sl true 1 (crashP p h kept).length ((crashP p h kept).map T.str)), (.sl true 1 (crashH h).length ((crashH h).map T.str)), (.sl true 1 b.length (b.map T.bool))])) [.agg [.hole, .hole, .hole], .one .hole] := by
  refine meets_go (ir := i75) (fn := Try.f75) (rx := [(.cell 4 (some 3))]) rfl rfl (by rfl) (by rfl) (by exact Nat.le_of_ble_eq_true rfl) ?_
  simp (maxSteps := 9000000) -implicitDefEqProofs -dsimp (disch := omega) only [go_sem, g75_0, g75_1, g75_2, g75_3, g75_4, g75_5, g75_6, g75_7, g75_8, i75, Nat.reduceEqDiff, Nat.reduceAdd, Nat.reduceMul, Nat.reduceLeDiff, Nat.reduceBEq, Nat.reduceBNe, Int.reduceEq, ↓reduceIte, reduceCtorEq]
  refine loop_n p.length (fun i => ⟨[(10, .w (.one (.int .i64 (i : Nat)))), (9, .w (.one (.int .i64 p.length))), (8, .w (.one (.hs 4 [1] 0 1 h.length))), (4, .w (.one (.hp 5 [] 0))), (2, .w (.one (.hp 4 [] 0))), (1, .w (.one (.hs 3 [] 0 1 kept.length)))],
    [(4, .bx true [.sl true 1 p.length ((mixL (crashF p h kept) p i).map T.str), .sl true 1 h.length ((mixL (fun _ => e0) h i).map T.str), (.sl true 1 b.length (b.map T.bool))]), (5, .bx true [.sl true 0 0 [], .sl true 0 0 [], .sl true 0 0 []]), (3, (.sl false 1 kept.length (kept.map (T.int .i64))))], [.agg [.hs 4 [0] 0 1 p.length, .hs 4 [1] 0 1 h.length, .hs 4 [2] 0 1 b.length], .one (.hs 3 [] 0 1 kept.length)]⟩) (fun i => True) ?_ trivial ?_
  · exact (imp_sub (by simp (maxSteps := 9000000) -implicitDefEqProofs -dsimp (disch := omega) only [go_sem, g75_0, g75_1, g75_2, g75_3, g75_4, g75_5, g75_6, g75_7, g75_8, i75, mixL_0, he, Nat.reduceEqDiff, Nat.reduceAdd, Nat.reduceMul, Nat.reduceLeDiff, Nat.reduceBEq, Nat.reduceBNe, Int.reduceEq, ↓reduceIte, reduceCtorEq]) (by simp (maxSteps := 9000000) -implicitDefEqProofs -dsimp (disch := omega) only [go_sem, g75_0, g75_1, g75_2, g75_3, g75_4, g75_5, g75_6, g75_7, g75_8, i75, mixL_0, he, Nat.reduceEqDiff, Nat.reduceAdd, Nat.reduceMul, Nat.reduceLeDiff, Nat.reduceBEq, Nat.reduceBNe, Int.reduceEq, ↓reduceIte, reduceCtorEq]) rfl)
  · intro i hi hJ
    have q1 := mixL_len (g := crashF p h kept) (a := p) (i := i)
    have q2 := mixL_len (g := fun _ => e0) (a := h) (i := i)
    simp (maxSteps := 9000000) -implicitDefEqProofs -dsimp (disch := omega) only [go_sem, g75_0, g75_1, g75_2, g75_3, g75_4, g75_5, g75_6, g75_7, g75_8, i75, Nat.reduceEqDiff, Nat.reduceAdd, Nat.reduceMul, Nat.reduceLeDiff, Nat.reduceBEq, Nat.reduceBNe, Int.reduceEq, ↓reduceIte, reduceCtorEq]
    refine brP_i (fun h1 => ?_) (fun h1 => ?_)
    · have g2 := mixL_get (g := fun _ => e0) (a := h) (i := i) (by omega)
      have s2 := mixL_set (g := fun _ => e0) (a := h) (i := i) (by omega)
      simp (maxSteps := 9000000) -implicitDefEqProofs -dsimp (disch := omega) only [go_sem, g75_0, g75_1, g75_2, g75_3, g75_4, g75_5, g75_6, g75_7, g75_8, i75, g2, Nat.reduceEqDiff, Nat.reduceAdd, Nat.reduceMul, Nat.reduceLeDiff, Nat.reduceBEq, Nat.reduceBNe, Int.reduceEq, ↓reduceIte, reduceCtorEq]
      refine call_go true (l1Has_ok kept i (by omega)) ?_
      by_cases hm : (i : Int) ∈ kept
      · have s1 := mixL_set (g := crashF p h kept) (a := p) (i := i) (by omega)
        have s0 : crashF p h kept i = h.getD i default := if_pos hm
        rw [s0] at s1
        simp (maxSteps := 9000000) -implicitDefEqProofs -dsimp (disch := omega) only [go_sem, g75_0, g75_1, g75_2, g75_3, g75_4, g75_5, g75_6, g75_7, g75_8, i75, hm, g2, Nat.reduceEqDiff, Nat.reduceAdd, Nat.reduceMul, Nat.reduceLeDiff, Nat.reduceBEq, Nat.reduceBNe, Int.reduceEq, ↓reduceIte, reduceCtorEq]
        exact ⟨by omega, (imp_sub (by simp (maxSteps := 9000000) -implicitDefEqProofs -dsimp (disch := omega) only [go_sem, g75_0, g75_1, g75_2, g75_3, g75_4, g75_5, g75_6, g75_7, g75_8, i75, s1, s2, Nat.reduceEqDiff, Nat.reduceAdd, Nat.reduceMul, Nat.reduceLeDiff, Nat.reduceBEq, Nat.reduceBNe, Int.reduceEq, ↓reduceIte, reduceCtorEq]) (by simp (maxSteps := 9000000) -implicitDefEqProofs -dsimp (disch := omega) only [go_sem, g75_0, g75_1, g75_2, g75_3, g75_4, g75_5, g75_6, g75_7, g75_8, i75, s1, s2, Nat.reduceEqDiff, Nat.reduceAdd, Nat.reduceMul, Nat.reduceLeDiff, Nat.reduceBEq, Nat.reduceBNe, Int.reduceEq, ↓reduceIte, reduceCtorEq]) rfl)⟩
      · have s1 := mixL_keep (g := crashF p h kept) (a := p) (i := i) (if_neg hm)
        simp (maxSteps := 9000000) -implicitDefEqProofs -dsimp (disch := omega) only [go_sem, g75_0, g75_1, g75_2, g75_3, g75_4, g75_5, g75_6, g75_7, g75_8, i75, hm, g2, Nat.reduceEqDiff, Nat.reduceAdd, Nat.reduceMul, Nat.reduceLeDiff, Nat.reduceBEq, Nat.reduceBNe, Int.reduceEq, ↓reduceIte, reduceCtorEq]
        exact ⟨by omega, (imp_sub (by simp (maxSteps := 9000000) -implicitDefEqProofs -dsimp (disch := omega) only [go_sem, g75_0, g75_1, g75_2, g75_3, g75_4, g75_5, g75_6, g75_7, g75_8, i75, s1, s2, Nat.reduceEqDiff, Nat.reduceAdd, Nat.reduceMul, Nat.reduceLeDiff, Nat.reduceBEq, Nat.reduceBNe, Int.reduceEq, ↓reduceIte, reduceCtorEq]) (by simp (maxSteps := 9000000) -implicitDefEqProofs -dsimp (disch := omega) only [go_sem, g75_0, g75_1, g75_2, g75_3, g75_4, g75_5, g75_6, g75_7, g75_8, i75, s1, s2, Nat.reduceEqDiff, Nat.reduceAdd, Nat.reduceMul, Nat.reduceLeDiff, Nat.reduceBEq, Nat.reduceBNe, Int.reduceEq, ↓reduceIte, reduceCtorEq]) rfl)⟩
    · obtain rfl : i = p.length := by omega
      have e1 : mixL (crashF p h kept) p p.length = crashP p h kept := mixL_end
      have e2 : mixL (fun _ => e0) h p.length = crashH h := by rw [← he]; exact mixL_end
      have l1 : (crashP p h kept).length = p.length := by simp [crashP]
      have l2 : (crashH h).length = h.length := by simp [crashH]
      simp (maxSteps := 9000000) -implicitDefEqProofs -dsimp (disch := omega) only [go_sem, g75_0, g75_1, g75_2, g75_3, g75_4, g75_5, g75_6, g75_7, g75_8, i75, e1, e2, l1, l2, Nat.reduceEqDiff, Nat.reduceAdd, Nat.reduceMul, Nat.reduceLeDiff, Nat.reduceBEq, Nat.reduceBNe, Int.reduceEq, ↓reduceIte, reduceCtorEq]
def g78_0 : List Gop := [⟨none, (some 2), (.box (.t 0))⟩, ⟨none, (some 4), (.alloc [.nil, .nil, .nil])⟩]
def g78_1 : List Gop := [⟨none, (some 7), (.load (some 3) (.t 2))⟩, ⟨none, (some 8), (.call 93 [(.t 7)])⟩, ⟨none, (some 5), (.alloc [.nil, .nil, .nil])⟩, ⟨none, none, (.store 3 (.t 5) (.t 8))⟩]
def g78_2 : List Gop := [⟨none, (some 9), (.faddr (.t 5) 1)⟩, ⟨none, (some 10), (.load none (.t 9))⟩, ⟨none, (some 11), (.len (.t 10))⟩, ⟨none, (some 12), (.mov (.k (.one (.int .i64 0))))⟩]
def g78_3 : List Gop := [⟨none, (some 13), (.bin .lss (.t 12) (.t 11))⟩]
def g78_4 : List Gop := [⟨none, (some 14), (.mov (.t 12))⟩, ⟨none, (some 6), (.mov (.t 14))⟩]
def g78_5 : List Gop := [⟨none, (some 15), (.mov (.t 1))⟩, ⟨none, (some 16), (.mov (.t 6))⟩, ⟨none, (some 17), (.call 94 [(.t 15), (.t 16)])⟩]
def g78_6 : List Gop := [⟨none, (some 18), (.faddr (.t 5) 0)⟩, ⟨none, (some 19), (.load none (.t 18))⟩, ⟨none, (some 20), (.mov (.t 6))⟩, ⟨none, (some 21), (.faddr (.t 5) 1)⟩, ⟨none, (some 22), (.load none (.t 21))⟩, ⟨none, (some 23), (.mov (.t 6))⟩, ⟨none, (some 24), (.iaddr 1 (.t 22) (.t 23))⟩, ⟨none, (some 25), (.load none (.t 24))⟩, ⟨none, (some 26), (.iaddr 1 (.t 19) (.t 20))⟩, ⟨none, none, (.store 1 (.t 26) (.t 25))⟩]
def a78_6 : List (List Nat) := [[], [0], [], [], [3], [], [3, 4, 5], [3, 4, 5, 6], [0, 1, 2, 3, 4, 5, 6, 7], [0, 1, 2, 3, 4, 5, 6, 7, 8]]
def n78_6 : Nat := 8 -- of 10
def g78_7 : List Gop := [⟨none, (some 27), (.faddr (.t 5) 1)⟩, ⟨none, (some 28), (.load none (.t 27))⟩, ⟨none, (some 29), (.mov (.t 6))⟩, ⟨none, (some 30), (.iaddr 1 (.t 28) (.t 29))⟩, ⟨none, none, (.store 1 (.t 30) (.k (.one (.str ⟨#[]⟩))))⟩]
def g78_8 : List Gop := [⟨none, (some 31), (.bin .add (.t 12) (.k (.one (.int .i64 1))))⟩, ⟨none, (some 12), (.mov (.t 31))⟩]
def g78_9 : List Gop := [⟨none, (some 32), (.load (some 3) (.t 5))⟩, ⟨none, none, (.store 3 (.t 4) (.t 32))⟩]
def i78 : Ir := (.seq (.region g78_0) (.seq (.region g78_1) (.seq (.seq (.region g78_2) (.block 0 (.loop (.seq (.region g78_3) (.seq (.cond (.t 13) .skip (.exit 0)) (.seq (.block 1 (.seq (.region g78_4) (.seq (.seq (.region g78_5) (.cond (.t 17) (.draw [[], [0], [], [], [3], [], [4, 5], [6], [1, 2, 0, 1, 2, 3, 4, 5, 6, 7], [8, 7, 0, 1, 2, 3, 4, 5, 6, 7]] g78_6) .skip)) (.region g78_7)))) (.region g78_8))))))) (.seq (.region g78_9) .ret))))
theorem crashed_ok (p h : List ByteArray) (b : List Bool) (kept : List Int) (hz : b ≠ []) (hb : b.length ≤ 1048576) (hp : p.length ≤ 1048576) (he : h.length = p.length) (hk : kept.length ≤ 1048576) : Meets Try.prog 78 [.agg [(.sl false 1 p.length (p.map T.str)), (.sl false 1 h.length (h.map T.str)), (.sl false 1 b.length (b.map T.bool))], .one (.sl false 1 kept.length (kept.map (T.int .i64)))] (.w (.agg [(.sl true 1 (crashP p h kept).length ((crashP p h kept).map T.str)), (.sl true 1 (crashH h).length ((crashH h).map T.str)), (.sl true 1 b.length (b.map T.bool))])) [.agg [.hole, .hole, .hole], .one .hole] := by
  refine meets_go (ir := i78) (fn := Try.f78) (rx := [(.cell 4 (some 3))]) rfl rfl (by rfl) (by rfl) (by exact Nat.le_of_ble_eq_true rfl) ?_
  simp (maxSteps := 9000000) -implicitDefEqProofs -dsimp (disch := omega) only [go_sem, g78_0, g78_1, g78_2, g78_3, g78_4, g78_5, g78_6, a78_6, n78_6, g78_7, g78_8, g78_9, i78, Nat.reduceEqDiff, Nat.reduceAdd, Nat.reduceMul, Nat.reduceLeDiff, Nat.reduceBEq, Nat.reduceBNe, Int.reduceEq, ↓reduceIte, reduceCtorEq]
  refine call_go true (ownDisk_ok p h b hz hp (by omega) hb) ?_
  simp (maxSteps := 9000000) -implicitDefEqProofs -dsimp (disch := omega) only [go_sem, g78_0, g78_1, g78_2, g78_3, g78_4, g78_5, g78_6, a78_6, n78_6, g78_7, g78_8, g78_9, i78, Nat.reduceEqDiff, Nat.reduceAdd, Nat.reduceMul, Nat.reduceLeDiff, Nat.reduceBEq, Nat.reduceBNe, Int.reduceEq, ↓reduceIte, reduceCtorEq]
  refine loop_n p.length (fun i => ⟨[(12, .w (.one (.int .i64 (i : Nat)))), (11, .w (.one (.int .i64 p.length))), (10, .w (.one (.hs 9 [1] 0 1 h.length))), (4, .w (.one (.hp 5 [] 0))), (5, .w (.one (.hp 9 [] 0))), (1, .w (.one (.hs 3 [] 0 1 kept.length)))],
    [(9, .bx true [.sl true 1 p.length ((mixL (crashF p h kept) p i).map T.str), .sl true 1 h.length ((mixL (fun _ => e0) h i).map T.str), (.sl true 1 b.length (b.map T.bool))]), (5, .bx true [.sl true 0 0 [], .sl true 0 0 [], .sl true 0 0 []]), (3, (.sl false 1 kept.length (kept.map (T.int .i64))))], [.agg [.hs 0 [] 0 1 p.length, .hs 1 [] 0 1 h.length, .hs 2 [] 0 1 b.length], .one (.hs 3 [] 0 1 kept.length)]⟩) (fun i => True) ?_ trivial ?_
  · exact (imp_sub (by simp (maxSteps := 9000000) -implicitDefEqProofs -dsimp (disch := omega) only [go_sem, g78_0, g78_1, g78_2, g78_3, g78_4, g78_5, g78_6, a78_6, n78_6, g78_7, g78_8, g78_9, i78, mixL_0, he, Nat.reduceEqDiff, Nat.reduceAdd, Nat.reduceMul, Nat.reduceLeDiff, Nat.reduceBEq, Nat.reduceBNe, Int.reduceEq, ↓reduceIte, reduceCtorEq]) (by simp (maxSteps := 9000000) -implicitDefEqProofs -dsimp (disch := omega) only [go_sem, g78_0, g78_1, g78_2, g78_3, g78_4, g78_5, g78_6, a78_6, n78_6, g78_7, g78_8, g78_9, i78, mixL_0, he, Nat.reduceEqDiff, Nat.reduceAdd, Nat.reduceMul, Nat.reduceLeDiff, Nat.reduceBEq, Nat.reduceBNe, Int.reduceEq, ↓reduceIte, reduceCtorEq]) rfl)
  · intro i hi hJ
    have q1 := mixL_len (g := crashF p h kept) (a := p) (i := i)
    have q2 := mixL_len (g := fun _ => e0) (a := h) (i := i)
    simp (maxSteps := 9000000) -implicitDefEqProofs -dsimp (disch := omega) only [go_sem, g78_0, g78_1, g78_2, g78_3, g78_4, g78_5, g78_6, a78_6, n78_6, g78_7, g78_8, g78_9, i78, Nat.reduceEqDiff, Nat.reduceAdd, Nat.reduceMul, Nat.reduceLeDiff, Nat.reduceBEq, Nat.reduceBNe, Int.reduceEq, ↓reduceIte, reduceCtorEq]
    refine brP_i (fun h1 => ?_) (fun h1 => ?_)
    · have g2 := mixL_get (g := fun _ => e0) (a := h) (i := i) (by omega)
      have s2 := mixL_set (g := fun _ => e0) (a := h) (i := i) (by omega)
      simp (maxSteps := 9000000) -implicitDefEqProofs -dsimp (disch := omega) only [go_sem, g78_0, g78_1, g78_2, g78_3, g78_4, g78_5, g78_6, a78_6, n78_6, g78_7, g78_8, g78_9, i78, g2, Nat.reduceEqDiff, Nat.reduceAdd, Nat.reduceMul, Nat.reduceLeDiff, Nat.reduceBEq, Nat.reduceBNe, Int.reduceEq, ↓reduceIte, reduceCtorEq]
      refine call_go true (contains_ok kept i (by omega)) ?_
      by_cases hm : (i : Int) ∈ kept
      · have s1 := mixL_set (g := crashF p h kept) (a := p) (i := i) (by omega)
        have s0 : crashF p h kept i = h.getD i default := if_pos hm
        rw [s0] at s1
        simp (maxSteps := 9000000) -implicitDefEqProofs -dsimp (disch := omega) only [go_sem, g78_0, g78_1, g78_2, g78_3, g78_4, g78_5, g78_6, a78_6, n78_6, g78_7, g78_8, g78_9, i78, hm, g2, Nat.reduceEqDiff, Nat.reduceAdd, Nat.reduceMul, Nat.reduceLeDiff, Nat.reduceBEq, Nat.reduceBNe, Int.reduceEq, ↓reduceIte, reduceCtorEq]
        refine draw_go n78_6 a78_6 (by decide +kernel) ?_
        simp (maxSteps := 9000000) -implicitDefEqProofs -dsimp (disch := omega) only [go_sem, g78_0, g78_1, g78_2, g78_3, g78_4, g78_5, g78_6, a78_6, n78_6, g78_7, g78_8, g78_9, i78, g2, Nat.reduceEqDiff, Nat.reduceAdd, Nat.reduceMul, Nat.reduceLeDiff, Nat.reduceBEq, Nat.reduceBNe, Int.reduceEq, ↓reduceIte, reduceCtorEq]
        exact ⟨by omega, (imp_sub (by simp (maxSteps := 9000000) -implicitDefEqProofs -dsimp (disch := omega) only [go_sem, g78_0, g78_1, g78_2, g78_3, g78_4, g78_5, g78_6, a78_6, n78_6, g78_7, g78_8, g78_9, i78, s1, s2, Nat.reduceEqDiff, Nat.reduceAdd, Nat.reduceMul, Nat.reduceLeDiff, Nat.reduceBEq, Nat.reduceBNe, Int.reduceEq, ↓reduceIte, reduceCtorEq]) (by simp (maxSteps := 9000000) -implicitDefEqProofs -dsimp (disch := omega) only [go_sem, g78_0, g78_1, g78_2, g78_3, g78_4, g78_5, g78_6, a78_6, n78_6, g78_7, g78_8, g78_9, i78, s1, s2, Nat.reduceEqDiff, Nat.reduceAdd, Nat.reduceMul, Nat.reduceLeDiff, Nat.reduceBEq, Nat.reduceBNe, Int.reduceEq, ↓reduceIte, reduceCtorEq]) rfl)⟩
      · have s1 := mixL_keep (g := crashF p h kept) (a := p) (i := i) (if_neg hm)
        simp (maxSteps := 9000000) -implicitDefEqProofs -dsimp (disch := omega) only [go_sem, g78_0, g78_1, g78_2, g78_3, g78_4, g78_5, g78_6, a78_6, n78_6, g78_7, g78_8, g78_9, i78, hm, g2, Nat.reduceEqDiff, Nat.reduceAdd, Nat.reduceMul, Nat.reduceLeDiff, Nat.reduceBEq, Nat.reduceBNe, Int.reduceEq, ↓reduceIte, reduceCtorEq]
        exact ⟨by omega, (imp_sub (by simp (maxSteps := 9000000) -implicitDefEqProofs -dsimp (disch := omega) only [go_sem, g78_0, g78_1, g78_2, g78_3, g78_4, g78_5, g78_6, a78_6, n78_6, g78_7, g78_8, g78_9, i78, s1, s2, Nat.reduceEqDiff, Nat.reduceAdd, Nat.reduceMul, Nat.reduceLeDiff, Nat.reduceBEq, Nat.reduceBNe, Int.reduceEq, ↓reduceIte, reduceCtorEq]) (by simp (maxSteps := 9000000) -implicitDefEqProofs -dsimp (disch := omega) only [go_sem, g78_0, g78_1, g78_2, g78_3, g78_4, g78_5, g78_6, a78_6, n78_6, g78_7, g78_8, g78_9, i78, s1, s2, Nat.reduceEqDiff, Nat.reduceAdd, Nat.reduceMul, Nat.reduceLeDiff, Nat.reduceBEq, Nat.reduceBNe, Int.reduceEq, ↓reduceIte, reduceCtorEq]) rfl)⟩
    · obtain rfl : i = p.length := by omega
      have e1 : mixL (crashF p h kept) p p.length = crashP p h kept := mixL_end
      have e2 : mixL (fun _ => e0) h p.length = crashH h := by rw [← he]; exact mixL_end
      have l1 : (crashP p h kept).length = p.length := by simp [crashP]
      have l2 : (crashH h).length = h.length := by simp [crashH]
      simp (maxSteps := 9000000) -implicitDefEqProofs -dsimp (disch := omega) only [go_sem, g78_0, g78_1, g78_2, g78_3, g78_4, g78_5, g78_6, a78_6, n78_6, g78_7, g78_8, g78_9, i78, e1, e2, l1, l2, Nat.reduceEqDiff, Nat.reduceAdd, Nat.reduceMul, Nat.reduceLeDiff, Nat.reduceBEq, Nat.reduceBNe, Int.reduceEq, ↓reduceIte, reduceCtorEq]
end Go.Proofs.YtjlodcoeegpkaaaT

/- Functions of the program as contracts: steps of a disk. No condition. -/
set_option maxRecDepth 100000
set_option maxHeartbeats 4000000
set_option linter.unusedSimpArgs false
set_option linter.unusedVariables false
namespace Go.Proofs.YtjlodcoeegpkaaaT
open Go
theorem take_le {α : Type} {f : α → T} {l : List α} {n : Nat} (h : l.length ≤ n) : List.take n (l.map f) = l.map f := List.take_of_length_le (by simpa using h)
theorem cut_set {α : Type} {f : α → T} {l : List α} {i : Nat} {x : α} : cut ((l.set i x).map f) 0 l.length = (l.set i x).map f := cut_le (by simp)
attribute [go_sem] take_le cut_set
def rotG (s m : ByteArray) (j : Nat) : UInt8 := s.data.toList.getD j default ^^^ m.data.toList.getD j default
def rotN (s m : ByteArray) (i : Nat) : List UInt8 := mixL (rotG s m) s.data.toList i
def rotF (s m : ByteArray) : ByteArray := ⟨(rotN s m m.size).toArray⟩
theorem rotN_len {s m : ByteArray} {i : Nat} : (rotN s m i).length = s.size := by rw [rotN, mixL_len, ba_len]
theorem rotF_size {s m : ByteArray} : (rotF s m).size = s.size := by
  show (rotN s m m.size).toArray.size = _
  simp [rotN_len]
def g98_0 : List Gop := [⟨none, (some 4), (.mov (.k (.one (.str ⟨#[]⟩))))⟩]
def g98_1 : List Gop := [⟨none, (some 7), (.mov (.t 0))⟩, ⟨none, (some 8), (.cvb (.t 7))⟩, ⟨none, (some 5), (.mov (.t 8))⟩]
def g98_2 : List Gop := [⟨none, (some 6), (.mov (.k (.one (.int .i64 0))))⟩]
def g98_3 : List Gop := [⟨none, (some 9), (.mov (.t 6))⟩, ⟨none, (some 10), (.mov (.t 1))⟩, ⟨none, (some 11), (.lent (.t 10))⟩, ⟨none, (some 12), (.bin .lss (.t 9) (.t 11))⟩]
def g98_4 : List Gop := [⟨none, (some 15), (.mov (.t 5))⟩, ⟨none, (some 16), (.mov (.t 6))⟩, ⟨none, (some 17), (.iaddr 1 (.t 15) (.t 16))⟩, ⟨none, (some 18), (.load none (.t 17))⟩, ⟨none, (some 19), (.mov (.t 1))⟩, ⟨none, (some 20), (.mov (.t 6))⟩, ⟨none, (some 21), (.at (.t 19) (.t 20))⟩, ⟨none, (some 22), (.bin .xor (.t 18) (.t 21))⟩, ⟨none, (some 23), (.iaddr 1 (.t 15) (.t 16))⟩, ⟨none, none, (.store 1 (.t 23) (.t 22))⟩]
def a98_4 : List (List Nat) := [[], [], [0, 1], [0, 1, 2], [], [], [4, 5], [0, 1, 2, 3, 4, 5, 6], [0, 1, 2, 3, 4, 5, 6, 7], [0, 1, 2, 3, 4, 5, 6, 7, 8]]
def n98_4 : Nat := 7 -- of 10
def g98_5 : List Gop := [⟨none, (some 13), (.mov (.t 6))⟩, ⟨none, (some 14), (.bin .add (.t 13) (.k (.one (.int .i64 1))))⟩, ⟨none, (some 6), (.mov (.t 14))⟩]
def g98_6 : List Gop := [⟨none, (some 24), (.mov (.t 5))⟩, ⟨none, (some 25), (.cvs (.t 24))⟩, ⟨none, (some 4), (.mov (.t 25))⟩]
def i98 : Ir := (.seq (.region g98_0) (.seq (.region g98_1) (.seq (.seq (.region g98_2) (.block 0 (.loop (.seq (.seq (.region g98_3) (.cond (.t 12) .skip (.exit 0))) (.seq (.block 1 (.draw [[], [], [0, 1], [2], [], [], [4, 5], [3, 6], [0, 1, 0, 1, 2, 3, 4, 5, 6, 7], [8, 7, 0, 1, 2, 3, 4, 5, 6, 7]] g98_4)) (.region g98_5)))))) (.seq (.region g98_6) .ret))))
theorem l7Rot_ok (s m : ByteArray) (hs : s.size ≤ 1048576) (hm : m.size ≤ s.size) : Meets Try.prog 98 [.one (.str s), .one (.str m)] (.w (.one (.str (rotF s m)))) [.one .hole, .one .hole] := by
  refine meets_go (ir := i98) (fn := Try.f98) (rx := [(.tmp 4)]) rfl rfl (by rfl) (by rfl) (by exact Nat.le_of_ble_eq_true rfl) ?_
  simp (maxSteps := 9000000) -implicitDefEqProofs -dsimp (disch := omega) only [go_sem, g98_0, g98_1, g98_2, g98_3, g98_4, a98_4, n98_4, g98_5, g98_6, i98, Nat.reduceEqDiff, Nat.reduceAdd, Nat.reduceMul, Nat.reduceLeDiff, Nat.reduceBEq, Nat.reduceBNe, Int.reduceEq, ↓reduceIte, reduceCtorEq]
  refine loop_n m.size (fun i => ⟨[(6, .w (.one (.int .i64 (i : Nat)))), (5, .w (.one (.hs 0 [] 0 1 s.size))), (1, .w (.one (.str m))), (0, .w (.one (.str s)))],
    [(0, .sl true 1 s.size ((rotN s m i).map fun c => T.int .u8 (c.toNat : Int)))], [.one (.str s), .one (.str m)]⟩) (fun i => True) ?_ trivial ?_
  · have e : rotN s m 0 = s.data.toList := mixL_0
    exact (imp_sub (by simp (maxSteps := 9000000) -implicitDefEqProofs -dsimp (disch := omega) only [go_sem, g98_0, g98_1, g98_2, g98_3, g98_4, a98_4, n98_4, g98_5, g98_6, i98, e, Nat.reduceEqDiff, Nat.reduceAdd, Nat.reduceMul, Nat.reduceLeDiff, Nat.reduceBEq, Nat.reduceBNe, Int.reduceEq, ↓reduceIte, reduceCtorEq]) (by simp (maxSteps := 9000000) -implicitDefEqProofs -dsimp (disch := omega) only [go_sem, g98_0, g98_1, g98_2, g98_3, g98_4, a98_4, n98_4, g98_5, g98_6, i98, e, Nat.reduceEqDiff, Nat.reduceAdd, Nat.reduceMul, Nat.reduceLeDiff, Nat.reduceBEq, Nat.reduceBNe, Int.reduceEq, ↓reduceIte, reduceCtorEq]) rfl)
  · intro i hi _
    have q := rotN_len (s := s) (m := m) (i := i)
    simp (maxSteps := 9000000) -implicitDefEqProofs -dsimp (disch := omega) only [go_sem, g98_0, g98_1, g98_2, g98_3, g98_4, a98_4, n98_4, g98_5, g98_6, i98, Nat.reduceEqDiff, Nat.reduceAdd, Nat.reduceMul, Nat.reduceLeDiff, Nat.reduceBEq, Nat.reduceBNe, Int.reduceEq, ↓reduceIte, reduceCtorEq]
    refine brP_i (fun h1 => ?_) (fun h1 => ?_)
    · have g1 : (rotN s m i).getD i default = s.data.toList.getD i default := mixL_get (by rw [ba_len]; omega)
      have s1 : (rotN s m i).set i (s.data.toList.getD i default ^^^ m.data.toList.getD i default) = rotN s m (i + 1) := mixL_set (g := rotG s m) (by rw [ba_len]; omega)
      refine draw_go n98_4 a98_4 (by decide +kernel) ?_
      simp (maxSteps := 9000000) -implicitDefEqProofs -dsimp (disch := omega) only [go_sem, g98_0, g98_1, g98_2, g98_3, g98_4, a98_4, n98_4, g98_5, g98_6, i98, g1, Nat.reduceEqDiff, Nat.reduceAdd, Nat.reduceMul, Nat.reduceLeDiff, Nat.reduceBEq, Nat.reduceBNe, Int.reduceEq, ↓reduceIte, reduceCtorEq]
      exact ⟨by omega, (imp_sub (by simp (maxSteps := 9000000) -implicitDefEqProofs -dsimp (disch := omega) only [go_sem, g98_0, g98_1, g98_2, g98_3, g98_4, a98_4, n98_4, g98_5, g98_6, i98, s1, Nat.reduceEqDiff, Nat.reduceAdd, Nat.reduceMul, Nat.reduceLeDiff, Nat.reduceBEq, Nat.reduceBNe, Int.reduceEq, ↓reduceIte, reduceCtorEq]) (by simp (maxSteps := 9000000) -implicitDefEqProofs -dsimp (disch := omega) only [go_sem, g98_0, g98_1, g98_2, g98_3, g98_4, a98_4, n98_4, g98_5, g98_6, i98, s1, Nat.reduceEqDiff, Nat.reduceAdd, Nat.reduceMul, Nat.reduceLeDiff, Nat.reduceBEq, Nat.reduceBNe, Int.reduceEq, ↓reduceIte, reduceCtorEq]) rfl)⟩
    · obtain rfl : i = m.size := by omega
      have e : rotF s m = ⟨(rotN s m m.size).toArray⟩ := rfl
      simp (maxSteps := 9000000) -implicitDefEqProofs -dsimp (disch := omega) only [go_sem, g98_0, g98_1, g98_2, g98_3, g98_4, a98_4, n98_4, g98_5, g98_6, i98, cells, e, Nat.reduceEqDiff, Nat.reduceAdd, Nat.reduceMul, Nat.reduceLeDiff, Nat.reduceBEq, Nat.reduceBNe, Int.reduceEq, ↓reduceIte, reduceCtorEq]
def onlyP (a : Int) (text : ByteArray) (kept : List Int) (b1 b2 b3 : Bool) : Prop := (b1 = true ∨ a = 0) ∧ (b2 = true ∨ text = e0) ∧ (b3 = true ∨ kept.length = 0)
instance (a : Int) (text : ByteArray) (kept : List Int) (b1 b2 b3 : Bool) : Decidable (onlyP a text kept b1 b2 b3) := by unfold onlyP; infer_instance
def g97_0 : List Gop := [⟨none, (some 4), (.box (.t 0))⟩, ⟨none, (some 8), (.mov (.k (.one (.bool .false))))⟩]
def g97_1 : List Gop := [⟨none, (some 9), (.mov (.t 1))⟩, ⟨none, (some 10), (.mov (.t 9))⟩, ⟨(some (10, .false)), (some 11), (.faddr (.t 4) 1)⟩, ⟨(some (10, .false)), (some 12), (.load none (.t 11))⟩, ⟨(some (10, .false)), (some 13), (.bin .eql (.t 12) (.k (.one (.int .i64 0))))⟩, ⟨none, (some 14), (.pick (.t 10) (.k (.one (.bool .true))) (.t 13))⟩, ⟨none, (some 15), (.mov (.t 14))⟩, ⟨(some (15, .true)), (some 16), (.mov (.t 2))⟩, ⟨(some (15, .true)), (some 17), (.mov (.t 16))⟩, ⟨(some (17, .false)), (some 18), (.faddr (.t 4) 2)⟩, ⟨(some (17, .false)), (some 19), (.load none (.t 18))⟩, ⟨(some (17, .false)), (some 20), (.bin .eql (.t 19) (.k (.one (.str ⟨#[]⟩))))⟩, ⟨(some (15, .true)), (some 21), (.pick (.t 17) (.k (.one (.bool .true))) (.t 20))⟩, ⟨none, (some 22), (.pick (.t 15) (.t 21) (.k (.one (.bool .false))))⟩, ⟨none, (some 23), (.mov (.t 22))⟩, ⟨(some (23, .true)), (some 24), (.mov (.t 3))⟩, ⟨(some (23, .true)), (some 25), (.mov (.t 24))⟩, ⟨(some (25, .false)), (some 26), (.faddr (.t 4) 3)⟩, ⟨(some (25, .false)), (some 27), (.load none (.t 26))⟩, ⟨(some (25, .false)), (some 28), (.len (.t 27))⟩, ⟨(some (25, .false)), (some 29), (.bin .eql (.t 28) (.k (.one (.int .i64 0))))⟩, ⟨(some (23, .true)), (some 30), (.pick (.t 25) (.k (.one (.bool .true))) (.t 29))⟩, ⟨none, (some 31), (.pick (.t 23) (.t 30) (.k (.one (.bool .false))))⟩, ⟨none, (some 8), (.mov (.t 31))⟩]
def i97 : Ir := (.seq (.region g97_0) (.seq (.region g97_1) .ret))
theorem isOnly_ok (k a : Int) (text : ByteArray) (kept : List Int) (b1 b2 b3 : Bool) (hk : kept.length ≤ 1048576) : Meets Try.prog 97 [.agg [.int .i64 k, .int .i64 a, .str text, (.sl false 1 kept.length (kept.map (T.int .i64)))], .one (.bool b1), .one (.bool b2), .one (.bool b3)] (.w (.one (.bool (decide (onlyP a text kept b1 b2 b3))))) [.agg [.hole, .hole, .hole, .hole], .one .hole, .one .hole, .one .hole] := by
  refine meets_go (ir := i97) (fn := Try.f97) (rx := [(.tmp 8)]) rfl rfl (by rfl) (by rfl) (by exact Nat.le_of_ble_eq_true rfl) ?_
  cases b1 <;> cases b2 <;> cases b3
  all_goals
    repeat' (first | simp (maxSteps := 9000000) -implicitDefEqProofs -dsimp (disch := omega) only [go_sem, g97_0, g97_1, i97, lt_T, lt_F, le_T, le_F, eq_T, eq_F, and_F, Nat.reduceEqDiff, Nat.reduceAdd, Nat.reduceMul, Nat.reduceLeDiff, Nat.reduceBEq, Nat.reduceBNe, Int.reduceEq, ↓reduceIte, reduceCtorEq] | (refine brP_i ?_ ?_ <;> intro hbr <;> try simp -implicitDefEqProofs -dsimp only [hbr]) | (refine br_i ?_ ?_ <;> intro hbr <;> try simp -implicitDefEqProofs -dsimp only [hbr]))
    all_goals first
      | exact need_i (res_F (by unfold onlyP; simp_all <;> omega)) (by simp (maxSteps := 9000000) -implicitDefEqProofs -dsimp (disch := omega) only [go_sem, g97_0, g97_1, i97, Nat.reduceEqDiff, Nat.reduceAdd, Nat.reduceMul, Nat.reduceLeDiff, Nat.reduceBEq, Nat.reduceBNe, Int.reduceEq, ↓reduceIte, reduceCtorEq])
      | exact need_i (res_T (by unfold onlyP; simp_all <;> omega)) (by simp (maxSteps := 9000000) -implicitDefEqProofs -dsimp (disch := omega) only [go_sem, g97_0, g97_1, i97, Nat.reduceEqDiff, Nat.reduceAdd, Nat.reduceMul, Nat.reduceLeDiff, Nat.reduceBEq, Nat.reduceBNe, Int.reduceEq, ↓reduceIte, reduceCtorEq])
      | exact need_i (res_dec (by unfold onlyP; simp_all <;> omega)) (by simp (maxSteps := 9000000) -implicitDefEqProofs -dsimp (disch := omega) only [go_sem, g97_0, g97_1, i97, Nat.reduceEqDiff, Nat.reduceAdd, Nat.reduceMul, Nat.reduceLeDiff, Nat.reduceBEq, Nat.reduceBNe, Int.reduceEq, ↓reduceIte, reduceCtorEq])
/-- a step: what becomes of the disk -/
structure Dk where
  p : List ByteArray
  h : List ByteArray
  b : List Bool
  ok : Bool
noncomputable def stepF (p h : List ByteArray) (b : List Bool) (k a : Int) (text : ByteArray) (kept : List Int) : Dk := by
  classical exact
  if k = 2 ∨ k = 3 then
    (if a = 0 ∧ text = e0 ∧ (k = 2 → kept.length = 0) ∧ KeptOk h kept then ⟨crashP p h (if k = 2 then heldN h h.length else kept), crashH h, b, true⟩ else ⟨p, h, b, false⟩)
  else if (0 ≤ a ∧ a < p.length) ∧ kept.length = 0 then
    (if k = 1 ∧ b.getD a.toNat default = false ∧ 1 ≤ text.size ∧ text.size ≤ 28 then ⟨p, h.set a.toNat text, b, true⟩
    else if k = 4 ∧ h.getD a.toNat default = e0 ∧ ¬ p.getD a.toNat default = e0 ∧ 1 ≤ text.size ∧ text.size ≤ (p.getD a.toNat default).size then ⟨p.set a.toNat (rotF (p.getD a.toNat default) text), h, b, true⟩
    else if k = 5 ∧ text = e0 then ⟨p, h.set a.toNat e0, b.set a.toNat true, true⟩
    else if k = 6 ∧ text = e0 ∧ b.getD a.toNat default = true then ⟨p.set a.toNat e0, h, b.set a.toNat false, true⟩
    else ⟨p, h, b, false⟩)
  else ⟨p, h, b, false⟩
def g86_0 : List Gop := [⟨none, (some 2), (.box (.t 0))⟩, ⟨none, (some 3), (.box (.t 1))⟩, ⟨none, (some 4), (.alloc [.nil, .nil, .nil])⟩, ⟨none, (some 5), (.mov (.k (.one (.bool .false))))⟩]
def g86_1 : List Gop := [⟨none, (some 6), (.faddr (.t 3) 0)⟩, ⟨none, (some 7), (.load none (.t 6))⟩, ⟨none, (some 8), (.bin .eql (.t 7) (.k (.one (.int .i64 2))))⟩, ⟨none, (some 9), (.mov (.t 8))⟩, ⟨(some (9, .false)), (some 10), (.faddr (.t 3) 0)⟩, ⟨(some (9, .false)), (some 11), (.load none (.t 10))⟩, ⟨(some (9, .false)), (some 12), (.bin .eql (.t 11) (.k (.one (.int .i64 3))))⟩, ⟨none, (some 13), (.pick (.t 9) (.k (.one (.bool .true))) (.t 12))⟩]
def g86_2 : List Gop := [⟨none, (some 14), (.faddr (.t 3) 1)⟩, ⟨none, (some 15), (.load none (.t 14))⟩, ⟨none, (some 16), (.bin .neq (.t 15) (.k (.one (.int .i64 0))))⟩, ⟨none, (some 17), (.mov (.t 16))⟩, ⟨(some (17, .false)), (some 18), (.faddr (.t 3) 2)⟩, ⟨(some (17, .false)), (some 19), (.load none (.t 18))⟩, ⟨(some (17, .false)), (some 20), (.bin .neq (.t 19) (.k (.one (.str ⟨#[]⟩))))⟩, ⟨none, (some 21), (.pick (.t 17) (.k (.one (.bool .true))) (.t 20))⟩, ⟨none, (some 22), (.mov (.t 21))⟩, ⟨(some (22, .false)), (some 23), (.faddr (.t 3) 0)⟩, ⟨(some (22, .false)), (some 24), (.load none (.t 23))⟩, ⟨(some (22, .false)), (some 25), (.bin .eql (.t 24) (.k (.one (.int .i64 2))))⟩, ⟨(some (22, .false)), (some 26), (.mov (.t 25))⟩, ⟨(some (26, .true)), (some 27), (.faddr (.t 3) 3)⟩, ⟨(some (26, .true)), (some 28), (.load none (.t 27))⟩, ⟨(some (26, .true)), (some 29), (.len (.t 28))⟩, ⟨(some (26, .true)), (some 30), (.bin .gtr (.t 29) (.k (.one (.int .i64 0))))⟩, ⟨(some (22, .false)), (some 31), (.pick (.t 26) (.t 30) (.k (.one (.bool .false))))⟩, ⟨none, (some 32), (.pick (.t 22) (.k (.one (.bool .true))) (.t 31))⟩, ⟨none, (some 33), (.mov (.t 32))⟩, ⟨(some (33, .false)), (some 34), (.load (some 3) (.t 2))⟩, ⟨(some (33, .false)), (some 35), (.faddr (.t 3) 3)⟩, ⟨(some (33, .false)), (some 36), (.load none (.t 35))⟩, ⟨(some (33, .false)), (some 37), (.call 74 [(.t 34), (.t 36)])⟩, ⟨(some (33, .false)), (some 38), (.un .not (.t 37))⟩, ⟨none, (some 39), (.pick (.t 33) (.k (.one (.bool .true))) (.t 38))⟩]
def g86_3 : List Gop := [⟨none, (some 40), (.load (some 3) (.t 2))⟩, ⟨none, none, (.store 3 (.t 4) (.t 40))⟩, ⟨none, (some 5), (.mov (.k (.one (.bool .false))))⟩]
def g86_4 : List Gop := [⟨none, (some 41), (.faddr (.t 3) 0)⟩, ⟨none, (some 42), (.load none (.t 41))⟩, ⟨none, (some 43), (.bin .eql (.t 42) (.k (.one (.int .i64 2))))⟩]
def g86_5 : List Gop := [⟨none, (some 44), (.load (some 3) (.t 2))⟩, ⟨none, (some 45), (.load (some 3) (.t 2))⟩, ⟨none, (some 46), (.call 72 [(.t 45)])⟩, ⟨none, (some 47), (.call 75 [(.t 44), (.t 46)])⟩, ⟨none, none, (.store 3 (.t 4) (.t 47))⟩, ⟨none, (some 5), (.mov (.k (.one (.bool .true))))⟩]
def a86_5 : List (List Nat) := [[], [], [1], [0, 1, 2], [0, 1, 2, 3], [0, 1, 2, 3, 4]]
def n86_5 : Nat := 3 -- of 6
def g86_6 : List Gop := [⟨none, (some 48), (.load (some 3) (.t 2))⟩, ⟨none, (some 49), (.faddr (.t 3) 3)⟩, ⟨none, (some 50), (.load none (.t 49))⟩, ⟨none, (some 51), (.call 75 [(.t 48), (.t 50)])⟩, ⟨none, none, (.store 3 (.t 4) (.t 51))⟩, ⟨none, (some 5), (.mov (.k (.one (.bool .true))))⟩]
def g86_7 : List Gop := [⟨none, (some 52), (.load (some 3) (.t 2))⟩, ⟨none, (some 53), (.faddr (.t 3) 1)⟩, ⟨none, (some 54), (.load none (.t 53))⟩, ⟨none, (some 55), (.call 69 [(.t 52), (.t 54)])⟩, ⟨none, (some 56), (.un .not (.t 55))⟩, ⟨none, (some 57), (.mov (.t 56))⟩, ⟨(some (57, .false)), (some 58), (.faddr (.t 3) 3)⟩, ⟨(some (57, .false)), (some 59), (.load none (.t 58))⟩, ⟨(some (57, .false)), (some 60), (.len (.t 59))⟩, ⟨(some (57, .false)), (some 61), (.bin .gtr (.t 60) (.k (.one (.int .i64 0))))⟩, ⟨none, (some 62), (.pick (.t 57) (.k (.one (.bool .true))) (.t 61))⟩]
def g86_8 : List Gop := [⟨none, (some 63), (.load (some 3) (.t 2))⟩, ⟨none, none, (.store 3 (.t 4) (.t 63))⟩, ⟨none, (some 5), (.mov (.k (.one (.bool .false))))⟩]
def g86_9 : List Gop := [⟨none, (some 66), (.faddr (.t 3) 0)⟩, ⟨none, (some 67), (.load none (.t 66))⟩, ⟨none, (some 68), (.bin .eql (.t 67) (.k (.one (.int .i64 1))))⟩, ⟨none, (some 69), (.mov (.t 68))⟩, ⟨(some (69, .true)), (some 70), (.faddr (.t 2) 2)⟩, ⟨(some (69, .true)), (some 71), (.load none (.t 70))⟩, ⟨(some (69, .true)), (some 72), (.faddr (.t 3) 1)⟩, ⟨(some (69, .true)), (some 73), (.load none (.t 72))⟩, ⟨(some (69, .true)), (some 74), (.iaddr 1 (.t 71) (.t 73))⟩, ⟨(some (69, .true)), (some 75), (.load none (.t 74))⟩, ⟨(some (69, .true)), (some 76), (.un .not (.t 75))⟩, ⟨none, (some 77), (.pick (.t 69) (.t 76) (.k (.one (.bool .false))))⟩, ⟨none, (some 78), (.mov (.t 77))⟩, ⟨(some (78, .true)), (some 79), (.faddr (.t 3) 2)⟩, ⟨(some (78, .true)), (some 80), (.load none (.t 79))⟩, ⟨(some (78, .true)), (some 81), (.lent (.t 80))⟩, ⟨(some (78, .true)), (some 82), (.call 58 [(.t 81), (.k (.one (.int .i64 1))), (.k (.one (.int .i64 28)))])⟩, ⟨none, (some 83), (.pick (.t 78) (.t 82) (.k (.one (.bool .false))))⟩, ⟨none, (some 65), (.mov (.t 83))⟩]
def g86_10 : List Gop := [⟨none, (some 84), (.faddr (.t 2) 1)⟩, ⟨none, (some 85), (.load none (.t 84))⟩, ⟨none, (some 86), (.faddr (.t 3) 1)⟩, ⟨none, (some 87), (.load none (.t 86))⟩, ⟨none, (some 88), (.faddr (.t 3) 2)⟩, ⟨none, (some 89), (.load none (.t 88))⟩, ⟨none, (some 90), (.iaddr 1 (.t 85) (.t 87))⟩, ⟨none, none, (.store 1 (.t 90) (.t 89))⟩]
def g86_11 : List Gop := [⟨none, (some 92), (.faddr (.t 3) 0)⟩, ⟨none, (some 93), (.load none (.t 92))⟩, ⟨none, (some 94), (.bin .eql (.t 93) (.k (.one (.int .i64 4))))⟩, ⟨none, (some 95), (.mov (.t 94))⟩, ⟨(some (95, .true)), (some 96), (.faddr (.t 2) 1)⟩, ⟨(some (95, .true)), (some 97), (.load none (.t 96))⟩, ⟨(some (95, .true)), (some 98), (.faddr (.t 3) 1)⟩, ⟨(some (95, .true)), (some 99), (.load none (.t 98))⟩, ⟨(some (95, .true)), (some 100), (.iaddr 1 (.t 97) (.t 99))⟩, ⟨(some (95, .true)), (some 101), (.load none (.t 100))⟩, ⟨(some (95, .true)), (some 102), (.bin .eql (.t 101) (.k (.one (.str ⟨#[]⟩))))⟩, ⟨none, (some 103), (.pick (.t 95) (.t 102) (.k (.one (.bool .false))))⟩, ⟨none, (some 104), (.mov (.t 103))⟩, ⟨(some (104, .true)), (some 105), (.faddr (.t 2) 0)⟩, ⟨(some (104, .true)), (some 106), (.load none (.t 105))⟩, ⟨(some (104, .true)), (some 107), (.faddr (.t 3) 1)⟩, ⟨(some (104, .true)), (some 108), (.load none (.t 107))⟩, ⟨(some (104, .true)), (some 109), (.iaddr 1 (.t 106) (.t 108))⟩, ⟨(some (104, .true)), (some 110), (.load none (.t 109))⟩, ⟨(some (104, .true)), (some 111), (.bin .neq (.t 110) (.k (.one (.str ⟨#[]⟩))))⟩, ⟨none, (some 112), (.pick (.t 104) (.t 111) (.k (.one (.bool .false))))⟩, ⟨none, (some 113), (.mov (.t 112))⟩, ⟨(some (113, .true)), (some 114), (.faddr (.t 3) 2)⟩, ⟨(some (113, .true)), (some 115), (.load none (.t 114))⟩, ⟨(some (113, .true)), (some 116), (.lent (.t 115))⟩, ⟨(some (113, .true)), (some 117), (.faddr (.t 2) 0)⟩, ⟨(some (113, .true)), (some 118), (.load none (.t 117))⟩, ⟨(some (113, .true)), (some 119), (.faddr (.t 3) 1)⟩, ⟨(some (113, .true)), (some 120), (.load none (.t 119))⟩, ⟨(some (113, .true)), (some 121), (.iaddr 1 (.t 118) (.t 120))⟩, ⟨(some (113, .true)), (some 122), (.load none (.t 121))⟩, ⟨(some (113, .true)), (some 123), (.lent (.t 122))⟩, ⟨(some (113, .true)), (some 124), (.call 58 [(.t 116), (.k (.one (.int .i64 1))), (.t 123)])⟩, ⟨none, (some 125), (.pick (.t 113) (.t 124) (.k (.one (.bool .false))))⟩, ⟨none, (some 91), (.mov (.t 125))⟩]
def a86_11 : List (List Nat) := [[], [0], [0, 1], [0, 1, 2], [0, 1, 2, 3], [0, 1, 2, 3, 4], [0, 1, 2, 3], [0, 1, 2, 3, 6], [0, 1, 2, 3, 4, 5, 6, 7], [0, 1, 2, 3, 4, 5, 6, 7, 8], [0, 1, 2, 3, 4, 5, 6, 7, 8, 9], [0, 1, 2, 3, 4, 5, 6, 7, 8, 9, 10], [0, 1, 2, 3, 4, 5, 6, 7, 8, 9, 10, 11], [0, 1, 2, 3, 4, 5, 6, 7, 8, 9, 10, 11, 12], [0, 1, 2, 3, 4, 5, 6, 7, 8, 9, 10, 11, 12, 13], [0, 1, 2, 3, 4, 5, 6, 7, 8, 9, 10, 11, 12], [0, 1, 2, 3, 4, 5, 6, 7, 8, 9, 10, 11, 12, 15], [0, 1, 2, 3, 4, 5, 6, 7, 8, 9, 10, 11, 12, 13, 14, 15, 16], [0, 1, 2, 3, 4, 5, 6, 7, 8, 9, 10, 11, 12, 13, 14, 15, 16, 17], [0, 1, 2, 3, 4, 5, 6, 7, 8, 9, 10, 11, 12, 13, 14, 15, 16, 17, 18], [0, 1, 2, 3, 4, 5, 6, 7, 8, 9, 10, 11, 12, 13, 14, 15, 16, 17, 18, 19], [0, 1, 2, 3, 4, 5, 6, 7, 8, 9, 10, 11, 12, 13, 14, 15, 16, 17, 18, 19, 20], [0, 1, 2, 3, 4, 5, 6, 7, 8, 9, 10, 11, 12, 13, 14, 15, 16, 17, 18, 19, 20, 21], [0, 1, 2, 3, 4, 5, 6, 7, 8, 9, 10, 11, 12, 13, 14, 15, 16, 17, 18, 19, 20, 21, 22], [0, 1, 2, 3, 4, 5, 6, 7, 8, 9, 10, 11, 12, 13, 14, 15, 16, 17, 18, 19, 20, 21, 22, 23], [0, 1, 2, 3, 4, 5, 6, 7, 8, 9, 10, 11, 12, 13, 14, 15, 16, 17, 18, 19, 20, 21], [0, 1, 2, 3, 4, 5, 6, 7, 8, 9, 10, 11, 12, 13, 14, 15, 16, 17, 18, 19, 20, 21, 25], [0, 1, 2, 3, 4, 5, 6, 7, 8, 9, 10, 11, 12, 13, 14, 15, 16, 17, 18, 19, 20, 21], [0, 1, 2, 3, 4, 5, 6, 7, 8, 9, 10, 11, 12, 13, 14, 15, 16, 17, 18, 19, 20, 21, 27], [0, 1, 2, 3, 4, 5, 6, 7, 8, 9, 10, 11, 12, 13, 14, 15, 16, 17, 18, 19, 20, 21, 25, 26, 27, 28], [0, 1, 2, 3, 4, 5, 6, 7, 8, 9, 10, 11, 12, 13, 14, 15, 16, 17, 18, 19, 20, 21, 25, 26, 27, 28, 29], [0, 1, 2, 3, 4, 5, 6, 7, 8, 9, 10, 11, 12, 13, 14, 15, 16, 17, 18, 19, 20, 21, 25, 26, 27, 28, 29, 30], [0, 1, 2, 3, 4, 5, 6, 7, 8, 9, 10, 11, 12, 13, 14, 15, 16, 17, 18, 19, 20, 21, 22, 23, 24, 25, 26, 27, 28, 29, 30, 31], [0, 1, 2, 3, 4, 5, 6, 7, 8, 9, 10, 11, 12, 13, 14, 15, 16, 17, 18, 19, 20, 21, 22, 23, 24, 25, 26, 27, 28, 29, 30, 31, 32], [0, 1, 2, 3, 4, 5, 6, 7, 8, 9, 10, 11, 12, 13, 14, 15, 16, 17, 18, 19, 20, 21, 22, 23, 24, 25, 26, 27, 28, 29, 30, 31, 32, 33]]
def n86_11 : Nat := 32 -- of 35
def g86_12 : List Gop := [⟨none, (some 126), (.faddr (.t 2) 0)⟩, ⟨none, (some 127), (.load none (.t 126))⟩, ⟨none, (some 128), (.faddr (.t 3) 1)⟩, ⟨none, (some 129), (.load none (.t 128))⟩, ⟨none, (some 130), (.faddr (.t 2) 0)⟩, ⟨none, (some 131), (.load none (.t 130))⟩, ⟨none, (some 132), (.faddr (.t 3) 1)⟩, ⟨none, (some 133), (.load none (.t 132))⟩, ⟨none, (some 134), (.iaddr 1 (.t 131) (.t 133))⟩, ⟨none, (some 135), (.load none (.t 134))⟩, ⟨none, (some 136), (.faddr (.t 3) 2)⟩, ⟨none, (some 137), (.load none (.t 136))⟩, ⟨none, (some 138), (.call 98 [(.t 135), (.t 137)])⟩, ⟨none, (some 139), (.iaddr 1 (.t 127) (.t 129))⟩, ⟨none, none, (.store 1 (.t 139) (.t 138))⟩]
def a86_12 : List (List Nat) := [[], [0], [], [2], [], [4], [], [6], [4, 5, 6, 7], [4, 5, 6, 7, 8], [], [10], [4, 5, 6, 7, 8, 9, 10, 11], [0, 1, 2, 3, 4, 5, 6, 7, 8, 9, 10, 11, 12], [0, 1, 2, 3, 4, 5, 6, 7, 8, 9, 10, 11, 12, 13]]
def n86_12 : Nat := 13 -- of 15
def g86_13 : List Gop := [⟨none, (some 141), (.faddr (.t 3) 0)⟩, ⟨none, (some 142), (.load none (.t 141))⟩, ⟨none, (some 143), (.bin .eql (.t 142) (.k (.one (.int .i64 5))))⟩, ⟨none, (some 144), (.mov (.t 143))⟩, ⟨(some (144, .true)), (some 145), (.faddr (.t 3) 2)⟩, ⟨(some (144, .true)), (some 146), (.load none (.t 145))⟩, ⟨(some (144, .true)), (some 147), (.bin .eql (.t 146) (.k (.one (.str ⟨#[]⟩))))⟩, ⟨none, (some 148), (.pick (.t 144) (.t 147) (.k (.one (.bool .false))))⟩, ⟨none, (some 140), (.mov (.t 148))⟩]
def g86_14 : List Gop := [⟨none, (some 149), (.faddr (.t 2) 2)⟩, ⟨none, (some 150), (.load none (.t 149))⟩, ⟨none, (some 151), (.faddr (.t 3) 1)⟩, ⟨none, (some 152), (.load none (.t 151))⟩, ⟨none, (some 153), (.iaddr 1 (.t 150) (.t 152))⟩, ⟨none, none, (.store 1 (.t 153) (.k (.one (.bool .true))))⟩]
def g86_15 : List Gop := [⟨none, (some 154), (.faddr (.t 2) 1)⟩, ⟨none, (some 155), (.load none (.t 154))⟩, ⟨none, (some 156), (.faddr (.t 3) 1)⟩, ⟨none, (some 157), (.load none (.t 156))⟩, ⟨none, (some 158), (.iaddr 1 (.t 155) (.t 157))⟩, ⟨none, none, (.store 1 (.t 158) (.k (.one (.str ⟨#[]⟩))))⟩]
def g86_16 : List Gop := [⟨none, (some 160), (.faddr (.t 3) 0)⟩, ⟨none, (some 161), (.load none (.t 160))⟩, ⟨none, (some 162), (.bin .eql (.t 161) (.k (.one (.int .i64 6))))⟩, ⟨none, (some 163), (.mov (.t 162))⟩, ⟨(some (163, .true)), (some 164), (.faddr (.t 3) 2)⟩, ⟨(some (163, .true)), (some 165), (.load none (.t 164))⟩, ⟨(some (163, .true)), (some 166), (.bin .eql (.t 165) (.k (.one (.str ⟨#[]⟩))))⟩, ⟨none, (some 167), (.pick (.t 163) (.t 166) (.k (.one (.bool .false))))⟩, ⟨none, (some 168), (.mov (.t 167))⟩, ⟨(some (168, .true)), (some 169), (.faddr (.t 2) 2)⟩, ⟨(some (168, .true)), (some 170), (.load none (.t 169))⟩, ⟨(some (168, .true)), (some 171), (.faddr (.t 3) 1)⟩, ⟨(some (168, .true)), (some 172), (.load none (.t 171))⟩, ⟨(some (168, .true)), (some 173), (.iaddr 1 (.t 170) (.t 172))⟩, ⟨(some (168, .true)), (some 174), (.load none (.t 173))⟩, ⟨none, (some 175), (.pick (.t 168) (.t 174) (.k (.one (.bool .false))))⟩, ⟨none, (some 159), (.mov (.t 175))⟩]
def g86_17 : List Gop := [⟨none, (some 176), (.faddr (.t 2) 2)⟩, ⟨none, (some 177), (.load none (.t 176))⟩, ⟨none, (some 178), (.faddr (.t 3) 1)⟩, ⟨none, (some 179), (.load none (.t 178))⟩, ⟨none, (some 180), (.iaddr 1 (.t 177) (.t 179))⟩, ⟨none, none, (.store 1 (.t 180) (.k (.one (.bool .false))))⟩]
def g86_18 : List Gop := [⟨none, (some 181), (.faddr (.t 2) 0)⟩, ⟨none, (some 182), (.load none (.t 181))⟩, ⟨none, (some 183), (.faddr (.t 3) 1)⟩, ⟨none, (some 184), (.load none (.t 183))⟩, ⟨none, (some 185), (.iaddr 1 (.t 182) (.t 184))⟩, ⟨none, none, (.store 1 (.t 185) (.k (.one (.str ⟨#[]⟩))))⟩]
def g86_19 : List Gop := [⟨none, (some 64), (.load (some 3) (.t 2))⟩, ⟨none, none, (.store 3 (.t 4) (.t 64))⟩, ⟨none, (some 5), (.mov (.k (.one (.bool .false))))⟩]
def g86_20 : List Gop := [⟨none, (some 186), (.load (some 3) (.t 2))⟩, ⟨none, none, (.store 3 (.t 4) (.t 186))⟩, ⟨none, (some 5), (.mov (.k (.one (.bool .true))))⟩]
def i86 : Ir := (.seq (.region g86_0) (.seq (.seq (.region g86_1) (.cond (.t 13) (.seq (.seq (.region g86_2) (.cond (.t 39) (.seq (.region g86_3) .ret) .skip)) (.seq (.seq (.region g86_4) (.cond (.t 43) (.seq (.draw [[], [], [1], [0, 2, 2], [3, 3, 0, 1, 2, 3], [4, 0, 1, 2, 3, 4]] g86_5) .ret) .skip)) (.seq (.region g86_6) .ret))) .skip)) (.seq (.seq (.region g86_7) (.cond (.t 62) (.seq (.region g86_8) .ret) .skip)) (.seq (.block 0 (.seq (.region g86_9) (.cond (.t 65) (.region g86_10) (.seq (.draw [[], [0], [1], [2], [3], [4, 3], [3], [6, 3], [5, 7, 3], [8, 3], [9, 3], [3, 10], [11, 3], [12], [13, 12], [12], [15, 12], [14, 16, 12], [17, 12], [18, 12], [12, 19], [20, 12], [21], [22, 21], [23, 21], [21], [25, 21], [21], [27, 21], [26, 28, 21], [29, 21], [30, 21], [24, 31, 21, 21], [21, 32], [33, 32]] g86_11) (.cond (.t 91) (.draw [[], [0], [], [2], [], [4], [], [6], [5, 7], [8], [], [10], [9, 11], [1, 3, 0, 1, 2, 3, 4, 5, 6, 7, 8, 9, 10, 11, 12], [13, 12, 12, 0, 1, 2, 3, 4, 5, 6, 7, 8, 9, 10, 11, 12]] g86_12) (.seq (.region g86_13) (.cond (.t 140) (.seq (.region g86_14) (.region g86_15)) (.seq (.region g86_16) (.cond (.t 159) (.seq (.region g86_17) (.region g86_18)) (.seq (.region g86_19) .ret)))))))))) (.seq (.region g86_20) .ret)))))
theorem l7StepA_ok (p h : List ByteArray) (b : List Bool) (k a : Int) (text : ByteArray) (kept : List Int) (hp : p.length ≤ 1048576) (he : h.length = p.length) (hb : b.length = p.length) (hk : kept.length ≤ 1048576) (ht : text.size ≤ 1048576) (hs : ∀ x ∈ p, x.size ≤ 1048576) (c1 : k = 2 ∨ k = 3) :
    Meets Try.prog 86 [.agg [(.sl true 1 p.length (p.map T.str)), (.sl true 1 h.length (h.map T.str)), (.sl true 1 b.length (b.map T.bool))], .agg [.int .i64 k, .int .i64 a, .str text, (.sl false 1 kept.length (kept.map (T.int .i64)))]] (.tup [.agg [(.sl true 1 ((stepF p h b k a text kept).p).length (((stepF p h b k a text kept).p).map T.str)), (.sl true 1 ((stepF p h b k a text kept).h).length (((stepF p h b k a text kept).h).map T.str)), (.sl true 1 ((stepF p h b k a text kept).b).length (((stepF p h b k a text kept).b).map T.bool))], .one (.bool (stepF p h b k a text kept).ok)]) [.agg [.hole, .hole, .hole], .agg [.hole, .hole, .hole, .hole]] := by
  have hh2 : h.length ≤ 1048576 := by omega
  have hb2 : b.length ≤ 1048576 := by omega
  have hle := heldN_le (l := h) (i := h.length)
  have lP : ∀ l, (crashP p h l).length = p.length := fun l => by simp [crashP]
  have lH : (crashH h).length = h.length := by simp [crashH]
  refine meets_go (ir := i86) (fn := Try.f86) (rx := [(.cell 4 (some 3)), (.tmp 5)]) rfl rfl (by rfl) (by rfl) (by exact Nat.le_of_ble_eq_true rfl) ?_
  by_cases c2 : k = 2
  · repeat' (first | simp (maxSteps := 9000000) -implicitDefEqProofs -dsimp (disch := omega) only [go_sem, g86_0, g86_1, g86_2, g86_3, g86_4, g86_5, a86_5, n86_5, g86_6, g86_7, g86_8, g86_9, g86_10, g86_11, a86_11, n86_11, g86_12, a86_12, n86_12, g86_13, g86_14, g86_15, g86_16, g86_17, g86_18, g86_19, g86_20, i86, lt_T, lt_F, le_T, le_F, eq_T, eq_F, and_F, Nat.reduceEqDiff, Nat.reduceAdd, Nat.reduceMul, Nat.reduceLeDiff, Nat.reduceBEq, Nat.reduceBNe, Int.reduceEq, ↓reduceIte, reduceCtorEq] | (refine brP_i ?_ ?_ <;> intro hbr <;> try simp -implicitDefEqProofs -dsimp only [hbr]) | (refine br_i ?_ ?_ <;> intro hbr <;> try simp -implicitDefEqProofs -dsimp only [hbr]) | (refine draw_go n86_5 a86_5 (by decide +kernel) ?_) | (refine call_go true (l7Kept_ok p h b kept (by omega) hk) ?_) | (refine calla_go true (l7Held_ok p h b (by omega)) ?_) | (refine call_go true (l7Crash_ok p h b (heldN h h.length) hp he (by omega)) ?_))
    all_goals
      refine need_i ?_ (by simp (maxSteps := 9000000) -implicitDefEqProofs -dsimp (disch := omega) only [go_sem, g86_0, g86_1, g86_2, g86_3, g86_4, g86_5, a86_5, n86_5, g86_6, g86_7, g86_8, g86_9, g86_10, g86_11, a86_11, n86_11, g86_12, a86_12, n86_12, g86_13, g86_14, g86_15, g86_16, g86_17, g86_18, g86_19, g86_20, i86, Nat.reduceEqDiff, Nat.reduceAdd, Nat.reduceMul, Nat.reduceLeDiff, Nat.reduceBEq, Nat.reduceBNe, Int.reduceEq, ↓reduceIte, reduceCtorEq])
      generalize hD : stepF p h b k a text kept = D
      unfold stepF at hD
      repeat' split at hD
      all_goals first
        | (subst hD; rfl)
        | (subst hD; simp only [List.length_set]; done)
        | (exfalso; simp_all; done)
        | (exfalso; simp_all <;> omega)
  · repeat' (first | simp (maxSteps := 9000000) -implicitDefEqProofs -dsimp (disch := omega) only [go_sem, g86_0, g86_1, g86_2, g86_3, g86_4, g86_5, a86_5, n86_5, g86_6, g86_7, g86_8, g86_9, g86_10, g86_11, a86_11, n86_11, g86_12, a86_12, n86_12, g86_13, g86_14, g86_15, g86_16, g86_17, g86_18, g86_19, g86_20, i86, lt_T, lt_F, le_T, le_F, eq_T, eq_F, and_F, Nat.reduceEqDiff, Nat.reduceAdd, Nat.reduceMul, Nat.reduceLeDiff, Nat.reduceBEq, Nat.reduceBNe, Int.reduceEq, ↓reduceIte, reduceCtorEq] | (refine brP_i ?_ ?_ <;> intro hbr <;> try simp -implicitDefEqProofs -dsimp only [hbr]) | (refine br_i ?_ ?_ <;> intro hbr <;> try simp -implicitDefEqProofs -dsimp only [hbr]) | (refine draw_go n86_5 a86_5 (by decide +kernel) ?_) | (refine call_go true (l7Kept_ok p h b kept (by omega) hk) ?_) | (refine call_go true (l7Crash_ok p h b kept hp he hk) ?_))
    all_goals
      refine need_i ?_ (by simp (maxSteps := 9000000) -implicitDefEqProofs -dsimp (disch := omega) only [go_sem, g86_0, g86_1, g86_2, g86_3, g86_4, g86_5, a86_5, n86_5, g86_6, g86_7, g86_8, g86_9, g86_10, g86_11, a86_11, n86_11, g86_12, a86_12, n86_12, g86_13, g86_14, g86_15, g86_16, g86_17, g86_18, g86_19, g86_20, i86, Nat.reduceEqDiff, Nat.reduceAdd, Nat.reduceMul, Nat.reduceLeDiff, Nat.reduceBEq, Nat.reduceBNe, Int.reduceEq, ↓reduceIte, reduceCtorEq])
      generalize hD : stepF p h b k a text kept = D
      unfold stepF at hD
      repeat' split at hD
      all_goals first
        | (subst hD; rfl)
        | (subst hD; simp only [List.length_set]; done)
        | (exfalso; simp_all; done)
        | (exfalso; simp_all <;> omega)
end Go.Proofs.YtjlodcoeegpkaaaT

/- Functions of the program as contracts: steps of a disk. No condition. -/
set_option maxRecDepth 100000
set_option maxHeartbeats 4000000
set_option linter.unusedSimpArgs false
set_option linter.unusedVariables false
namespace Go.Proofs.YtjlodcoeegpkaaaT
open Go
theorem l7StepB_ok (p h : List ByteArray) (b : List Bool) (k a : Int) (text : ByteArray) (kept : List Int) (hp : p.length ≤ 1048576) (he : h.length = p.length) (hb : b.length = p.length) (hk : kept.length ≤ 1048576) (ht : text.size ≤ 1048576) (hs : ∀ x ∈ p, x.size ≤ 1048576) (c1 : ¬ (k = 2 ∨ k = 3)) :
    Meets Try.prog 86 [.agg [(.sl true 1 p.length (p.map T.str)), (.sl true 1 h.length (h.map T.str)), (.sl true 1 b.length (b.map T.bool))], .agg [.int .i64 k, .int .i64 a, .str text, (.sl false 1 kept.length (kept.map (T.int .i64)))]] (.tup [.agg [(.sl true 1 ((stepF p h b k a text kept).p).length (((stepF p h b k a text kept).p).map T.str)), (.sl true 1 ((stepF p h b k a text kept).h).length (((stepF p h b k a text kept).h).map T.str)), (.sl true 1 ((stepF p h b k a text kept).b).length (((stepF p h b k a text kept).b).map T.bool))], .one (.bool (stepF p h b k a text kept).ok)]) [.agg [.hole, .hole, .hole], .agg [.hole, .hole, .hole, .hole]] := by
  have hh2 : h.length ≤ 1048576 := by omega
  have hb2 : b.length ≤ 1048576 := by omega
  have hle := heldN_le (l := h) (i := h.length)
  have lP : ∀ l, (crashP p h l).length = p.length := fun l => by simp [crashP]
  have lH : (crashH h).length = h.length := by simp [crashH]
  refine meets_go (ir := i86) (fn := Try.f86) (rx := [(.cell 4 (some 3)), (.tmp 5)]) rfl rfl (by rfl) (by rfl) (by exact Nat.le_of_ble_eq_true rfl) ?_
  have c2 : ¬ k = 2 := fun e => c1 (.inl e)
  have c3 : ¬ k = 3 := fun e => c1 (.inr e)
  have hz : (p.getD a.toNat default).size ≤ 1048576 := by
    by_cases hlt : a.toNat < p.length
    · exact hs _ (getD_mem hlt)
    · rw [List.getD_eq_getElem?_getD, List.getElem?_eq_none (by omega)]; exact (by decide : (default : ByteArray).size ≤ 1048576)
  repeat' (first | simp (maxSteps := 9000000) -implicitDefEqProofs -dsimp (disch := omega) only [go_sem, g86_0, g86_1, g86_2, g86_3, g86_4, g86_5, a86_5, n86_5, g86_6, g86_7, g86_8, g86_9, g86_10, g86_11, a86_11, n86_11, g86_12, a86_12, n86_12, g86_13, g86_14, g86_15, g86_16, g86_17, g86_18, g86_19, g86_20, i86, lt_T, lt_F, le_T, le_F, eq_T, eq_F, and_F, Nat.reduceEqDiff, Nat.reduceAdd, Nat.reduceMul, Nat.reduceLeDiff, Nat.reduceBEq, Nat.reduceBNe, Int.reduceEq, ↓reduceIte, reduceCtorEq] | (refine brP_i ?_ ?_ <;> intro hbr <;> try simp -implicitDefEqProofs -dsimp only [hbr]) | (refine br_i ?_ ?_ <;> intro hbr <;> try simp -implicitDefEqProofs -dsimp only [hbr]) | (refine call_go true (l7There_ok p h b a hp hh2 hb2) ?_) | (refine draw_go n86_11 a86_11 (by decide +kernel) ?_) | (refine draw_go n86_12 a86_12 (by decide +kernel) ?_) | (have hk1 : k = 1 := (by assumption); refine call_go true (l1In_ok text.size 1 28) ?_) | (refine calla_go true (l1In_ok text.size 1 (p.getD a.toNat default).size) ?_) | (refine call_go true (l1In_ok text.size 1 (p.getD a.toNat default).size) ?_) | (refine calla_go true (l7Rot_ok (p.getD a.toNat default) text hz (by omega)) ?_))
  all_goals
    refine need_i ?_ (by simp (maxSteps := 9000000) -implicitDefEqProofs -dsimp (disch := omega) only [go_sem, g86_0, g86_1, g86_2, g86_3, g86_4, g86_5, a86_5, n86_5, g86_6, g86_7, g86_8, g86_9, g86_10, g86_11, a86_11, n86_11, g86_12, a86_12, n86_12, g86_13, g86_14, g86_15, g86_16, g86_17, g86_18, g86_19, g86_20, i86, Nat.reduceEqDiff, Nat.reduceAdd, Nat.reduceMul, Nat.reduceLeDiff, Nat.reduceBEq, Nat.reduceBNe, Int.reduceEq, ↓reduceIte, reduceCtorEq])
    generalize hD : stepF p h b k a text kept = D
    unfold stepF at hD
    repeat' split at hD
    all_goals first
      | (subst hD; rfl)
      | (subst hD; simp only [List.length_set]; done)
      | (exfalso; simp_all; done)
      | (exfalso; simp_all <;> omega; done)
end Go.Proofs.YtjlodcoeegpkaaaT

/- Functions of the program as contracts: steps of a disk, the program's. No condition. -/
set_option maxRecDepth 100000
set_option maxHeartbeats 8000000
set_option linter.unusedSimpArgs false
set_option linter.unusedVariables false
namespace Go.Proofs.YtjlodcoeegpkaaaT
open Go
def g85_0 : List Gop := [⟨none, (some 2), (.box (.t 0))⟩, ⟨none, (some 3), (.box (.t 1))⟩, ⟨none, (some 4), (.alloc [.nil, .nil, .nil])⟩, ⟨none, (some 5), (.mov (.k (.one (.bool .false))))⟩]
def g85_1 : List Gop := [⟨none, (some 9), (.load (some 3) (.t 2))⟩, ⟨none, (some 10), (.call 93 [(.t 9)])⟩, ⟨none, (some 6), (.alloc [.nil, .nil, .nil])⟩, ⟨none, none, (.store 3 (.t 6) (.t 10))⟩]
def g85_2 : List Gop := [⟨none, (some 11), (.faddr (.t 3) 0)⟩, ⟨none, (some 12), (.load none (.t 11))⟩]
def g85_3 : List Gop := [⟨none, (some 15), (.bin .eql (.t 12) (.k (.one (.int .i64 2))))⟩, ⟨none, (some 14), (.mov (.t 15))⟩]
def g85_4 : List Gop := [⟨none, (some 16), (.load (some 3) (.t 2))⟩, ⟨none, (some 17), (.load (some 3) (.t 2))⟩, ⟨none, (some 18), (.call 73 [(.t 17)])⟩, ⟨none, (some 19), (.call 78 [(.t 16), (.t 18)])⟩, ⟨none, (some 20), (.load (some 4) (.t 3))⟩, ⟨none, (some 21), (.call 97 [(.t 20), (.k (.one (.bool .false))), (.k (.one (.bool .false))), (.k (.one (.bool .false)))])⟩, ⟨none, none, (.store 3 (.t 4) (.t 19))⟩, ⟨none, (some 5), (.mov (.t 21))⟩]
def a85_4 : List (List Nat) := [[], [], [1], [0, 1, 2], [], [0, 1, 2, 3, 4], [0, 1, 2, 3, 4, 5], [0, 1, 2, 3, 4, 5, 6]]
def n85_4 : Nat := 5 -- of 8
def g85_5 : List Gop := [⟨none, (some 23), (.bin .eql (.t 12) (.k (.one (.int .i64 3))))⟩, ⟨none, (some 22), (.mov (.t 23))⟩]
def g85_6 : List Gop := [⟨none, (some 24), (.load (some 3) (.t 2))⟩, ⟨none, (some 25), (.faddr (.t 3) 3)⟩, ⟨none, (some 26), (.load none (.t 25))⟩, ⟨none, (some 27), (.call 78 [(.t 24), (.t 26)])⟩, ⟨none, (some 28), (.load (some 4) (.t 3))⟩, ⟨none, (some 29), (.call 97 [(.t 28), (.k (.one (.bool .false))), (.k (.one (.bool .false))), (.k (.one (.bool .true)))])⟩, ⟨none, (some 30), (.mov (.t 29))⟩, ⟨(some (30, .true)), (some 31), (.load (some 3) (.t 2))⟩, ⟨(some (30, .true)), (some 32), (.faddr (.t 3) 3)⟩, ⟨(some (30, .true)), (some 33), (.load none (.t 32))⟩, ⟨(some (30, .true)), (some 34), (.call 77 [(.t 31), (.t 33)])⟩, ⟨none, (some 35), (.pick (.t 30) (.t 34) (.k (.one (.bool .false))))⟩, ⟨none, none, (.store 3 (.t 4) (.t 27))⟩, ⟨none, (some 5), (.mov (.t 35))⟩]
def a85_6 : List (List Nat) := [[], [], [1], [0, 1, 2], [], [0, 1, 2, 3, 4], [0, 1, 2, 3, 4, 5], [0, 1, 2, 3, 4, 5, 6], [0, 1, 2, 3, 4, 5, 6], [0, 1, 2, 3, 4, 5, 6, 8], [0, 1, 2, 3, 4, 5, 6, 7, 8, 9], [0, 1, 2, 3, 4, 5, 6, 7, 8, 9, 10], [0, 1, 2, 3, 4, 5, 6, 7, 8, 9, 10], [0, 1, 2, 3, 4, 5, 6, 7, 8, 9, 10, 11, 12]]
def n85_6 : Nat := 13 -- of 14
def g85_7 : List Gop := [⟨none, (some 37), (.bin .eql (.t 12) (.k (.one (.int .i64 1))))⟩, ⟨none, (some 36), (.mov (.t 37))⟩]
def g85_8 : List Gop := [⟨none, (some 38), (.bin .eql (.t 12) (.k (.one (.int .i64 4))))⟩, ⟨none, (some 36), (.mov (.t 38))⟩]
def g85_9 : List Gop := [⟨none, (some 39), (.bin .eql (.t 12) (.k (.one (.int .i64 5))))⟩, ⟨none, (some 36), (.mov (.t 39))⟩]
def g85_10 : List Gop := [⟨none, (some 40), (.bin .eql (.t 12) (.k (.one (.int .i64 6))))⟩, ⟨none, (some 36), (.mov (.t 40))⟩]
def g85_11 : List Gop := [⟨none, (some 41), (.load (some 3) (.t 2))⟩, ⟨none, (some 42), (.faddr (.t 3) 1)⟩, ⟨none, (some 43), (.load none (.t 42))⟩, ⟨none, (some 44), (.call 71 [(.t 41), (.t 43)])⟩, ⟨none, (some 45), (.un .not (.t 44))⟩, ⟨none, (some 46), (.mov (.t 45))⟩, ⟨(some (46, .false)), (some 47), (.load (some 4) (.t 3))⟩, ⟨(some (46, .false)), (some 48), (.faddr (.t 3) 0)⟩, ⟨(some (46, .false)), (some 49), (.load none (.t 48))⟩, ⟨(some (46, .false)), (some 50), (.bin .eql (.t 49) (.k (.one (.int .i64 1))))⟩, ⟨(some (46, .false)), (some 51), (.mov (.t 50))⟩, ⟨(some (51, .false)), (some 52), (.faddr (.t 3) 0)⟩, ⟨(some (51, .false)), (some 53), (.load none (.t 52))⟩, ⟨(some (51, .false)), (some 54), (.bin .eql (.t 53) (.k (.one (.int .i64 4))))⟩, ⟨(some (46, .false)), (some 55), (.pick (.t 51) (.k (.one (.bool .true))) (.t 54))⟩, ⟨(some (46, .false)), (some 56), (.call 97 [(.t 47), (.k (.one (.bool .true))), (.t 55), (.k (.one (.bool .false)))])⟩, ⟨(some (46, .false)), (some 57), (.un .not (.t 56))⟩, ⟨none, (some 58), (.pick (.t 46) (.k (.one (.bool .true))) (.t 57))⟩]
def g85_12 : List Gop := [⟨none, (some 59), (.build [.nil, .nil, .nil] [])⟩, ⟨none, none, (.store 3 (.t 4) (.t 59))⟩, ⟨none, (some 5), (.mov (.k (.one (.bool .false))))⟩]
def g85_13 : List Gop := [⟨none, (some 13), (.build [.nil, .nil, .nil] [])⟩, ⟨none, none, (.store 3 (.t 4) (.t 13))⟩, ⟨none, (some 5), (.mov (.k (.one (.bool .false))))⟩]
def g85_14 : List Gop := [⟨none, (some 60), (.faddr (.t 3) 0)⟩, ⟨none, (some 61), (.load none (.t 60))⟩]
def g85_15 : List Gop := [⟨none, (some 63), (.bin .eql (.t 61) (.k (.one (.int .i64 1))))⟩, ⟨none, (some 62), (.mov (.t 63))⟩]
def g85_16 : List Gop := [⟨none, (some 64), (.faddr (.t 6) 1)⟩, ⟨none, (some 65), (.load none (.t 64))⟩, ⟨none, (some 66), (.faddr (.t 3) 1)⟩, ⟨none, (some 67), (.load none (.t 66))⟩, ⟨none, (some 68), (.faddr (.t 3) 2)⟩, ⟨none, (some 69), (.load none (.t 68))⟩, ⟨none, (some 70), (.iaddr 1 (.t 65) (.t 67))⟩, ⟨none, none, (.store 1 (.t 70) (.t 69))⟩]
def g85_17 : List Gop := [⟨none, (some 71), (.load (some 3) (.t 6))⟩, ⟨none, (some 72), (.faddr (.t 2) 2)⟩, ⟨none, (some 73), (.load none (.t 72))⟩, ⟨none, (some 74), (.faddr (.t 3) 1)⟩, ⟨none, (some 75), (.load none (.t 74))⟩, ⟨none, (some 76), (.iaddr 1 (.t 73) (.t 75))⟩, ⟨none, (some 77), (.load none (.t 76))⟩, ⟨none, (some 78), (.un .not (.t 77))⟩, ⟨none, (some 79), (.mov (.t 78))⟩, ⟨(some (79, .true)), (some 80), (.faddr (.t 3) 2)⟩, ⟨(some (79, .true)), (some 81), (.load none (.t 80))⟩, ⟨(some (79, .true)), (some 82), (.lent (.t 81))⟩, ⟨(some (79, .true)), (some 83), (.call 59 [(.t 82), (.k (.one (.int .i64 1))), (.k (.one (.int .i64 28)))])⟩, ⟨none, (some 84), (.pick (.t 79) (.t 83) (.k (.one (.bool .false))))⟩, ⟨none, none, (.store 3 (.t 4) (.t 71))⟩, ⟨none, (some 5), (.mov (.t 84))⟩]
def a85_17 : List (List Nat) := [[], [], [1], [], [3], [1, 2, 3, 4], [1, 2, 3, 4, 5], [1, 2, 3, 4, 5, 6], [1, 2, 3, 4, 5, 6, 7], [1, 2, 3, 4, 5, 6, 7, 8], [1, 2, 3, 4, 5, 6, 7, 8, 9], [1, 2, 3, 4, 5, 6, 7, 8, 9, 10], [1, 2, 3, 4, 5, 6, 7, 8, 9, 10, 11], [1, 2, 3, 4, 5, 6, 7, 8, 9, 10, 11, 12], [0, 1, 2, 3, 4, 5, 6, 7, 8, 9, 10, 11, 12], [0, 1, 2, 3, 4, 5, 6, 7, 8, 9, 10, 11, 12, 13, 14]]
def n85_17 : Nat := 15 -- of 16
def g85_18 : List Gop := [⟨none, (some 86), (.bin .eql (.t 61) (.k (.one (.int .i64 4))))⟩, ⟨none, (some 85), (.mov (.t 86))⟩]
def g85_19 : List Gop := [⟨none, (some 87), (.faddr (.t 2) 1)⟩, ⟨none, (some 88), (.load none (.t 87))⟩, ⟨none, (some 89), (.faddr (.t 3) 1)⟩, ⟨none, (some 90), (.load none (.t 89))⟩, ⟨none, (some 91), (.iaddr 1 (.t 88) (.t 90))⟩, ⟨none, (some 92), (.load none (.t 91))⟩, ⟨none, (some 93), (.bin .neq (.t 92) (.k (.one (.str ⟨#[]⟩))))⟩, ⟨none, (some 94), (.mov (.t 93))⟩, ⟨(some (94, .false)), (some 95), (.faddr (.t 3) 2)⟩, ⟨(some (94, .false)), (some 96), (.load none (.t 95))⟩, ⟨(some (94, .false)), (some 97), (.lent (.t 96))⟩, ⟨(some (94, .false)), (some 98), (.faddr (.t 2) 0)⟩, ⟨(some (94, .false)), (some 99), (.load none (.t 98))⟩, ⟨(some (94, .false)), (some 100), (.faddr (.t 3) 1)⟩, ⟨(some (94, .false)), (some 101), (.load none (.t 100))⟩, ⟨(some (94, .false)), (some 102), (.iaddr 1 (.t 99) (.t 101))⟩, ⟨(some (94, .false)), (some 103), (.load none (.t 102))⟩, ⟨(some (94, .false)), (some 104), (.lent (.t 103))⟩, ⟨(some (94, .false)), (some 105), (.call 59 [(.t 97), (.k (.one (.int .i64 1))), (.t 104)])⟩, ⟨(some (94, .false)), (some 106), (.un .not (.t 105))⟩, ⟨none, (some 107), (.pick (.t 94) (.k (.one (.bool .true))) (.t 106))⟩]
def a85_19 : List (List Nat) := [[], [0], [], [2], [0, 1, 2, 3], [0, 1, 2, 3, 4], [0, 1, 2, 3, 4, 5], [0, 1, 2, 3, 4, 5, 6], [0, 1, 2, 3, 4, 5, 6, 7], [0, 1, 2, 3, 4, 5, 6, 7, 8], [0, 1, 2, 3, 4, 5, 6, 7, 8, 9], [0, 1, 2, 3, 4, 5, 6, 7], [0, 1, 2, 3, 4, 5, 6, 7, 11], [0, 1, 2, 3, 4, 5, 6, 7], [0, 1, 2, 3, 4, 5, 6, 7, 13], [0, 1, 2, 3, 4, 5, 6, 7, 11, 12, 13, 14], [0, 1, 2, 3, 4, 5, 6, 7, 11, 12, 13, 14, 15], [0, 1, 2, 3, 4, 5, 6, 7, 11, 12, 13, 14, 15, 16], [0, 1, 2, 3, 4, 5, 6, 7, 8, 9, 10, 11, 12, 13, 14, 15, 16, 17], [0, 1, 2, 3, 4, 5, 6, 7, 8, 9, 10, 11, 12, 13, 14, 15, 16, 17, 18], [0, 1, 2, 3, 4, 5, 6, 7, 8, 9, 10, 11, 12, 13, 14, 15, 16, 17, 18, 19]]
def n85_19 : Nat := 18 -- of 21
def g85_20 : List Gop := [⟨none, (some 108), (.build [.nil, .nil, .nil] [])⟩, ⟨none, none, (.store 3 (.t 4) (.t 108))⟩, ⟨none, (some 5), (.mov (.k (.one (.bool .false))))⟩]
def g85_21 : List Gop := [⟨none, (some 109), (.faddr (.t 2) 0)⟩, ⟨none, (some 110), (.load none (.t 109))⟩, ⟨none, (some 111), (.faddr (.t 3) 1)⟩, ⟨none, (some 112), (.load none (.t 111))⟩, ⟨none, (some 113), (.iaddr 1 (.t 110) (.t 112))⟩, ⟨none, (some 114), (.load none (.t 113))⟩, ⟨none, (some 115), (.cvb (.t 114))⟩, ⟨none, (some 7), (.mov (.t 115))⟩]
def g85_22 : List Gop := [⟨none, (some 116), (.faddr (.t 3) 2)⟩, ⟨none, (some 117), (.load none (.t 116))⟩, ⟨none, (some 118), (.lent (.t 117))⟩, ⟨none, (some 119), (.mov (.k (.one (.int .i64 0))))⟩]
def g85_23 : List Gop := [⟨none, (some 120), (.bin .lss (.t 119) (.t 118))⟩]
def g85_24 : List Gop := [⟨none, (some 121), (.mov (.t 119))⟩, ⟨none, (some 8), (.mov (.t 121))⟩]
def g85_25 : List Gop := [⟨none, (some 122), (.mov (.t 7))⟩, ⟨none, (some 123), (.mov (.t 8))⟩, ⟨none, (some 124), (.iaddr 1 (.t 122) (.t 123))⟩, ⟨none, (some 125), (.load none (.t 124))⟩, ⟨none, (some 126), (.faddr (.t 3) 2)⟩, ⟨none, (some 127), (.load none (.t 126))⟩, ⟨none, (some 128), (.mov (.t 8))⟩, ⟨none, (some 129), (.at (.t 127) (.t 128))⟩, ⟨none, (some 130), (.bin .xor (.t 125) (.t 129))⟩, ⟨none, (some 131), (.iaddr 1 (.t 122) (.t 123))⟩, ⟨none, none, (.store 1 (.t 131) (.t 130))⟩]
def a85_25 : List (List Nat) := [[], [], [0, 1], [0, 1, 2], [], [4], [], [4, 5, 6], [0, 1, 2, 3, 4, 5, 6, 7], [0, 1, 2, 3, 4, 5, 6, 7, 8], [0, 1, 2, 3, 4, 5, 6, 7, 8, 9]]
def n85_25 : Nat := 8 -- of 11
def g85_26 : List Gop := [⟨none, (some 132), (.bin .add (.t 119) (.k (.one (.int .i64 1))))⟩, ⟨none, (some 119), (.mov (.t 132))⟩]
def g85_27 : List Gop := [⟨none, (some 133), (.faddr (.t 6) 0)⟩, ⟨none, (some 134), (.load none (.t 133))⟩, ⟨none, (some 135), (.faddr (.t 3) 1)⟩, ⟨none, (some 136), (.load none (.t 135))⟩, ⟨none, (some 137), (.mov (.t 7))⟩, ⟨none, (some 138), (.cvs (.t 137))⟩, ⟨none, (some 139), (.iaddr 1 (.t 134) (.t 136))⟩, ⟨none, none, (.store 1 (.t 139) (.t 138))⟩]
def g85_28 : List Gop := [⟨none, (some 140), (.load (some 3) (.t 6))⟩, ⟨none, none, (.store 3 (.t 4) (.t 140))⟩, ⟨none, (some 5), (.mov (.k (.one (.bool .true))))⟩]
def g85_29 : List Gop := [⟨none, (some 142), (.bin .eql (.t 61) (.k (.one (.int .i64 5))))⟩, ⟨none, (some 141), (.mov (.t 142))⟩]
def g85_30 : List Gop := [⟨none, (some 143), (.faddr (.t 6) 2)⟩, ⟨none, (some 144), (.load none (.t 143))⟩, ⟨none, (some 145), (.faddr (.t 3) 1)⟩, ⟨none, (some 146), (.load none (.t 145))⟩, ⟨none, (some 147), (.faddr (.t 6) 1)⟩, ⟨none, (some 148), (.load none (.t 147))⟩, ⟨none, (some 149), (.faddr (.t 3) 1)⟩, ⟨none, (some 150), (.load none (.t 149))⟩, ⟨none, (some 151), (.iaddr 1 (.t 144) (.t 146))⟩, ⟨none, none, (.store 1 (.t 151) (.k (.one (.bool .true))))⟩, ⟨none, (some 152), (.iaddr 1 (.t 148) (.t 150))⟩, ⟨none, none, (.store 1 (.t 152) (.k (.one (.str ⟨#[]⟩))))⟩]
def a85_30 : List (List Nat) := [[], [0], [], [2], [], [4], [], [6], [0, 1, 2, 3], [0, 1, 2, 3, 8], [0, 1, 2, 3, 4, 5, 6, 7, 8, 9], [0, 1, 2, 3, 4, 5, 6, 7, 8, 9, 10]]
def n85_30 : Nat := 10 -- of 12
def g85_31 : List Gop := [⟨none, (some 153), (.load (some 3) (.t 6))⟩, ⟨none, none, (.store 3 (.t 4) (.t 153))⟩, ⟨none, (some 5), (.mov (.k (.one (.bool .true))))⟩]
def g85_32 : List Gop := [⟨none, (some 154), (.faddr (.t 6) 2)⟩, ⟨none, (some 155), (.load none (.t 154))⟩, ⟨none, (some 156), (.faddr (.t 3) 1)⟩, ⟨none, (some 157), (.load none (.t 156))⟩, ⟨none, (some 158), (.faddr (.t 6) 0)⟩, ⟨none, (some 159), (.load none (.t 158))⟩, ⟨none, (some 160), (.faddr (.t 3) 1)⟩, ⟨none, (some 161), (.load none (.t 160))⟩, ⟨none, (some 162), (.iaddr 1 (.t 155) (.t 157))⟩, ⟨none, none, (.store 1 (.t 162) (.k (.one (.bool .false))))⟩, ⟨none, (some 163), (.iaddr 1 (.t 159) (.t 161))⟩, ⟨none, none, (.store 1 (.t 163) (.k (.one (.str ⟨#[]⟩))))⟩]
def a85_32 : List (List Nat) := [[], [0], [], [2], [], [4], [], [6], [0, 1, 2, 3], [0, 1, 2, 3, 8], [0, 1, 2, 3, 4, 5, 6, 7, 8, 9], [0, 1, 2, 3, 4, 5, 6, 7, 8, 9, 10]]
def n85_32 : Nat := 10 -- of 12
def g85_33 : List Gop := [⟨none, (some 164), (.load (some 3) (.t 6))⟩, ⟨none, (some 165), (.faddr (.t 2) 2)⟩, ⟨none, (some 166), (.load none (.t 165))⟩, ⟨none, (some 167), (.faddr (.t 3) 1)⟩, ⟨none, (some 168), (.load none (.t 167))⟩, ⟨none, (some 169), (.iaddr 1 (.t 166) (.t 168))⟩, ⟨none, (some 170), (.load none (.t 169))⟩, ⟨none, none, (.store 3 (.t 4) (.t 164))⟩, ⟨none, (some 5), (.mov (.t 170))⟩]
def a85_33 : List (List Nat) := [[], [], [1], [], [3], [1, 2, 3, 4], [1, 2, 3, 4, 5], [0], [0, 1, 2, 3, 4, 5, 6, 7]]
def n85_33 : Nat := 8 -- of 9
def i85 : Ir := (.seq (.region g85_0) (.seq (.region g85_1) (.seq (.seq (.region g85_2) (.block 0 (.seq (.region g85_3) (.cond (.t 14) (.seq (.draw [[], [], [1], [0, 2, 2], [], [4, 3], [3, 5, 0, 1, 2, 3], [5, 6, 0, 1, 2, 3, 4, 5, 6]] g85_4) .ret) (.seq (.region g85_5) (.cond (.t 22) (.seq (.draw [[], [], [1], [0, 2], [], [4, 3], [5, 5], [6], [6], [8, 6], [7, 9, 6, 6], [6, 10], [3, 10, 0, 1, 2, 3], [11, 12, 0, 1, 2, 3, 4, 5, 6, 7, 8, 9, 10, 11, 12]] g85_6) .ret) (.seq (.seq (.region g85_7) (.cond (.t 36) .skip (.seq (.region g85_8) (.cond (.t 36) .skip (.seq (.region g85_9) (.cond (.t 36) .skip (.region g85_10))))))) (.cond (.t 36) (.seq (.region g85_11) (.cond (.t 58) (.seq (.region g85_12) .ret) .skip)) (.seq (.region g85_13) .ret))))))))) (.seq (.seq (.region g85_14) (.block 1 (.seq (.region g85_15) (.cond (.t 62) (.seq (.region g85_16) (.seq (.draw [[], [], [1], [], [3], [2, 4], [5], [6], [7], [8], [9, 8], [10, 8], [11, 8, 8], [8, 12], [0, 12, 0], [13, 14, 0, 1, 2, 3, 4, 5, 6, 7, 8, 9, 10, 11, 12, 13, 14]] g85_17) .ret)) (.seq (.region g85_18) (.cond (.t 85) (.seq (.seq (.draw [[], [0], [], [2], [1, 3], [4], [5], [6], [7], [8, 7], [9, 7], [7], [11, 7], [7], [13, 7], [12, 14, 7], [15, 7], [16, 7], [10, 17, 7, 7], [18, 7], [7, 19]] g85_19) (.cond (.t 107) (.seq (.region g85_20) .ret) .skip)) (.seq (.region g85_21) (.seq (.seq (.region g85_22) (.block 2 (.loop (.seq (.region g85_23) (.seq (.cond (.t 120) .skip (.exit 2)) (.seq (.block 3 (.seq (.region g85_24) (.draw [[], [], [0, 1], [2], [], [4], [], [5, 6], [3, 7], [0, 1, 0, 1, 2, 3, 4, 5, 6, 7, 8], [9, 8, 0, 1, 2, 3, 4, 5, 6, 7, 8]] g85_25))) (.region g85_26))))))) (.seq (.region g85_27) (.seq (.region g85_28) .ret))))) (.seq (.region g85_29) (.cond (.t 141) (.seq (.draw [[], [0], [], [2], [], [4], [], [6], [1, 3, 0, 1, 2, 3], [8, 0, 1, 2, 3], [5, 7, 0, 1, 2, 3, 4, 5, 6, 7, 8, 9], [10, 9, 0, 1, 2, 3, 4, 5, 6, 7, 8, 9]] g85_30) (.seq (.region g85_31) .ret)) .skip)))))))) (.seq (.draw [[], [0], [], [2], [], [4], [], [6], [1, 3, 0, 1, 2, 3], [8, 0, 1, 2, 3], [5, 7, 0, 1, 2, 3, 4, 5, 6, 7, 8, 9], [10, 9, 0, 1, 2, 3, 4, 5, 6, 7, 8, 9]] g85_32) (.seq (.draw [[], [], [1], [], [3], [2, 4], [5], [0, 0], [6, 7, 0, 1, 2, 3, 4, 5, 6, 7]] g85_33) .ret))))))
/-- what a step of the program's comes to: the disk where it can be done, anything or nothing where not -/
def Stepped (p h : List ByteArray) (b : List Bool) (k a : Int) (text : ByteArray) (kept : List Int) : Prop :=
  (∃ p' h' b', Meets Try.prog 85 [.agg [(.sl false 1 p.length (p.map T.str)), (.sl false 1 h.length (h.map T.str)), (.sl false 1 b.length (b.map T.bool))], .agg [.int .i64 k, .int .i64 a, .str text, (.sl false 1 kept.length (kept.map (T.int .i64)))]] (.tup [.agg [(.sl true 1 p'.length (p'.map T.str)), (.sl true 1 h'.length (h'.map T.str)), (.sl true 1 b'.length (b'.map T.bool))], .one (.bool (stepF p h b k a text kept).ok)]) [.agg [.hole, .hole, .hole], .agg [.hole, .hole, .hole, .hole]] ∧ ((stepF p h b k a text kept).ok = true → stepF p h b k a text kept = ⟨p', h', b', true⟩)) ∨
  ((stepF p h b k a text kept).ok = false ∧ Meets Try.prog 85 [.agg [(.sl false 1 p.length (p.map T.str)), (.sl false 1 h.length (h.map T.str)), (.sl false 1 b.length (b.map T.bool))], .agg [.int .i64 k, .int .i64 a, .str text, (.sl false 1 kept.length (kept.map (T.int .i64)))]] (.tup [.agg [.sl true 0 0 [], .sl true 0 0 [], .sl true 0 0 []], .one (.bool false)]) [.agg [.hole, .hole, .hole], .agg [.hole, .hole, .hole, .hole]])
theorem stepped2 (p h : List ByteArray) (b : List Bool) (k a : Int) (text : ByteArray) (kept : List Int) (hp : p.length ≤ 1048576) (he : h.length = p.length) (hb : b.length = p.length) (hz : b ≠ []) (hk : kept.length ≤ 1048576) (ht : text.size ≤ 1048576) (hs : ∀ x ∈ p, x.size ≤ 1048576) (c1 : k = 2) : Stepped p h b k a text kept := by
  have hh2 : h.length ≤ 1048576 := by omega
  have hb2 : b.length ≤ 1048576 := by omega
  have hle := heldN_le (l := h) (i := h.length)
  have lP : ∀ l, (crashP p h l).length = p.length := fun l => by simp [crashP]
  have lH : (crashH h).length = h.length := by simp [crashH]
  subst c1
  have hok : (stepF p h b 2 a text kept).ok = decide (onlyP a text kept false false false) := by
    by_cases e1 : a = 0 <;> by_cases e2 : text = e0 <;> by_cases e3 : kept = [] <;> simp [stepF, onlyP, e1, e2, e3, KeptOk]
  refine .inl ⟨crashP p h (heldN h h.length), crashH h, b, ?_, fun h1 => ?_⟩
  · rw [hok]
    refine meets_go (ir := i85) (fn := Try.f85) (rx := [(.cell 4 (some 3)), (.tmp 5)]) rfl rfl (by rfl) (by rfl) (by exact Nat.le_of_ble_eq_true rfl) ?_
    have lP1 := lP (heldN h h.length)
    simp (maxSteps := 9000000) -implicitDefEqProofs -dsimp (disch := omega) only [go_sem, g85_0, g85_1, g85_2, g85_3, g85_4, a85_4, n85_4, g85_5, g85_6, a85_6, n85_6, g85_7, g85_8, g85_9, g85_10, g85_11, g85_12, g85_13, g85_14, g85_15, g85_16, g85_17, a85_17, n85_17, g85_18, g85_19, a85_19, n85_19, g85_20, g85_21, g85_22, g85_23, g85_24, g85_25, a85_25, n85_25, g85_26, g85_27, g85_28, g85_29, g85_30, a85_30, n85_30, g85_31, g85_32, a85_32, n85_32, g85_33, a85_33, n85_33, i85, Nat.reduceEqDiff, Nat.reduceAdd, Nat.reduceMul, Nat.reduceLeDiff, Nat.reduceBEq, Nat.reduceBNe, Int.reduceEq, ↓reduceIte, reduceCtorEq]
    refine call_go true (ownDisk_ok p h b hz hp hh2 hb2) ?_
    simp (maxSteps := 9000000) -implicitDefEqProofs -dsimp (disch := omega) only [go_sem, g85_0, g85_1, g85_2, g85_3, g85_4, a85_4, n85_4, g85_5, g85_6, a85_6, n85_6, g85_7, g85_8, g85_9, g85_10, g85_11, g85_12, g85_13, g85_14, g85_15, g85_16, g85_17, a85_17, n85_17, g85_18, g85_19, a85_19, n85_19, g85_20, g85_21, g85_22, g85_23, g85_24, g85_25, a85_25, n85_25, g85_26, g85_27, g85_28, g85_29, g85_30, a85_30, n85_30, g85_31, g85_32, a85_32, n85_32, g85_33, a85_33, n85_33, i85, Nat.reduceEqDiff, Nat.reduceAdd, Nat.reduceMul, Nat.reduceLeDiff, Nat.reduceBEq, Nat.reduceBNe, Int.reduceEq, ↓reduceIte, reduceCtorEq]
    refine draw_go n85_4 a85_4 (by decide +kernel) ?_
    simp (maxSteps := 9000000) -implicitDefEqProofs -dsimp (disch := omega) only [go_sem, g85_0, g85_1, g85_2, g85_3, g85_4, a85_4, n85_4, g85_5, g85_6, a85_6, n85_6, g85_7, g85_8, g85_9, g85_10, g85_11, g85_12, g85_13, g85_14, g85_15, g85_16, g85_17, a85_17, n85_17, g85_18, g85_19, a85_19, n85_19, g85_20, g85_21, g85_22, g85_23, g85_24, g85_25, a85_25, n85_25, g85_26, g85_27, g85_28, g85_29, g85_30, a85_30, n85_30, g85_31, g85_32, a85_32, n85_32, g85_33, a85_33, n85_33, i85, Nat.reduceEqDiff, Nat.reduceAdd, Nat.reduceMul, Nat.reduceLeDiff, Nat.reduceBEq, Nat.reduceBNe, Int.reduceEq, ↓reduceIte, reduceCtorEq]
    refine calla_go true (heldIn_ok p h b hh2) ?_
    simp (maxSteps := 9000000) -implicitDefEqProofs -dsimp (disch := omega) only [go_sem, g85_0, g85_1, g85_2, g85_3, g85_4, a85_4, n85_4, g85_5, g85_6, a85_6, n85_6, g85_7, g85_8, g85_9, g85_10, g85_11, g85_12, g85_13, g85_14, g85_15, g85_16, g85_17, a85_17, n85_17, g85_18, g85_19, a85_19, n85_19, g85_20, g85_21, g85_22, g85_23, g85_24, g85_25, a85_25, n85_25, g85_26, g85_27, g85_28, g85_29, g85_30, a85_30, n85_30, g85_31, g85_32, a85_32, n85_32, g85_33, a85_33, n85_33, i85, Nat.reduceEqDiff, Nat.reduceAdd, Nat.reduceMul, Nat.reduceLeDiff, Nat.reduceBEq, Nat.reduceBNe, Int.reduceEq, ↓reduceIte, reduceCtorEq]
    refine calla_go true (crashed_ok p h b (heldN h h.length) hz hb2 hp he (by omega)) ?_
    simp (maxSteps := 9000000) -implicitDefEqProofs -dsimp (disch := omega) only [go_sem, g85_0, g85_1, g85_2, g85_3, g85_4, a85_4, n85_4, g85_5, g85_6, a85_6, n85_6, g85_7, g85_8, g85_9, g85_10, g85_11, g85_12, g85_13, g85_14, g85_15, g85_16, g85_17, a85_17, n85_17, g85_18, g85_19, a85_19, n85_19, g85_20, g85_21, g85_22, g85_23, g85_24, g85_25, a85_25, n85_25, g85_26, g85_27, g85_28, g85_29, g85_30, a85_30, n85_30, g85_31, g85_32, a85_32, n85_32, g85_33, a85_33, n85_33, i85, lP, lH, Nat.reduceEqDiff, Nat.reduceAdd, Nat.reduceMul, Nat.reduceLeDiff, Nat.reduceBEq, Nat.reduceBNe, Int.reduceEq, ↓reduceIte, reduceCtorEq]
    refine call_go true (isOnly_ok 2 a text kept false false false hk) ?_
    simp (maxSteps := 9000000) -implicitDefEqProofs -dsimp (disch := omega) only [go_sem, g85_0, g85_1, g85_2, g85_3, g85_4, a85_4, n85_4, g85_5, g85_6, a85_6, n85_6, g85_7, g85_8, g85_9, g85_10, g85_11, g85_12, g85_13, g85_14, g85_15, g85_16, g85_17, a85_17, n85_17, g85_18, g85_19, a85_19, n85_19, g85_20, g85_21, g85_22, g85_23, g85_24, g85_25, a85_25, n85_25, g85_26, g85_27, g85_28, g85_29, g85_30, a85_30, n85_30, g85_31, g85_32, a85_32, n85_32, g85_33, a85_33, n85_33, i85, lP, lH, Nat.reduceEqDiff, Nat.reduceAdd, Nat.reduceMul, Nat.reduceLeDiff, Nat.reduceBEq, Nat.reduceBNe, Int.reduceEq, ↓reduceIte, reduceCtorEq]
  · rw [hok] at h1
    have h2 := of_decide_eq_true h1
    simp only [onlyP, Bool.false_eq_true, false_or] at h2
    have h3 : kept = [] := List.eq_nil_of_length_eq_zero h2.2.2
    simp [stepF, h2.1, h2.2.1, h3, KeptOk]
theorem stepped3 (p h : List ByteArray) (b : List Bool) (k a : Int) (text : ByteArray) (kept : List Int) (hp : p.length ≤ 1048576) (he : h.length = p.length) (hb : b.length = p.length) (hz : b ≠ []) (hk : kept.length ≤ 1048576) (ht : text.size ≤ 1048576) (hs : ∀ x ∈ p, x.size ≤ 1048576) (c1 : k = 3) : Stepped p h b k a text kept := by
  have hh2 : h.length ≤ 1048576 := by omega
  have hb2 : b.length ≤ 1048576 := by omega
  have hle := heldN_le (l := h) (i := h.length)
  have lP : ∀ l, (crashP p h l).length = p.length := fun l => by simp [crashP]
  have lH : (crashH h).length = h.length := by simp [crashH]
  subst c1
  have hok : (stepF p h b 3 a text kept).ok = (decide (onlyP a text kept false false true) && decide (KeptOk h kept)) := by
    by_cases e1 : a = 0 <;> by_cases e2 : text = e0 <;> by_cases e3 : KeptOk h kept <;> simp [stepF, onlyP, e1, e2, e3]
  refine .inl ⟨crashP p h kept, crashH h, b, ?_, fun h1 => ?_⟩
  · rw [hok]
    refine meets_go (ir := i85) (fn := Try.f85) (rx := [(.cell 4 (some 3)), (.tmp 5)]) rfl rfl (by rfl) (by rfl) (by exact Nat.le_of_ble_eq_true rfl) ?_
    have lP1 := lP kept
    simp (maxSteps := 9000000) -implicitDefEqProofs -dsimp (disch := omega) only [go_sem, g85_0, g85_1, g85_2, g85_3, g85_4, a85_4, n85_4, g85_5, g85_6, a85_6, n85_6, g85_7, g85_8, g85_9, g85_10, g85_11, g85_12, g85_13, g85_14, g85_15, g85_16, g85_17, a85_17, n85_17, g85_18, g85_19, a85_19, n85_19, g85_20, g85_21, g85_22, g85_23, g85_24, g85_25, a85_25, n85_25, g85_26, g85_27, g85_28, g85_29, g85_30, a85_30, n85_30, g85_31, g85_32, a85_32, n85_32, g85_33, a85_33, n85_33, i85, Nat.reduceEqDiff, Nat.reduceAdd, Nat.reduceMul, Nat.reduceLeDiff, Nat.reduceBEq, Nat.reduceBNe, Int.reduceEq, ↓reduceIte, reduceCtorEq]
    refine call_go true (ownDisk_ok p h b hz hp hh2 hb2) ?_
    by_cases e1 : onlyP a text kept false false true
    all_goals
      simp (maxSteps := 9000000) -implicitDefEqProofs -dsimp (disch := omega) only [go_sem, g85_0, g85_1, g85_2, g85_3, g85_4, a85_4, n85_4, g85_5, g85_6, a85_6, n85_6, g85_7, g85_8, g85_9, g85_10, g85_11, g85_12, g85_13, g85_14, g85_15, g85_16, g85_17, a85_17, n85_17, g85_18, g85_19, a85_19, n85_19, g85_20, g85_21, g85_22, g85_23, g85_24, g85_25, a85_25, n85_25, g85_26, g85_27, g85_28, g85_29, g85_30, a85_30, n85_30, g85_31, g85_32, a85_32, n85_32, g85_33, a85_33, n85_33, i85, lt_T, lt_F, le_T, le_F, eq_T, eq_F, and_F, Nat.reduceEqDiff, Nat.reduceAdd, Nat.reduceMul, Nat.reduceLeDiff, Nat.reduceBEq, Nat.reduceBNe, Int.reduceEq, ↓reduceIte, reduceCtorEq]
      refine drawm_go n85_6 a85_6 [(12, .framed [])] (by decide +kernel) ?_
      simp (maxSteps := 9000000) -implicitDefEqProofs -dsimp (disch := omega) only [go_sem, g85_0, g85_1, g85_2, g85_3, g85_4, a85_4, n85_4, g85_5, g85_6, a85_6, n85_6, g85_7, g85_8, g85_9, g85_10, g85_11, g85_12, g85_13, g85_14, g85_15, g85_16, g85_17, a85_17, n85_17, g85_18, g85_19, a85_19, n85_19, g85_20, g85_21, g85_22, g85_23, g85_24, g85_25, a85_25, n85_25, g85_26, g85_27, g85_28, g85_29, g85_30, a85_30, n85_30, g85_31, g85_32, a85_32, n85_32, g85_33, a85_33, n85_33, i85, Nat.reduceEqDiff, Nat.reduceAdd, Nat.reduceMul, Nat.reduceLeDiff, Nat.reduceBEq, Nat.reduceBNe, Int.reduceEq, ↓reduceIte, reduceCtorEq]
      refine calla_go true (crashed_ok p h b kept hz hb2 hp he hk) ?_
      simp (maxSteps := 9000000) -implicitDefEqProofs -dsimp (disch := omega) only [go_sem, g85_0, g85_1, g85_2, g85_3, g85_4, a85_4, n85_4, g85_5, g85_6, a85_6, n85_6, g85_7, g85_8, g85_9, g85_10, g85_11, g85_12, g85_13, g85_14, g85_15, g85_16, g85_17, a85_17, n85_17, g85_18, g85_19, a85_19, n85_19, g85_20, g85_21, g85_22, g85_23, g85_24, g85_25, a85_25, n85_25, g85_26, g85_27, g85_28, g85_29, g85_30, a85_30, n85_30, g85_31, g85_32, a85_32, n85_32, g85_33, a85_33, n85_33, i85, lP, lH, Nat.reduceEqDiff, Nat.reduceAdd, Nat.reduceMul, Nat.reduceLeDiff, Nat.reduceBEq, Nat.reduceBNe, Int.reduceEq, ↓reduceIte, reduceCtorEq]
      refine calla_go true (isOnly_ok 3 a text kept false false true hk) ?_
      simp (maxSteps := 9000000) -implicitDefEqProofs -dsimp (disch := omega) only [go_sem, g85_0, g85_1, g85_2, g85_3, g85_4, a85_4, n85_4, g85_5, g85_6, a85_6, n85_6, g85_7, g85_8, g85_9, g85_10, g85_11, g85_12, g85_13, g85_14, g85_15, g85_16, g85_17, a85_17, n85_17, g85_18, g85_19, a85_19, n85_19, g85_20, g85_21, g85_22, g85_23, g85_24, g85_25, a85_25, n85_25, g85_26, g85_27, g85_28, g85_29, g85_30, a85_30, n85_30, g85_31, g85_32, a85_32, n85_32, g85_33, a85_33, n85_33, i85, lP, lH, e1, Nat.reduceEqDiff, Nat.reduceAdd, Nat.reduceMul, Nat.reduceLeDiff, Nat.reduceBEq, Nat.reduceBNe, Int.reduceEq, ↓reduceIte, reduceCtorEq]
    · refine calla_go true (areHeld_ok p h b kept hp he hk) ?_
      simp (maxSteps := 9000000) -implicitDefEqProofs -dsimp (disch := omega) only [go_sem, g85_0, g85_1, g85_2, g85_3, g85_4, a85_4, n85_4, g85_5, g85_6, a85_6, n85_6, g85_7, g85_8, g85_9, g85_10, g85_11, g85_12, g85_13, g85_14, g85_15, g85_16, g85_17, a85_17, n85_17, g85_18, g85_19, a85_19, n85_19, g85_20, g85_21, g85_22, g85_23, g85_24, g85_25, a85_25, n85_25, g85_26, g85_27, g85_28, g85_29, g85_30, a85_30, n85_30, g85_31, g85_32, a85_32, n85_32, g85_33, a85_33, n85_33, i85, lP, lH, e1, Nat.reduceEqDiff, Nat.reduceAdd, Nat.reduceMul, Nat.reduceLeDiff, Nat.reduceBEq, Nat.reduceBNe, Int.reduceEq, ↓reduceIte, reduceCtorEq]
  · rw [hok] at h1
    simp only [Bool.and_eq_true, decide_eq_true_eq, onlyP, Bool.false_eq_true, false_or] at h1
    simp [stepF, h1.1.1, h1.1.2.1, h1.2]
theorem stepped0 (p h : List ByteArray) (b : List Bool) (k a : Int) (text : ByteArray) (kept : List Int) (hp : p.length ≤ 1048576) (he : h.length = p.length) (hb : b.length = p.length) (hz : b ≠ []) (hk : kept.length ≤ 1048576) (ht : text.size ≤ 1048576) (hs : ∀ x ∈ p, x.size ≤ 1048576) (c1 : ¬ (k = 1 ∨ k = 2 ∨ k = 3 ∨ k = 4 ∨ k = 5 ∨ k = 6)) : Stepped p h b k a text kept := by
  have hh2 : h.length ≤ 1048576 := by omega
  have hb2 : b.length ≤ 1048576 := by omega
  have hle := heldN_le (l := h) (i := h.length)
  have lP : ∀ l, (crashP p h l).length = p.length := fun l => by simp [crashP]
  have lH : (crashH h).length = h.length := by simp [crashH]
  have k1 : ¬ k = 1 := fun e => c1 (by simp [e])
  have k2 : ¬ k = 2 := fun e => c1 (by simp [e])
  have k3 : ¬ k = 3 := fun e => c1 (by simp [e])
  have k4 : ¬ k = 4 := fun e => c1 (by simp [e])
  have k5 : ¬ k = 5 := fun e => c1 (by simp [e])
  have k6 : ¬ k = 6 := fun e => c1 (by simp [e])
  refine .inr ⟨?_, ?_⟩
  · simp only [stepF, k2, k3, or_self, if_false, k1, k4, k5, k6, false_and]
    split <;> rfl
  · refine meets_go (ir := i85) (fn := Try.f85) (rx := [(.cell 4 (some 3)), (.tmp 5)]) rfl rfl (by rfl) (by rfl) (by exact Nat.le_of_ble_eq_true rfl) ?_
    simp (maxSteps := 9000000) -implicitDefEqProofs -dsimp (disch := omega) only [go_sem, g85_0, g85_1, g85_2, g85_3, g85_4, a85_4, n85_4, g85_5, g85_6, a85_6, n85_6, g85_7, g85_8, g85_9, g85_10, g85_11, g85_12, g85_13, g85_14, g85_15, g85_16, g85_17, a85_17, n85_17, g85_18, g85_19, a85_19, n85_19, g85_20, g85_21, g85_22, g85_23, g85_24, g85_25, a85_25, n85_25, g85_26, g85_27, g85_28, g85_29, g85_30, a85_30, n85_30, g85_31, g85_32, a85_32, n85_32, g85_33, a85_33, n85_33, i85, Nat.reduceEqDiff, Nat.reduceAdd, Nat.reduceMul, Nat.reduceLeDiff, Nat.reduceBEq, Nat.reduceBNe, Int.reduceEq, ↓reduceIte, reduceCtorEq]
    refine call_go true (ownDisk_ok p h b hz hp hh2 hb2) ?_
    simp (maxSteps := 9000000) -implicitDefEqProofs -dsimp (disch := omega) only [go_sem, g85_0, g85_1, g85_2, g85_3, g85_4, a85_4, n85_4, g85_5, g85_6, a85_6, n85_6, g85_7, g85_8, g85_9, g85_10, g85_11, g85_12, g85_13, g85_14, g85_15, g85_16, g85_17, a85_17, n85_17, g85_18, g85_19, a85_19, n85_19, g85_20, g85_21, g85_22, g85_23, g85_24, g85_25, a85_25, n85_25, g85_26, g85_27, g85_28, g85_29, g85_30, a85_30, n85_30, g85_31, g85_32, a85_32, n85_32, g85_33, a85_33, n85_33, i85, k1, k2, k3, k4, k5, k6, Nat.reduceEqDiff, Nat.reduceAdd, Nat.reduceMul, Nat.reduceLeDiff, Nat.reduceBEq, Nat.reduceBNe, Int.reduceEq, ↓reduceIte, reduceCtorEq]
end Go.Proofs.YtjlodcoeegpkaaaT
