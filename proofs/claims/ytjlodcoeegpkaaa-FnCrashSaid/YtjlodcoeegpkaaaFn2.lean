/- Functions of the program, each with what it returns and leaves. No condition. -/
import Derived.Test.YtjlodcoeegpkaaaFn1
import Derived.Test.YtjlodcoeegpkaaaTree8
import Derived.Test.YtjlodcoeegpkaaaProg
import Derived.KernelRfl
set_option linter.all false
set_option linter.unusedVariables false
set_option linter.unusedSimpArgs false
set_option linter.unusedSectionVars false
set_option linter.unnecessarySimpa false
set_option linter.deprecated false
/- Functions of the program as contracts: crashes. No condition. -/
set_option maxRecDepth 100000
set_option maxHeartbeats 4000000
set_option linter.unusedSimpArgs false
set_option linter.unusedVariables false
namespace Go.Proofs.YtjlodcoeegpkaaaT
open Go
def g102_0 : List Gop := [⟨none, (some 4), (.mov (.k (.one (.int .i64 0))))⟩]
def g102_1 : List Gop := [⟨none, (some 6), (.mov (.t 0))⟩, ⟨none, (some 7), (.len (.t 6))⟩, ⟨none, (some 8), (.mov (.k (.one (.int .i64 0))))⟩]
def g102_2 : List Gop := [⟨none, (some 9), (.bin .lss (.t 8) (.t 7))⟩]
def g102_3 : List Gop := [⟨none, (some 10), (.mov (.t 8))⟩, ⟨none, (some 5), (.mov (.t 10))⟩]
def g102_4 : List Gop := [⟨none, (some 11), (.mov (.t 1))⟩, ⟨none, (some 12), (.mov (.t 0))⟩, ⟨none, (some 13), (.mov (.t 5))⟩, ⟨none, (some 14), (.iaddr 1 (.t 12) (.t 13))⟩, ⟨none, (some 15), (.load none (.t 14))⟩, ⟨none, (some 16), (.bin .eql (.t 11) (.t 15))⟩]
def g102_5 : List Gop := [⟨none, (some 17), (.mov (.t 5))⟩, ⟨none, (some 4), (.mov (.t 17))⟩]
def g102_6 : List Gop := [⟨none, (some 18), (.bin .add (.t 8) (.k (.one (.int .i64 1))))⟩, ⟨none, (some 8), (.mov (.t 18))⟩]
def g102_7 : List Gop := [⟨none, (some 4), (.mov (.k (.one (.int .i64 (-1)))))⟩]
def i102 : Ir := (.seq (.region g102_0) (.seq (.seq (.region g102_1) (.block 0 (.loop (.seq (.region g102_2) (.seq (.cond (.t 9) .skip (.exit 0)) (.seq (.block 1 (.seq (.region g102_3) (.seq (.region g102_4) (.cond (.t 16) (.seq (.region g102_5) .ret) .skip)))) (.region g102_6))))))) (.seq (.region g102_7) .ret)))
theorem index_ok (l : List Int) (x : Int) (hl : l.length ≤ 1048576) : ∃ n : Int, Meets Try.prog 102 [.one (.sl false 1 l.length (l.map (T.int .i64))), .one (.int .i64 x)] (.w (.one (.int .i64 n))) [.one .hole, .one .hole] ∧ (0 ≤ n ↔ x ∈ l) := by
  have key : ∀ n : Nat, n ≤ l.length → (∀ j, j < n → x ≠ l.getD j default) → (n < l.length → x = l.getD n default) → Meets Try.prog 102 [.one (.sl false 1 l.length (l.map (T.int .i64))), .one (.int .i64 x)] (.w (.one (.int .i64 (if n < l.length then (n : Int) else -1)))) [.one .hole, .one .hole] := by
    intro n hn h0 h1
    refine meets_go (ir := i102) (fn := Try.f102) (rx := [(.tmp 4)]) rfl rfl (by rfl) (by rfl) (by exact Nat.le_of_ble_eq_true rfl) ?_
    simp (maxSteps := 9000000) -implicitDefEqProofs -dsimp (disch := omega) only [go_sem, g102_0, g102_1, g102_2, g102_3, g102_4, g102_5, g102_6, g102_7, i102, Nat.reduceEqDiff, Nat.reduceAdd, Nat.reduceMul, Nat.reduceLeDiff, Nat.reduceBEq, Nat.reduceBNe, Int.reduceEq, ↓reduceIte, reduceCtorEq]
    refine loop_n n (fun i => ⟨[(8, .w (.one (.int .i64 (i : Nat)))), (7, .w (.one (.int .i64 l.length))), (0, .w (.one (.hs 0 [] 0 1 l.length))), (1, .w (.one (.int .i64 x)))],
      [(0, (.sl false 1 l.length (l.map (T.int .i64))))], [.one (.hs 0 [] 0 1 l.length), .one (.int .i64 x)]⟩) (fun i => True) ?_ trivial ?_
    · exact (imp_sub (by simp (maxSteps := 9000000) -implicitDefEqProofs -dsimp (disch := omega) only [go_sem, g102_0, g102_1, g102_2, g102_3, g102_4, g102_5, g102_6, g102_7, i102, Nat.reduceEqDiff, Nat.reduceAdd, Nat.reduceMul, Nat.reduceLeDiff, Nat.reduceBEq, Nat.reduceBNe, Int.reduceEq, ↓reduceIte, reduceCtorEq]) (by simp (maxSteps := 9000000) -implicitDefEqProofs -dsimp (disch := omega) only [go_sem, g102_0, g102_1, g102_2, g102_3, g102_4, g102_5, g102_6, g102_7, i102, Nat.reduceEqDiff, Nat.reduceAdd, Nat.reduceMul, Nat.reduceLeDiff, Nat.reduceBEq, Nat.reduceBNe, Int.reduceEq, ↓reduceIte, reduceCtorEq]) rfl)
    · intro i hi _
      simp (maxSteps := 9000000) -implicitDefEqProofs -dsimp (disch := omega) only [go_sem, g102_0, g102_1, g102_2, g102_3, g102_4, g102_5, g102_6, g102_7, i102, Nat.reduceEqDiff, Nat.reduceAdd, Nat.reduceMul, Nat.reduceLeDiff, Nat.reduceBEq, Nat.reduceBNe, Int.reduceEq, ↓reduceIte, reduceCtorEq]
      refine brP_i (fun h2 => ?_) (fun h2 => ?_)
      · by_cases e : i < n
        · simp (maxSteps := 9000000) -implicitDefEqProofs -dsimp (disch := omega) only [go_sem, g102_0, g102_1, g102_2, g102_3, g102_4, g102_5, g102_6, g102_7, i102, h0 i e, Nat.reduceEqDiff, Nat.reduceAdd, Nat.reduceMul, Nat.reduceLeDiff, Nat.reduceBEq, Nat.reduceBNe, Int.reduceEq, ↓reduceIte, reduceCtorEq]
          exact ⟨by omega, (imp_sub (by simp (maxSteps := 9000000) -implicitDefEqProofs -dsimp (disch := omega) only [go_sem, g102_0, g102_1, g102_2, g102_3, g102_4, g102_5, g102_6, g102_7, i102, Nat.reduceEqDiff, Nat.reduceAdd, Nat.reduceMul, Nat.reduceLeDiff, Nat.reduceBEq, Nat.reduceBNe, Int.reduceEq, ↓reduceIte, reduceCtorEq]) (by simp (maxSteps := 9000000) -implicitDefEqProofs -dsimp (disch := omega) only [go_sem, g102_0, g102_1, g102_2, g102_3, g102_4, g102_5, g102_6, g102_7, i102, Nat.reduceEqDiff, Nat.reduceAdd, Nat.reduceMul, Nat.reduceLeDiff, Nat.reduceBEq, Nat.reduceBNe, Int.reduceEq, ↓reduceIte, reduceCtorEq]) rfl)⟩
        · obtain rfl : i = n := by omega
          simp (maxSteps := 9000000) -implicitDefEqProofs -dsimp (disch := omega) only [go_sem, g102_0, g102_1, g102_2, g102_3, g102_4, g102_5, g102_6, g102_7, i102, ← h1 (by omega), Nat.reduceEqDiff, Nat.reduceAdd, Nat.reduceMul, Nat.reduceLeDiff, Nat.reduceBEq, Nat.reduceBNe, Int.reduceEq, ↓reduceIte, reduceCtorEq]
          exact need_i (by rw [if_pos (by omega)]) (by simp (maxSteps := 9000000) -implicitDefEqProofs -dsimp (disch := omega) only [go_sem, g102_0, g102_1, g102_2, g102_3, g102_4, g102_5, g102_6, g102_7, i102, Nat.reduceEqDiff, Nat.reduceAdd, Nat.reduceMul, Nat.reduceLeDiff, Nat.reduceBEq, Nat.reduceBNe, Int.reduceEq, ↓reduceIte, reduceCtorEq])
      · simp (maxSteps := 9000000) -implicitDefEqProofs -dsimp (disch := omega) only [go_sem, g102_0, g102_1, g102_2, g102_3, g102_4, g102_5, g102_6, g102_7, i102, Nat.reduceEqDiff, Nat.reduceAdd, Nat.reduceMul, Nat.reduceLeDiff, Nat.reduceBEq, Nat.reduceBNe, Int.reduceEq, ↓reduceIte, reduceCtorEq]
        exact need_i (by rw [if_neg (by omega)]) (by simp (maxSteps := 9000000) -implicitDefEqProofs -dsimp (disch := omega) only [go_sem, g102_0, g102_1, g102_2, g102_3, g102_4, g102_5, g102_6, g102_7, i102, Nat.reduceEqDiff, Nat.reduceAdd, Nat.reduceMul, Nat.reduceLeDiff, Nat.reduceBEq, Nat.reduceBNe, Int.reduceEq, ↓reduceIte, reduceCtorEq])
  have least : ∃ n : Nat, n ≤ l.length ∧ (∀ j, j < n → x ≠ l.getD j default) ∧ (n < l.length → x = l.getD n default) := by
    have : ∀ k, k ≤ l.length → (∀ j, j < k → x ≠ l.getD j default) ∨ ∃ n : Nat, n < k ∧ (∀ j, j < n → x ≠ l.getD j default) ∧ x = l.getD n default := by
      intro k
      induction k with
      | zero => intro _; exact .inl fun j hj => by omega
      | succ k ih =>
        intro hk
        rcases ih (by omega) with h | ⟨n, h1, h2, h3⟩
        · by_cases hp : x = l.getD k default
          · exact .inr ⟨k, by omega, h, hp⟩
          · exact .inl (all_succ h hp)
        · exact .inr ⟨n, by omega, h2, h3⟩
    rcases this l.length (Nat.le_refl _) with h | ⟨n, h1, h2, h3⟩
    · exact ⟨l.length, Nat.le_refl _, h, fun h => by omega⟩
    · exact ⟨n, by omega, h2, fun _ => h3⟩
  obtain ⟨n, h1, h2, h3⟩ := least
  refine ⟨_, key n h1 h2 h3, ?_⟩
  split
  · rename_i hn
    exact ⟨fun _ => h3 hn ▸ getD_mem hn, fun _ => by omega⟩
  · rename_i hn
    refine ⟨fun h => by omega, fun h => ?_⟩
    obtain ⟨j, hj, e⟩ := mem_getD h
    exact absurd e.symm (h2 j (by omega))
def g94_0 : List Gop := [⟨none, (some 4), (.mov (.k (.one (.bool .false))))⟩]
def g94_1 : List Gop := [⟨none, (some 5), (.mov (.t 0))⟩, ⟨none, (some 6), (.mov (.t 1))⟩, ⟨none, (some 7), (.call 102 [(.t 5), (.t 6)])⟩, ⟨none, (some 8), (.bin .geq (.t 7) (.k (.one (.int .i64 0))))⟩, ⟨none, (some 4), (.mov (.t 8))⟩]
def i94 : Ir := (.seq (.region g94_0) (.seq (.region g94_1) .ret))
theorem contains_ok (l : List Int) (x : Int) (hl : l.length ≤ 1048576) : Meets Try.prog 94 [.one (.sl false 1 l.length (l.map (T.int .i64))), .one (.int .i64 x)] (.w (.one (.bool (decide (x ∈ l))))) [.one .hole, .one .hole] := by
  obtain ⟨n, hI, hn⟩ := index_ok l x hl
  refine meets_go (ir := i94) (fn := Try.f94) (rx := [(.tmp 4)]) rfl rfl (by rfl) (by rfl) (by exact Nat.le_of_ble_eq_true rfl) ?_
  simp (maxSteps := 9000000) -implicitDefEqProofs -dsimp (disch := omega) only [go_sem, g94_0, g94_1, i94, Nat.reduceEqDiff, Nat.reduceAdd, Nat.reduceMul, Nat.reduceLeDiff, Nat.reduceBEq, Nat.reduceBNe, Int.reduceEq, ↓reduceIte, reduceCtorEq]
  refine call_go false hI ?_
  simp (maxSteps := 9000000) -implicitDefEqProofs -dsimp (disch := omega) only [go_sem, g94_0, g94_1, i94, Nat.reduceEqDiff, Nat.reduceAdd, Nat.reduceMul, Nat.reduceLeDiff, Nat.reduceBEq, Nat.reduceBNe, Int.reduceEq, ↓reduceIte, reduceCtorEq]
  exact need_i (res_dec hn.symm) (by simp (maxSteps := 9000000) -implicitDefEqProofs -dsimp (disch := omega) only [go_sem, g94_0, g94_1, i94, Nat.reduceEqDiff, Nat.reduceAdd, Nat.reduceMul, Nat.reduceLeDiff, Nat.reduceBEq, Nat.reduceBNe, Int.reduceEq, ↓reduceIte, reduceCtorEq])
def crashF (p h : List ByteArray) (kept : List Int) (j : Nat) : ByteArray := if (j : Int) ∈ kept then h.getD j default else p.getD j default
def crashP (p h : List ByteArray) (kept : List Int) : List ByteArray := (List.range p.length).map (crashF p h kept)
def crashH (h : List ByteArray) : List ByteArray := (List.range h.length).map fun _ => e0
def g75_0 : List Gop := [⟨none, (some 2), (.box (.t 0))⟩, ⟨none, (some 4), (.alloc [.nil, .nil, .nil])⟩]
def g75_1 : List Gop := [⟨none, (some 7), (.faddr (.t 2) 1)⟩, ⟨none, (some 8), (.load none (.t 7))⟩, ⟨none, (some 9), (.len (.t 8))⟩, ⟨none, (some 10), (.mov (.k (.one (.int .i64 0))))⟩]
def g75_2 : List Gop := [⟨none, (some 11), (.bin .lss (.t 10) (.t 9))⟩]
def g75_3 : List Gop := [⟨none, (some 12), (.mov (.t 10))⟩, ⟨none, (some 13), (.iaddr 1 (.t 8) (.t 10))⟩, ⟨none, (some 14), (.load none (.t 13))⟩, ⟨none, (some 5), (.mov (.t 12))⟩, ⟨none, (some 6), (.mov (.t 14))⟩]
def g75_4 : List Gop := [⟨none, (some 15), (.mov (.t 1))⟩, ⟨none, (some 16), (.mov (.t 5))⟩, ⟨none, (some 17), (.call 89 [(.t 15), (.t 16)])⟩]
def g75_5 : List Gop := [⟨none, (some 18), (.faddr (.t 2) 0)⟩, ⟨none, (some 19), (.load none (.t 18))⟩, ⟨none, (some 20), (.mov (.t 5))⟩, ⟨none, (some 21), (.mov (.t 6))⟩, ⟨none, (some 22), (.iaddr 1 (.t 19) (.t 20))⟩, ⟨none, none, (.store 1 (.t 22) (.t 21))⟩]
def g75_6 : List Gop := [⟨none, (some 23), (.faddr (.t 2) 1)⟩, ⟨none, (some 24), (.load none (.t 23))⟩, ⟨none, (some 25), (.mov (.t 5))⟩, ⟨none, (some 26), (.iaddr 1 (.t 24) (.t 25))⟩, ⟨none, none, (.store 1 (.t 26) (.k (.one (.str ⟨#[]⟩))))⟩]
def g75_7 : List Gop := [⟨none, (some 27), (.bin .add (.t 10) (.k (.one (.int .i64 1))))⟩, ⟨none, (some 10), (.mov (.t 27))⟩]
def g75_8 : List Gop := [⟨none, (some 28), (.load (some 3) (.t 2))⟩, ⟨none, none, (.store 3 (.t 4) (.t 28))⟩]
def i75 : Ir := (.seq (.region g75_0) (.seq (.seq (.region g75_1) (.block 0 (.loop (.seq (.region g75_2) (.seq (.cond (.t 11) .skip (.exit 0)) (.seq (.block 1 (.seq (.region g75_3) (.seq (.seq (.region g75_4) (.cond (.t 17) (.region g75_5) .skip)) (.region g75_6)))) (.region g75_7))))))) (.seq (.region g75_8) .ret)))
theorem l7Crash_ok (p h : List ByteArray) (b : List Bool) (kept : List Int) (hp : p.length ≤ 1048576) (he : h.length = p.length) (hk : kept.length ≤ 1048576) : Meets Try.prog 75 [.agg [(.sl true 1 p.length (p.map T.str)), (.sl true 1 h.length (h.map T.str)), (.sl true 1 b.length (b.map T.bool))], .one (.sl false 1 kept.length (kept.map (T.int .i64)))] (.w (.agg [(.sl true 1 (crashP p h kept).length ((crashP p h kept).map T.str)), (.sl true 1 (crashH h).length ((crashH h).map T.str)), (.sl true 1 b.length (b.map T.bool))])) [.agg [.hole, .hole, .hole], .one .hole] := by
  refine meets_go (ir := i75) (fn := Try.f75) (rx := [(.cell 4 (some 3))]) rfl rfl (by rfl) (by rfl) (by exact Nat.le_of_ble_eq_true rfl) ?_
  simp (maxSteps := 9000000) -implicitDefEqProofs -dsimp (disch := omega) only [go_sem, g75_0, g75_1, g75_2, g75_3, g75_4, g75_5, g75_6, g75_7, g75_8, i75, Nat.reduceEqDiff, Nat.reduceAdd, Nat.reduceMul, Nat.reduceLeDiff, Nat.reduceBEq, Nat.reduceBNe, Int.reduceEq, ↓reduceIte, reduceCtorEq]
  refine loop_n p.length (fun i => ⟨[(10, .w (.one (.int .i64 (i : Nat)))), (9, .w (.one (.int .i64 p.length))), (8, .w (.one (.hs 4 [1] 0 1 h.length))), (4, .w (.one (.hp 5 [] 0))), (2, .w (.one (.hp 4 [] 0))), (1, .w (.one (.hs 3 [] 0 1 kept.length)))],
    [(4, .bx true [.sl true 1 p.length ((mixL (crashF p h kept) p i).map T.str), .sl true 1 h.length ((mixL (fun _ => e0) h i).map T.str), (.sl true 1 b.length (b.map T.bool))]), (5, .bx true [.sl true 0 0 [], .sl true 0 0 [], .sl true 0 0 []]), (3, (.sl false 1 kept.length (kept.map (T.int .i64))))], [.agg [.hs 4 [0] 0 1 p.length, .hs 4 [1] 0 1 h.length, .hs 4 [2] 0 1 b.length], .one (.hs 3 [] 0 1 kept.length)]⟩) (fun i => True) ?_ trivial ?_
  · exact (imp_sub (by simp (maxSteps := 9000000) -implicitDefEqProofs -dsimp (disch := omega) only [go_sem, g75_0, g75_1, g75_2, g75_3, g75_4, g75_5, g75_6, g75_7, g75_8, i75, mixL_0, he, Nat.reduceEqDiff, Nat.reduceAdd, Nat.reduceMul, Nat.reduceLeDiff, Nat.reduceBEq, Nat.reduceBNe, Int.reduceEq, ↓reduceIte, reduceCtorEq]) (by simp (maxSteps := 9000000) -implicitDefEqProofs -dsimp (disch := omega) only [go_sem, g75_0, g75_1, g75_2, g75_3, g75_4, g75_5, g75_6, g75_7, g75_8, i75, mixL_0, he, Nat.reduceEqDiff, Nat.reduceAdd, Nat.reduceMul, Nat.reduceLeDiff, Nat.reduceBEq, Nat.reduceBNe, Int.reduceEq, ↓reduceIte, reduceCtorEq]) rfl)
  · intro i hi hJ
    have q1 := mixL_len (g := crashF p h kept) (a := p) (i := i)
    have q2 := mixL_len (g := fun _ => e0) (a := h) (i := i)
    simp (maxSteps := 9000000) -implicitDefEqProofs -dsimp (disch := omega) only [go_sem, g75_0, g75_1, g75_2, g75_3, g75_4, g75_5, g75_6, g75_7, g75_8, i75, Nat.reduceEqDiff, Nat.reduceAdd, Nat.reduceMul, Nat.reduceLeDiff, Nat.reduceBEq, Nat.reduceBNe, Int.reduceEq, ↓reduceIte, reduceCtorEq]
    refine brP_i (fun h1 => ?_) (fun h1 => ?_)
    · have g2 := mixL_get (g := fun _ => e0) (a := h) (i := i) (by omega)
      have s2 := mixL_set (g := fun _ => e0) (a := h) (i := i) (by omega)
      simp (maxSteps := 9000000) -implicitDefEqProofs -dsimp (disch := omega) only [go_sem, g75_0, g75_1, g75_2, g75_3, g75_4, g75_5, g75_6, g75_7, g75_8, i75, g2, Nat.reduceEqDiff, Nat.reduceAdd, Nat.reduceMul, Nat.reduceLeDiff, Nat.reduceBEq, Nat.reduceBNe, Int.reduceEq, ↓reduceIte, reduceCtorEq]
      refine call_go true (l1Has_ok kept i (by omega)) ?_
      by_cases hm : (i : Int) ∈ kept
      · have s1 := mixL_set (g := crashF p h kept) (a := p) (i := i) (by omega)
        have s0 : crashF p h kept i = h.getD i default := if_pos hm
        rw [s0] at s1
        simp (maxSteps := 9000000) -implicitDefEqProofs -dsimp (disch := omega) only [go_sem, g75_0, g75_1, g75_2, g75_3, g75_4, g75_5, g75_6, g75_7, g75_8, i75, hm, g2, Nat.reduceEqDiff, Nat.reduceAdd, Nat.reduceMul, Nat.reduceLeDiff, Nat.reduceBEq, Nat.reduceBNe, Int.reduceEq, ↓reduceIte, reduceCtorEq]
        exact ⟨by omega, (imp_sub (by simp (maxSteps := 9000000) -implicitDefEqProofs -dsimp (disch := omega) only [go_sem, g75_0, g75_1, g75_2, g75_3, g75_4, g75_5, g75_6, g75_7, g75_8, i75, s1, s2, Nat.reduceEqDiff, Nat.reduceAdd, Nat.reduceMul, Nat.reduceLeDiff, Nat.reduceBEq, Nat.reduceBNe, Int.reduceEq, ↓reduceIte, reduceCtorEq]) (by simp (maxSteps := 9000000) -implicitDefEqProofs -dsimp (disch := omega) only [go_sem, g75_0, g75_1, g75_2, g75_3, g75_4, g75_5, g75_6, g75_7, g75_8, i75, s1, s2, Nat.reduceEqDiff, Nat.reduceAdd, Nat.reduceMul, Nat.reduceLeDiff, Nat.reduceBEq, Nat.reduceBNe, Int.reduceEq, ↓reduceIte, reduceCtorEq]) rfl)⟩
      · have s1 := mixL_keep (g := crashF p h kept) (a := p) (i := i) (if_neg hm)
        simp (maxSteps := 9000000) -implicitDefEqProofs -dsimp (disch := omega) only [go_sem, g75_0, g75_1, g75_2, g75_3, g75_4, g75_5, g75_6, g75_7, g75_8, i75, hm, g2, Nat.reduceEqDiff, Nat.reduceAdd, Nat.reduceMul, Nat.reduceLeDiff, Nat.reduceBEq, Nat.reduceBNe, Int.reduceEq, ↓reduceIte, reduceCtorEq]
        exact ⟨by omega, (imp_sub (by simp (maxSteps := 9000000) -implicitDefEqProofs -dsimp (disch := omega) only [go_sem, g75_0, g75_1, g75_2, g75_3, g75_4, g75_5, g75_6, g75_7, g75_8, i75, s1, s2, Nat.reduceEqDiff, Nat.reduceAdd, Nat.reduceMul, Nat.reduceLeDiff, Nat.reduceBEq, Nat.reduceBNe, Int.reduceEq, ↓reduceIte, reduceCtorEq]) (by simp (maxSteps := 9000000) -implicitDefEqProofs -dsimp (disch := omega) only [go_sem, g75_0, g75_1, g75_2, g75_3, g75_4, g75_5, g75_6, g75_7, g75_8, i75, s1, s2, Nat.reduceEqDiff, Nat.reduceAdd, Nat.reduceMul, Nat.reduceLeDiff, Nat.reduceBEq, Nat.reduceBNe, Int.reduceEq, ↓reduceIte, reduceCtorEq]) rfl)⟩
    · obtain rfl : i = p.length := by omega
      have e1 : mixL (crashF p h kept) p p.length = crashP p h kept := mixL_end
      have e2 : mixL (fun _ => e0) h p.length = crashH h := by rw [← he]; exact mixL_end
      have l1 : (crashP p h kept).length = p.length := by simp [crashP]
      have l2 : (crashH h).length = h.length := by simp [crashH]
      simp (maxSteps := 9000000) -implicitDefEqProofs -dsimp (disch := omega) only [go_sem, g75_0, g75_1, g75_2, g75_3, g75_4, g75_5, g75_6, g75_7, g75_8, i75, e1, e2, l1, l2, Nat.reduceEqDiff, Nat.reduceAdd, Nat.reduceMul, Nat.reduceLeDiff, Nat.reduceBEq, Nat.reduceBNe, Int.reduceEq, ↓reduceIte, reduceCtorEq]
def g78_0 : List Gop := [⟨none, (some 2), (.box (.t 0))⟩, ⟨none, (some 4), (.alloc [.nil, .nil, .nil])⟩]
def g78_1 : List Gop := [⟨none, (some 7), (.load (some 3) (.t 2))⟩, ⟨none, (some 8), (.call 93 [(.t 7)])⟩, ⟨none, (some 5), (.alloc [.nil, .nil, .nil])⟩, ⟨none, none, (.store 3 (.t 5) (.t 8))⟩]
def g78_2 : List Gop := [⟨none, (some 9), (.faddr (.t 5) 1)⟩, ⟨none, (some 10), (.load none (.t 9))⟩, ⟨none, (some 11), (.len (.t 10))⟩, ⟨none, (some 12), (.mov (.k (.one (.int .i64 0))))⟩]
def g78_3 : List Gop := [⟨none, (some 13), (.bin .lss (.t 12) (.t 11))⟩]
def g78_4 : List Gop := [⟨none, (some 14), (.mov (.t 12))⟩, ⟨none, (some 6), (.mov (.t 14))⟩]
def g78_5 : List Gop := [⟨none, (some 15), (.mov (.t 1))⟩, ⟨none, (some 16), (.mov (.t 6))⟩, ⟨none, (some 17), (.call 94 [(.t 15), (.t 16)])⟩]
def g78_6 : List Gop := [⟨none, (some 18), (.faddr (.t 5) 0)⟩, ⟨none, (some 19), (.load none (.t 18))⟩, ⟨none, (some 20), (.mov (.t 6))⟩, ⟨none, (some 21), (.faddr (.t 5) 1)⟩, ⟨none, (some 22), (.load none (.t 21))⟩, ⟨none, (some 23), (.mov (.t 6))⟩, ⟨none, (some 24), (.iaddr 1 (.t 22) (.t 23))⟩, ⟨none, (some 25), (.load none (.t 24))⟩, ⟨none, (some 26), (.iaddr 1 (.t 19) (.t 20))⟩, ⟨none, none, (.store 1 (.t 26) (.t 25))⟩]
def a78_6 : List (List Nat) := [[], [0], [], [], [3], [], [3, 4, 5], [3, 4, 5, 6], [0, 1, 2, 3, 4, 5, 6, 7], [0, 1, 2, 3, 4, 5, 6, 7, 8]]
def n78_6 : Nat := 8 -- of 10
def g78_7 : List Gop := [⟨none, (some 27), (.faddr (.t 5) 1)⟩, ⟨none, (some 28), (.load none (.t 27))⟩, ⟨none, (some 29), (.mov (.t 6))⟩, ⟨none, (some 30), (.iaddr 1 (.t 28) (.t 29))⟩, ⟨none, none, (.store 1 (.t 30) (.k (.one (.str ⟨#[]⟩))))⟩]
def g78_8 : List Gop := [⟨none, (some 31), (.bin .add (.t 12) (.k (.one (.int .i64 1))))⟩, ⟨none, (some 12), (.mov (.t 31))⟩]
def g78_9 : List Gop := [⟨none, (some 32), (.load (some 3) (.t 5))⟩, ⟨none, none, (.store 3 (.t 4) (.t 32))⟩]
def i78 : Ir := (.seq (.region g78_0) (.seq (.region g78_1) (.seq (.seq (.region g78_2) (.block 0 (.loop (.seq (.region g78_3) (.seq (.cond (.t 13) .skip (.exit 0)) (.seq (.block 1 (.seq (.region g78_4) (.seq (.seq (.region g78_5) (.cond (.t 17) (.draw [[], [0], [], [], [3], [], [4, 5], [6], [1, 2, 0, 1, 2, 3, 4, 5, 6, 7], [8, 7, 0, 1, 2, 3, 4, 5, 6, 7]] g78_6) .skip)) (.region g78_7)))) (.region g78_8))))))) (.seq (.region g78_9) .ret))))
theorem crashed_ok (p h : List ByteArray) (b : List Bool) (kept : List Int) (hz : b ≠ []) (hb : b.length ≤ 1048576) (hp : p.length ≤ 1048576) (he : h.length = p.length) (hk : kept.length ≤ 1048576) : Meets Try.prog 78 [.agg [(.sl false 1 p.length (p.map T.str)), (.sl false 1 h.length (h.map T.str)), (.sl false 1 b.length (b.map T.bool))], .one (.sl false 1 kept.length (kept.map (T.int .i64)))] (.w (.agg [(.sl true 1 (crashP p h kept).length ((crashP p h kept).map T.str)), (.sl true 1 (crashH h).length ((crashH h).map T.str)), (.sl true 1 b.length (b.map T.bool))])) [.agg [.hole, .hole, .hole], .one .hole] := by
  refine meets_go (ir := i78) (fn := Try.f78) (rx := [(.cell 4 (some 3))]) rfl rfl (by rfl) (by rfl) (by exact Nat.le_of_ble_eq_true rfl) ?_
  simp (maxSteps := 9000000) -implicitDefEqProofs -dsimp (disch := omega) only [go_sem, g78_0, g78_1, g78_2, g78_3, g78_4, g78_5, g78_6, a78_6, n78_6, g78_7, g78_8, g78_9, i78, Nat.reduceEqDiff, Nat.reduceAdd, Nat.reduceMul, Nat.reduceLeDiff, Nat.reduceBEq, Nat.reduceBNe, Int.reduceEq, ↓reduceIte, reduceCtorEq]
  refine call_go true (ownDisk_ok p h b hz hp (by omega) hb) ?_
  simp (maxSteps := 9000000) -implicitDefEqProofs -dsimp (disch := omega) only [go_sem, g78_0, g78_1, g78_2, g78_3, g78_4, g78_5, g78_6, a78_6, n78_6, g78_7, g78_8, g78_9, i78, Nat.reduceEqDiff, Nat.reduceAdd, Nat.reduceMul, Nat.reduceLeDiff, Nat.reduceBEq, Nat.reduceBNe, Int.reduceEq, ↓reduceIte, reduceCtorEq]
  refine loop_n p.length (fun i => ⟨[(12, .w (.one (.int .i64 (i : Nat)))), (11, .w (.one (.int .i64 p.length))), (10, .w (.one (.hs 9 [1] 0 1 h.length))), (4, .w (.one (.hp 5 [] 0))), (5, .w (.one (.hp 9 [] 0))), (1, .w (.one (.hs 3 [] 0 1 kept.length)))],
    [(9, .bx true [.sl true 1 p.length ((mixL (crashF p h kept) p i).map T.str), .sl true 1 h.length ((mixL (fun _ => e0) h i).map T.str), (.sl true 1 b.length (b.map T.bool))]), (5, .bx true [.sl true 0 0 [], .sl true 0 0 [], .sl true 0 0 []]), (3, (.sl false 1 kept.length (kept.map (T.int .i64))))], [.agg [.hs 0 [] 0 1 p.length, .hs 1 [] 0 1 h.length, .hs 2 [] 0 1 b.length], .one (.hs 3 [] 0 1 kept.length)]⟩) (fun i => True) ?_ trivial ?_
  · exact (imp_sub (by simp (maxSteps := 9000000) -implicitDefEqProofs -dsimp (disch := omega) only [go_sem, g78_0, g78_1, g78_2, g78_3, g78_4, g78_5, g78_6, a78_6, n78_6, g78_7, g78_8, g78_9, i78, mixL_0, he, Nat.reduceEqDiff, Nat.reduceAdd, Nat.reduceMul, Nat.reduceLeDiff, Nat.reduceBEq, Nat.reduceBNe, Int.reduceEq, ↓reduceIte, reduceCtorEq]) (by simp (maxSteps := 9000000) -implicitDefEqProofs -dsimp (disch := omega) only [go_sem, g78_0, g78_1, g78_2, g78_3, g78_4, g78_5, g78_6, a78_6, n78_6, g78_7, g78_8, g78_9, i78, mixL_0, he, Nat.reduceEqDiff, Nat.reduceAdd, Nat.reduceMul, Nat.reduceLeDiff, Nat.reduceBEq, Nat.reduceBNe, Int.reduceEq, ↓reduceIte, reduceCtorEq]) rfl)
  · intro i hi hJ
    have q1 := mixL_len (g := crashF p h kept) (a := p) (i := i)
    have q2 := mixL_len (g := fun _ => e0) (a := h) (i := i)
    simp (maxSteps := 9000000) -implicitDefEqProofs -dsimp (disch := omega) only [go_sem, g78_0, g78_1, g78_2, g78_3, g78_4, g78_5, g78_6, a78_6, n78_6, g78_7, g78_8, g78_9, i78, Nat.reduceEqDiff, Nat.reduceAdd, Nat.reduceMul, Nat.reduceLeDiff, Nat.reduceBEq, Nat.reduceBNe, Int.reduceEq, ↓reduceIte, reduceCtorEq]
    refine brP_i (fun h1 => ?_) (fun h1 => ?_)
    · have g2 := mixL_get (g := fun _ => e0) (a := h) (i := i) (by omega)
      have s2 := mixL_set (g := fun _ => e0) (a := h) (i := i) (by omega)
      simp (maxSteps := 9000000) -implicitDefEqProofs -dsimp (disch := omega) only [go_sem, g78_0, g78_1, g78_2, g78_3, g78_4, g78_5, g78_6, a78_6, n78_6, g78_7, g78_8, g78_9, i78, g2, Nat.reduceEqDiff, Nat.reduceAdd, Nat.reduceMul, Nat.reduceLeDiff, Nat.reduceBEq, Nat.reduceBNe, Int.reduceEq, ↓reduceIte, reduceCtorEq]
      refine call_go true (contains_ok kept i (by omega)) ?_
      by_cases hm : (i : Int) ∈ kept
      · have s1 := mixL_set (g := crashF p h kept) (a := p) (i := i) (by omega)
        have s0 : crashF p h kept i = h.getD i default := if_pos hm
        rw [s0] at s1
        simp (maxSteps := 9000000) -implicitDefEqProofs -dsimp (disch := omega) only [go_sem, g78_0, g78_1, g78_2, g78_3, g78_4, g78_5, g78_6, a78_6, n78_6, g78_7, g78_8, g78_9, i78, hm, g2, Nat.reduceEqDiff, Nat.reduceAdd, Nat.reduceMul, Nat.reduceLeDiff, Nat.reduceBEq, Nat.reduceBNe, Int.reduceEq, ↓reduceIte, reduceCtorEq]
        refine draw_go n78_6 a78_6 (by decide +kernel) ?_
        simp (maxSteps := 9000000) -implicitDefEqProofs -dsimp (disch := omega) only [go_sem, g78_0, g78_1, g78_2, g78_3, g78_4, g78_5, g78_6, a78_6, n78_6, g78_7, g78_8, g78_9, i78, g2, Nat.reduceEqDiff, Nat.reduceAdd, Nat.reduceMul, Nat.reduceLeDiff, Nat.reduceBEq, Nat.reduceBNe, Int.reduceEq, ↓reduceIte, reduceCtorEq]
        exact ⟨by omega, (imp_sub (by simp (maxSteps := 9000000) -implicitDefEqProofs -dsimp (disch := omega) only [go_sem, g78_0, g78_1, g78_2, g78_3, g78_4, g78_5, g78_6, a78_6, n78_6, g78_7, g78_8, g78_9, i78, s1, s2, Nat.reduceEqDiff, Nat.reduceAdd, Nat.reduceMul, Nat.reduceLeDiff, Nat.reduceBEq, Nat.reduceBNe, Int.reduceEq, ↓reduceIte, reduceCtorEq]) (by simp (maxSteps := 9000000) -implicitDefEqProofs -dsimp (disch := omega) only [go_sem, g78_0, g78_1, g78_2, g78_3, g78_4, g78_5, g78_6, a78_6, n78_6, g78_7, g78_8, g78_9, i78, s1, s2, Nat.reduceEqDiff, Nat.reduceAdd, Nat.reduceMul, Nat.reduceLeDiff, Nat.reduceBEq, Nat.reduceBNe, Int.reduceEq, ↓reduceIte, reduceCtorEq]) rfl)⟩
      · have s1 := mixL_keep (g := crashF p h kept) (a := p) (i := i) (if_neg hm)
        simp (maxSteps := 9000000) -implicitDefEqProofs -dsimp (disch := omega) only [go_sem, g78_0, g78_1, g78_2, g78_3, g78_4, g78_5, g78_6, a78_6, n78_6, g78_7, g78_8, g78_9, i78, hm, g2, Nat.reduceEqDiff, Nat.reduceAdd, Nat.reduceMul, Nat.reduceLeDiff, Nat.reduceBEq, Nat.reduceBNe, Int.reduceEq, ↓reduceIte, reduceCtorEq]
        exact ⟨by omega, (imp_sub (by simp (maxSteps := 9000000) -implicitDefEqProofs -dsimp (disch := omega) only [go_sem, g78_0, g78_1, g78_2, g78_3, g78_4, g78_5, g78_6, a78_6, n78_6, g78_7, g78_8, g78_9, i78, s1, s2, Nat.reduceEqDiff, Nat.reduceAdd, Nat.reduceMul, Nat.reduceLeDiff, Nat.reduceBEq, Nat.reduceBNe, Int.reduceEq, ↓reduceIte, reduceCtorEq]) (by simp (maxSteps := 9000000) -implicitDefEqProofs -dsimp (disch := omega) only [go_sem, g78_0, g78_1, g78_2, g78_3, g78_4, g78_5, g78_6, a78_6, n78_6, g78_7, g78_8, g78_9, i78, s1, s2, Nat.reduceEqDiff, Nat.reduceAdd, Nat.reduceMul, Nat.reduceLeDiff, Nat.reduceBEq, Nat.reduceBNe, Int.reduceEq, ↓reduceIte, reduceCtorEq]) rfl)⟩
    · obtain rfl : i = p.length := by omega
      have e1 : mixL (crashF p h kept) p p.length = crashP p h kept := mixL_end
      have e2 : mixL (fun _ => e0) h p.length = crashH h := by rw [← he]; exact mixL_end
      have l1 : (crashP p h kept).length = p.length := by simp [crashP]
      have l2 : (crashH h).length = h.length := by simp [crashH]
      simp (maxSteps := 9000000) -implicitDefEqProofs -dsimp (disch := omega) only [go_sem, g78_0, g78_1, g78_2, g78_3, g78_4, g78_5, g78_6, a78_6, n78_6, g78_7, g78_8, g78_9, i78, e1, e2, l1, l2, Nat.reduceEqDiff, Nat.reduceAdd, Nat.reduceMul, Nat.reduceLeDiff, Nat.reduceBEq, Nat.reduceBNe, Int.reduceEq, ↓reduceIte, reduceCtorEq]
end Go.Proofs.YtjlodcoeegpkaaaT

/- Functions of the program as contracts: steps of a disk. No condition. -/
set_option maxRecDepth 100000
set_option maxHeartbeats 4000000
set_option linter.unusedSimpArgs false
set_option linter.unusedVariables false
namespace Go.Proofs.YtjlodcoeegpkaaaT
open Go
theorem take_le {α : Type} {f : α → T} {l : List α} {n : Nat} (h : l.length ≤ n) : List.take n (l.map f) = l.map f := List.take_of_length_le (by simpa using h)
theorem cut_set {α : Type} {f : α → T} {l : List α} {i : Nat} {x : α} : cut ((l.set i x).map f) 0 l.length = (l.set i x).map f := cut_le (by simp)
attribute [go_sem] take_le cut_set
def rotG (s m : ByteArray) (j : Nat) : UInt8 := s.data.toList.getD j default ^^^ m.data.toList.getD j default
def rotN (s m : ByteArray) (i : Nat) : List UInt8 := mixL (rotG s m) s.data.toList i
def rotF (s m : ByteArray) : ByteArray := ⟨(rotN s m m.size).toArray⟩
theorem rotN_len {s m : ByteArray} {i : Nat} : (rotN s m i).length = s.size := by rw [rotN, mixL_len, ba_len]
theorem rotF_size {s m : ByteArray} : (rotF s m).size = s.size := by
  show (rotN s m m.size).toArray.size = _
  simp [rotN_len]
def g98_0 : List Gop := [⟨none, (some 4), (.mov (.k (.one (.str ⟨#[]⟩))))⟩]
def g98_1 : List Gop := [⟨none, (some 7), (.mov (.t 0))⟩, ⟨none, (some 8), (.cvb (.t 7))⟩, ⟨none, (some 5), (.mov (.t 8))⟩]
def g98_2 : List Gop := [⟨none, (some 6), (.mov (.k (.one (.int .i64 0))))⟩]
def g98_3 : List Gop := [⟨none, (some 9), (.mov (.t 6))⟩, ⟨none, (some 10), (.mov (.t 1))⟩, ⟨none, (some 11), (.lent (.t 10))⟩, ⟨none, (some 12), (.bin .lss (.t 9) (.t 11))⟩]
def g98_4 : List Gop := [⟨none, (some 15), (.mov (.t 5))⟩, ⟨none, (some 16), (.mov (.t 6))⟩, ⟨none, (some 17), (.iaddr 1 (.t 15) (.t 16))⟩, ⟨none, (some 18), (.load none (.t 17))⟩, ⟨none, (some 19), (.mov (.t 1))⟩, ⟨none, (some 20), (.mov (.t 6))⟩, ⟨none, (some 21), (.at (.t 19) (.t 20))⟩, ⟨none, (some 22), (.bin .xor (.t 18) (.t 21))⟩, ⟨none, (some 23), (.iaddr 1 (.t 15) (.t 16))⟩, ⟨none, none, (.store 1 (.t 23) (.t 22))⟩]
def a98_4 : List (List Nat) := [[], [], [0, 1], [0, 1, 2], [], [], [4, 5], [0, 1, 2, 3, 4, 5, 6], [0, 1, 2, 3, 4, 5, 6, 7], [0, 1, 2, 3, 4, 5, 6, 7, 8]]
def n98_4 : Nat := 7 -- of 10
def g98_5 : List Gop := [⟨none, (some 13), (.mov (.t 6))⟩, ⟨none, (some 14), (.bin .add (.t 13) (.k (.one (.int .i64 1))))⟩, ⟨none, (some 6), (.mov (.t 14))⟩]
def g98_6 : List Gop := [⟨none, (some 24), (.mov (.t 5))⟩, ⟨none, (some 25), (.cvs (.t 24))⟩, ⟨none, (some 4), (.mov (.t 25))⟩]
def i98 : Ir := (.seq (.region g98_0) (.seq (.region g98_1) (.seq (.seq (.region g98_2) (.block 0 (.loop (.seq (.seq (.region g98_3) (.cond (.t 12) .skip (.exit 0))) (.seq (.block 1 (.draw [[], [], [0, 1], [2], [], [], [4, 5], [3, 6], [0, 1, 0, 1, 2, 3, 4, 5, 6, 7], [8, 7, 0, 1, 2, 3, 4, 5, 6, 7]] g98_4)) (.region g98_5)))))) (.seq (.region g98_6) .ret))))
theorem l7Rot_ok (s m : ByteArray) (hs : s.size ≤ 1048576) (hm : m.size ≤ s.size) : Meets Try.prog 98 [.one (.str s), .one (.str m)] (.w (.one (.str (rotF s m)))) [.one .hole, .one .hole] := by
  refine meets_go (ir := i98) (fn := Try.f98) (rx := [(.tmp 4)]) rfl rfl (by rfl) (by rfl) (by exact Nat.le_of_ble_eq_true rfl) ?_
  simp (maxSteps := 9000000) -implicitDefEqProofs -dsimp (disch := omega) only [go_sem, g98_0, g98_1, g98_2, g98_3, g98_4, a98_4, n98_4, g98_5, g98_6, i98, Nat.reduceEqDiff, Nat.reduceAdd, Nat.reduceMul, Nat.reduceLeDiff, Nat.reduceBEq, Nat.reduceBNe, Int.reduceEq, ↓reduceIte, reduceCtorEq]
  refine loop_n m.size (fun i => ⟨[(6, .w (.one (.int .i64 (i : Nat)))), (5, .w (.one (.hs 0 [] 0 1 s.size))), (1, .w (.one (.str m))), (0, .w (.one (.str s)))],
    [(0, .sl true 1 s.size ((rotN s m i).map fun c => T.int .u8 (c.toNat : Int)))], [.one (.str s), .one (.str m)]⟩) (fun i => True) ?_ trivial ?_
  · have e : rotN s m 0 = s.data.toList := mixL_0
    exact (imp_sub (by simp (maxSteps := 9000000) -implicitDefEqProofs -dsimp (disch := omega) only [go_sem, g98_0, g98_1, g98_2, g98_3, g98_4, a98_4, n98_4, g98_5, g98_6, i98, e, Nat.reduceEqDiff, Nat.reduceAdd, Nat.reduceMul, Nat.reduceLeDiff, Nat.reduceBEq, Nat.reduceBNe, Int.reduceEq, ↓reduceIte, reduceCtorEq]) (by simp (maxSteps := 9000000) -implicitDefEqProofs -dsimp (disch := omega) only [go_sem, g98_0, g98_1, g98_2, g98_3, g98_4, a98_4, n98_4, g98_5, g98_6, i98, e, Nat.reduceEqDiff, Nat.reduceAdd, Nat.reduceMul, Nat.reduceLeDiff, Nat.reduceBEq, Nat.reduceBNe, Int.reduceEq, ↓reduceIte, reduceCtorEq]) rfl)
  · intro i hi _
    have q := rotN_len (s := s) (m := m) (i := i)
    simp (maxSteps := 9000000) -implicitDefEqProofs -dsimp (disch := omega) only [go_sem, g98_0, g98_1, g98_2, g98_3, g98_4, a98_4, n98_4, g98_5, g98_6, i98, Nat.reduceEqDiff, Nat.reduceAdd, Nat.reduceMul, Nat.reduceLeDiff, Nat.reduceBEq, Nat.reduceBNe, Int.reduceEq, ↓reduceIte, reduceCtorEq]
    refine brP_i (fun h1 => ?_) (fun h1 => ?_)
    · have g1 : (rotN s m i).getD i default = s.data.toList.getD i default := mixL_get (by rw [ba_len]; omega)
      have s1 : (rotN s m i).set i (s.data.toList.getD i default ^^^ m.data.toList.getD i default) = rotN s m (i + 1) := mixL_set (g := rotG s m) (by rw [ba_len]; omega)
      refine draw_go n98_4 a98_4 (by decide +kernel) ?_
      simp (maxSteps := 9000000) -implicitDefEqProofs -dsimp (disch := omega) only [go_sem, g98_0, g98_1, g98_2, g98_3, g98_4, a98_4, n98_4, g98_5, g98_6, i98, g1, Nat.reduceEqDiff, Nat.reduceAdd, Nat.reduceMul, Nat.reduceLeDiff, Nat.reduceBEq, Nat.reduceBNe, Int.reduceEq, ↓reduceIte, reduceCtorEq]
      exact ⟨by omega, (imp_sub (by simp (maxSteps := 9000000) -implicitDefEqProofs -dsimp (disch := omega) only [go_sem, g98_0, g98_1, g98_2, g98_3, g98_4, a98_4, n98_4, g98_5, g98_6, i98, s1, Nat.reduceEqDiff, Nat.reduceAdd, Nat.reduceMul, Nat.reduceLeDiff, Nat.reduceBEq, Nat.reduceBNe, Int.reduceEq, ↓reduceIte, reduceCtorEq]) (by simp (maxSteps := 9000000) -implicitDefEqProofs -dsimp (disch := omega) only [go_sem, g98_0, g98_1, g98_2, g98_3, g98_4, a98_4, n98_4, g98_5, g98_6, i98, s1, Nat.reduceEqDiff, Nat.reduceAdd, Nat.reduceMul, Nat.reduceLeDiff, Nat.reduceBEq, Nat.reduceBNe, Int.reduceEq, ↓reduceIte, reduceCtorEq]) rfl)⟩
    · obtain rfl : i = m.size := by omega
      have e : rotF s m = ⟨(rotN s m m.size).toArray⟩ := rfl
      simp (maxSteps := 9000000) -implicitDefEqProofs -dsimp (disch := omega) only [go_sem, g98_0, g98_1, g98_2, g98_3, g98_4, a98_4, n98_4, g98_5, g98_6, i98, cells, e, Nat.reduceEqDiff, Nat.reduceAdd, Nat.reduceMul, Nat.reduceLeDiff, Nat.reduceBEq, Nat.reduceBNe, Int.reduceEq, ↓reduceIte, reduceCtorEq]
def onlyP (a : Int) (text : ByteArray) (kept : List Int) (b1 b2 b3 : Bool) : Prop := (b1 = true ∨ a = 0) ∧ (b2 = true ∨ text = e0) ∧ (b3 = true ∨ kept.length = 0)
instance (a : Int) (text : ByteArray) (kept : List Int) (b1 b2 b3 : Bool) : Decidable (onlyP a text kept b1 b2 b3) := by unfold onlyP; infer_instance
/-- a step: what becomes of the disk -/
structure Dk where
  p : List ByteArray
  h : List ByteArray
  b : List Bool
  ok : Bool
noncomputable def stepF (p h : List ByteArray) (b : List Bool) (k a : Int) (text : ByteArray) (kept : List Int) : Dk := by
  classical exact
  if k = 2 ∨ k = 3 then
    (if a = 0 ∧ text = e0 ∧ (k = 2 → kept.length = 0) ∧ KeptOk h kept then ⟨crashP p h (if k = 2 then heldN h h.length else kept), crashH h, b, true⟩ else ⟨p, h, b, false⟩)
  else if (0 ≤ a ∧ a < p.length) ∧ kept.length = 0 then
    (if k = 1 ∧ b.getD a.toNat default = false ∧ 1 ≤ text.size ∧ text.size ≤ 28 then ⟨p, h.set a.toNat text, b, true⟩
    else if k = 4 ∧ h.getD a.toNat default = e0 ∧ ¬ p.getD a.toNat default = e0 ∧ 1 ≤ text.size ∧ text.size ≤ (p.getD a.toNat default).size then ⟨p.set a.toNat (rotF (p.getD a.toNat default) text), h, b, true⟩
    else if k = 5 ∧ text = e0 then ⟨p, h.set a.toNat e0, b.set a.toNat true, true⟩
    else if k = 6 ∧ text = e0 ∧ b.getD a.toNat default = true then ⟨p.set a.toNat e0, h, b.set a.toNat false, true⟩
    else ⟨p, h, b, false⟩)
  else ⟨p, h, b, false⟩
def g86_0 : List Gop := [⟨none, (some 2), (.box (.t 0))⟩, ⟨none, (some 3), (.box (.t 1))⟩, ⟨none, (some 4), (.alloc [.nil, .nil, .nil])⟩, ⟨none, (some 5), (.mov (.k (.one (.bool .false))))⟩]
def g86_1 : List Gop := [⟨none, (some 6), (.faddr (.t 3) 0)⟩, ⟨none, (some 7), (.load none (.t 6))⟩, ⟨none, (some 8), (.bin .eql (.t 7) (.k (.one (.int .i64 2))))⟩, ⟨none, (some 9), (.mov (.t 8))⟩, ⟨(some (9, .false)), (some 10), (.faddr (.t 3) 0)⟩, ⟨(some (9, .false)), (some 11), (.load none (.t 10))⟩, ⟨(some (9, .false)), (some 12), (.bin .eql (.t 11) (.k (.one (.int .i64 3))))⟩, ⟨none, (some 13), (.pick (.t 9) (.k (.one (.bool .true))) (.t 12))⟩]
def g86_2 : List Gop := [⟨none, (some 14), (.faddr (.t 3) 1)⟩, ⟨none, (some 15), (.load none (.t 14))⟩, ⟨none, (some 16), (.bin .neq (.t 15) (.k (.one (.int .i64 0))))⟩, ⟨none, (some 17), (.mov (.t 16))⟩, ⟨(some (17, .false)), (some 18), (.faddr (.t 3) 2)⟩, ⟨(some (17, .false)), (some 19), (.load none (.t 18))⟩, ⟨(some (17, .false)), (some 20), (.bin .neq (.t 19) (.k (.one (.str ⟨#[]⟩))))⟩, ⟨none, (some 21), (.pick (.t 17) (.k (.one (.bool .true))) (.t 20))⟩, ⟨none, (some 22), (.mov (.t 21))⟩, ⟨(some (22, .false)), (some 23), (.faddr (.t 3) 0)⟩, ⟨(some (22, .false)), (some 24), (.load none (.t 23))⟩, ⟨(some (22, .false)), (some 25), (.bin .eql (.t 24) (.k (.one (.int .i64 2))))⟩, ⟨(some (22, .false)), (some 26), (.mov (.t 25))⟩, ⟨(some (26, .true)), (some 27), (.faddr (.t 3) 3)⟩, ⟨(some (26, .true)), (some 28), (.load none (.t 27))⟩, ⟨(some (26, .true)), (some 29), (.len (.t 28))⟩, ⟨(some (26, .true)), (some 30), (.bin .gtr (.t 29) (.k (.one (.int .i64 0))))⟩, ⟨(some (22, .false)), (some 31), (.pick (.t 26) (.t 30) (.k (.one (.bool .false))))⟩, ⟨none, (some 32), (.pick (.t 22) (.k (.one (.bool .true))) (.t 31))⟩, ⟨none, (some 33), (.mov (.t 32))⟩, ⟨(some (33, .false)), (some 34), (.load (some 3) (.t 2))⟩, ⟨(some (33, .false)), (some 35), (.faddr (.t 3) 3)⟩, ⟨(some (33, .false)), (some 36), (.load none (.t 35))⟩, ⟨(some (33, .false)), (some 37), (.call 74 [(.t 34), (.t 36)])⟩, ⟨(some (33, .false)), (some 38), (.un .not (.t 37))⟩, ⟨none, (some 39), (.pick (.t 33) (.k (.one (.bool .true))) (.t 38))⟩]
def g86_3 : List Gop := [⟨none, (some 40), (.load (some 3) (.t 2))⟩, ⟨none, none, (.store 3 (.t 4) (.t 40))⟩, ⟨none, (some 5), (.mov (.k (.one (.bool .false))))⟩]
def g86_4 : List Gop := [⟨none, (some 41), (.faddr (.t 3) 0)⟩, ⟨none, (some 42), (.load none (.t 41))⟩, ⟨none, (some 43), (.bin .eql (.t 42) (.k (.one (.int .i64 2))))⟩]
def g86_5 : List Gop := [⟨none, (some 44), (.load (some 3) (.t 2))⟩, ⟨none, (some 45), (.load (some 3) (.t 2))⟩, ⟨none, (some 46), (.call 72 [(.t 45)])⟩, ⟨none, (some 47), (.call 75 [(.t 44), (.t 46)])⟩, ⟨none, none, (.store 3 (.t 4) (.t 47))⟩, ⟨none, (some 5), (.mov (.k (.one (.bool .true))))⟩]
def a86_5 : List (List Nat) := [[], [], [1], [0, 1, 2], [0, 1, 2, 3], [0, 1, 2, 3, 4]]
def n86_5 : Nat := 3 -- of 6
def g86_6 : List Gop := [⟨none, (some 48), (.load (some 3) (.t 2))⟩, ⟨none, (some 49), (.faddr (.t 3) 3)⟩, ⟨none, (some 50), (.load none (.t 49))⟩, ⟨none, (some 51), (.call 75 [(.t 48), (.t 50)])⟩, ⟨none, none, (.store 3 (.t 4) (.t 51))⟩, ⟨none, (some 5), (.mov (.k (.one (.bool .true))))⟩]
def g86_7 : List Gop := [⟨none, (some 52), (.load (some 3) (.t 2))⟩, ⟨none, (some 53), (.faddr (.t 3) 1)⟩, ⟨none, (some 54), (.load none (.t 53))⟩, ⟨none, (some 55), (.call 69 [(.t 52), (.t 54)])⟩, ⟨none, (some 56), (.un .not (.t 55))⟩, ⟨none, (some 57), (.mov (.t 56))⟩, ⟨(some (57, .false)), (some 58), (.faddr (.t 3) 3)⟩, ⟨(some (57, .false)), (some 59), (.load none (.t 58))⟩, ⟨(some (57, .false)), (some 60), (.len (.t 59))⟩, ⟨(some (57, .false)), (some 61), (.bin .gtr (.t 60) (.k (.one (.int .i64 0))))⟩, ⟨none, (some 62), (.pick (.t 57) (.k (.one (.bool .true))) (.t 61))⟩]
def g86_8 : List Gop := [⟨none, (some 63), (.load (some 3) (.t 2))⟩, ⟨none, none, (.store 3 (.t 4) (.t 63))⟩, ⟨none, (some 5), (.mov (.k (.one (.bool .false))))⟩]
def g86_9 : List Gop := [⟨none, (some 66), (.faddr (.t 3) 0)⟩, ⟨none, (some 67), (.load none (.t 66))⟩, ⟨none, (some 68), (.bin .eql (.t 67) (.k (.one (.int .i64 1))))⟩, ⟨none, (some 69), (.mov (.t 68))⟩, ⟨(some (69, .true)), (some 70), (.faddr (.t 2) 2)⟩, ⟨(some (69, .true)), (some 71), (.load none (.t 70))⟩, ⟨(some (69, .true)), (some 72), (.faddr (.t 3) 1)⟩, ⟨(some (69, .true)), (some 73), (.load none (.t 72))⟩, ⟨(some (69, .true)), (some 74), (.iaddr 1 (.t 71) (.t 73))⟩, ⟨(some (69, .true)), (some 75), (.load none (.t 74))⟩, ⟨(some (69, .true)), (some 76), (.un .not (.t 75))⟩, ⟨none, (some 77), (.pick (.t 69) (.t 76) (.k (.one (.bool .false))))⟩, ⟨none, (some 78), (.mov (.t 77))⟩, ⟨(some (78, .true)), (some 79), (.faddr (.t 3) 2)⟩, ⟨(some (78, .true)), (some 80), (.load none (.t 79))⟩, ⟨(some (78, .true)), (some 81), (.lent (.t 80))⟩, ⟨(some (78, .true)), (some 82), (.call 58 [(.t 81), (.k (.one (.int .i64 1))), (.k (.one (.int .i64 28)))])⟩, ⟨none, (some 83), (.pick (.t 78) (.t 82) (.k (.one (.bool .false))))⟩, ⟨none, (some 65), (.mov (.t 83))⟩]
def g86_10 : List Gop := [⟨none, (some 84), (.faddr (.t 2) 1)⟩, ⟨none, (some 85), (.load none (.t 84))⟩, ⟨none, (some 86), (.faddr (.t 3) 1)⟩, ⟨none, (some 87), (.load none (.t 86))⟩, ⟨none, (some 88), (.faddr (.t 3) 2)⟩, ⟨none, (some 89), (.load none (.t 88))⟩, ⟨none, (some 90), (.iaddr 1 (.t 85) (.t 87))⟩, ⟨none, none, (.store 1 (.t 90) (.t 89))⟩]
def g86_11 : List Gop := [⟨none, (some 92), (.faddr (.t 3) 0)⟩, ⟨none, (some 93), (.load none (.t 92))⟩, ⟨none, (some 94), (.bin .eql (.t 93) (.k (.one (.int .i64 4))))⟩, ⟨none, (some 95), (.mov (.t 94))⟩, ⟨(some (95, .true)), (some 96), (.faddr (.t 2) 1)⟩, ⟨(some (95, .true)), (some 97), (.load none (.t 96))⟩, ⟨(some (95, .true)), (some 98), (.faddr (.t 3) 1)⟩, ⟨(some (95, .true)), (some 99), (.load none (.t 98))⟩, ⟨(some (95, .true)), (some 100), (.iaddr 1 (.t 97) (.t 99))⟩, ⟨(some (95, .true)), (some 101), (.load none (.t 100))⟩, ⟨(some (95, .true)), (some 102), (.bin .eql (.t 101) (.k (.one (.str ⟨#[]⟩))))⟩, ⟨none, (some 103), (.pick (.t 95) (.t 102) (.k (.one (.bool .false))))⟩, ⟨none, (some 104), (.mov (.t 103))⟩, ⟨(some (104, .true)), (some 105), (.faddr (.t 2) 0)⟩, ⟨(some (104, .true)), (some 106), (.load none (.t 105))⟩, ⟨(some (104, .true)), (some 107), (.faddr (.t 3) 1)⟩, ⟨(some (104, .true)), (some 108), (.load none (.t 107))⟩, ⟨(some (104, .true)), (some 109), (.iaddr 1 (.t 106) (.t 108))⟩, ⟨(some (104, .true)), (some 110), (.load none (.t 109))⟩, ⟨(some (104, .true)), (some 111), (.bin .neq (.t 110) (.k (.one (.str ⟨#[]⟩))))⟩, ⟨none, (some 112), (.pick (.t 104) (.t 111) (.k (.one (.bool .false))))⟩, ⟨none, (some 113), (.mov (.t 112))⟩, ⟨(some (113, .true)), (some 114), (.faddr (.t 3) 2)⟩, ⟨(some (113, .true)), (some 115), (.load none (.t 114))⟩, ⟨(some (113, .true)), (some 116), (.lent (.t 115))⟩, ⟨(some (113, .true)), (some 117), (.faddr (.t 2) 0)⟩, ⟨(some (113, .true)), (some 118), (.load none (.t 117))⟩, ⟨(some (113, .true)), (some 119), (.faddr (.t 3) 1)⟩, ⟨(some (113, .true)), (some 120), (.load none (.t 119))⟩, ⟨(some (113, .true)), (some 121), (.iaddr 1 (.t 118) (.t 120))⟩, ⟨(some (113, .true)), (some 122), (.load none (.t 121))⟩, ⟨(some (113, .true)), (some 123), (.lent (.t 122))⟩, ⟨(some (113, .true)), (some 124), (.call 58 [(.t 116), (.k (.one (.int .i64 1))), (.t 123)])⟩, ⟨none, (some 125), (.pick (.t 113) (.t 124) (.k (.one (.bool .false))))⟩, ⟨none, (some 91), (.mov (.t 125))⟩]
def a86_11 : List (List Nat) := [[], [0], [0, 1], [0, 1, 2], [0, 1, 2, 3], [0, 1, 2, 3, 4], [0, 1, 2, 3], [0, 1, 2, 3, 6], [0, 1, 2, 3, 4, 5, 6, 7], [0, 1, 2, 3, 4, 5, 6, 7, 8], [0, 1, 2, 3, 4, 5, 6, 7, 8, 9], [0, 1, 2, 3, 4, 5, 6, 7, 8, 9, 10], [0, 1, 2, 3, 4, 5, 6, 7, 8, 9, 10, 11], [0, 1, 2, 3, 4, 5, 6, 7, 8, 9, 10, 11, 12], [0, 1, 2, 3, 4, 5, 6, 7, 8, 9, 10, 11, 12, 13], [0, 1, 2, 3, 4, 5, 6, 7, 8, 9, 10, 11, 12], [0, 1, 2, 3, 4, 5, 6, 7, 8, 9, 10, 11, 12, 15], [0, 1, 2, 3, 4, 5, 6, 7, 8, 9, 10, 11, 12, 13, 14, 15, 16], [0, 1, 2, 3, 4, 5, 6, 7, 8, 9, 10, 11, 12, 13, 14, 15, 16, 17], [0, 1, 2, 3, 4, 5, 6, 7, 8, 9, 10, 11, 12, 13, 14, 15, 16, 17, 18], [0, 1, 2, 3, 4, 5, 6, 7, 8, 9, 10, 11, 12, 13, 14, 15, 16, 17, 18, 19], [0, 1, 2, 3, 4, 5, 6, 7, 8, 9, 10, 11, 12, 13, 14, 15, 16, 17, 18, 19, 20], [0, 1, 2, 3, 4, 5, 6, 7, 8, 9, 10, 11, 12, 13, 14, 15, 16, 17, 18, 19, 20, 21], [0, 1, 2, 3, 4, 5, 6, 7, 8, 9, 10, 11, 12, 13, 14, 15, 16, 17, 18, 19, 20, 21, 22], [0, 1, 2, 3, 4, 5, 6, 7, 8, 9, 10, 11, 12, 13, 14, 15, 16, 17, 18, 19, 20, 21, 22, 23], [0, 1, 2, 3, 4, 5, 6, 7, 8, 9, 10, 11, 12, 13, 14, 15, 16, 17, 18, 19, 20, 21], [0, 1, 2, 3, 4, 5, 6, 7, 8, 9, 10, 11, 12, 13, 14, 15, 16, 17, 18, 19, 20, 21, 25], [0, 1, 2, 3, 4, 5, 6, 7, 8, 9, 10, 11, 12, 13, 14, 15, 16, 17, 18, 19, 20, 21], [0, 1, 2, 3, 4, 5, 6, 7, 8, 9, 10, 11, 12, 13, 14, 15, 16, 17, 18, 19, 20, 21, 27], [0, 1, 2, 3, 4, 5, 6, 7, 8, 9, 10, 11, 12, 13, 14, 15, 16, 17, 18, 19, 20, 21, 25, 26, 27, 28], [0, 1, 2, 3, 4, 5, 6, 7, 8, 9, 10, 11, 12, 13, 14, 15, 16, 17, 18, 19, 20, 21, 25, 26, 27, 28, 29], [0, 1, 2, 3, 4, 5, 6, 7, 8, 9, 10, 11, 12, 13, 14, 15, 16, 17, 18, 19, 20, 21, 25, 26, 27, 28, 29, 30], [0, 1, 2, 3, 4, 5, 6, 7, 8, 9, 10, 11, 12, 13, 14, 15, 16, 17, 18, 19, 20, 21, 22, 23, 24, 25, 26, 27, 28, 29, 30, 31], [0, 1, 2, 3, 4, 5, 6, 7, 8, 9, 10, 11, 12, 13, 14, 15, 16, 17, 18, 19, 20, 21, 22, 23, 24, 25, 26, 27, 28, 29, 30, 31, 32], [0, 1, 2, 3, 4, 5, 6, 7, 8, 9, 10, 11, 12, 13, 14, 15, 16, 17, 18, 19, 20, 21, 22, 23, 24, 25, 26, 27, 28, 29, 30, 31, 32, 33]]
def n86_11 : Nat := 32 -- of 35
def g86_12 : List Gop := [⟨none, (some 126), (.faddr (.t 2) 0)⟩, ⟨none, (some 127), (.load none (.t 126))⟩, ⟨none, (some 128), (.faddr (.t 3) 1)⟩, ⟨none, (some 129), (.load none (.t 128))⟩, ⟨none, (some 130), (.faddr (.t 2) 0)⟩, ⟨none, (some 131), (.load none (.t 130))⟩, ⟨none, (some 132), (.faddr (.t 3) 1)⟩, ⟨none, (some 133), (.load none (.t 132))⟩, ⟨none, (some 134), (.iaddr 1 (.t 131) (.t 133))⟩, ⟨none, (some 135), (.load none (.t 134))⟩, ⟨none, (some 136), (.faddr (.t 3) 2)⟩, ⟨none, (some 137), (.load none (.t 136))⟩, ⟨none, (some 138), (.call 98 [(.t 135), (.t 137)])⟩, ⟨none, (some 139), (.iaddr 1 (.t 127) (.t 129))⟩, ⟨none, none, (.store 1 (.t 139) (.t 138))⟩]
def a86_12 : List (List Nat) := [[], [0], [], [2], [], [4], [], [6], [4, 5, 6, 7], [4, 5, 6, 7, 8], [], [10], [4, 5, 6, 7, 8, 9, 10, 11], [0, 1, 2, 3, 4, 5, 6, 7, 8, 9, 10, 11, 12], [0, 1, 2, 3, 4, 5, 6, 7, 8, 9, 10, 11, 12, 13]]
def n86_12 : Nat := 13 -- of 15
def g86_13 : List Gop := [⟨none, (some 141), (.faddr (.t 3) 0)⟩, ⟨none, (some 142), (.load none (.t 141))⟩, ⟨none, (some 143), (.bin .eql (.t 142) (.k (.one (.int .i64 5))))⟩, ⟨none, (some 144), (.mov (.t 143))⟩, ⟨(some (144, .true)), (some 145), (.faddr (.t 3) 2)⟩, ⟨(some (144, .true)), (some 146), (.load none (.t 145))⟩, ⟨(some (144, .true)), (some 147), (.bin .eql (.t 146) (.k (.one (.str ⟨#[]⟩))))⟩, ⟨none, (some 148), (.pick (.t 144) (.t 147) (.k (.one (.bool .false))))⟩, ⟨none, (some 140), (.mov (.t 148))⟩]
def g86_14 : List Gop := [⟨none, (some 149), (.faddr (.t 2) 2)⟩, ⟨none, (some 150), (.load none (.t 149))⟩, ⟨none, (some 151), (.faddr (.t 3) 1)⟩, ⟨none, (some 152), (.load none (.t 151))⟩, ⟨none, (some 153), (.iaddr 1 (.t 150) (.t 152))⟩, ⟨none, none, (.store 1 (.t 153) (.k (.one (.bool .true))))⟩]
def g86_15 : List Gop := [⟨none, (some 154), (.faddr (.t 2) 1)⟩, ⟨none, (some 155), (.load none (.t 154))⟩, ⟨none, (some 156), (.faddr (.t 3) 1)⟩, ⟨none, (some 157), (.load none (.t 156))⟩, ⟨none, (some 158), (.iaddr 1 (.t 155) (.t 157))⟩, ⟨none, none, (.store 1 (.t 158) (.k (.one (.str ⟨#[]⟩))))⟩]
def g86_16 : List Gop := [⟨none, (some 160), (.faddr (.t 3) 0)⟩, ⟨none, (some 161), (.load none (.t 160))⟩, ⟨none, (some 162), (.bin .eql (.t 161) (.k (.one (.int .i64 6))))⟩, ⟨none, (some 163), (.mov (.t 162))⟩, ⟨(some (163, .true)), (some 164), (.faddr (.t 3) 2)⟩, ⟨(some (163, .true)), (some 165), (.load none (.t 164))⟩, ⟨(some (163, .true)), (some 166), (.bin .eql (.t 165) (.k (.one (.str ⟨#[]⟩))))⟩, ⟨none, (some 167), (.pick (.t 163) (.t 166) (.k (.one (.bool .false))))⟩, ⟨none, (some 168), (.mov (.t 167))⟩, ⟨(some (168, .true)), (some 169), (.faddr (.t 2) 2)⟩, ⟨(some (168, .true)), (some 170), (.load none (.t 169))⟩, ⟨(some (168, .true)), (some 171), (.faddr (.t 3) 1)⟩, ⟨(some (168, .true)), (some 172), (.load none (.t 171))⟩, ⟨(some (168, .true)), (some 173), (.iaddr 1 (.t 170) (.t 172))⟩, ⟨(some (168, .true)), (some 174), (.load none (.t 173))⟩, ⟨none, (some 175), (.pick (.t 168) (.t 174) (.k (.one (.bool .false))))⟩, ⟨none, (some 159), (.mov (.t 175))⟩]
def g86_17 : List Gop := [⟨none, (some 176), (.faddr (.t 2) 2)⟩, ⟨none, (some 177), (.load none (.t 176))⟩, ⟨none, (some 178), (.faddr (.t 3) 1)⟩, ⟨none, (some 179), (.load none (.t 178))⟩, ⟨none, (some 180), (.iaddr 1 (.t 177) (.t 179))⟩, ⟨none, none, (.store 1 (.t 180) (.k (.one (.bool .false))))⟩]
def g86_18 : List Gop := [⟨none, (some 181), (.faddr (.t 2) 0)⟩, ⟨none, (some 182), (.load none (.t 181))⟩, ⟨none, (some 183), (.faddr (.t 3) 1)⟩, ⟨none, (some 184), (.load none (.t 183))⟩, ⟨none, (some 185), (.iaddr 1 (.t 182) (.t 184))⟩, ⟨none, none, (.store 1 (.t 185) (.k (.one (.str ⟨#[]⟩))))⟩]
def g86_19 : List Gop := [⟨none, (some 64), (.load (some 3) (.t 2))⟩, ⟨none, none, (.store 3 (.t 4) (.t 64))⟩, ⟨none, (some 5), (.mov (.k (.one (.bool .false))))⟩]
def g86_20 : List Gop := [⟨none, (some 186), (.load (some 3) (.t 2))⟩, ⟨none, none, (.store 3 (.t 4) (.t 186))⟩, ⟨none, (some 5), (.mov (.k (.one (.bool .true))))⟩]
def i86 : Ir := (.seq (.region g86_0) (.seq (.seq (.region g86_1) (.cond (.t 13) (.seq (.seq (.region g86_2) (.cond (.t 39) (.seq (.region g86_3) .ret) .skip)) (.seq (.seq (.region g86_4) (.cond (.t 43) (.seq (.draw [[], [], [1], [0, 2, 2], [3, 3, 0, 1, 2, 3], [4, 0, 1, 2, 3, 4]] g86_5) .ret) .skip)) (.seq (.region g86_6) .ret))) .skip)) (.seq (.seq (.region g86_7) (.cond (.t 62) (.seq (.region g86_8) .ret) .skip)) (.seq (.block 0 (.seq (.region g86_9) (.cond (.t 65) (.region g86_10) (.seq (.draw [[], [0], [1], [2], [3], [4, 3], [3], [6, 3], [5, 7, 3], [8, 3], [9, 3], [3, 10], [11, 3], [12], [13, 12], [12], [15, 12], [14, 16, 12], [17, 12], [18, 12], [12, 19], [20, 12], [21], [22, 21], [23, 21], [21], [25, 21], [21], [27, 21], [26, 28, 21], [29, 21], [30, 21], [24, 31, 21, 21], [21, 32], [33, 32]] g86_11) (.cond (.t 91) (.draw [[], [0], [], [2], [], [4], [], [6], [5, 7], [8], [], [10], [9, 11], [1, 3, 0, 1, 2, 3, 4, 5, 6, 7, 8, 9, 10, 11, 12], [13, 12, 12, 0, 1, 2, 3, 4, 5, 6, 7, 8, 9, 10, 11, 12]] g86_12) (.seq (.region g86_13) (.cond (.t 140) (.seq (.region g86_14) (.region g86_15)) (.seq (.region g86_16) (.cond (.t 159) (.seq (.region g86_17) (.region g86_18)) (.seq (.region g86_19) .ret)))))))))) (.seq (.region g86_20) .ret)))))
theorem l7StepA_ok (p h : List ByteArray) (b : List Bool) (k a : Int) (text : ByteArray) (kept : List Int) (hp : p.length ≤ 1048576) (he : h.length = p.length) (hb : b.length = p.length) (hk : kept.length ≤ 1048576) (ht : text.size ≤ 1048576) (hs : ∀ x ∈ p, x.size ≤ 1048576) (c1 : k = 2 ∨ k = 3) :
    Meets Try.prog 86 [.agg [(.sl true 1 p.length (p.map T.str)), (.sl true 1 h.length (h.map T.str)), (.sl true 1 b.length (b.map T.bool))], .agg [.int .i64 k, .int .i64 a, .str text, (.sl false 1 kept.length (kept.map (T.int .i64)))]] (.tup [.agg [(.sl true 1 ((stepF p h b k a text kept).p).length (((stepF p h b k a text kept).p).map T.str)), (.sl true 1 ((stepF p h b k a text kept).h).length (((stepF p h b k a text kept).h).map T.str)), (.sl true 1 ((stepF p h b k a text kept).b).length (((stepF p h b k a text kept).b).map T.bool))], .one (.bool (stepF p h b k a text kept).ok)]) [.agg [.hole, .hole, .hole], .agg [.hole, .hole, .hole, .hole]] := by
  have hh2 : h.length ≤ 1048576 := by omega
  have hb2 : b.length ≤ 1048576 := by omega
  have hle := heldN_le (l := h) (i := h.length)
  have lP : ∀ l, (crashP p h l).length = p.length := fun l => by simp [crashP]
  have lH : (crashH h).length = h.length := by simp [crashH]
  refine meets_go (ir := i86) (fn := Try.f86) (rx := [(.cell 4 (some 3)), (.tmp 5)]) rfl rfl (by rfl) (by rfl) (by exact Nat.le_of_ble_eq_true rfl) ?_
  by_cases c2 : k = 2
  · repeat' (first | simp (maxSteps := 9000000) -implicitDefEqProofs -dsimp (disch := omega) only [go_sem, g86_0, g86_1, g86_2, g86_3, g86_4, g86_5, a86_5, n86_5, g86_6, g86_7, g86_8, g86_9, g86_10, g86_11, a86_11, n86_11, g86_12, a86_12, n86_12, g86_13, g86_14, g86_15, g86_16, g86_17, g86_18, g86_19, g86_20, i86, lt_T, lt_F, le_T, le_F, eq_T, eq_F, and_F, Nat.reduceEqDiff, Nat.reduceAdd, Nat.reduceMul, Nat.reduceLeDiff, Nat.reduceBEq, Nat.reduceBNe, Int.reduceEq, ↓reduceIte, reduceCtorEq] | (refine brP_i ?_ ?_ <;> intro hbr <;> try simp -implicitDefEqProofs -dsimp only [hbr]) | (refine br_i ?_ ?_ <;> intro hbr <;> try simp -implicitDefEqProofs -dsimp only [hbr]) | (refine draw_go n86_5 a86_5 (by decide +kernel) ?_) | (refine call_go true (l7Kept_ok p h b kept (by omega) hk) ?_) | (refine calla_go true (l7Held_ok p h b (by omega)) ?_) | (refine call_go true (l7Crash_ok p h b (heldN h h.length) hp he (by omega)) ?_))
    all_goals
      refine need_i ?_ (by simp (maxSteps := 9000000) -implicitDefEqProofs -dsimp (disch := omega) only [go_sem, g86_0, g86_1, g86_2, g86_3, g86_4, g86_5, a86_5, n86_5, g86_6, g86_7, g86_8, g86_9, g86_10, g86_11, a86_11, n86_11, g86_12, a86_12, n86_12, g86_13, g86_14, g86_15, g86_16, g86_17, g86_18, g86_19, g86_20, i86, Nat.reduceEqDiff, Nat.reduceAdd, Nat.reduceMul, Nat.reduceLeDiff, Nat.reduceBEq, Nat.reduceBNe, Int.reduceEq, ↓reduceIte, reduceCtorEq])
      generalize hD : stepF p h b k a text kept = D
      unfold stepF at hD
      repeat' split at hD
      all_goals first
        | (subst hD; rfl)
        | (subst hD; simp only [List.length_set]; done)
        | (exfalso; simp_all; done)
        | (exfalso; simp_all <;> omega)
  · repeat' (first | simp (maxSteps := 9000000) -implicitDefEqProofs -dsimp (disch := omega) only [go_sem, g86_0, g86_1, g86_2, g86_3, g86_4, g86_5, a86_5, n86_5, g86_6, g86_7, g86_8, g86_9, g86_10, g86_11, a86_11, n86_11, g86_12, a86_12, n86_12, g86_13, g86_14, g86_15, g86_16, g86_17, g86_18, g86_19, g86_20, i86, lt_T, lt_F, le_T, le_F, eq_T, eq_F, and_F, Nat.reduceEqDiff, Nat.reduceAdd, Nat.reduceMul, Nat.reduceLeDiff, Nat.reduceBEq, Nat.reduceBNe, Int.reduceEq, ↓reduceIte, reduceCtorEq] | (refine brP_i ?_ ?_ <;> intro hbr <;> try simp -implicitDefEqProofs -dsimp only [hbr]) | (refine br_i ?_ ?_ <;> intro hbr <;> try simp -implicitDefEqProofs -dsimp only [hbr]) | (refine draw_go n86_5 a86_5 (by decide +kernel) ?_) | (refine call_go true (l7Kept_ok p h b kept (by omega) hk) ?_) | (refine call_go true (l7Crash_ok p h b kept hp he hk) ?_))
    all_goals
      refine need_i ?_ (by simp (maxSteps := 9000000) -implicitDefEqProofs -dsimp (disch := omega) only [go_sem, g86_0, g86_1, g86_2, g86_3, g86_4, g86_5, a86_5, n86_5, g86_6, g86_7, g86_8, g86_9, g86_10, g86_11, a86_11, n86_11, g86_12, a86_12, n86_12, g86_13, g86_14, g86_15, g86_16, g86_17, g86_18, g86_19, g86_20, i86, Nat.reduceEqDiff, Nat.reduceAdd, Nat.reduceMul, Nat.reduceLeDiff, Nat.reduceBEq, Nat.reduceBNe, Int.reduceEq, ↓reduceIte, reduceCtorEq])
      generalize hD : stepF p h b k a text kept = D
      unfold stepF at hD
      repeat' split at hD
      all_goals first
        | (subst hD; rfl)
        | (subst hD; simp only [List.length_set]; done)
        | (exfalso; simp_all; done)
        | (exfalso; simp_all <;> omega)
end Go.Proofs.YtjlodcoeegpkaaaT

/- Functions of the program as contracts: steps of a disk. No condition. -/
set_option maxRecDepth 100000
set_option maxHeartbeats 4000000
set_option linter.unusedSimpArgs false
set_option linter.unusedVariables false
namespace Go.Proofs.YtjlodcoeegpkaaaT
open Go
theorem l7StepB_ok (p h : List ByteArray) (b : List Bool) (k a : Int) (text : ByteArray) (kept : List Int) (hp : p.length ≤ 1048576) (he : h.length = p.length) (hb : b.length = p.length) (hk : kept.length ≤ 1048576) (ht : text.size ≤ 1048576) (hs : ∀ x ∈ p, x.size ≤ 1048576) (c1 : ¬ (k = 2 ∨ k = 3)) :
    Meets Try.prog 86 [.agg [(.sl true 1 p.length (p.map T.str)), (.sl true 1 h.length (h.map T.str)), (.sl true 1 b.length (b.map T.bool))], .agg [.int .i64 k, .int .i64 a, .str text, (.sl false 1 kept.length (kept.map (T.int .i64)))]] (.tup [.agg [(.sl true 1 ((stepF p h b k a text kept).p).length (((stepF p h b k a text kept).p).map T.str)), (.sl true 1 ((stepF p h b k a text kept).h).length (((stepF p h b k a text kept).h).map T.str)), (.sl true 1 ((stepF p h b k a text kept).b).length (((stepF p h b k a text kept).b).map T.bool))], .one (.bool (stepF p h b k a text kept).ok)]) [.agg [.hole, .hole, .hole], .agg [.hole, .hole, .hole, .hole]] := by
  have hh2 : h.length ≤ 1048576 := by omega
  have hb2 : b.length ≤ 1048576 := by omega
  have hle := heldN_le (l := h) (i := h.length)
  have lP : ∀ l, (crashP p h l).length = p.length := fun l => by simp [crashP]
  have lH : (crashH h).length = h.length := by simp [crashH]
  refine meets_go (ir := i86) (fn := Try.f86) (rx := [(.cell 4 (some 3)), (.tmp 5)]) rfl rfl (by rfl) (by rfl) (by exact Nat.le_of_ble_eq_true rfl) ?_
  have c2 : ¬ k = 2 := fun e => c1 (.inl e)
  have c3 : ¬ k = 3 := fun e => c1 (.inr e)
  have hz : (p.getD a.toNat default).size ≤ 1048576 := by
    by_cases hlt : a.toNat < p.length
    · exact hs _ (getD_mem hlt)
    · rw [List.getD_eq_getElem?_getD, List.getElem?_eq_none (by omega)]; exact (by decide : (default : ByteArray).size ≤ 1048576)
  repeat' (first | simp (maxSteps := 9000000) -implicitDefEqProofs -dsimp (disch := omega) only [go_sem, g86_0, g86_1, g86_2, g86_3, g86_4, g86_5, a86_5, n86_5, g86_6, g86_7, g86_8, g86_9, g86_10, g86_11, a86_11, n86_11, g86_12, a86_12, n86_12, g86_13, g86_14, g86_15, g86_16, g86_17, g86_18, g86_19, g86_20, i86, lt_T, lt_F, le_T, le_F, eq_T, eq_F, and_F, Nat.reduceEqDiff, Nat.reduceAdd, Nat.reduceMul, Nat.reduceLeDiff, Nat.reduceBEq, Nat.reduceBNe, Int.reduceEq, ↓reduceIte, reduceCtorEq] | (refine brP_i ?_ ?_ <;> intro hbr <;> try simp -implicitDefEqProofs -dsimp only [hbr]) | (refine br_i ?_ ?_ <;> intro hbr <;> try simp -implicitDefEqProofs -dsimp only [hbr]) | (refine call_go true (l7There_ok p h b a hp hh2 hb2) ?_) | (refine draw_go n86_11 a86_11 (by decide +kernel) ?_) | (refine draw_go n86_12 a86_12 (by decide +kernel) ?_) | (have hk1 : k = 1 := (by assumption); refine call_go true (l1In_ok text.size 1 28) ?_) | (refine calla_go true (l1In_ok text.size 1 (p.getD a.toNat default).size) ?_) | (refine call_go true (l1In_ok text.size 1 (p.getD a.toNat default).size) ?_) | (refine calla_go true (l7Rot_ok (p.getD a.toNat default) text hz (by omega)) ?_))
  all_goals
    refine need_i ?_ (by simp (maxSteps := 9000000) -implicitDefEqProofs -dsimp (disch := omega) only [go_sem, g86_0, g86_1, g86_2, g86_3, g86_4, g86_5, a86_5, n86_5, g86_6, g86_7, g86_8, g86_9, g86_10, g86_11, a86_11, n86_11, g86_12, a86_12, n86_12, g86_13, g86_14, g86_15, g86_16, g86_17, g86_18, g86_19, g86_20, i86, Nat.reduceEqDiff, Nat.reduceAdd, Nat.reduceMul, Nat.reduceLeDiff, Nat.reduceBEq, Nat.reduceBNe, Int.reduceEq, ↓reduceIte, reduceCtorEq])
    generalize hD : stepF p h b k a text kept = D
    unfold stepF at hD
    repeat' split at hD
    all_goals first
      | (subst hD; rfl)
      | (subst hD; simp only [List.length_set]; done)
      | (exfalso; simp_all; done)
      | (exfalso; simp_all <;> omega; done)
end Go.Proofs.YtjlodcoeegpkaaaT

/- Functions of the program as contracts: steps of a disk, the program's. No condition. -/
set_option maxRecDepth 100000
set_option maxHeartbeats 8000000
set_option linter.unusedSimpArgs false
set_option linter.unusedVariables false
namespace Go.Proofs.YtjlodcoeegpkaaaT
open Go
end Go.Proofs.YtjlodcoeegpkaaaT

/- Functions of the program as contracts: steps of a disk, the program's. No condition. -/
set_option maxRecDepth 100000
set_option maxHeartbeats 8000000
set_option linter.unusedSimpArgs false
set_option linter.unusedVariables false
namespace Go.Proofs.YtjlodcoeegpkaaaT
open Go
end Go.Proofs.YtjlodcoeegpkaaaT

/- Functions of the program as contracts: steps of a disk, the program's. No condition. -/
set_option maxRecDepth 100000
set_option maxHeartbeats 8000000
set_option linter.unusedSimpArgs false
set_option linter.unusedVariables false
namespace Go.Proofs.YtjlodcoeegpkaaaT
open Go
theorem l7Step_ok (p h : List ByteArray) (b : List Bool) (k a : Int) (text : ByteArray) (kept : List Int) (hp : p.length ≤ 1048576) (he : h.length = p.length) (hb : b.length = p.length) (hk : kept.length ≤ 1048576) (ht : text.size ≤ 1048576) (hs : ∀ x ∈ p, x.size ≤ 1048576) :
    Meets Try.prog 86 [.agg [(.sl true 1 p.length (p.map T.str)), (.sl true 1 h.length (h.map T.str)), (.sl true 1 b.length (b.map T.bool))], .agg [.int .i64 k, .int .i64 a, .str text, (.sl false 1 kept.length (kept.map (T.int .i64)))]] (.tup [.agg [(.sl true 1 ((stepF p h b k a text kept).p).length (((stepF p h b k a text kept).p).map T.str)), (.sl true 1 ((stepF p h b k a text kept).h).length (((stepF p h b k a text kept).h).map T.str)), (.sl true 1 ((stepF p h b k a text kept).b).length (((stepF p h b k a text kept).b).map T.bool))], .one (.bool (stepF p h b k a text kept).ok)]) [.agg [.hole, .hole, .hole], .agg [.hole, .hole, .hole, .hole]] := by
  by_cases c1 : k = 2 ∨ k = 3
  · exact l7StepA_ok p h b k a text kept hp he hb hk ht hs c1
  · exact l7StepB_ok p h b k a text kept hp he hb hk ht hs c1
end Go.Proofs.YtjlodcoeegpkaaaT

/- Functions of the program as contracts: a step of a disk. No condition. -/
set_option maxRecDepth 100000
set_option maxHeartbeats 8000000
set_option linter.unusedSimpArgs false
set_option linter.unusedVariables false
namespace Go.Proofs.YtjlodcoeegpkaaaT
open Go
end Go.Proofs.YtjlodcoeegpkaaaT

/- Functions of the program as contracts: what the law asks of disks and steps. No condition. -/
set_option maxRecDepth 100000
set_option maxHeartbeats 8000000
set_option linter.unusedSimpArgs false
set_option linter.unusedVariables false
namespace Go.Proofs.YtjlodcoeegpkaaaT
open Go
end Go.Proofs.YtjlodcoeegpkaaaT

/- Functions of the program as contracts: what the law marks and counts. No condition. -/
set_option maxRecDepth 100000
set_option maxHeartbeats 8000000
set_option linter.unusedSimpArgs false
set_option linter.unusedVariables false
namespace Go.Proofs.YtjlodcoeegpkaaaT
open Go
end Go.Proofs.YtjlodcoeegpkaaaT

/- Functions of the program as contracts: what the law marks and counts. No condition. -/
set_option maxRecDepth 100000
set_option maxHeartbeats 8000000
set_option linter.unusedSimpArgs false
set_option linter.unusedVariables false
namespace Go.Proofs.YtjlodcoeegpkaaaT
open Go
end Go.Proofs.YtjlodcoeegpkaaaT

/- What a disk and its steps read as. No condition. -/
set_option maxRecDepth 100000
set_option maxHeartbeats 8000000
set_option linter.unusedSimpArgs false
set_option linter.unusedVariables false
namespace Go.Proofs.YtjlodcoeegpkaaaT
open Go Go.RowKit
theorem flat_one {α : Type} {c : α → T} {l : List α} : (l.map fun s => [c s]).flatten = l.map c := by
  induction l with
  | nil => rfl
  | cons x l ih => simp only [List.map_cons, List.flatten_cons, ih, List.cons_append, List.nil_append]
end Go.Proofs.YtjlodcoeegpkaaaT

/- Functions of the program as contracts: rows of a disk's steps. No condition. -/
set_option maxRecDepth 100000
set_option maxHeartbeats 8000000
set_option linter.unusedSimpArgs false
set_option linter.unusedVariables false
namespace Go.Proofs.YtjlodcoeegpkaaaT
open Go Go.RowKit
/-- a disk's step -/
structure Stp where
  k : Int
  a : Int
  t : ByteArray
  h : List Int
  deriving Inhabited
def stR (l : List Stp) : List T := rows4 (fun x => .int .i64 x.k) (fun x => .int .i64 x.a) (fun x => .str x.t) (fun x => (.sl false 1 x.h.length (x.h.map (T.int .i64)))) l
def stO (l : List Stp) : List T := rows4 (fun x => .int .i64 x.k) (fun x => .int .i64 x.a) (fun x => .str x.t) (fun x => (.sl true 1 x.h.length (x.h.map (T.int .i64)))) l
def LS (l : List Stp) : T := .sl false 4 l.length (stR l)
def OL (l : List Stp) : T := .sl true 4 l.length (stO l)
theorem stR_0 {l : List Stp} {i : Nat} (h : i < l.length) : (stR l)[i * 4]? = some (.int .i64 (l.getD i default).k) := rows4_0 h
theorem stR_1 {l : List Stp} {i : Nat} (h : i < l.length) : (stR l)[i * 4 + 1]? = some (.int .i64 (l.getD i default).a) := rows4_1 h
theorem stR_2 {l : List Stp} {i : Nat} (h : i < l.length) : (stR l)[i * 4 + 1 + 1]? = some (.str (l.getD i default).t) := rows4_2' h
theorem stR_3 {l : List Stp} {i : Nat} (h : i < l.length) : (stR l)[i * 4 + 1 + 1 + 1]? = some (.sl false 1 ((l.getD i default).h).length (((l.getD i default).h).map (T.int .i64))) := rows4_3' h
theorem stO_cut {l : List Stp} : cut (stO l) 0 (l.length * 4) = stO l := rows4_cut rfl
theorem stR_cut {l : List Stp} : cut (stR l) 0 (l.length * 4) = stR l := rows4_cut rfl
end Go.Proofs.YtjlodcoeegpkaaaT

/- Functions of the program as contracts: a disk played. No condition. -/
set_option maxRecDepth 100000
set_option maxHeartbeats 8000000
set_option linter.unusedSimpArgs false
set_option linter.unusedVariables false
namespace Go.Proofs.YtjlodcoeegpkaaaT
open Go Go.RowKit
theorem rep_str {n : Nat} : (List.replicate n [T.str (⟨#[]⟩ : ByteArray)]).flatten = (List.replicate n e0).map T.str := by
  induction n with
  | zero => rfl
  | succ n ih => simp only [List.replicate_succ, List.flatten_cons, ih, List.map_cons]; rfl
theorem rep_bool {n : Nat} : (List.replicate n [T.bool false]).flatten = (List.replicate n false).map T.bool := by
  induction n with
  | zero => rfl
  | succ n ih => simp only [List.replicate_succ, List.flatten_cons, ih, List.map_cons]; rfl
theorem cut_rs {n : Nat} {x : ByteArray} : cut ((List.replicate n x).map T.str) 0 n = (List.replicate n x).map T.str := cut_all (by simp)
theorem cut_rb {n : Nat} {x : Bool} : cut ((List.replicate n x).map T.bool) 0 n = (List.replicate n x).map T.bool := cut_all (by simp)
/-- a new disk -/
def NewRes (n : Int) : TV := if 1 ≤ n ∧ n ≤ 24 then .tup [.agg [(.sl true 1 (List.replicate n.toNat e0).length ((List.replicate n.toNat e0).map T.str)), (.sl true 1 (List.replicate n.toNat e0).length ((List.replicate n.toNat e0).map T.str)), (.sl true 1 (List.replicate n.toNat false).length ((List.replicate n.toNat false).map T.bool))], .one (.bool true)] else .tup [.agg [.sl true 0 0 [], .sl true 0 0 [], .sl true 0 0 []], .one (.bool false)]
def g13_0 : List Gop := [⟨none, (some 2), (.alloc [.nil, .nil, .nil])⟩, ⟨none, (some 3), (.mov (.k (.one (.bool .false))))⟩]
def g13_1 : List Gop := [⟨none, (some 4), (.mov (.t 0))⟩, ⟨none, (some 5), (.call 58 [(.t 4), (.k (.one (.int .i64 1))), (.k (.one (.int .i64 24)))])⟩, ⟨none, (some 6), (.un .not (.t 5))⟩]
def g13_2 : List Gop := [⟨none, (some 7), (.build [.nil, .nil, .nil] [])⟩, ⟨none, none, (.store 3 (.t 2) (.t 7))⟩, ⟨none, (some 3), (.mov (.k (.one (.bool .false))))⟩]
def g13_3 : List Gop := [⟨none, (some 8), (.mov (.t 0))⟩, ⟨none, (some 9), (.make 1 [(.str ⟨#[]⟩)] 16 (.t 8) (.t 8))⟩, ⟨none, (some 10), (.mov (.t 0))⟩, ⟨none, (some 11), (.make 1 [(.str ⟨#[]⟩)] 16 (.t 10) (.t 10))⟩, ⟨none, (some 12), (.mov (.t 0))⟩, ⟨none, (some 13), (.make 1 [(.bool .false)] 1 (.t 12) (.t 12))⟩, ⟨none, (some 14), (.build [.nil, .nil, .nil] [(0, (1, (.t 9))), (1, (1, (.t 11))), (2, (1, (.t 13)))])⟩, ⟨none, none, (.store 3 (.t 2) (.t 14))⟩, ⟨none, (some 3), (.mov (.k (.one (.bool .true))))⟩]
def a13_3 : List (List Nat) := [[], [0], [], [2], [], [4], [0, 1, 2, 3, 4, 5], [0, 1, 2, 3, 4, 5, 6], [0, 1, 2, 3, 4, 5, 6, 7]]
def n13_3 : Nat := 6 -- of 9
def i13 : Ir := (.seq (.region g13_0) (.seq (.seq (.region g13_1) (.cond (.t 6) (.seq (.region g13_2) .ret) .skip)) (.seq (.draw [[], [0, 0], [], [2, 2], [], [4, 4], [1, 3, 5], [6, 0, 1, 2, 3, 4, 5, 6], [7, 0, 1, 2, 3, 4, 5, 6, 7]] g13_3) .ret)))
theorem specNewDisk_ok (n : Int) : Meets Try.prog 13 [.one (.int .i64 n)] (NewRes n) [.one .hole] := by
  by_cases h : 1 ≤ n ∧ n ≤ 24
  · obtain ⟨m, rfl⟩ := Int.eq_ofNat_of_zero_le (show 0 ≤ n by omega)
    rw [NewRes, if_pos h]
    refine meets_go (ir := i13) (fn := Try.f13) (rx := [(.cell 2 (some 3)), (.tmp 3)]) rfl rfl (by rfl) (by rfl) (by exact Nat.le_of_ble_eq_true rfl) ?_
    simp (maxSteps := 9000000) -implicitDefEqProofs -dsimp (disch := omega) only [go_sem, g13_0, g13_1, g13_2, g13_3, a13_3, n13_3, i13, Nat.reduceEqDiff, Nat.reduceAdd, Nat.reduceMul, Nat.reduceLeDiff, Nat.reduceBEq, Nat.reduceBNe, Int.reduceEq, ↓reduceIte, reduceCtorEq]
    refine call_go true (l1In_ok m 1 24) ?_
    simp (maxSteps := 9000000) -implicitDefEqProofs -dsimp (disch := omega) only [go_sem, g13_0, g13_1, g13_2, g13_3, a13_3, n13_3, i13, h, Nat.reduceEqDiff, Nat.reduceAdd, Nat.reduceMul, Nat.reduceLeDiff, Nat.reduceBEq, Nat.reduceBNe, Int.reduceEq, ↓reduceIte, reduceCtorEq]
    refine draw_go n13_3 a13_3 (by decide +kernel) ?_
    simp (maxSteps := 9000000) -implicitDefEqProofs -dsimp (disch := omega) only [go_sem, g13_0, g13_1, g13_2, g13_3, a13_3, n13_3, i13, rep_str, rep_bool, List.length_replicate, cut_rs, cut_rb, Nat.reduceEqDiff, Nat.reduceAdd, Nat.reduceMul, Nat.reduceLeDiff, Nat.reduceBEq, Nat.reduceBNe, Int.reduceEq, ↓reduceIte, reduceCtorEq]
  · rw [NewRes, if_neg h]
    refine meets_go (ir := i13) (fn := Try.f13) (rx := [(.cell 2 (some 3)), (.tmp 3)]) rfl rfl (by rfl) (by rfl) (by exact Nat.le_of_ble_eq_true rfl) ?_
    simp (maxSteps := 9000000) -implicitDefEqProofs -dsimp (disch := omega) only [go_sem, g13_0, g13_1, g13_2, g13_3, a13_3, n13_3, i13, Nat.reduceEqDiff, Nat.reduceAdd, Nat.reduceMul, Nat.reduceLeDiff, Nat.reduceBEq, Nat.reduceBNe, Int.reduceEq, ↓reduceIte, reduceCtorEq]
    refine call_go true (l1In_ok n 1 24) ?_
    simp (maxSteps := 9000000) -implicitDefEqProofs -dsimp (disch := omega) only [go_sem, g13_0, g13_1, g13_2, g13_3, a13_3, n13_3, i13, h, Nat.reduceEqDiff, Nat.reduceAdd, Nat.reduceMul, Nat.reduceLeDiff, Nat.reduceBEq, Nat.reduceBNe, Int.reduceEq, ↓reduceIte, reduceCtorEq]
def g14_0 : List Gop := [⟨none, (some 2), (.alloc [.nil, .nil, .nil])⟩, ⟨none, (some 3), (.mov (.k (.one (.bool .false))))⟩]
def g14_1 : List Gop := [⟨none, (some 4), (.mov (.t 0))⟩, ⟨none, (some 5), (.call 59 [(.t 4), (.k (.one (.int .i64 1))), (.k (.one (.int .i64 24)))])⟩, ⟨none, (some 6), (.un .not (.t 5))⟩]
def g14_2 : List Gop := [⟨none, (some 7), (.build [.nil, .nil, .nil] [])⟩, ⟨none, none, (.store 3 (.t 2) (.t 7))⟩, ⟨none, (some 3), (.mov (.k (.one (.bool .false))))⟩]
def g14_3 : List Gop := [⟨none, (some 8), (.mov (.t 0))⟩, ⟨none, (some 9), (.make 1 [(.str ⟨#[]⟩)] 16 (.t 8) (.t 8))⟩, ⟨none, (some 10), (.mov (.t 0))⟩, ⟨none, (some 11), (.make 1 [(.str ⟨#[]⟩)] 16 (.t 10) (.t 10))⟩, ⟨none, (some 12), (.mov (.t 0))⟩, ⟨none, (some 13), (.make 1 [(.bool .false)] 1 (.t 12) (.t 12))⟩, ⟨none, (some 14), (.build [.nil, .nil, .nil] [(0, (1, (.t 9))), (1, (1, (.t 11))), (2, (1, (.t 13)))])⟩, ⟨none, none, (.store 3 (.t 2) (.t 14))⟩, ⟨none, (some 3), (.mov (.k (.one (.bool .true))))⟩]
def a14_3 : List (List Nat) := [[], [0], [], [2], [], [4], [0, 1, 2, 3, 4, 5], [0, 1, 2, 3, 4, 5, 6], [0, 1, 2, 3, 4, 5, 6, 7]]
def n14_3 : Nat := 6 -- of 9
def i14 : Ir := (.seq (.region g14_0) (.seq (.seq (.region g14_1) (.cond (.t 6) (.seq (.region g14_2) .ret) .skip)) (.seq (.draw [[], [0, 0], [], [2, 2], [], [4, 4], [1, 3, 5], [6, 0, 1, 2, 3, 4, 5, 6], [7, 0, 1, 2, 3, 4, 5, 6, 7]] g14_3) .ret)))
theorem implNewDisk_ok (n : Int) : Meets Try.prog 14 [.one (.int .i64 n)] (NewRes n) [.one .hole] := by
  by_cases h : 1 ≤ n ∧ n ≤ 24
  · obtain ⟨m, rfl⟩ := Int.eq_ofNat_of_zero_le (show 0 ≤ n by omega)
    rw [NewRes, if_pos h]
    refine meets_go (ir := i14) (fn := Try.f14) (rx := [(.cell 2 (some 3)), (.tmp 3)]) rfl rfl (by rfl) (by rfl) (by exact Nat.le_of_ble_eq_true rfl) ?_
    simp (maxSteps := 9000000) -implicitDefEqProofs -dsimp (disch := omega) only [go_sem, g14_0, g14_1, g14_2, g14_3, a14_3, n14_3, i14, Nat.reduceEqDiff, Nat.reduceAdd, Nat.reduceMul, Nat.reduceLeDiff, Nat.reduceBEq, Nat.reduceBNe, Int.reduceEq, ↓reduceIte, reduceCtorEq]
    refine call_go true (within_ok m 1 24) ?_
    simp (maxSteps := 9000000) -implicitDefEqProofs -dsimp (disch := omega) only [go_sem, g14_0, g14_1, g14_2, g14_3, a14_3, n14_3, i14, h, Nat.reduceEqDiff, Nat.reduceAdd, Nat.reduceMul, Nat.reduceLeDiff, Nat.reduceBEq, Nat.reduceBNe, Int.reduceEq, ↓reduceIte, reduceCtorEq]
    refine draw_go n14_3 a14_3 (by decide +kernel) ?_
    simp (maxSteps := 9000000) -implicitDefEqProofs -dsimp (disch := omega) only [go_sem, g14_0, g14_1, g14_2, g14_3, a14_3, n14_3, i14, rep_str, rep_bool, List.length_replicate, cut_rs, cut_rb, Nat.reduceEqDiff, Nat.reduceAdd, Nat.reduceMul, Nat.reduceLeDiff, Nat.reduceBEq, Nat.reduceBNe, Int.reduceEq, ↓reduceIte, reduceCtorEq]
  · rw [NewRes, if_neg h]
    refine meets_go (ir := i14) (fn := Try.f14) (rx := [(.cell 2 (some 3)), (.tmp 3)]) rfl rfl (by rfl) (by rfl) (by exact Nat.le_of_ble_eq_true rfl) ?_
    simp (maxSteps := 9000000) -implicitDefEqProofs -dsimp (disch := omega) only [go_sem, g14_0, g14_1, g14_2, g14_3, a14_3, n14_3, i14, Nat.reduceEqDiff, Nat.reduceAdd, Nat.reduceMul, Nat.reduceLeDiff, Nat.reduceBEq, Nat.reduceBNe, Int.reduceEq, ↓reduceIte, reduceCtorEq]
    refine call_go true (within_ok n 1 24) ?_
    simp (maxSteps := 9000000) -implicitDefEqProofs -dsimp (disch := omega) only [go_sem, g14_0, g14_1, g14_2, g14_3, a14_3, n14_3, i14, h, Nat.reduceEqDiff, Nat.reduceAdd, Nat.reduceMul, Nat.reduceLeDiff, Nat.reduceBEq, Nat.reduceBNe, Int.reduceEq, ↓reduceIte, reduceCtorEq]
/-- a disk after steps -/
noncomputable def playS (n : Nat) (l : List Stp) : Nat → Dk
  | 0 => ⟨List.replicate n e0, List.replicate n e0, List.replicate n false, true⟩
  | i + 1 => stepF (playS n l i).p (playS n l i).h (playS n l i).b (l.getD i default).k (l.getD i default).a (l.getD i default).t (l.getD i default).h
noncomputable def didS (n : Nat) (l : List Stp) (i : Nat) : List Bool := (List.range i).map fun j => (playS n l (j + 1)).ok
theorem didS_s {n : Nat} {l : List Stp} {i : Nat} : didS n l (i + 1) = didS n l i ++ [(playS n l (i + 1)).ok] := by simp [didS, List.range_succ]
theorem didS_0 {n : Nat} {l : List Stp} : didS n l 0 = [] := rfl
theorem didS_len {n : Nat} {l : List Stp} {i : Nat} : (didS n l i).length = i := by simp [didS]
theorem stepF_no {p h : List ByteArray} {b : List Bool} {k a : Int} {text : ByteArray} {kept : List Int} (ho : (stepF p h b k a text kept).ok = false) : stepF p h b k a text kept = ⟨p, h, b, false⟩ := by
  generalize hD : stepF p h b k a text kept = D at ho
  unfold stepF at hD
  repeat' split at hD
  all_goals (subst hD; first | rfl | simp at ho)
theorem stepF_len' (p h : List ByteArray) (b : List Bool) (k a : Int) (text : ByteArray) (kept : List Int) : (stepF p h b k a text kept).p.length = p.length ∧ (stepF p h b k a text kept).h.length = h.length ∧ (stepF p h b k a text kept).b.length = b.length := by
  generalize hD : stepF p h b k a text kept = D
  unfold stepF at hD
  repeat' split at hD
  all_goals (subst hD; simp [crashP, crashH])
/-- a disk as steps leave it -/
def DInv (n : Nat) (d : Dk) : Prop := d.p.length = n ∧ d.h.length = n ∧ d.b.length = n ∧ (∀ x ∈ d.p, x.size ≤ 28) ∧ (∀ x ∈ d.h, x.size ≤ 28)
theorem sz_set {l : List ByteArray} {i : Nat} {y : ByteArray} (h : ∀ x ∈ l, x.size ≤ 28) (hy : y.size ≤ 28) : ∀ x ∈ l.set i y, x.size ≤ 28 := fun x hx => (List.mem_or_eq_of_mem_set hx).elim (h x) (fun e => e ▸ hy)
theorem sz_get {l : List ByteArray} {i : Nat} (h : ∀ x ∈ l, x.size ≤ 28) : (l.getD i default).size ≤ 28 := by
  by_cases hi : i < l.length
  · exact h _ (getD_mem hi)
  · rw [List.getD_eq_getElem?_getD, List.getElem?_eq_none (by omega)]; decide
theorem stepF_inv {n : Nat} {p h : List ByteArray} {b : List Bool} {k a : Int} {text : ByteArray} {kept : List Int} {o : Bool} (hi : DInv n ⟨p, h, b, o⟩) : DInv n (stepF p h b k a text kept) := by
  obtain ⟨l1, l2, l3⟩ := stepF_len' p h b k a text kept
  obtain ⟨h1, h2, h3, h4, h5⟩ := hi
  simp only at h1 h2 h3 h4 h5
  refine ⟨l1.trans h1, l2.trans h2, l3.trans h3, ?_, ?_⟩
  · generalize hD : stepF p h b k a text kept = D
    unfold stepF at hD
    repeat' split at hD
    all_goals subst hD
    all_goals first
      | exact h4
      | exact sz_set h4 (by rw [rotF_size]; exact sz_get h4)
      | exact sz_set h4 (by decide)
      | (intro x hx
         simp only [crashP, List.mem_map] at hx
         obtain ⟨j, _, rfl⟩ := hx
         simp only [crashF]
         split
         · exact sz_get h5
         · exact sz_get h4)
  · generalize hD : stepF p h b k a text kept = D
    unfold stepF at hD
    repeat' split at hD
    all_goals subst hD
    all_goals first
      | exact h5
      | (rename_i c; exact sz_set h5 c.2.2.2)
      | exact sz_set h5 (by decide)
      | (intro x hx
         simp only [crashH, List.mem_map] at hx
         obtain ⟨j, _, rfl⟩ := hx
         decide)
theorem playS_inv {n : Nat} {l : List Stp} : ∀ {i : Nat}, DInv n (playS n l i)
  | 0 => by
    refine ⟨by simp [playS], by simp [playS], by simp [playS], ?_, ?_⟩ <;>
    · intro x hx
      simp only [playS, List.mem_replicate] at hx
      rw [hx.2]; decide
  | i + 1 => stepF_inv (playS_inv (i := i))
/-- a disk played -/
noncomputable def PlayRes (n : Int) (l : List Stp) : TV := if (1 ≤ n ∧ n ≤ 24) ∧ l.length ≤ 80 then .tup [.agg [(.sl true 1 ((playS n.toNat l l.length).p).length (((playS n.toNat l l.length).p).map T.str)), (.sl true 1 ((playS n.toNat l l.length).h).length (((playS n.toNat l l.length).h).map T.str)), (.sl true 1 ((playS n.toNat l l.length).b).length (((playS n.toNat l l.length).b).map T.bool))], .one (.sl true 1 (didS n.toNat l l.length).length ((didS n.toNat l l.length).map T.bool)), .one (.bool true)] else .tup [.agg [.sl true 0 0 [], .sl true 0 0 [], .sl true 0 0 []], .one (.sl true 0 0 []), .one (.bool false)]
def g42_0 : List Gop := [⟨none, (some 4), (.alloc [.nil, .nil, .nil])⟩, ⟨none, (some 5), (.mov (.k (.one .nil)))⟩, ⟨none, (some 6), (.mov (.k (.one (.bool .false))))⟩]
def g42_1 : List Gop := [⟨none, (some 15), (.mov (.t 0))⟩, ⟨none, (some 16), (.call 13 [(.t 15)])⟩, ⟨none, (some 14), (.mov (.t 16))⟩, ⟨none, (some 17), (.ext (.t 14) 0)⟩, ⟨none, (some 18), (.ext (.t 14) 1)⟩, ⟨none, (some 7), (.alloc [.nil, .nil, .nil])⟩, ⟨none, none, (.store 3 (.t 7) (.t 17))⟩, ⟨none, (some 8), (.mov (.t 18))⟩]
def g42_2 : List Gop := [⟨none, (some 19), (.mov (.t 8))⟩, ⟨none, (some 20), (.un .not (.t 19))⟩, ⟨none, (some 21), (.mov (.t 20))⟩, ⟨(some (21, .false)), (some 22), (.mov (.t 1))⟩, ⟨(some (21, .false)), (some 23), (.len (.t 22))⟩, ⟨(some (21, .false)), (some 24), (.bin .gtr (.t 23) (.k (.one (.int .i64 80))))⟩, ⟨none, (some 25), (.pick (.t 21) (.k (.one (.bool .true))) (.t 24))⟩]
def g42_3 : List Gop := [⟨none, (some 26), (.build [.nil, .nil, .nil] [])⟩, ⟨none, none, (.store 3 (.t 4) (.t 26))⟩, ⟨none, (some 5), (.mov (.k (.one .nil)))⟩, ⟨none, (some 6), (.mov (.k (.one (.bool .false))))⟩]
def g42_4 : List Gop := [⟨none, (some 9), (.mov (.k (.one .nil)))⟩]
def g42_5 : List Gop := [⟨none, (some 27), (.mov (.t 1))⟩, ⟨none, (some 28), (.len (.t 27))⟩, ⟨none, (some 29), (.mov (.k (.one (.int .i64 0))))⟩]
def g42_6 : List Gop := [⟨none, (some 30), (.bin .lss (.t 29) (.t 28))⟩]
def g42_7 : List Gop := [⟨none, (some 31), (.iaddr 4 (.t 27) (.t 29))⟩, ⟨none, (some 32), (.load (some 4) (.t 31))⟩, ⟨none, (some 11), (.alloc [(.int .i64 0), (.int .i64 0), (.str ⟨#[]⟩), .nil])⟩, ⟨none, none, (.store 4 (.t 11) (.t 32))⟩]
def g42_8 : List Gop := [⟨none, (some 34), (.load (some 3) (.t 7))⟩, ⟨none, (some 35), (.call 76 [(.t 34)])⟩, ⟨none, (some 36), (.load (some 4) (.t 11))⟩, ⟨none, (some 37), (.call 86 [(.t 35), (.t 36)])⟩, ⟨none, (some 33), (.mov (.t 37))⟩, ⟨none, (some 38), (.ext (.t 33) 0)⟩, ⟨none, (some 39), (.ext (.t 33) 1)⟩, ⟨none, (some 12), (.alloc [.nil, .nil, .nil])⟩, ⟨none, none, (.store 3 (.t 12) (.t 38))⟩, ⟨none, (some 13), (.mov (.t 39))⟩]
def a42_8 : List (List Nat) := [[], [0], [], [0, 1, 2], [0, 1, 2, 3], [0, 1, 2, 3, 4], [0, 1, 2, 3, 4], [], [0, 1, 2, 3, 4, 5, 7], [0, 1, 2, 3, 4, 5, 6, 7, 8]]
def n42_8 : Nat := 9 -- of 10
def g42_9 : List Gop := [⟨none, (some 40), (.mov (.t 13))⟩]
def g42_10 : List Gop := [⟨none, (some 41), (.load (some 3) (.t 12))⟩, ⟨none, none, (.store 3 (.t 7) (.t 41))⟩]
def g42_11 : List Gop := [⟨none, (some 42), (.mov (.t 9))⟩, ⟨none, (some 43), (.mov (.t 13))⟩, ⟨none, (some 44), (.lit 1 1 [(.bool .false)] [(0, (.t 43))])⟩, ⟨none, (some 45), (.app 1 1 [(.bool .false)] (.t 42) (.t 44))⟩, ⟨none, (some 9), (.mov (.t 45))⟩]
def g42_12 : List Gop := [⟨none, (some 46), (.bin .add (.t 29) (.k (.one (.int .i64 1))))⟩, ⟨none, (some 29), (.mov (.t 46))⟩]
def g42_13 : List Gop := [⟨none, (some 47), (.load (some 3) (.t 7))⟩, ⟨none, (some 48), (.call 76 [(.t 47)])⟩, ⟨none, (some 49), (.mov (.t 9))⟩, ⟨none, none, (.store 3 (.t 4) (.t 48))⟩, ⟨none, (some 5), (.mov (.t 49))⟩, ⟨none, (some 6), (.mov (.k (.one (.bool .true))))⟩]
def i42 : Ir := (.seq (.region g42_0) (.seq (.region g42_1) (.seq (.seq (.region g42_2) (.cond (.t 25) (.seq (.region g42_3) .ret) .skip)) (.seq (.region g42_4) (.seq (.seq (.region g42_5) (.block 0 (.loop (.seq (.region g42_6) (.seq (.cond (.t 30) .skip (.exit 0)) (.seq (.block 1 (.seq (.region g42_7) (.seq (.draw [[], [0], [], [1, 2, 1], [3], [4], [4], [], [7, 5, 3, 0, 1, 2, 3, 4, 5, 7], [6, 8, 0, 1, 2, 3, 4, 5, 6, 7, 8]] g42_8) (.seq (.seq (.region g42_9) (.cond (.t 40) (.region g42_10) .skip)) (.region g42_11))))) (.region g42_12))))))) (.seq (.region g42_13) .ret))))))
theorem specPlayDisk_ok (n : Int) (l : List Stp) (hl : l.length ≤ 1048576) (hk : ∀ x ∈ l, x.h.length ≤ 1048576 ∧ x.t.size ≤ 1048576) : Meets Try.prog 42 [.one (.int .i64 n), .one (LS l)] (PlayRes n l) [.one .hole, .one .hole] := by
  unfold LS
  by_cases h : 1 ≤ n ∧ n ≤ 24
  · obtain ⟨m, rfl⟩ := Int.eq_ofNat_of_zero_le (show 0 ≤ n by omega)
    have MN := specNewDisk_ok m
    rw [NewRes, if_pos h] at MN
    by_cases h2 : l.length ≤ 80
    · rw [PlayRes, if_pos ⟨h, h2⟩]
      refine meets_go (ir := i42) (fn := Try.f42) (rx := [(.cell 4 (some 3)), (.tmp 5), (.tmp 6)]) rfl rfl (by rfl) (by rfl) (by exact Nat.le_of_ble_eq_true rfl) ?_
      simp (maxSteps := 9000000) -implicitDefEqProofs -dsimp (disch := omega) only [go_sem, g42_0, g42_1, g42_2, g42_3, g42_4, g42_5, g42_6, g42_7, g42_8, a42_8, n42_8, g42_9, g42_10, g42_11, g42_12, g42_13, i42, Nat.reduceEqDiff, Nat.reduceAdd, Nat.reduceMul, Nat.reduceLeDiff, Nat.reduceBEq, Nat.reduceBNe, Int.reduceEq, ↓reduceIte, reduceCtorEq]
      refine call_go true MN ?_
      simp (maxSteps := 9000000) -implicitDefEqProofs -dsimp (disch := omega) only [go_sem, g42_0, g42_1, g42_2, g42_3, g42_4, g42_5, g42_6, g42_7, g42_8, a42_8, n42_8, g42_9, g42_10, g42_11, g42_12, g42_13, i42, lt_T, lt_F, le_T, le_F, eq_T, eq_F, and_F, rep_str, rep_bool, List.length_replicate, Nat.reduceEqDiff, Nat.reduceAdd, Nat.reduceMul, Nat.reduceLeDiff, Nat.reduceBEq, Nat.reduceBNe, Int.reduceEq, ↓reduceIte, reduceCtorEq]
      have p0 : (playS m l 0).p = List.replicate m e0 := rfl
      have p1 : (playS m l 0).h = List.replicate m e0 := rfl
      have p2 : (playS m l 0).b = List.replicate m false := rfl
      refine loop_n l.length (fun i => ⟨[(29, .w (.one (.int .i64 (i : Nat)))), (28, .w (.one (.int .i64 l.length))), (27, .w (.one (.hs 0 [] 0 4 l.length))), (9, .w (.one (.hs 9 [] 0 1 i))), (7, .w (.one (.hp 5 [] 0))), (4, .w (.one (.hp 1 [] 0)))],
        [(9, .sl true 1 i ((didS m l i).map T.bool)), (5, .bx true [.sl true 1 m ((playS m l i).p.map T.str), .sl true 1 m ((playS m l i).h.map T.str), .sl true 1 m ((playS m l i).b.map T.bool)]), (1, .bx true [.sl true 0 0 [], .sl true 0 0 [], .sl true 0 0 []]), (0, .sl false 4 l.length (stR l))], [.one (.int .i64 m), .one (.hs 0 [] 0 4 l.length)]⟩) (fun i => True) ?_ trivial ?_
      · exact (imp_adopt 9 9 1 rfl rfl).trans (imp_sub (by simp (maxSteps := 9000000) -implicitDefEqProofs -dsimp (disch := omega) only [go_sem, g42_0, g42_1, g42_2, g42_3, g42_4, g42_5, g42_6, g42_7, g42_8, a42_8, n42_8, g42_9, g42_10, g42_11, g42_12, g42_13, i42, cut_rs, cut_rb, p0, p1, p2, didS_0, Nat.reduceEqDiff, Nat.reduceAdd, Nat.reduceMul, Nat.reduceLeDiff, Nat.reduceBEq, Nat.reduceBNe, Int.reduceEq, ↓reduceIte, reduceCtorEq]) (by simp (maxSteps := 9000000) -implicitDefEqProofs -dsimp (disch := omega) only [go_sem, g42_0, g42_1, g42_2, g42_3, g42_4, g42_5, g42_6, g42_7, g42_8, a42_8, n42_8, g42_9, g42_10, g42_11, g42_12, g42_13, i42, cut_rs, cut_rb, p0, p1, p2, didS_0, Nat.reduceEqDiff, Nat.reduceAdd, Nat.reduceMul, Nat.reduceLeDiff, Nat.reduceBEq, Nat.reduceBNe, Int.reduceEq, ↓reduceIte, reduceCtorEq]) rfl)
      · intro i hi hJ
        simp (maxSteps := 9000000) -implicitDefEqProofs -dsimp (disch := omega) only [go_sem, g42_0, g42_1, g42_2, g42_3, g42_4, g42_5, g42_6, g42_7, g42_8, a42_8, n42_8, g42_9, g42_10, g42_11, g42_12, g42_13, i42, Nat.reduceEqDiff, Nat.reduceAdd, Nat.reduceMul, Nat.reduceLeDiff, Nat.reduceBEq, Nat.reduceBNe, Int.reduceEq, ↓reduceIte, reduceCtorEq]
        refine brP_i (fun h3 => ?_) (fun h3 => ?_)
        · have hlt : i < l.length := by omega
          have hki := hk _ (getD_mem hlt)
          obtain ⟨i1, i2, i3, i4, i5⟩ := playS_inv (n := m) (l := l) (i := i)
          have eS : playS m l (i + 1) = stepF (playS m l i).p (playS m l i).h (playS m l i).b (l.getD i default).k (l.getD i default).a (l.getD i default).t (l.getD i default).h := rfl
          have eD := didS_s (n := m) (l := l) (i := i)
          have cp : cut ((playS m l i).p.map T.str) 0 m = (playS m l i).p.map T.str := cut_all (by simp [i1])
          have ch : cut ((playS m l i).h.map T.str) 0 m = (playS m l i).h.map T.str := cut_all (by simp [i2])
          have cb : cut ((playS m l i).b.map T.bool) 0 m = (playS m l i).b.map T.bool := cut_all (by simp [i3])
          have cd : cut ((didS m l i).map T.bool) 0 i = (didS m l i).map T.bool := cut_all (by simp [didS_len])
          have r1 : (didS m l (i + 1)).length = i + 1 := didS_len
          obtain ⟨j1, j2, j3, j4, j5⟩ := playS_inv (n := m) (l := l) (i := i + 1)
          have cp' : cut ((playS m l (i + 1)).p.map T.str) 0 m = (playS m l (i + 1)).p.map T.str := cut_all (by simp [j1])
          have ch' : cut ((playS m l (i + 1)).h.map T.str) 0 m = (playS m l (i + 1)).h.map T.str := cut_all (by simp [j2])
          have cb' : cut ((playS m l (i + 1)).b.map T.bool) 0 m = (playS m l (i + 1)).b.map T.bool := cut_all (by simp [j3])
          have MO := l7Own_ok (playS m l i).p (playS m l i).h (playS m l i).b (by omega) (by omega) (by omega)
          have MS := l7Step_ok (playS m l i).p (playS m l i).h (playS m l i).b (l.getD i default).k (l.getD i default).a (l.getD i default).t (l.getD i default).h (by omega) (by omega) (by omega) hki.1 hki.2 (fun x hx => by have := i4 x hx; omega)
          rw [← eS, j1, j2, j3, i1, i2, i3] at MS
          rw [i1, i2, i3] at MO
          simp (maxSteps := 9000000) -implicitDefEqProofs -dsimp (disch := omega) only [go_sem, g42_0, g42_1, g42_2, g42_3, g42_4, g42_5, g42_6, g42_7, g42_8, a42_8, n42_8, g42_9, g42_10, g42_11, g42_12, g42_13, i42, stR_0 hlt, stR_1 hlt, stR_2 hlt, stR_3 hlt, Nat.reduceEqDiff, Nat.reduceAdd, Nat.reduceMul, Nat.reduceLeDiff, Nat.reduceBEq, Nat.reduceBNe, Int.reduceEq, ↓reduceIte, reduceCtorEq]
          refine drawm_go n42_8 a42_8 [(3, .framed []), (8, .framed [])] (by decide +kernel) ?_
          simp (maxSteps := 9000000) -implicitDefEqProofs -dsimp (disch := omega) only [go_sem, g42_0, g42_1, g42_2, g42_3, g42_4, g42_5, g42_6, g42_7, g42_8, a42_8, n42_8, g42_9, g42_10, g42_11, g42_12, g42_13, i42, cp, ch, cb, Nat.reduceEqDiff, Nat.reduceAdd, Nat.reduceMul, Nat.reduceLeDiff, Nat.reduceBEq, Nat.reduceBNe, Int.reduceEq, ↓reduceIte, reduceCtorEq]
          refine calla_go true MO ?_
          simp (maxSteps := 9000000) -implicitDefEqProofs -dsimp (disch := omega) only [go_sem, g42_0, g42_1, g42_2, g42_3, g42_4, g42_5, g42_6, g42_7, g42_8, a42_8, n42_8, g42_9, g42_10, g42_11, g42_12, g42_13, i42, cp, ch, cb, Nat.reduceEqDiff, Nat.reduceAdd, Nat.reduceMul, Nat.reduceLeDiff, Nat.reduceBEq, Nat.reduceBNe, Int.reduceEq, ↓reduceIte, reduceCtorEq]
          refine call_go true MS ?_
          cases hok : (playS m l (i + 1)).ok with
          | true =>
            rw [hok] at eD
            simp (maxSteps := 9000000) -implicitDefEqProofs -dsimp (disch := omega) only [go_sem, g42_0, g42_1, g42_2, g42_3, g42_4, g42_5, g42_6, g42_7, g42_8, a42_8, n42_8, g42_9, g42_10, g42_11, g42_12, g42_13, i42, stR_3 hlt, cp, ch, cb, cp', ch', cb', cd, hok, Nat.reduceEqDiff, Nat.reduceAdd, Nat.reduceMul, Nat.reduceLeDiff, Nat.reduceBEq, Nat.reduceBNe, Int.reduceEq, ↓reduceIte, reduceCtorEq]
            exact ⟨hlt, (imp_ren 19 9 rfl rfl).trans (imp_sub (by simp (maxSteps := 9000000) -implicitDefEqProofs -dsimp (disch := omega) only [go_sem, g42_0, g42_1, g42_2, g42_3, g42_4, g42_5, g42_6, g42_7, g42_8, a42_8, n42_8, g42_9, g42_10, g42_11, g42_12, g42_13, i42, eD, Nat.reduceEqDiff, Nat.reduceAdd, Nat.reduceMul, Nat.reduceLeDiff, Nat.reduceBEq, Nat.reduceBNe, Int.reduceEq, ↓reduceIte, reduceCtorEq]) (by simp (maxSteps := 9000000) -implicitDefEqProofs -dsimp (disch := omega) only [go_sem, g42_0, g42_1, g42_2, g42_3, g42_4, g42_5, g42_6, g42_7, g42_8, a42_8, n42_8, g42_9, g42_10, g42_11, g42_12, g42_13, i42, eD, Nat.reduceEqDiff, Nat.reduceAdd, Nat.reduceMul, Nat.reduceLeDiff, Nat.reduceBEq, Nat.reduceBNe, Int.reduceEq, ↓reduceIte, reduceCtorEq]) rfl)⟩
          | false =>
            have hn : playS m l (i + 1) = ⟨(playS m l i).p, (playS m l i).h, (playS m l i).b, false⟩ := by rw [eS] at hok ⊢; exact stepF_no hok
            have n1 : (playS m l (i + 1)).p = (playS m l i).p := by rw [hn]
            have n2 : (playS m l (i + 1)).h = (playS m l i).h := by rw [hn]
            have n3 : (playS m l (i + 1)).b = (playS m l i).b := by rw [hn]
            rw [hok] at eD
            simp (maxSteps := 9000000) -implicitDefEqProofs -dsimp (disch := omega) only [go_sem, g42_0, g42_1, g42_2, g42_3, g42_4, g42_5, g42_6, g42_7, g42_8, a42_8, n42_8, g42_9, g42_10, g42_11, g42_12, g42_13, i42, stR_3 hlt, cp, ch, cb, cp', ch', cb', cd, hok, Nat.reduceEqDiff, Nat.reduceAdd, Nat.reduceMul, Nat.reduceLeDiff, Nat.reduceBEq, Nat.reduceBNe, Int.reduceEq, ↓reduceIte, reduceCtorEq]
            exact ⟨hlt, (imp_ren 19 9 rfl rfl).trans (imp_sub (by simp (maxSteps := 9000000) -implicitDefEqProofs -dsimp (disch := omega) only [go_sem, g42_0, g42_1, g42_2, g42_3, g42_4, g42_5, g42_6, g42_7, g42_8, a42_8, n42_8, g42_9, g42_10, g42_11, g42_12, g42_13, i42, eD, n1, n2, n3, Nat.reduceEqDiff, Nat.reduceAdd, Nat.reduceMul, Nat.reduceLeDiff, Nat.reduceBEq, Nat.reduceBNe, Int.reduceEq, ↓reduceIte, reduceCtorEq]) (by simp (maxSteps := 9000000) -implicitDefEqProofs -dsimp (disch := omega) only [go_sem, g42_0, g42_1, g42_2, g42_3, g42_4, g42_5, g42_6, g42_7, g42_8, a42_8, n42_8, g42_9, g42_10, g42_11, g42_12, g42_13, i42, eD, n1, n2, n3, Nat.reduceEqDiff, Nat.reduceAdd, Nat.reduceMul, Nat.reduceLeDiff, Nat.reduceBEq, Nat.reduceBNe, Int.reduceEq, ↓reduceIte, reduceCtorEq]) rfl)⟩
        · obtain rfl : i = l.length := by omega
          obtain ⟨i1, i2, i3, i4, i5⟩ := playS_inv (n := m) (l := l) (i := l.length)
          have MO := l7Own_ok (playS m l l.length).p (playS m l l.length).h (playS m l l.length).b (by omega) (by omega) (by omega)
          rw [i1, i2, i3] at MO
          have r1 : (didS m l l.length).length = l.length := didS_len
          have cp : cut ((playS m l l.length).p.map T.str) 0 m = (playS m l l.length).p.map T.str := cut_all (by simp [i1])
          have ch : cut ((playS m l l.length).h.map T.str) 0 m = (playS m l l.length).h.map T.str := cut_all (by simp [i2])
          have cb : cut ((playS m l l.length).b.map T.bool) 0 m = (playS m l l.length).b.map T.bool := cut_all (by simp [i3])
          have cd : cut ((didS m l l.length).map T.bool) 0 l.length = (didS m l l.length).map T.bool := cut_all (by simp [didS_len])
          simp (maxSteps := 9000000) -implicitDefEqProofs -dsimp (disch := omega) only [go_sem, g42_0, g42_1, g42_2, g42_3, g42_4, g42_5, g42_6, g42_7, g42_8, a42_8, n42_8, g42_9, g42_10, g42_11, g42_12, g42_13, i42, cp, ch, cb, cd, i1, i2, i3, r1, toNat_nat, Nat.reduceEqDiff, Nat.reduceAdd, Nat.reduceMul, Nat.reduceLeDiff, Nat.reduceBEq, Nat.reduceBNe, Int.reduceEq, ↓reduceIte, reduceCtorEq]
          refine call_go true MO ?_
          simp (maxSteps := 9000000) -implicitDefEqProofs -dsimp (disch := omega) only [go_sem, g42_0, g42_1, g42_2, g42_3, g42_4, g42_5, g42_6, g42_7, g42_8, a42_8, n42_8, g42_9, g42_10, g42_11, g42_12, g42_13, i42, cp, ch, cb, cd, i1, i2, i3, r1, toNat_nat, Nat.reduceEqDiff, Nat.reduceAdd, Nat.reduceMul, Nat.reduceLeDiff, Nat.reduceBEq, Nat.reduceBNe, Int.reduceEq, ↓reduceIte, reduceCtorEq]
    · rw [PlayRes, if_neg (fun q => h2 q.2)]
      refine meets_go (ir := i42) (fn := Try.f42) (rx := [(.cell 4 (some 3)), (.tmp 5), (.tmp 6)]) rfl rfl (by rfl) (by rfl) (by exact Nat.le_of_ble_eq_true rfl) ?_
      simp (maxSteps := 9000000) -implicitDefEqProofs -dsimp (disch := omega) only [go_sem, g42_0, g42_1, g42_2, g42_3, g42_4, g42_5, g42_6, g42_7, g42_8, a42_8, n42_8, g42_9, g42_10, g42_11, g42_12, g42_13, i42, Nat.reduceEqDiff, Nat.reduceAdd, Nat.reduceMul, Nat.reduceLeDiff, Nat.reduceBEq, Nat.reduceBNe, Int.reduceEq, ↓reduceIte, reduceCtorEq]
      refine call_go true MN ?_
      simp (maxSteps := 9000000) -implicitDefEqProofs -dsimp (disch := omega) only [go_sem, g42_0, g42_1, g42_2, g42_3, g42_4, g42_5, g42_6, g42_7, g42_8, a42_8, n42_8, g42_9, g42_10, g42_11, g42_12, g42_13, i42, lt_T, lt_F, le_T, le_F, eq_T, eq_F, and_F, rep_str, rep_bool, List.length_replicate, Nat.reduceEqDiff, Nat.reduceAdd, Nat.reduceMul, Nat.reduceLeDiff, Nat.reduceBEq, Nat.reduceBNe, Int.reduceEq, ↓reduceIte, reduceCtorEq]
  · have MN := specNewDisk_ok n
    rw [NewRes, if_neg h] at MN
    rw [PlayRes, if_neg (fun q => h q.1)]
    refine meets_go (ir := i42) (fn := Try.f42) (rx := [(.cell 4 (some 3)), (.tmp 5), (.tmp 6)]) rfl rfl (by rfl) (by rfl) (by exact Nat.le_of_ble_eq_true rfl) ?_
    simp (maxSteps := 9000000) -implicitDefEqProofs -dsimp (disch := omega) only [go_sem, g42_0, g42_1, g42_2, g42_3, g42_4, g42_5, g42_6, g42_7, g42_8, a42_8, n42_8, g42_9, g42_10, g42_11, g42_12, g42_13, i42, Nat.reduceEqDiff, Nat.reduceAdd, Nat.reduceMul, Nat.reduceLeDiff, Nat.reduceBEq, Nat.reduceBNe, Int.reduceEq, ↓reduceIte, reduceCtorEq]
    refine call_go true MN ?_
    simp (maxSteps := 9000000) -implicitDefEqProofs -dsimp (disch := omega) only [go_sem, g42_0, g42_1, g42_2, g42_3, g42_4, g42_5, g42_6, g42_7, g42_8, a42_8, n42_8, g42_9, g42_10, g42_11, g42_12, g42_13, i42, lt_T, lt_F, le_T, le_F, eq_T, eq_F, and_F, Nat.reduceEqDiff, Nat.reduceAdd, Nat.reduceMul, Nat.reduceLeDiff, Nat.reduceBEq, Nat.reduceBNe, Int.reduceEq, ↓reduceIte, reduceCtorEq]
end Go.Proofs.YtjlodcoeegpkaaaT
