/- Functions of the program, each with what it returns and leaves. No condition. -/
import Derived.Test.YtdhclelfnbjikaaTree8
import Derived.Test.YtdhclelfnbjikaaProg
set_option linter.all false
set_option linter.unusedVariables false
set_option linter.unusedSimpArgs false
set_option linter.unusedSectionVars false
set_option linter.unnecessarySimpa false
set_option linter.deprecated false
/- Functions of the program as contracts: rows of numbers. No condition. -/
set_option maxRecDepth 100000
set_option maxHeartbeats 4000000
set_option linter.unusedSimpArgs false
set_option linter.unusedVariables false
namespace Go.Proofs.YtdhclelfnbjikaaT
open Go
def g75_0 : List Gop := [⟨none, (some 6), (.mov (.k (.one (.bool .false))))⟩]
def g75_1 : List Gop := [⟨none, (some 7), (.mov (.t 0))⟩, ⟨none, (some 8), (.mov (.t 1))⟩, ⟨none, (some 9), (.bin .geq (.t 7) (.t 8))⟩, ⟨none, (some 10), (.mov (.t 9))⟩, ⟨(some (10, .true)), (some 11), (.mov (.t 0))⟩, ⟨(some (10, .true)), (some 12), (.mov (.t 2))⟩, ⟨(some (10, .true)), (some 13), (.bin .leq (.t 11) (.t 12))⟩, ⟨none, (some 14), (.pick (.t 10) (.t 13) (.k (.one (.bool .false))))⟩, ⟨none, (some 6), (.mov (.t 14))⟩]
def i75 : Ir := (.seq (.region g75_0) (.seq (.region g75_1) .ret))
theorem within_ok (x lo hi : Int) : Meets Try.prog 75 [.one (.int .i64 x), .one (.int .i64 lo), .one (.int .i64 hi)] (.w (.one (.bool (decide (lo ≤ x ∧ x ≤ hi))))) [.one .hole, .one .hole, .one .hole] := by
  refine meets_go (ir := i75) (fn := Try.f75) (rx := [(.tmp 6)]) rfl rfl (by rfl) (by rfl) (by exact Nat.le_of_ble_eq_true rfl) ?_
  by_cases h : lo ≤ x <;> simp (maxSteps := 9000000) -implicitDefEqProofs -dsimp (disch := omega) only [go_sem, g75_0, g75_1, i75, h, Nat.reduceEqDiff, Nat.reduceAdd, Nat.reduceMul, Nat.reduceLeDiff, Nat.reduceBEq, Nat.reduceBNe, Int.reduceEq, ↓reduceIte, reduceCtorEq]
def g72_0 : List Gop := [⟨none, (some 4), (.mov (.k (.one (.bool .false))))⟩]
def g72_1 : List Gop := [⟨none, (some 7), (.mov (.t 0))⟩, ⟨none, (some 8), (.len (.t 7))⟩, ⟨none, (some 9), (.mov (.k (.one (.int .i64 0))))⟩]
def g72_2 : List Gop := [⟨none, (some 10), (.bin .lss (.t 9) (.t 8))⟩]
def g72_3 : List Gop := [⟨none, (some 11), (.iaddr 1 (.t 7) (.t 9))⟩, ⟨none, (some 12), (.load none (.t 11))⟩, ⟨none, (some 6), (.mov (.t 12))⟩]
def g72_4 : List Gop := [⟨none, (some 13), (.mov (.t 6))⟩, ⟨none, (some 14), (.mov (.t 1))⟩, ⟨none, (some 15), (.bin .eql (.t 13) (.t 14))⟩]
def g72_5 : List Gop := [⟨none, (some 4), (.mov (.k (.one (.bool .true))))⟩]
def g72_6 : List Gop := [⟨none, (some 16), (.bin .add (.t 9) (.k (.one (.int .i64 1))))⟩, ⟨none, (some 9), (.mov (.t 16))⟩]
def g72_7 : List Gop := [⟨none, (some 4), (.mov (.k (.one (.bool .false))))⟩]
def i72 : Ir := (.seq (.region g72_0) (.seq (.seq (.region g72_1) (.block 0 (.loop (.seq (.region g72_2) (.seq (.cond (.t 10) .skip (.exit 0)) (.seq (.block 1 (.seq (.region g72_3) (.seq (.region g72_4) (.cond (.t 15) (.seq (.region g72_5) .ret) .skip)))) (.region g72_6))))))) (.seq (.region g72_7) .ret)))
theorem l1Has_ok (l : List Int) (x : Int) (hl : l.length ≤ 9223372036854775807) : Meets Try.prog 72 [.one (.sl false 1 l.length (l.map (T.int .i64))), .one (.int .i64 x)] (.w (.one (.bool (decide (x ∈ l))))) [.one .hole, .one .hole] := by
  refine meets_go (ir := i72) (fn := Try.f72) (rx := [(.tmp 4)]) rfl rfl (by rfl) (by rfl) (by exact Nat.le_of_ble_eq_true rfl) ?_
  simp (maxSteps := 9000000) -implicitDefEqProofs -dsimp (disch := omega) only [go_sem, g72_0, g72_1, g72_2, g72_3, g72_4, g72_5, g72_6, g72_7, i72, Nat.reduceEqDiff, Nat.reduceAdd, Nat.reduceMul, Nat.reduceLeDiff, Nat.reduceBEq, Nat.reduceBNe, Int.reduceEq, ↓reduceIte, reduceCtorEq]
  refine loop_n l.length (fun i => ⟨[(9, .w (.one (.int .i64 (i : Nat)))), (8, .w (.one (.int .i64 l.length))), (7, .w (.one (.hs 0 [] 0 1 l.length))), (4, .w (.one (.bool false))), (1, .w (.one (.int .i64 x)))], [(0, (.sl false 1 l.length (l.map (T.int .i64))))], [.one (.hs 0 [] 0 1 l.length), .one (.int .i64 x)]⟩) (fun i => ∀ j, j < i → l.getD j 0 ≠ x) ?_ ?_ ?_
  · exact (imp_sub (by simp (maxSteps := 9000000) -implicitDefEqProofs -dsimp (disch := omega) only [go_sem, Nat.reduceEqDiff, Nat.reduceAdd, Nat.reduceMul, Nat.reduceLeDiff, Nat.reduceBEq, Nat.reduceBNe, Int.reduceEq, ↓reduceIte, reduceCtorEq]) (by simp (maxSteps := 9000000) -implicitDefEqProofs -dsimp (disch := omega) only [go_sem, Nat.reduceEqDiff, Nat.reduceAdd, Nat.reduceMul, Nat.reduceLeDiff, Nat.reduceBEq, Nat.reduceBNe, Int.reduceEq, ↓reduceIte, reduceCtorEq]) rfl)
  · intro j hj; omega
  · intro i hi hJ
    simp (maxSteps := 9000000) -implicitDefEqProofs -dsimp (disch := omega) only [go_sem, Nat.reduceEqDiff, Nat.reduceAdd, Nat.reduceMul, Nat.reduceLeDiff, Nat.reduceBEq, Nat.reduceBNe, Int.reduceEq, ↓reduceIte, reduceCtorEq]
    refine brP_i (fun h => ?_) (fun h => ?_)
    · simp (maxSteps := 9000000) -implicitDefEqProofs -dsimp (disch := omega) only [go_sem, Nat.reduceEqDiff, Nat.reduceAdd, Nat.reduceMul, Nat.reduceLeDiff, Nat.reduceBEq, Nat.reduceBNe, Int.reduceEq, ↓reduceIte, reduceCtorEq]
      refine brP_i (fun h2 => ?_) (fun h2 => ?_)
      · simp (maxSteps := 9000000) -implicitDefEqProofs -dsimp (disch := omega) only [go_sem, Nat.reduceEqDiff, Nat.reduceAdd, Nat.reduceMul, Nat.reduceLeDiff, Nat.reduceBEq, Nat.reduceBNe, Int.reduceEq, ↓reduceIte, reduceCtorEq]
        have : x ∈ l := by
          rw [List.getD_eq_getElem?_getD, List.getElem?_eq_getElem (by omega)] at h2
          exact h2 ▸ List.getElem_mem _
        exact need_i (by simp [this]) (by simp (maxSteps := 9000000) -implicitDefEqProofs -dsimp (disch := omega) only [go_sem, Nat.reduceEqDiff, Nat.reduceAdd, Nat.reduceMul, Nat.reduceLeDiff, Nat.reduceBEq, Nat.reduceBNe, Int.reduceEq, ↓reduceIte, reduceCtorEq])
      · simp (maxSteps := 9000000) -implicitDefEqProofs -dsimp (disch := omega) only [go_sem, Nat.reduceEqDiff, Nat.reduceAdd, Nat.reduceMul, Nat.reduceLeDiff, Nat.reduceBEq, Nat.reduceBNe, Int.reduceEq, ↓reduceIte, reduceCtorEq]
        refine ⟨⟨by omega, fun j hj => ?_⟩, (imp_sub (by simp (maxSteps := 9000000) -implicitDefEqProofs -dsimp (disch := omega) only [go_sem, Nat.reduceEqDiff, Nat.reduceAdd, Nat.reduceMul, Nat.reduceLeDiff, Nat.reduceBEq, Nat.reduceBNe, Int.reduceEq, ↓reduceIte, reduceCtorEq]) (by simp (maxSteps := 9000000) -implicitDefEqProofs -dsimp (disch := omega) only [go_sem, Nat.reduceEqDiff, Nat.reduceAdd, Nat.reduceMul, Nat.reduceLeDiff, Nat.reduceBEq, Nat.reduceBNe, Int.reduceEq, ↓reduceIte, reduceCtorEq]) rfl)⟩
        rcases Nat.lt_succ_iff_lt_or_eq.1 hj with h3 | rfl
        · exact hJ j h3
        · exact h2
    · simp (maxSteps := 9000000) -implicitDefEqProofs -dsimp (disch := omega) only [go_sem, Nat.reduceEqDiff, Nat.reduceAdd, Nat.reduceMul, Nat.reduceLeDiff, Nat.reduceBEq, Nat.reduceBNe, Int.reduceEq, ↓reduceIte, reduceCtorEq]
      have : x ∉ l := by
        intro hx
        obtain ⟨j, hj, e⟩ := List.getElem_of_mem hx
        refine hJ j (by omega) ?_
        rw [List.getD_eq_getElem?_getD, List.getElem?_eq_getElem hj]; exact e
      exact need_i (by simp [this]) (by simp (maxSteps := 9000000) -implicitDefEqProofs -dsimp (disch := omega) only [go_sem, Nat.reduceEqDiff, Nat.reduceAdd, Nat.reduceMul, Nat.reduceLeDiff, Nat.reduceBEq, Nat.reduceBNe, Int.reduceEq, ↓reduceIte, reduceCtorEq])
end Go.Proofs.YtdhclelfnbjikaaT

/- Functions of the program as contracts: graphs, as the laws handle them. No condition. -/
set_option maxRecDepth 100000
set_option maxHeartbeats 8000000
set_option linter.unusedSimpArgs false
set_option linter.unusedVariables false
namespace Go.Proofs.YtdhclelfnbjikaaT
open Go Go.RowKit
/-- a node -/
structure Nd where
  h : List Int
  g : Bool
  deriving Inhabited
structure Gr where
  n : List Nd
  r : List Int
  c : List Int
def ndR (l : List Nd) : List T := rows2 (fun x => (.sl false 1 x.h.length (x.h.map (T.int .i64)))) (fun x => .bool x.g) l
def ndO (l : List Nd) : List T := rows2 (fun x => (.sl true 1 x.h.length (x.h.map (T.int .i64)))) (fun x => .bool x.g) l
theorem ndR_0 {l : List Nd} {i : Nat} (h : i < l.length) : (ndR l)[i * 2]? = some (.sl false 1 ((l.getD i default).h).length (((l.getD i default).h).map (T.int .i64))) := rows2_0 h
theorem ndR_1 {l : List Nd} {i : Nat} (h : i < l.length) : (ndR l)[i * 2 + 1]? = some (.bool (l.getD i default).g) := rows2_1 h
theorem ndO_0 {l : List Nd} {i : Nat} (h : i < l.length) : (ndO l)[i * 2]? = some (.sl true 1 ((l.getD i default).h).length (((l.getD i default).h).map (T.int .i64))) := rows2_0 h
theorem ndO_1 {l : List Nd} {i : Nat} (h : i < l.length) : (ndO l)[i * 2 + 1]? = some (.bool (l.getD i default).g) := rows2_1 h
theorem ndO_set {l : List Nd} {i : Nat} (x : Nd) (h : i < l.length) : ((ndO l).set (i * 2) (.sl true 1 x.h.length (x.h.map (T.int .i64)))).set (i * 2 + 1) (.bool x.g) = ndO (l.set i x) := rows2_set x h
theorem ndO_cut {l : List Nd} : cut (ndO l) 0 (l.length * 2) = ndO l := rows2_cut rfl
theorem ndR_cut {l : List Nd} : cut (ndR l) 0 (l.length * 2) = ndR l := rows2_cut rfl
theorem ndO_ro {l : List Nd} : (ndO l).map toRo = ndR l := by
  unfold ndO ndR
  rw [rows2_ro]
  congr 1
  · funext x; simp
  · funext x; simp
theorem ndO_noRo {l : List Nd} : noRoL (ndO l) = true := rows2_noRo fun x => ⟨by simp [noRo, noRoL_int], by simp [noRo]⟩
/-- how much room nodes take -/
def ntt (l : List Nd) : Int := (l.map fun x : Nd => (x.h.length : Int)).sum
theorem ntt_nonneg : ∀ {l : List Nd}, 0 ≤ ntt l
  | [] => by simp [ntt]
  | x :: l => by have := ntt_nonneg (l := l); simp only [ntt, List.map_cons, List.sum_cons] at *; omega
theorem mem_ntt {l : List Nd} {x : Nd} (h : x ∈ l) : (x.h.length : Int) ≤ ntt l := by
  induction l with
  | nil => simp at h
  | cons y l ih =>
    have := ntt_nonneg (l := l)
    have e : ntt (y :: l) = y.h.length + ntt l := by simp [ntt]
    rcases List.mem_cons.1 h with rfl | h
    · omega
    · have := ih h; omega
end Go.Proofs.YtdhclelfnbjikaaT

/- Functions of the program as contracts: what is asked of a graph. No condition. -/
set_option maxRecDepth 100000
set_option maxHeartbeats 8000000
set_option linter.unusedSimpArgs false
set_option linter.unusedVariables false
namespace Go.Proofs.YtdhclelfnbjikaaT
open Go Go.RowKit
def HoldOk (n : List Nd) (i : Int) (y : Int) : Prop := 0 ≤ y ∧ y < i ∧ (n.getD y.toNat default).g = false
def NodeOk (n : List Nd) (i : Nat) : Prop := (∀ y ∈ (n.getD i default).h, HoldOk n i y) ∧ (n.getD i default).h.length ≤ 6 ∧ ((n.getD i default).g = true → (n.getD i default).h.length = 0)
def NodesOk (n : List Nd) (r : List Int) : Prop := (∀ i, i < n.length → NodeOk n i) ∧ (∀ y ∈ r, HoldOk n n.length y) ∧ n.length ≤ 14 ∧ r.length ≤ 6
noncomputable instance (n : List Nd) (r : List Int) : Decidable (NodesOk n r) := Classical.propDecidable _
theorem mem_take {α : Type} [Inhabited α] {l : List α} {P : α → Prop} {i : Nat} (h : ∀ j, j < i → P (l.getD j default)) (hi : i = l.length) : ∀ y ∈ l, P y := by
  intro y hy
  obtain ⟨j, hj, e⟩ := List.mem_iff_getElem.1 hy
  have := h j (by omega)
  simp only [List.getD_eq_getElem?_getD, List.getElem?_eq_getElem hj, Option.getD_some] at this
  rwa [e] at this
def g56_0 : List Gop := [⟨none, (some 4), (.mov (.k (.one (.bool .false))))⟩]
def g56_1 : List Gop := [⟨none, (some 11), (.mov (.t 0))⟩, ⟨none, (some 12), (.len (.t 11))⟩, ⟨none, (some 13), (.mov (.k (.one (.int .i64 0))))⟩]
def g56_2 : List Gop := [⟨none, (some 14), (.bin .lss (.t 13) (.t 12))⟩]
def g56_3 : List Gop := [⟨none, (some 15), (.mov (.t 13))⟩, ⟨none, (some 16), (.iaddr 2 (.t 11) (.t 13))⟩, ⟨none, (some 17), (.load (some 2) (.t 16))⟩, ⟨none, (some 6), (.alloc [.nil, (.bool .false)])⟩, ⟨none, (some 5), (.mov (.t 15))⟩, ⟨none, none, (.store 2 (.t 6) (.t 17))⟩]
def g56_4 : List Gop := [⟨none, (some 18), (.faddr (.t 6) 0)⟩, ⟨none, (some 19), (.load none (.t 18))⟩, ⟨none, (some 20), (.len (.t 19))⟩, ⟨none, (some 21), (.mov (.k (.one (.int .i64 0))))⟩]
def g56_5 : List Gop := [⟨none, (some 22), (.bin .lss (.t 21) (.t 20))⟩]
def g56_6 : List Gop := [⟨none, (some 23), (.iaddr 1 (.t 19) (.t 21))⟩, ⟨none, (some 24), (.load none (.t 23))⟩, ⟨none, (some 8), (.mov (.t 24))⟩]
def g56_7 : List Gop := [⟨none, (some 25), (.mov (.t 8))⟩, ⟨none, (some 26), (.bin .lss (.t 25) (.k (.one (.int .i64 0))))⟩, ⟨none, (some 27), (.mov (.t 26))⟩, ⟨(some (27, .false)), (some 28), (.mov (.t 8))⟩, ⟨(some (27, .false)), (some 29), (.mov (.t 5))⟩, ⟨(some (27, .false)), (some 30), (.bin .geq (.t 28) (.t 29))⟩, ⟨none, (some 31), (.pick (.t 27) (.k (.one (.bool .true))) (.t 30))⟩, ⟨none, (some 32), (.mov (.t 31))⟩, ⟨(some (32, .false)), (some 33), (.mov (.t 0))⟩, ⟨(some (32, .false)), (some 34), (.mov (.t 8))⟩, ⟨(some (32, .false)), (some 35), (.iaddr 2 (.t 33) (.t 34))⟩, ⟨(some (32, .false)), (some 36), (.faddr (.t 35) 1)⟩, ⟨(some (32, .false)), (some 37), (.load none (.t 36))⟩, ⟨none, (some 38), (.pick (.t 32) (.k (.one (.bool .true))) (.t 37))⟩]
def g56_8 : List Gop := [⟨none, (some 4), (.mov (.k (.one (.bool .false))))⟩]
def g56_9 : List Gop := [⟨none, (some 39), (.bin .add (.t 21) (.k (.one (.int .i64 1))))⟩, ⟨none, (some 21), (.mov (.t 39))⟩]
def g56_10 : List Gop := [⟨none, (some 40), (.faddr (.t 6) 0)⟩, ⟨none, (some 41), (.load none (.t 40))⟩, ⟨none, (some 42), (.len (.t 41))⟩, ⟨none, (some 43), (.bin .gtr (.t 42) (.k (.one (.int .i64 6))))⟩, ⟨none, (some 44), (.mov (.t 43))⟩, ⟨(some (44, .false)), (some 45), (.faddr (.t 6) 1)⟩, ⟨(some (44, .false)), (some 46), (.load none (.t 45))⟩, ⟨(some (44, .false)), (some 47), (.mov (.t 46))⟩, ⟨(some (47, .true)), (some 48), (.faddr (.t 6) 0)⟩, ⟨(some (47, .true)), (some 49), (.load none (.t 48))⟩, ⟨(some (47, .true)), (some 50), (.len (.t 49))⟩, ⟨(some (47, .true)), (some 51), (.bin .gtr (.t 50) (.k (.one (.int .i64 0))))⟩, ⟨(some (44, .false)), (some 52), (.pick (.t 47) (.t 51) (.k (.one (.bool .false))))⟩, ⟨none, (some 53), (.pick (.t 44) (.k (.one (.bool .true))) (.t 52))⟩]
def g56_11 : List Gop := [⟨none, (some 4), (.mov (.k (.one (.bool .false))))⟩]
def g56_12 : List Gop := [⟨none, (some 54), (.bin .add (.t 13) (.k (.one (.int .i64 1))))⟩, ⟨none, (some 13), (.mov (.t 54))⟩]
def g56_13 : List Gop := [⟨none, (some 55), (.mov (.t 1))⟩, ⟨none, (some 56), (.len (.t 55))⟩, ⟨none, (some 57), (.mov (.k (.one (.int .i64 0))))⟩]
def g56_14 : List Gop := [⟨none, (some 58), (.bin .lss (.t 57) (.t 56))⟩]
def g56_15 : List Gop := [⟨none, (some 59), (.iaddr 1 (.t 55) (.t 57))⟩, ⟨none, (some 60), (.load none (.t 59))⟩, ⟨none, (some 10), (.mov (.t 60))⟩]
def g56_16 : List Gop := [⟨none, (some 61), (.mov (.t 10))⟩, ⟨none, (some 62), (.bin .lss (.t 61) (.k (.one (.int .i64 0))))⟩, ⟨none, (some 63), (.mov (.t 62))⟩, ⟨(some (63, .false)), (some 64), (.mov (.t 10))⟩, ⟨(some (63, .false)), (some 65), (.mov (.t 0))⟩, ⟨(some (63, .false)), (some 66), (.len (.t 65))⟩, ⟨(some (63, .false)), (some 67), (.bin .geq (.t 64) (.t 66))⟩, ⟨none, (some 68), (.pick (.t 63) (.k (.one (.bool .true))) (.t 67))⟩, ⟨none, (some 69), (.mov (.t 68))⟩, ⟨(some (69, .false)), (some 70), (.mov (.t 0))⟩, ⟨(some (69, .false)), (some 71), (.mov (.t 10))⟩, ⟨(some (69, .false)), (some 72), (.iaddr 2 (.t 70) (.t 71))⟩, ⟨(some (69, .false)), (some 73), (.faddr (.t 72) 1)⟩, ⟨(some (69, .false)), (some 74), (.load none (.t 73))⟩, ⟨none, (some 75), (.pick (.t 69) (.k (.one (.bool .true))) (.t 74))⟩]
def g56_17 : List Gop := [⟨none, (some 4), (.mov (.k (.one (.bool .false))))⟩]
def g56_18 : List Gop := [⟨none, (some 76), (.bin .add (.t 57) (.k (.one (.int .i64 1))))⟩, ⟨none, (some 57), (.mov (.t 76))⟩]
def g56_19 : List Gop := [⟨none, (some 77), (.mov (.t 0))⟩, ⟨none, (some 78), (.len (.t 77))⟩, ⟨none, (some 79), (.bin .leq (.t 78) (.k (.one (.int .i64 14))))⟩, ⟨none, (some 80), (.mov (.t 79))⟩, ⟨(some (80, .true)), (some 81), (.mov (.t 1))⟩, ⟨(some (80, .true)), (some 82), (.len (.t 81))⟩, ⟨(some (80, .true)), (some 83), (.bin .leq (.t 82) (.k (.one (.int .i64 6))))⟩, ⟨none, (some 84), (.pick (.t 80) (.t 83) (.k (.one (.bool .false))))⟩, ⟨none, (some 4), (.mov (.t 84))⟩]
def i56 : Ir := (.seq (.region g56_0) (.seq (.seq (.region g56_1) (.block 0 (.loop (.seq (.region g56_2) (.seq (.cond (.t 14) .skip (.exit 0)) (.seq (.block 1 (.seq (.region g56_3) (.seq (.seq (.region g56_4) (.block 2 (.loop (.seq (.region g56_5) (.seq (.cond (.t 22) .skip (.exit 2)) (.seq (.block 3 (.seq (.region g56_6) (.seq (.region g56_7) (.cond (.t 38) (.seq (.region g56_8) .ret) .skip)))) (.region g56_9))))))) (.seq (.region g56_10) (.cond (.t 53) (.seq (.region g56_11) .ret) .skip))))) (.region g56_12))))))) (.seq (.seq (.region g56_13) (.block 4 (.loop (.seq (.region g56_14) (.seq (.cond (.t 58) .skip (.exit 4)) (.seq (.block 5 (.seq (.region g56_15) (.seq (.region g56_16) (.cond (.t 75) (.seq (.region g56_17) .ret) .skip)))) (.region g56_18))))))) (.seq (.region g56_19) .ret))))
theorem l10Nodes_ok (n : List Nd) (r : List Int) (hn : n.length ≤ 1048576) (hh : ∀ x ∈ n, x.h.length ≤ 1048576) (hr : r.length ≤ 1048576) : Meets Try.prog 56 [.one (.sl false 2 n.length (ndR n)), .one (.sl false 1 r.length (r.map (T.int .i64)))] (.w (.one (.bool (decide (NodesOk n r))))) [.one .hole, .one .hole] := by
  refine meets_go (ir := i56) (fn := Try.f56) (rx := [(.tmp 4)]) rfl rfl (by rfl) (by rfl) (by exact Nat.le_of_ble_eq_true rfl) ?_
  simp (maxSteps := 9000000) -implicitDefEqProofs -dsimp (disch := omega) only [go_sem, g56_0, g56_1, g56_2, g56_3, g56_4, g56_5, g56_6, g56_7, g56_8, g56_9, g56_10, g56_11, g56_12, g56_13, g56_14, g56_15, g56_16, g56_17, g56_18, g56_19, i56, Nat.reduceEqDiff, Nat.reduceAdd, Nat.reduceMul, Nat.reduceLeDiff, Nat.reduceBEq, Nat.reduceBNe, Int.reduceEq, ↓reduceIte, reduceCtorEq]
  refine loop_n n.length (fun i => ⟨[(13, .w (.one (.int .i64 (i : Nat)))), (12, .w (.one (.int .i64 n.length))), (11, .w (.one (.hs 0 [] 0 2 n.length))), (4, .w (.one (.bool false))), (0, .w (.one (.hs 0 [] 0 2 n.length))), (1, .w (.one (.hs 1 [] 0 1 r.length)))], [(1, (.sl false 1 r.length (r.map (T.int .i64)))), (0, .sl false 2 n.length (ndR n))], [.one (.hs 0 [] 0 2 n.length), .one (.hs 1 [] 0 1 r.length)]⟩) (fun i => ∀ j, j < i → NodeOk n j) ?_ (by omega) ?_
  · exact (imp_sub (by simp (maxSteps := 9000000) -implicitDefEqProofs -dsimp (disch := omega) only [go_sem, Nat.reduceEqDiff, Nat.reduceAdd, Nat.reduceMul, Nat.reduceLeDiff, Nat.reduceBEq, Nat.reduceBNe, Int.reduceEq, ↓reduceIte, reduceCtorEq]) (by simp (maxSteps := 9000000) -implicitDefEqProofs -dsimp (disch := omega) only [go_sem, Nat.reduceEqDiff, Nat.reduceAdd, Nat.reduceMul, Nat.reduceLeDiff, Nat.reduceBEq, Nat.reduceBNe, Int.reduceEq, ↓reduceIte, reduceCtorEq]) rfl)
  · intro i hi hJ
    simp (maxSteps := 9000000) -implicitDefEqProofs -dsimp (disch := omega) only [go_sem, Nat.reduceEqDiff, Nat.reduceAdd, Nat.reduceMul, Nat.reduceLeDiff, Nat.reduceBEq, Nat.reduceBNe, Int.reduceEq, ↓reduceIte, reduceCtorEq]
    refine brP_i (fun h1 => ?_) (fun h1 => ?_)
    · have hlt : i < n.length := by omega
      have hh1 := hh _ (getD_mem hlt)
      simp (maxSteps := 9000000) -implicitDefEqProofs -dsimp (disch := omega) only [go_sem, ndR_0 hlt, ndR_1 hlt, Nat.reduceEqDiff, Nat.reduceAdd, Nat.reduceMul, Nat.reduceLeDiff, Nat.reduceBEq, Nat.reduceBNe, Int.reduceEq, ↓reduceIte, reduceCtorEq]
      have bad : ∀ t, t < (n.getD i default).h.length → ¬ HoldOk n i ((n.getD i default).h.getD t default) → ¬ NodesOk n r := fun t ht hb q => hb ((q.1 i hlt).1 _ (getD_mem ht))
      refine loop_n (n.getD i default).h.length (fun t => ⟨[(21, .w (.one (.int .i64 (t : Nat)))), (20, .w (.one (.int .i64 (n.getD i default).h.length))), (19, .w (.one (.hs 2 [0] 0 1 (n.getD i default).h.length))), (5, .w (.one (.int .i64 (i : Nat)))), (6, .w (.one (.hp 2 [] 0))), (13, .w (.one (.int .i64 (i : Nat)))), (12, .w (.one (.int .i64 n.length))), (11, .w (.one (.hs 0 [] 0 2 n.length))), (4, .w (.one (.bool false))), (0, .w (.one (.hs 0 [] 0 2 n.length))), (1, .w (.one (.hs 1 [] 0 1 r.length)))],
        [(2, .bx true [(.sl false 1 ((n.getD i default).h).length (((n.getD i default).h).map (T.int .i64))), .bool (n.getD i default).g]), (1, (.sl false 1 r.length (r.map (T.int .i64)))), (0, .sl false 2 n.length (ndR n))], [.one (.hs 0 [] 0 2 n.length), .one (.hs 1 [] 0 1 r.length)]⟩) (fun t => ∀ j, j < t → HoldOk n i ((n.getD i default).h.getD j default)) ?_ (by omega) ?_
      · exact (imp_sub (by simp (maxSteps := 9000000) -implicitDefEqProofs -dsimp (disch := omega) only [go_sem, Nat.reduceEqDiff, Nat.reduceAdd, Nat.reduceMul, Nat.reduceLeDiff, Nat.reduceBEq, Nat.reduceBNe, Int.reduceEq, ↓reduceIte, reduceCtorEq]) (by simp (maxSteps := 9000000) -implicitDefEqProofs -dsimp (disch := omega) only [go_sem, Nat.reduceEqDiff, Nat.reduceAdd, Nat.reduceMul, Nat.reduceLeDiff, Nat.reduceBEq, Nat.reduceBNe, Int.reduceEq, ↓reduceIte, reduceCtorEq]) rfl)
      · intro t ht hK
        simp (maxSteps := 9000000) -implicitDefEqProofs -dsimp (disch := omega) only [go_sem, Nat.reduceEqDiff, Nat.reduceAdd, Nat.reduceMul, Nat.reduceLeDiff, Nat.reduceBEq, Nat.reduceBNe, Int.reduceEq, ↓reduceIte, reduceCtorEq]
        refine brP_i (fun h2 => ?_) (fun h2 => ?_)
        · have ht2 : t < (n.getD i default).h.length := by omega
          have hbad := bad t ht2
          generalize hy : (n.getD i default).h.getD t default = y at hbad
          by_cases a1 : y < 0
          · simp (maxSteps := 9000000) -implicitDefEqProofs -dsimp (disch := omega) only [go_sem, lt_T, lt_F, le_T, le_F, eq_T, eq_F, and_F, hy, a1, Nat.reduceEqDiff, Nat.reduceAdd, Nat.reduceMul, Nat.reduceLeDiff, Nat.reduceBEq, Nat.reduceBNe, Int.reduceEq, ↓reduceIte, reduceCtorEq]
            exact need_i (res_F (hbad fun q => by have := q.1; omega)) (by simp (maxSteps := 9000000) -implicitDefEqProofs -dsimp (disch := omega) only [go_sem, Nat.reduceEqDiff, Nat.reduceAdd, Nat.reduceMul, Nat.reduceLeDiff, Nat.reduceBEq, Nat.reduceBNe, Int.reduceEq, ↓reduceIte, reduceCtorEq])
          · by_cases a2 : (i : Int) ≤ y
            · simp (maxSteps := 9000000) -implicitDefEqProofs -dsimp (disch := omega) only [go_sem, lt_T, lt_F, le_T, le_F, eq_T, eq_F, and_F, hy, a1, a2, Nat.reduceEqDiff, Nat.reduceAdd, Nat.reduceMul, Nat.reduceLeDiff, Nat.reduceBEq, Nat.reduceBNe, Int.reduceEq, ↓reduceIte, reduceCtorEq]
              exact need_i (res_F (hbad fun q => by have := q.2.1; omega)) (by simp (maxSteps := 9000000) -implicitDefEqProofs -dsimp (disch := omega) only [go_sem, Nat.reduceEqDiff, Nat.reduceAdd, Nat.reduceMul, Nat.reduceLeDiff, Nat.reduceBEq, Nat.reduceBNe, Int.reduceEq, ↓reduceIte, reduceCtorEq])
            · have a3 : y.toNat < n.length := by omega
              have a4 : (y.toNat : Int) = y := Int.toNat_of_nonneg (by omega)
              cases a5 : (n.getD y.toNat default).g with
              | true =>
                simp (maxSteps := 9000000) -implicitDefEqProofs -dsimp (disch := omega) only [go_sem, lt_T, lt_F, le_T, le_F, eq_T, eq_F, and_F, hy, a1, a2, ndR_1 a3, a5, Nat.reduceEqDiff, Nat.reduceAdd, Nat.reduceMul, Nat.reduceLeDiff, Nat.reduceBEq, Nat.reduceBNe, Int.reduceEq, ↓reduceIte, reduceCtorEq]
                exact need_i (res_F (hbad fun q => by rw [q.2.2] at a5; simp at a5)) (by simp (maxSteps := 9000000) -implicitDefEqProofs -dsimp (disch := omega) only [go_sem, Nat.reduceEqDiff, Nat.reduceAdd, Nat.reduceMul, Nat.reduceLeDiff, Nat.reduceBEq, Nat.reduceBNe, Int.reduceEq, ↓reduceIte, reduceCtorEq])
              | false =>
                simp (maxSteps := 9000000) -implicitDefEqProofs -dsimp (disch := omega) only [go_sem, lt_T, lt_F, le_T, le_F, eq_T, eq_F, and_F, hy, a1, a2, ndR_1 a3, a5, Nat.reduceEqDiff, Nat.reduceAdd, Nat.reduceMul, Nat.reduceLeDiff, Nat.reduceBEq, Nat.reduceBNe, Int.reduceEq, ↓reduceIte, reduceCtorEq]
                refine ⟨⟨by omega, fun j hj => ?_⟩, (imp_sub (by simp (maxSteps := 9000000) -implicitDefEqProofs -dsimp (disch := omega) only [go_sem, Nat.reduceEqDiff, Nat.reduceAdd, Nat.reduceMul, Nat.reduceLeDiff, Nat.reduceBEq, Nat.reduceBNe, Int.reduceEq, ↓reduceIte, reduceCtorEq]) (by simp (maxSteps := 9000000) -implicitDefEqProofs -dsimp (disch := omega) only [go_sem, Nat.reduceEqDiff, Nat.reduceAdd, Nat.reduceMul, Nat.reduceLeDiff, Nat.reduceBEq, Nat.reduceBNe, Int.reduceEq, ↓reduceIte, reduceCtorEq]) rfl)⟩
                by_cases e : j = t
                · subst e; rw [hy]; exact ⟨by omega, by omega, a5⟩
                · exact hK j (by omega)
        · have te : t = (n.getD i default).h.length := by omega
          have hall := mem_take hK te
          have hno : ¬ NodeOk n i → ¬ NodesOk n r := fun q w => q (w.1 i hlt)
          by_cases b1 : 6 < ((n.getD i default).h.length : Int)
          · simp (maxSteps := 9000000) -implicitDefEqProofs -dsimp (disch := omega) only [go_sem, lt_T, lt_F, le_T, le_F, eq_T, eq_F, and_F, b1, Nat.reduceEqDiff, Nat.reduceAdd, Nat.reduceMul, Nat.reduceLeDiff, Nat.reduceBEq, Nat.reduceBNe, Int.reduceEq, ↓reduceIte, reduceCtorEq]
            exact need_i (res_F (hno fun q => by have := q.2.1; omega)) (by simp (maxSteps := 9000000) -implicitDefEqProofs -dsimp (disch := omega) only [go_sem, Nat.reduceEqDiff, Nat.reduceAdd, Nat.reduceMul, Nat.reduceLeDiff, Nat.reduceBEq, Nat.reduceBNe, Int.reduceEq, ↓reduceIte, reduceCtorEq])
          · cases b2 : (n.getD i default).g with
            | true =>
              by_cases b3 : 0 < ((n.getD i default).h.length : Int)
              · simp (maxSteps := 9000000) -implicitDefEqProofs -dsimp (disch := omega) only [go_sem, lt_T, lt_F, le_T, le_F, eq_T, eq_F, and_F, b1, b2, b3, Nat.reduceEqDiff, Nat.reduceAdd, Nat.reduceMul, Nat.reduceLeDiff, Nat.reduceBEq, Nat.reduceBNe, Int.reduceEq, ↓reduceIte, reduceCtorEq]
                exact need_i (res_F (hno fun q => by have := q.2.2 b2; omega)) (by simp (maxSteps := 9000000) -implicitDefEqProofs -dsimp (disch := omega) only [go_sem, Nat.reduceEqDiff, Nat.reduceAdd, Nat.reduceMul, Nat.reduceLeDiff, Nat.reduceBEq, Nat.reduceBNe, Int.reduceEq, ↓reduceIte, reduceCtorEq])
              · simp (maxSteps := 9000000) -implicitDefEqProofs -dsimp (disch := omega) only [go_sem, lt_T, lt_F, le_T, le_F, eq_T, eq_F, and_F, b1, b2, b3, Nat.reduceEqDiff, Nat.reduceAdd, Nat.reduceMul, Nat.reduceLeDiff, Nat.reduceBEq, Nat.reduceBNe, Int.reduceEq, ↓reduceIte, reduceCtorEq]
                refine ⟨⟨by omega, fun j hj => ?_⟩, (imp_sub (by simp (maxSteps := 9000000) -implicitDefEqProofs -dsimp (disch := omega) only [go_sem, Nat.reduceEqDiff, Nat.reduceAdd, Nat.reduceMul, Nat.reduceLeDiff, Nat.reduceBEq, Nat.reduceBNe, Int.reduceEq, ↓reduceIte, reduceCtorEq]) (by simp (maxSteps := 9000000) -implicitDefEqProofs -dsimp (disch := omega) only [go_sem, Nat.reduceEqDiff, Nat.reduceAdd, Nat.reduceMul, Nat.reduceLeDiff, Nat.reduceBEq, Nat.reduceBNe, Int.reduceEq, ↓reduceIte, reduceCtorEq]) rfl)⟩
                by_cases e : j = i
                · subst e; exact ⟨hall, by omega, fun _ => by omega⟩
                · exact hJ j (by omega)
            | false =>
              simp (maxSteps := 9000000) -implicitDefEqProofs -dsimp (disch := omega) only [go_sem, lt_T, lt_F, le_T, le_F, eq_T, eq_F, and_F, b1, b2, Nat.reduceEqDiff, Nat.reduceAdd, Nat.reduceMul, Nat.reduceLeDiff, Nat.reduceBEq, Nat.reduceBNe, Int.reduceEq, ↓reduceIte, reduceCtorEq]
              refine ⟨⟨by omega, fun j hj => ?_⟩, (imp_sub (by simp (maxSteps := 9000000) -implicitDefEqProofs -dsimp (disch := omega) only [go_sem, Nat.reduceEqDiff, Nat.reduceAdd, Nat.reduceMul, Nat.reduceLeDiff, Nat.reduceBEq, Nat.reduceBNe, Int.reduceEq, ↓reduceIte, reduceCtorEq]) (by simp (maxSteps := 9000000) -implicitDefEqProofs -dsimp (disch := omega) only [go_sem, Nat.reduceEqDiff, Nat.reduceAdd, Nat.reduceMul, Nat.reduceLeDiff, Nat.reduceBEq, Nat.reduceBNe, Int.reduceEq, ↓reduceIte, reduceCtorEq]) rfl)⟩
              by_cases e : j = i
              · subst e; exact ⟨hall, by omega, fun q => by rw [b2] at q; simp at q⟩
              · exact hJ j (by omega)
    · have hi2 : i = n.length := by omega
      subst hi2
      simp (maxSteps := 9000000) -implicitDefEqProofs -dsimp (disch := omega) only [go_sem, Nat.reduceEqDiff, Nat.reduceAdd, Nat.reduceMul, Nat.reduceLeDiff, Nat.reduceBEq, Nat.reduceBNe, Int.reduceEq, ↓reduceIte, reduceCtorEq]
      refine loop_n r.length (fun t => ⟨[(57, .w (.one (.int .i64 (t : Nat)))), (56, .w (.one (.int .i64 r.length))), (55, .w (.one (.hs 1 [] 0 1 r.length))), (4, .w (.one (.bool false))), (0, .w (.one (.hs 0 [] 0 2 n.length))), (1, .w (.one (.hs 1 [] 0 1 r.length)))], [(1, (.sl false 1 r.length (r.map (T.int .i64)))), (0, .sl false 2 n.length (ndR n))], [.one (.hs 0 [] 0 2 n.length), .one (.hs 1 [] 0 1 r.length)]⟩) (fun t => ∀ j, j < t → HoldOk n n.length (r.getD j default)) ?_ (by omega) ?_
      · exact (imp_sub (by simp (maxSteps := 9000000) -implicitDefEqProofs -dsimp (disch := omega) only [go_sem, Nat.reduceEqDiff, Nat.reduceAdd, Nat.reduceMul, Nat.reduceLeDiff, Nat.reduceBEq, Nat.reduceBNe, Int.reduceEq, ↓reduceIte, reduceCtorEq]) (by simp (maxSteps := 9000000) -implicitDefEqProofs -dsimp (disch := omega) only [go_sem, Nat.reduceEqDiff, Nat.reduceAdd, Nat.reduceMul, Nat.reduceLeDiff, Nat.reduceBEq, Nat.reduceBNe, Int.reduceEq, ↓reduceIte, reduceCtorEq]) rfl)
      · intro t ht hK
        simp (maxSteps := 9000000) -implicitDefEqProofs -dsimp (disch := omega) only [go_sem, Nat.reduceEqDiff, Nat.reduceAdd, Nat.reduceMul, Nat.reduceLeDiff, Nat.reduceBEq, Nat.reduceBNe, Int.reduceEq, ↓reduceIte, reduceCtorEq]
        refine brP_i (fun h2 => ?_) (fun h2 => ?_)
        · have ht2 : t < r.length := by omega
          have hbad : ¬ HoldOk n n.length (r.getD t default) → ¬ NodesOk n r := fun hb q => hb (q.2.1 _ (getD_mem ht2))
          generalize hy : r.getD t default = y at hbad
          by_cases a1 : y < 0
          · simp (maxSteps := 9000000) -implicitDefEqProofs -dsimp (disch := omega) only [go_sem, lt_T, lt_F, le_T, le_F, eq_T, eq_F, and_F, hy, a1, Nat.reduceEqDiff, Nat.reduceAdd, Nat.reduceMul, Nat.reduceLeDiff, Nat.reduceBEq, Nat.reduceBNe, Int.reduceEq, ↓reduceIte, reduceCtorEq]
            exact need_i (res_F (hbad fun q => by have := q.1; omega)) (by simp (maxSteps := 9000000) -implicitDefEqProofs -dsimp (disch := omega) only [go_sem, Nat.reduceEqDiff, Nat.reduceAdd, Nat.reduceMul, Nat.reduceLeDiff, Nat.reduceBEq, Nat.reduceBNe, Int.reduceEq, ↓reduceIte, reduceCtorEq])
          · by_cases a2 : (n.length : Int) ≤ y
            · simp (maxSteps := 9000000) -implicitDefEqProofs -dsimp (disch := omega) only [go_sem, lt_T, lt_F, le_T, le_F, eq_T, eq_F, and_F, hy, a1, a2, Nat.reduceEqDiff, Nat.reduceAdd, Nat.reduceMul, Nat.reduceLeDiff, Nat.reduceBEq, Nat.reduceBNe, Int.reduceEq, ↓reduceIte, reduceCtorEq]
              exact need_i (res_F (hbad fun q => by have := q.2.1; omega)) (by simp (maxSteps := 9000000) -implicitDefEqProofs -dsimp (disch := omega) only [go_sem, Nat.reduceEqDiff, Nat.reduceAdd, Nat.reduceMul, Nat.reduceLeDiff, Nat.reduceBEq, Nat.reduceBNe, Int.reduceEq, ↓reduceIte, reduceCtorEq])
            · have a3 : y.toNat < n.length := by omega
              have a4 : (y.toNat : Int) = y := Int.toNat_of_nonneg (by omega)
              cases a5 : (n.getD y.toNat default).g with
              | true =>
                simp (maxSteps := 9000000) -implicitDefEqProofs -dsimp (disch := omega) only [go_sem, lt_T, lt_F, le_T, le_F, eq_T, eq_F, and_F, hy, a1, a2, ndR_1 a3, a5, Nat.reduceEqDiff, Nat.reduceAdd, Nat.reduceMul, Nat.reduceLeDiff, Nat.reduceBEq, Nat.reduceBNe, Int.reduceEq, ↓reduceIte, reduceCtorEq]
                exact need_i (res_F (hbad fun q => by rw [q.2.2] at a5; simp at a5)) (by simp (maxSteps := 9000000) -implicitDefEqProofs -dsimp (disch := omega) only [go_sem, Nat.reduceEqDiff, Nat.reduceAdd, Nat.reduceMul, Nat.reduceLeDiff, Nat.reduceBEq, Nat.reduceBNe, Int.reduceEq, ↓reduceIte, reduceCtorEq])
              | false =>
                simp (maxSteps := 9000000) -implicitDefEqProofs -dsimp (disch := omega) only [go_sem, lt_T, lt_F, le_T, le_F, eq_T, eq_F, and_F, hy, a1, a2, ndR_1 a3, a5, Nat.reduceEqDiff, Nat.reduceAdd, Nat.reduceMul, Nat.reduceLeDiff, Nat.reduceBEq, Nat.reduceBNe, Int.reduceEq, ↓reduceIte, reduceCtorEq]
                refine ⟨⟨by omega, fun j hj => ?_⟩, (imp_sub (by simp (maxSteps := 9000000) -implicitDefEqProofs -dsimp (disch := omega) only [go_sem, Nat.reduceEqDiff, Nat.reduceAdd, Nat.reduceMul, Nat.reduceLeDiff, Nat.reduceBEq, Nat.reduceBNe, Int.reduceEq, ↓reduceIte, reduceCtorEq]) (by simp (maxSteps := 9000000) -implicitDefEqProofs -dsimp (disch := omega) only [go_sem, Nat.reduceEqDiff, Nat.reduceAdd, Nat.reduceMul, Nat.reduceLeDiff, Nat.reduceBEq, Nat.reduceBNe, Int.reduceEq, ↓reduceIte, reduceCtorEq]) rfl)⟩
                by_cases e : j = t
                · subst e; rw [hy]; exact ⟨by omega, by omega, a5⟩
                · exact hK j (by omega)
        · have te : t = r.length := by omega
          have hall := mem_take hK te
          by_cases b1 : (n.length : Int) ≤ 14
          · by_cases b2 : (r.length : Int) ≤ 6
            · simp (maxSteps := 9000000) -implicitDefEqProofs -dsimp (disch := omega) only [go_sem, lt_T, lt_F, le_T, le_F, eq_T, eq_F, and_F, b1, b2, Nat.reduceEqDiff, Nat.reduceAdd, Nat.reduceMul, Nat.reduceLeDiff, Nat.reduceBEq, Nat.reduceBNe, Int.reduceEq, ↓reduceIte, reduceCtorEq]
              exact need_i (res_T ⟨hJ, hall, by omega, by omega⟩) (by simp (maxSteps := 9000000) -implicitDefEqProofs -dsimp (disch := omega) only [go_sem, Nat.reduceEqDiff, Nat.reduceAdd, Nat.reduceMul, Nat.reduceLeDiff, Nat.reduceBEq, Nat.reduceBNe, Int.reduceEq, ↓reduceIte, reduceCtorEq])
            · simp (maxSteps := 9000000) -implicitDefEqProofs -dsimp (disch := omega) only [go_sem, lt_T, lt_F, le_T, le_F, eq_T, eq_F, and_F, b1, b2, Nat.reduceEqDiff, Nat.reduceAdd, Nat.reduceMul, Nat.reduceLeDiff, Nat.reduceBEq, Nat.reduceBNe, Int.reduceEq, ↓reduceIte, reduceCtorEq]
              exact need_i (res_F (fun q => by have := q.2.2.2; omega)) (by simp (maxSteps := 9000000) -implicitDefEqProofs -dsimp (disch := omega) only [go_sem, Nat.reduceEqDiff, Nat.reduceAdd, Nat.reduceMul, Nat.reduceLeDiff, Nat.reduceBEq, Nat.reduceBNe, Int.reduceEq, ↓reduceIte, reduceCtorEq])
          · simp (maxSteps := 9000000) -implicitDefEqProofs -dsimp (disch := omega) only [go_sem, lt_T, lt_F, le_T, le_F, eq_T, eq_F, and_F, b1, Nat.reduceEqDiff, Nat.reduceAdd, Nat.reduceMul, Nat.reduceLeDiff, Nat.reduceBEq, Nat.reduceBNe, Int.reduceEq, ↓reduceIte, reduceCtorEq]
            exact need_i (res_F (fun q => by have := q.2.2.1; omega)) (by simp (maxSteps := 9000000) -implicitDefEqProofs -dsimp (disch := omega) only [go_sem, Nat.reduceEqDiff, Nat.reduceAdd, Nat.reduceMul, Nat.reduceLeDiff, Nat.reduceBEq, Nat.reduceBNe, Int.reduceEq, ↓reduceIte, reduceCtorEq])
end Go.Proofs.YtdhclelfnbjikaaT

/- Functions of the program as contracts: a graph's counts. No condition. -/
set_option maxRecDepth 100000
set_option maxHeartbeats 8000000
set_option linter.unusedSimpArgs false
set_option linter.unusedVariables false
namespace Go.Proofs.YtdhclelfnbjikaaT
open Go Go.RowKit
def incF (o : List Int) (y : Int) : List Int := o.set y.toNat (o.getD y.toNat default + 1)
theorem incF_def {o : List Int} {y : Int} : incF o y = o.set y.toNat (o.getD y.toNat default + 1) := rfl
def cntR (m : Nat) (r : List Int) : List Int := r.foldl incF (List.replicate m 0)
def cntN (b : List Int) (n : List Nd) : List Int := n.foldl (fun o x => x.h.foldl incF o) b
def countsF (n : List Nd) (r : List Int) : List Int := cntN (cntR n.length r) n
theorem incF_len {o : List Int} {y : Int} : (incF o y).length = o.length := by simp [incF]
theorem fold_len {l : List Int} : ∀ {o : List Int}, (l.foldl incF o).length = o.length := by
  induction l with
  | nil => intro o; rfl
  | cons x l ih => intro o; simp only [List.foldl_cons, ih, incF_len]
theorem cntN_len {n : List Nd} : ∀ {b : List Int}, (cntN b n).length = b.length := by
  induction n with
  | nil => intro b; rfl
  | cons x n ih =>
    intro b
    have := ih (b := x.h.foldl incF b)
    simp only [cntN, List.foldl_cons] at this ⊢
    rw [this, fold_len]
def Bd (o : List Int) (b : Nat) : Prop := ∀ x ∈ o, 0 ≤ x ∧ x ≤ b
theorem bd_get {o : List Int} {b k : Nat} (h : Bd o b) : 0 ≤ o.getD k default ∧ o.getD k default ≤ b := by
  by_cases hk : k < o.length
  · exact h _ (getD_mem hk)
  · rw [List.getD_eq_getElem?_getD, List.getElem?_eq_none (by omega)]; exact ⟨by decide, by simp⟩
theorem bd_inc {o : List Int} {b : Nat} {y : Int} (h : Bd o b) : Bd (incF o y) (b + 1) := by
  intro x hx
  have hg := bd_get (k := y.toNat) h
  rcases List.mem_or_eq_of_mem_set hx with hx | rfl
  · have := h x hx; omega
  · omega
theorem bd_fold {l : List Int} : ∀ {o : List Int} {b : Nat}, Bd o b → Bd (l.foldl incF o) (b + l.length) := by
  induction l with
  | nil => intro o b h; exact h
  | cons y l ih =>
    intro o b h
    have := ih (bd_inc (y := y) h)
    simp only [List.foldl_cons, List.length_cons]
    rwa [show b + (l.length + 1) = b + 1 + l.length by omega]
theorem bd_rep {m : Nat} : Bd (List.replicate m 0) 0 := fun x hx => by rw [(List.mem_replicate.1 hx).2]; simp
theorem bd_mono {o : List Int} {b b' : Nat} (h : Bd o b) (hb : b ≤ b') : Bd o b' := fun x hx => by have := h x hx; omega
theorem fold_take {l o : List Int} {t : Nat} (h : t < l.length) : (l.take (t + 1)).foldl incF o = incF ((l.take t).foldl incF o) (l.getD t default) := by
  rw [List.take_add_one, List.foldl_append, List.getElem?_eq_getElem h]
  simp [List.getD_eq_getElem?_getD, h]
theorem cntN_take {n : List Nd} {b : List Int} {t : Nat} (h : t < n.length) : cntN b (n.take (t + 1)) = (n.getD t default).h.foldl incF (cntN b (n.take t)) := by
  unfold cntN
  rw [List.take_add_one, List.foldl_append, List.getElem?_eq_getElem h]
  simp [List.getD_eq_getElem?_getD, h]
theorem rep_int {n : Nat} : (List.replicate n [T.int .i64 0]).flatten = (List.replicate n (0 : Int)).map (T.int .i64) := by
  induction n with
  | zero => rfl
  | succ n ih => simp only [List.replicate_succ, List.flatten_cons, ih, List.map_cons]; rfl
def g57_0 : List Gop := [⟨none, (some 4), (.mov (.k (.one .nil)))⟩]
def g57_1 : List Gop := [⟨none, (some 12), (.mov (.t 0))⟩, ⟨none, (some 13), (.len (.t 12))⟩, ⟨none, (some 14), (.make 1 [(.int .i64 0)] 8 (.t 13) (.t 13))⟩, ⟨none, (some 5), (.mov (.t 14))⟩]
def g57_2 : List Gop := [⟨none, (some 15), (.mov (.t 1))⟩, ⟨none, (some 16), (.len (.t 15))⟩, ⟨none, (some 17), (.mov (.k (.one (.int .i64 0))))⟩]
def g57_3 : List Gop := [⟨none, (some 18), (.bin .lss (.t 17) (.t 16))⟩]
def g57_4 : List Gop := [⟨none, (some 19), (.iaddr 1 (.t 15) (.t 17))⟩, ⟨none, (some 20), (.load none (.t 19))⟩, ⟨none, (some 7), (.mov (.t 20))⟩]
def g57_5 : List Gop := [⟨none, (some 21), (.mov (.t 5))⟩, ⟨none, (some 22), (.mov (.t 7))⟩, ⟨none, (some 23), (.iaddr 1 (.t 21) (.t 22))⟩, ⟨none, (some 24), (.load none (.t 23))⟩, ⟨none, (some 25), (.bin .add (.t 24) (.k (.one (.int .i64 1))))⟩, ⟨none, (some 26), (.iaddr 1 (.t 21) (.t 22))⟩, ⟨none, none, (.store 1 (.t 26) (.t 25))⟩]
def g57_6 : List Gop := [⟨none, (some 27), (.bin .add (.t 17) (.k (.one (.int .i64 1))))⟩, ⟨none, (some 17), (.mov (.t 27))⟩]
def g57_7 : List Gop := [⟨none, (some 28), (.mov (.t 0))⟩, ⟨none, (some 29), (.len (.t 28))⟩, ⟨none, (some 30), (.mov (.k (.one (.int .i64 0))))⟩]
def g57_8 : List Gop := [⟨none, (some 31), (.bin .lss (.t 30) (.t 29))⟩]
def g57_9 : List Gop := [⟨none, (some 32), (.iaddr 2 (.t 28) (.t 30))⟩, ⟨none, (some 33), (.load (some 2) (.t 32))⟩, ⟨none, (some 9), (.alloc [.nil, (.bool .false)])⟩, ⟨none, none, (.store 2 (.t 9) (.t 33))⟩]
def g57_10 : List Gop := [⟨none, (some 34), (.faddr (.t 9) 0)⟩, ⟨none, (some 35), (.load none (.t 34))⟩, ⟨none, (some 36), (.len (.t 35))⟩, ⟨none, (some 37), (.mov (.k (.one (.int .i64 0))))⟩]
def g57_11 : List Gop := [⟨none, (some 38), (.bin .lss (.t 37) (.t 36))⟩]
def g57_12 : List Gop := [⟨none, (some 39), (.iaddr 1 (.t 35) (.t 37))⟩, ⟨none, (some 40), (.load none (.t 39))⟩, ⟨none, (some 11), (.mov (.t 40))⟩]
def g57_13 : List Gop := [⟨none, (some 41), (.mov (.t 5))⟩, ⟨none, (some 42), (.mov (.t 11))⟩, ⟨none, (some 43), (.iaddr 1 (.t 41) (.t 42))⟩, ⟨none, (some 44), (.load none (.t 43))⟩, ⟨none, (some 45), (.bin .add (.t 44) (.k (.one (.int .i64 1))))⟩, ⟨none, (some 46), (.iaddr 1 (.t 41) (.t 42))⟩, ⟨none, none, (.store 1 (.t 46) (.t 45))⟩]
def g57_14 : List Gop := [⟨none, (some 47), (.bin .add (.t 37) (.k (.one (.int .i64 1))))⟩, ⟨none, (some 37), (.mov (.t 47))⟩]
def g57_15 : List Gop := [⟨none, (some 48), (.bin .add (.t 30) (.k (.one (.int .i64 1))))⟩, ⟨none, (some 30), (.mov (.t 48))⟩]
def g57_16 : List Gop := [⟨none, (some 49), (.mov (.t 5))⟩, ⟨none, (some 4), (.mov (.t 49))⟩]
def i57 : Ir := (.seq (.region g57_0) (.seq (.region g57_1) (.seq (.seq (.region g57_2) (.block 0 (.loop (.seq (.region g57_3) (.seq (.cond (.t 18) .skip (.exit 0)) (.seq (.block 1 (.seq (.region g57_4) (.region g57_5))) (.region g57_6))))))) (.seq (.seq (.region g57_7) (.block 2 (.loop (.seq (.region g57_8) (.seq (.cond (.t 31) .skip (.exit 2)) (.seq (.block 3 (.seq (.region g57_9) (.seq (.region g57_10) (.block 4 (.loop (.seq (.region g57_11) (.seq (.cond (.t 38) .skip (.exit 4)) (.seq (.block 5 (.seq (.region g57_12) (.region g57_13))) (.region g57_14))))))))) (.region g57_15))))))) (.seq (.region g57_16) .ret)))))
theorem l10Counts_ok (n : List Nd) (r : List Int) (hq : NodesOk n r) : Meets Try.prog 57 [.one (.sl false 2 n.length (ndR n)), .one (.sl false 1 r.length (r.map (T.int .i64)))] (.w (.one (.sl true 1 n.length ((countsF n r).map (T.int .i64))))) [.one .hole, .one .hole] := by
  obtain ⟨hN, hR, hn, hr⟩ := hq
  refine meets_go (ir := i57) (fn := Try.f57) (rx := [(.tmp 4)]) rfl rfl (by rfl) (by rfl) (by exact Nat.le_of_ble_eq_true rfl) ?_
  simp (maxSteps := 9000000) -implicitDefEqProofs -dsimp (disch := omega) only [go_sem, g57_0, g57_1, g57_2, g57_3, g57_4, g57_5, g57_6, g57_7, g57_8, g57_9, g57_10, g57_11, g57_12, g57_13, g57_14, g57_15, g57_16, i57, Nat.reduceEqDiff, Nat.reduceAdd, Nat.reduceMul, Nat.reduceLeDiff, Nat.reduceBEq, Nat.reduceBNe, Int.reduceEq, ↓reduceIte, reduceCtorEq]
  refine loop_n r.length (fun t => ⟨[(17, .w (.one (.int .i64 (t : Nat)))), (16, .w (.one (.int .i64 r.length))), (15, .w (.one (.hs 1 [] 0 1 r.length))), (5, .w (.one (.hs 2 [] 0 1 n.length))), (0, .w (.one (.hs 0 [] 0 2 n.length)))], [(2, .sl true 1 n.length (((r.take t).foldl incF (List.replicate n.length 0)).map (T.int .i64))), (1, (.sl false 1 r.length (r.map (T.int .i64)))), (0, .sl false 2 n.length (ndR n))], [.one (.hs 0 [] 0 2 n.length), .one (.hs 1 [] 0 1 r.length)]⟩) (fun t => Bd ((r.take t).foldl incF (List.replicate n.length 0)) t) ?_ ?_ ?_
  · exact (imp_sub (by simp (maxSteps := 9000000) -implicitDefEqProofs -dsimp (disch := omega) only [go_sem, rep_int, List.take_zero, List.foldl_nil, List.map_replicate, Nat.reduceEqDiff, Nat.reduceAdd, Nat.reduceMul, Nat.reduceLeDiff, Nat.reduceBEq, Nat.reduceBNe, Int.reduceEq, ↓reduceIte, reduceCtorEq]) (by simp (maxSteps := 9000000) -implicitDefEqProofs -dsimp (disch := omega) only [go_sem, rep_int, List.take_zero, List.foldl_nil, List.map_replicate, Nat.reduceEqDiff, Nat.reduceAdd, Nat.reduceMul, Nat.reduceLeDiff, Nat.reduceBEq, Nat.reduceBNe, Int.reduceEq, ↓reduceIte, reduceCtorEq]) rfl)
  · exact bd_rep
  · intro t ht hJ
    have hlen : ((r.take t).foldl incF (List.replicate n.length 0)).length = n.length := by rw [fold_len]; simp
    simp (maxSteps := 9000000) -implicitDefEqProofs -dsimp (disch := omega) only [go_sem, Nat.reduceEqDiff, Nat.reduceAdd, Nat.reduceMul, Nat.reduceLeDiff, Nat.reduceBEq, Nat.reduceBNe, Int.reduceEq, ↓reduceIte, reduceCtorEq]
    refine brP_i (fun h1 => ?_) (fun h1 => ?_)
    · have ht2 : t < r.length := by omega
      have hy := hR _ (getD_mem ht2)
      have hft := fold_take (l := r) (o := List.replicate n.length 0) ht2
      have hb := bd_get (k := (r.getD t default).toNat) hJ
      have hbi := bd_inc (y := r.getD t default) hJ
      rw [← hft] at hbi
      rw [incF_def] at hft
      generalize hyy : r.getD t default = y at *
      obtain ⟨a1, a2, a3⟩ := hy
      have a4 : (y.toNat : Int) = y := Int.toNat_of_nonneg a1
      have a5 : y.toNat < ((r.take t).foldl incF (List.replicate n.length 0)).length := by omega
      have a6 : ((r.take (t + 1)).foldl incF (List.replicate n.length 0)).length = n.length := by rw [fold_len]; simp
      generalize (r.take t).foldl incF (List.replicate n.length 0) = O at *
      generalize (r.take (t + 1)).foldl incF (List.replicate n.length 0) = O2 at *
      simp (maxSteps := 9000000) -implicitDefEqProofs -dsimp (disch := omega) only [go_sem, lt_T, lt_F, le_T, le_F, eq_T, eq_F, and_F, hyy, Nat.reduceEqDiff, Nat.reduceAdd, Nat.reduceMul, Nat.reduceLeDiff, Nat.reduceBEq, Nat.reduceBNe, Int.reduceEq, ↓reduceIte, reduceCtorEq]
      refine ⟨⟨by omega, hbi⟩, (imp_sub (by simp (maxSteps := 9000000) -implicitDefEqProofs -dsimp (disch := omega) only [go_sem, ← hft, Nat.reduceEqDiff, Nat.reduceAdd, Nat.reduceMul, Nat.reduceLeDiff, Nat.reduceBEq, Nat.reduceBNe, Int.reduceEq, ↓reduceIte, reduceCtorEq]) (by simp (maxSteps := 9000000) -implicitDefEqProofs -dsimp (disch := omega) only [go_sem, ← hft, Nat.reduceEqDiff, Nat.reduceAdd, Nat.reduceMul, Nat.reduceLeDiff, Nat.reduceBEq, Nat.reduceBNe, Int.reduceEq, ↓reduceIte, reduceCtorEq]) rfl)⟩
    · obtain rfl : t = r.length := by omega
      rw [List.take_length] at hJ
      have hbr : (List.foldl incF (List.replicate n.length 0) r) = cntR n.length r := rfl
      rw [List.take_length] at hlen
      simp (maxSteps := 9000000) -implicitDefEqProofs -dsimp (disch := omega) only [go_sem, List.take_length, hbr, Nat.reduceEqDiff, Nat.reduceAdd, Nat.reduceMul, Nat.reduceLeDiff, Nat.reduceBEq, Nat.reduceBNe, Int.reduceEq, ↓reduceIte, reduceCtorEq]
      rw [hbr] at hJ hlen
      generalize hO : cntR n.length r = b0 at *
      refine loop_n n.length (fun i => ⟨[(30, .w (.one (.int .i64 (i : Nat)))), (29, .w (.one (.int .i64 n.length))), (28, .w (.one (.hs 0 [] 0 2 n.length))), (5, .w (.one (.hs 2 [] 0 1 n.length)))], [(2, .sl true 1 n.length ((cntN b0 (n.take i)).map (T.int .i64))), (1, (.sl false 1 r.length (r.map (T.int .i64)))), (0, .sl false 2 n.length (ndR n))], [.one (.hs 0 [] 0 2 n.length), .one (.hs 1 [] 0 1 r.length)]⟩) (fun i => Bd (cntN b0 (n.take i)) (6 + 6 * i)) ?_ ?_ ?_
      · exact (imp_sub (by simp (maxSteps := 9000000) -implicitDefEqProofs -dsimp (disch := omega) only [go_sem, List.take_zero, show cntN b0 [] = b0 from rfl, Nat.reduceEqDiff, Nat.reduceAdd, Nat.reduceMul, Nat.reduceLeDiff, Nat.reduceBEq, Nat.reduceBNe, Int.reduceEq, ↓reduceIte, reduceCtorEq]) (by simp (maxSteps := 9000000) -implicitDefEqProofs -dsimp (disch := omega) only [go_sem, List.take_zero, show cntN b0 [] = b0 from rfl, Nat.reduceEqDiff, Nat.reduceAdd, Nat.reduceMul, Nat.reduceLeDiff, Nat.reduceBEq, Nat.reduceBNe, Int.reduceEq, ↓reduceIte, reduceCtorEq]) rfl)
      · exact bd_mono hJ (by omega)
      · intro i hi hK
        have hlen2 : (cntN b0 (n.take i)).length = n.length := by rw [cntN_len]; omega
        simp (maxSteps := 9000000) -implicitDefEqProofs -dsimp (disch := omega) only [go_sem, Nat.reduceEqDiff, Nat.reduceAdd, Nat.reduceMul, Nat.reduceLeDiff, Nat.reduceBEq, Nat.reduceBNe, Int.reduceEq, ↓reduceIte, reduceCtorEq]
        refine brP_i (fun h2 => ?_) (fun h2 => ?_)
        · have hlt : i < n.length := by omega
          obtain ⟨k1, k2, k3⟩ := hN i hlt
          have hct := cntN_take (b := b0) hlt
          simp (maxSteps := 9000000) -implicitDefEqProofs -dsimp (disch := omega) only [go_sem, ndR_0 hlt, ndR_1 hlt, Nat.reduceEqDiff, Nat.reduceAdd, Nat.reduceMul, Nat.reduceLeDiff, Nat.reduceBEq, Nat.reduceBNe, Int.reduceEq, ↓reduceIte, reduceCtorEq]
          generalize hB : cntN b0 (n.take i) = b1 at *
          generalize hX : (n.getD i default).h = hx at *
          refine loop_n hx.length (fun t => ⟨[(37, .w (.one (.int .i64 (t : Nat)))), (36, .w (.one (.int .i64 hx.length))), (35, .w (.one (.hs 3 [0] 0 1 hx.length))), (30, .w (.one (.int .i64 (i : Nat)))), (29, .w (.one (.int .i64 n.length))), (28, .w (.one (.hs 0 [] 0 2 n.length))), (5, .w (.one (.hs 2 [] 0 1 n.length)))], [(3, .bx true [(.sl false 1 hx.length (hx.map (T.int .i64))), .bool (n.getD i default).g]), (2, .sl true 1 n.length (((hx.take t).foldl incF b1).map (T.int .i64))), (1, (.sl false 1 r.length (r.map (T.int .i64)))), (0, .sl false 2 n.length (ndR n))], [.one (.hs 0 [] 0 2 n.length), .one (.hs 1 [] 0 1 r.length)]⟩) (fun t => Bd ((hx.take t).foldl incF b1) (6 + 6 * i + t)) ?_ ?_ ?_
          · exact (imp_sub (by simp (maxSteps := 9000000) -implicitDefEqProofs -dsimp (disch := omega) only [go_sem, List.take_zero, List.foldl_nil, Nat.reduceEqDiff, Nat.reduceAdd, Nat.reduceMul, Nat.reduceLeDiff, Nat.reduceBEq, Nat.reduceBNe, Int.reduceEq, ↓reduceIte, reduceCtorEq]) (by simp (maxSteps := 9000000) -implicitDefEqProofs -dsimp (disch := omega) only [go_sem, List.take_zero, List.foldl_nil, Nat.reduceEqDiff, Nat.reduceAdd, Nat.reduceMul, Nat.reduceLeDiff, Nat.reduceBEq, Nat.reduceBNe, Int.reduceEq, ↓reduceIte, reduceCtorEq]) rfl)
          · exact hK
          · intro t ht hL
            have hlen3 : ((hx.take t).foldl incF b1).length = n.length := by rw [fold_len]; omega
            simp (maxSteps := 9000000) -implicitDefEqProofs -dsimp (disch := omega) only [go_sem, Nat.reduceEqDiff, Nat.reduceAdd, Nat.reduceMul, Nat.reduceLeDiff, Nat.reduceBEq, Nat.reduceBNe, Int.reduceEq, ↓reduceIte, reduceCtorEq]
            refine brP_i (fun h1 => ?_) (fun h1 => ?_)
            · have ht2 : t < hx.length := by omega
              have hy := k1 _ (getD_mem ht2)
              have hft := fold_take (l := hx) (o := b1) ht2
              have hb := bd_get (k := (hx.getD t default).toNat) hL
              have hbi := bd_inc (y := hx.getD t default) hL
              rw [← hft] at hbi
              rw [incF_def] at hft
              generalize hyy : hx.getD t default = y at *
              obtain ⟨a1, a2, a3⟩ := hy
              have a4 : (y.toNat : Int) = y := Int.toNat_of_nonneg a1
              have a6 : ((hx.take (t + 1)).foldl incF b1).length = n.length := by rw [fold_len]; omega
              generalize (hx.take t).foldl incF b1 = O at *
              generalize (hx.take (t + 1)).foldl incF b1 = O2 at *
              have a5 : y.toNat < O.length := by omega
              simp (maxSteps := 9000000) -implicitDefEqProofs -dsimp (disch := omega) only [go_sem, lt_T, lt_F, le_T, le_F, eq_T, eq_F, and_F, hyy, Nat.reduceEqDiff, Nat.reduceAdd, Nat.reduceMul, Nat.reduceLeDiff, Nat.reduceBEq, Nat.reduceBNe, Int.reduceEq, ↓reduceIte, reduceCtorEq]
              refine ⟨⟨by omega, hbi⟩, (imp_sub (by simp (maxSteps := 9000000) -implicitDefEqProofs -dsimp (disch := omega) only [go_sem, ← hft, Nat.reduceEqDiff, Nat.reduceAdd, Nat.reduceMul, Nat.reduceLeDiff, Nat.reduceBEq, Nat.reduceBNe, Int.reduceEq, ↓reduceIte, reduceCtorEq]) (by simp (maxSteps := 9000000) -implicitDefEqProofs -dsimp (disch := omega) only [go_sem, ← hft, Nat.reduceEqDiff, Nat.reduceAdd, Nat.reduceMul, Nat.reduceLeDiff, Nat.reduceBEq, Nat.reduceBNe, Int.reduceEq, ↓reduceIte, reduceCtorEq]) rfl)⟩
            · obtain rfl : t = hx.length := by omega
              rw [List.take_length] at hL hlen3
              simp (maxSteps := 9000000) -implicitDefEqProofs -dsimp (disch := omega) only [go_sem, List.take_length, ← hct, Nat.reduceEqDiff, Nat.reduceAdd, Nat.reduceMul, Nat.reduceLeDiff, Nat.reduceBEq, Nat.reduceBNe, Int.reduceEq, ↓reduceIte, reduceCtorEq]
              refine ⟨⟨by omega, ?_⟩, (imp_sub (by simp (maxSteps := 9000000) -implicitDefEqProofs -dsimp (disch := omega) only [go_sem, List.take_length, ← hct, Nat.reduceEqDiff, Nat.reduceAdd, Nat.reduceMul, Nat.reduceLeDiff, Nat.reduceBEq, Nat.reduceBNe, Int.reduceEq, ↓reduceIte, reduceCtorEq]) (by simp (maxSteps := 9000000) -implicitDefEqProofs -dsimp (disch := omega) only [go_sem, List.take_length, ← hct, Nat.reduceEqDiff, Nat.reduceAdd, Nat.reduceMul, Nat.reduceLeDiff, Nat.reduceBEq, Nat.reduceBNe, Int.reduceEq, ↓reduceIte, reduceCtorEq]) rfl)⟩
              rw [hct]
              exact bd_mono hL (by omega)
        · obtain rfl : i = n.length := by omega
          rw [List.take_length] at hK hlen2
          simp (maxSteps := 9000000) -implicitDefEqProofs -dsimp (disch := omega) only [go_sem, List.take_length, countsF, Nat.reduceEqDiff, Nat.reduceAdd, Nat.reduceMul, Nat.reduceLeDiff, Nat.reduceBEq, Nat.reduceBNe, Int.reduceEq, ↓reduceIte, reduceCtorEq]
          exact need_i (by simp only [hO]) (by simp (maxSteps := 9000000) -implicitDefEqProofs -dsimp (disch := omega) only [go_sem, Nat.reduceEqDiff, Nat.reduceAdd, Nat.reduceMul, Nat.reduceLeDiff, Nat.reduceBEq, Nat.reduceBNe, Int.reduceEq, ↓reduceIte, reduceCtorEq])
def g60_0 : List Gop := [⟨none, (some 4), (.mov (.k (.one .nil)))⟩]
def g60_1 : List Gop := [⟨none, (some 12), (.mov (.t 0))⟩, ⟨none, (some 13), (.len (.t 12))⟩, ⟨none, (some 14), (.make 1 [(.int .i64 0)] 8 (.t 13) (.t 13))⟩, ⟨none, (some 5), (.mov (.t 14))⟩]
def g60_2 : List Gop := [⟨none, (some 15), (.mov (.t 1))⟩, ⟨none, (some 16), (.len (.t 15))⟩, ⟨none, (some 17), (.mov (.k (.one (.int .i64 0))))⟩]
def g60_3 : List Gop := [⟨none, (some 18), (.bin .lss (.t 17) (.t 16))⟩]
def g60_4 : List Gop := [⟨none, (some 19), (.iaddr 1 (.t 15) (.t 17))⟩, ⟨none, (some 20), (.load none (.t 19))⟩, ⟨none, (some 7), (.mov (.t 20))⟩]
def g60_5 : List Gop := [⟨none, (some 21), (.mov (.t 5))⟩, ⟨none, (some 22), (.mov (.t 7))⟩, ⟨none, (some 23), (.iaddr 1 (.t 21) (.t 22))⟩, ⟨none, (some 24), (.load none (.t 23))⟩, ⟨none, (some 25), (.bin .add (.t 24) (.k (.one (.int .i64 1))))⟩, ⟨none, (some 26), (.iaddr 1 (.t 21) (.t 22))⟩, ⟨none, none, (.store 1 (.t 26) (.t 25))⟩]
def g60_6 : List Gop := [⟨none, (some 27), (.bin .add (.t 17) (.k (.one (.int .i64 1))))⟩, ⟨none, (some 17), (.mov (.t 27))⟩]
def g60_7 : List Gop := [⟨none, (some 28), (.mov (.t 0))⟩, ⟨none, (some 29), (.len (.t 28))⟩, ⟨none, (some 30), (.mov (.k (.one (.int .i64 0))))⟩]
def g60_8 : List Gop := [⟨none, (some 31), (.bin .lss (.t 30) (.t 29))⟩]
def g60_9 : List Gop := [⟨none, (some 32), (.iaddr 2 (.t 28) (.t 30))⟩, ⟨none, (some 33), (.load (some 2) (.t 32))⟩, ⟨none, (some 9), (.alloc [.nil, (.bool .false)])⟩, ⟨none, none, (.store 2 (.t 9) (.t 33))⟩]
def g60_10 : List Gop := [⟨none, (some 34), (.faddr (.t 9) 0)⟩, ⟨none, (some 35), (.load none (.t 34))⟩, ⟨none, (some 36), (.len (.t 35))⟩, ⟨none, (some 37), (.mov (.k (.one (.int .i64 0))))⟩]
def g60_11 : List Gop := [⟨none, (some 38), (.bin .lss (.t 37) (.t 36))⟩]
def g60_12 : List Gop := [⟨none, (some 39), (.iaddr 1 (.t 35) (.t 37))⟩, ⟨none, (some 40), (.load none (.t 39))⟩, ⟨none, (some 11), (.mov (.t 40))⟩]
def g60_13 : List Gop := [⟨none, (some 41), (.mov (.t 5))⟩, ⟨none, (some 42), (.mov (.t 11))⟩, ⟨none, (some 43), (.iaddr 1 (.t 41) (.t 42))⟩, ⟨none, (some 44), (.load none (.t 43))⟩, ⟨none, (some 45), (.bin .add (.t 44) (.k (.one (.int .i64 1))))⟩, ⟨none, (some 46), (.iaddr 1 (.t 41) (.t 42))⟩, ⟨none, none, (.store 1 (.t 46) (.t 45))⟩]
def g60_14 : List Gop := [⟨none, (some 47), (.bin .add (.t 37) (.k (.one (.int .i64 1))))⟩, ⟨none, (some 37), (.mov (.t 47))⟩]
def g60_15 : List Gop := [⟨none, (some 48), (.bin .add (.t 30) (.k (.one (.int .i64 1))))⟩, ⟨none, (some 30), (.mov (.t 48))⟩]
def g60_16 : List Gop := [⟨none, (some 49), (.mov (.t 5))⟩, ⟨none, (some 4), (.mov (.t 49))⟩]
def i60 : Ir := (.seq (.region g60_0) (.seq (.region g60_1) (.seq (.seq (.region g60_2) (.block 0 (.loop (.seq (.region g60_3) (.seq (.cond (.t 18) .skip (.exit 0)) (.seq (.block 1 (.seq (.region g60_4) (.region g60_5))) (.region g60_6))))))) (.seq (.seq (.region g60_7) (.block 2 (.loop (.seq (.region g60_8) (.seq (.cond (.t 31) .skip (.exit 2)) (.seq (.block 3 (.seq (.region g60_9) (.seq (.region g60_10) (.block 4 (.loop (.seq (.region g60_11) (.seq (.cond (.t 38) .skip (.exit 4)) (.seq (.block 5 (.seq (.region g60_12) (.region g60_13))) (.region g60_14))))))))) (.region g60_15))))))) (.seq (.region g60_16) .ret)))))
theorem countsOf_ok (n : List Nd) (r : List Int) (hq : NodesOk n r) : Meets Try.prog 60 [.one (.sl false 2 n.length (ndR n)), .one (.sl false 1 r.length (r.map (T.int .i64)))] (.w (.one (.sl true 1 n.length ((countsF n r).map (T.int .i64))))) [.one .hole, .one .hole] := by
  obtain ⟨hN, hR, hn, hr⟩ := hq
  refine meets_go (ir := i60) (fn := Try.f60) (rx := [(.tmp 4)]) rfl rfl (by rfl) (by rfl) (by exact Nat.le_of_ble_eq_true rfl) ?_
  simp (maxSteps := 9000000) -implicitDefEqProofs -dsimp (disch := omega) only [go_sem, g60_0, g60_1, g60_2, g60_3, g60_4, g60_5, g60_6, g60_7, g60_8, g60_9, g60_10, g60_11, g60_12, g60_13, g60_14, g60_15, g60_16, i60, Nat.reduceEqDiff, Nat.reduceAdd, Nat.reduceMul, Nat.reduceLeDiff, Nat.reduceBEq, Nat.reduceBNe, Int.reduceEq, ↓reduceIte, reduceCtorEq]
  refine loop_n r.length (fun t => ⟨[(17, .w (.one (.int .i64 (t : Nat)))), (16, .w (.one (.int .i64 r.length))), (15, .w (.one (.hs 1 [] 0 1 r.length))), (5, .w (.one (.hs 2 [] 0 1 n.length))), (0, .w (.one (.hs 0 [] 0 2 n.length)))], [(2, .sl true 1 n.length (((r.take t).foldl incF (List.replicate n.length 0)).map (T.int .i64))), (1, (.sl false 1 r.length (r.map (T.int .i64)))), (0, .sl false 2 n.length (ndR n))], [.one (.hs 0 [] 0 2 n.length), .one (.hs 1 [] 0 1 r.length)]⟩) (fun t => Bd ((r.take t).foldl incF (List.replicate n.length 0)) t) ?_ ?_ ?_
  · exact (imp_sub (by simp (maxSteps := 9000000) -implicitDefEqProofs -dsimp (disch := omega) only [go_sem, rep_int, List.take_zero, List.foldl_nil, List.map_replicate, Nat.reduceEqDiff, Nat.reduceAdd, Nat.reduceMul, Nat.reduceLeDiff, Nat.reduceBEq, Nat.reduceBNe, Int.reduceEq, ↓reduceIte, reduceCtorEq]) (by simp (maxSteps := 9000000) -implicitDefEqProofs -dsimp (disch := omega) only [go_sem, rep_int, List.take_zero, List.foldl_nil, List.map_replicate, Nat.reduceEqDiff, Nat.reduceAdd, Nat.reduceMul, Nat.reduceLeDiff, Nat.reduceBEq, Nat.reduceBNe, Int.reduceEq, ↓reduceIte, reduceCtorEq]) rfl)
  · exact bd_rep
  · intro t ht hJ
    have hlen : ((r.take t).foldl incF (List.replicate n.length 0)).length = n.length := by rw [fold_len]; simp
    simp (maxSteps := 9000000) -implicitDefEqProofs -dsimp (disch := omega) only [go_sem, Nat.reduceEqDiff, Nat.reduceAdd, Nat.reduceMul, Nat.reduceLeDiff, Nat.reduceBEq, Nat.reduceBNe, Int.reduceEq, ↓reduceIte, reduceCtorEq]
    refine brP_i (fun h1 => ?_) (fun h1 => ?_)
    · have ht2 : t < r.length := by omega
      have hy := hR _ (getD_mem ht2)
      have hft := fold_take (l := r) (o := List.replicate n.length 0) ht2
      have hb := bd_get (k := (r.getD t default).toNat) hJ
      have hbi := bd_inc (y := r.getD t default) hJ
      rw [← hft] at hbi
      rw [incF_def] at hft
      generalize hyy : r.getD t default = y at *
      obtain ⟨a1, a2, a3⟩ := hy
      have a4 : (y.toNat : Int) = y := Int.toNat_of_nonneg a1
      have a5 : y.toNat < ((r.take t).foldl incF (List.replicate n.length 0)).length := by omega
      have a6 : ((r.take (t + 1)).foldl incF (List.replicate n.length 0)).length = n.length := by rw [fold_len]; simp
      generalize (r.take t).foldl incF (List.replicate n.length 0) = O at *
      generalize (r.take (t + 1)).foldl incF (List.replicate n.length 0) = O2 at *
      simp (maxSteps := 9000000) -implicitDefEqProofs -dsimp (disch := omega) only [go_sem, lt_T, lt_F, le_T, le_F, eq_T, eq_F, and_F, hyy, Nat.reduceEqDiff, Nat.reduceAdd, Nat.reduceMul, Nat.reduceLeDiff, Nat.reduceBEq, Nat.reduceBNe, Int.reduceEq, ↓reduceIte, reduceCtorEq]
      refine ⟨⟨by omega, hbi⟩, (imp_sub (by simp (maxSteps := 9000000) -implicitDefEqProofs -dsimp (disch := omega) only [go_sem, ← hft, Nat.reduceEqDiff, Nat.reduceAdd, Nat.reduceMul, Nat.reduceLeDiff, Nat.reduceBEq, Nat.reduceBNe, Int.reduceEq, ↓reduceIte, reduceCtorEq]) (by simp (maxSteps := 9000000) -implicitDefEqProofs -dsimp (disch := omega) only [go_sem, ← hft, Nat.reduceEqDiff, Nat.reduceAdd, Nat.reduceMul, Nat.reduceLeDiff, Nat.reduceBEq, Nat.reduceBNe, Int.reduceEq, ↓reduceIte, reduceCtorEq]) rfl)⟩
    · obtain rfl : t = r.length := by omega
      rw [List.take_length] at hJ
      have hbr : (List.foldl incF (List.replicate n.length 0) r) = cntR n.length r := rfl
      rw [List.take_length] at hlen
      simp (maxSteps := 9000000) -implicitDefEqProofs -dsimp (disch := omega) only [go_sem, List.take_length, hbr, Nat.reduceEqDiff, Nat.reduceAdd, Nat.reduceMul, Nat.reduceLeDiff, Nat.reduceBEq, Nat.reduceBNe, Int.reduceEq, ↓reduceIte, reduceCtorEq]
      rw [hbr] at hJ hlen
      generalize hO : cntR n.length r = b0 at *
      refine loop_n n.length (fun i => ⟨[(30, .w (.one (.int .i64 (i : Nat)))), (29, .w (.one (.int .i64 n.length))), (28, .w (.one (.hs 0 [] 0 2 n.length))), (5, .w (.one (.hs 2 [] 0 1 n.length)))], [(2, .sl true 1 n.length ((cntN b0 (n.take i)).map (T.int .i64))), (1, (.sl false 1 r.length (r.map (T.int .i64)))), (0, .sl false 2 n.length (ndR n))], [.one (.hs 0 [] 0 2 n.length), .one (.hs 1 [] 0 1 r.length)]⟩) (fun i => Bd (cntN b0 (n.take i)) (6 + 6 * i)) ?_ ?_ ?_
      · exact (imp_sub (by simp (maxSteps := 9000000) -implicitDefEqProofs -dsimp (disch := omega) only [go_sem, List.take_zero, show cntN b0 [] = b0 from rfl, Nat.reduceEqDiff, Nat.reduceAdd, Nat.reduceMul, Nat.reduceLeDiff, Nat.reduceBEq, Nat.reduceBNe, Int.reduceEq, ↓reduceIte, reduceCtorEq]) (by simp (maxSteps := 9000000) -implicitDefEqProofs -dsimp (disch := omega) only [go_sem, List.take_zero, show cntN b0 [] = b0 from rfl, Nat.reduceEqDiff, Nat.reduceAdd, Nat.reduceMul, Nat.reduceLeDiff, Nat.reduceBEq, Nat.reduceBNe, Int.reduceEq, ↓reduceIte, reduceCtorEq]) rfl)
      · exact bd_mono hJ (by omega)
      · intro i hi hK
        have hlen2 : (cntN b0 (n.take i)).length = n.length := by rw [cntN_len]; omega
        simp (maxSteps := 9000000) -implicitDefEqProofs -dsimp (disch := omega) only [go_sem, Nat.reduceEqDiff, Nat.reduceAdd, Nat.reduceMul, Nat.reduceLeDiff, Nat.reduceBEq, Nat.reduceBNe, Int.reduceEq, ↓reduceIte, reduceCtorEq]
        refine brP_i (fun h2 => ?_) (fun h2 => ?_)
        · have hlt : i < n.length := by omega
          obtain ⟨k1, k2, k3⟩ := hN i hlt
          have hct := cntN_take (b := b0) hlt
          simp (maxSteps := 9000000) -implicitDefEqProofs -dsimp (disch := omega) only [go_sem, ndR_0 hlt, ndR_1 hlt, Nat.reduceEqDiff, Nat.reduceAdd, Nat.reduceMul, Nat.reduceLeDiff, Nat.reduceBEq, Nat.reduceBNe, Int.reduceEq, ↓reduceIte, reduceCtorEq]
          generalize hB : cntN b0 (n.take i) = b1 at *
          generalize hX : (n.getD i default).h = hx at *
          refine loop_n hx.length (fun t => ⟨[(37, .w (.one (.int .i64 (t : Nat)))), (36, .w (.one (.int .i64 hx.length))), (35, .w (.one (.hs 3 [0] 0 1 hx.length))), (30, .w (.one (.int .i64 (i : Nat)))), (29, .w (.one (.int .i64 n.length))), (28, .w (.one (.hs 0 [] 0 2 n.length))), (5, .w (.one (.hs 2 [] 0 1 n.length)))], [(3, .bx true [(.sl false 1 hx.length (hx.map (T.int .i64))), .bool (n.getD i default).g]), (2, .sl true 1 n.length (((hx.take t).foldl incF b1).map (T.int .i64))), (1, (.sl false 1 r.length (r.map (T.int .i64)))), (0, .sl false 2 n.length (ndR n))], [.one (.hs 0 [] 0 2 n.length), .one (.hs 1 [] 0 1 r.length)]⟩) (fun t => Bd ((hx.take t).foldl incF b1) (6 + 6 * i + t)) ?_ ?_ ?_
          · exact (imp_sub (by simp (maxSteps := 9000000) -implicitDefEqProofs -dsimp (disch := omega) only [go_sem, List.take_zero, List.foldl_nil, Nat.reduceEqDiff, Nat.reduceAdd, Nat.reduceMul, Nat.reduceLeDiff, Nat.reduceBEq, Nat.reduceBNe, Int.reduceEq, ↓reduceIte, reduceCtorEq]) (by simp (maxSteps := 9000000) -implicitDefEqProofs -dsimp (disch := omega) only [go_sem, List.take_zero, List.foldl_nil, Nat.reduceEqDiff, Nat.reduceAdd, Nat.reduceMul, Nat.reduceLeDiff, Nat.reduceBEq, Nat.reduceBNe, Int.reduceEq, ↓reduceIte, reduceCtorEq]) rfl)
          · exact hK
          · intro t ht hL
            have hlen3 : ((hx.take t).foldl incF b1).length = n.length := by rw [fold_len]; omega
            simp (maxSteps := 9000000) -implicitDefEqProofs -dsimp (disch := omega) only [go_sem, Nat.reduceEqDiff, Nat.reduceAdd, Nat.reduceMul, Nat.reduceLeDiff, Nat.reduceBEq, Nat.reduceBNe, Int.reduceEq, ↓reduceIte, reduceCtorEq]
            refine brP_i (fun h1 => ?_) (fun h1 => ?_)
            · have ht2 : t < hx.length := by omega
              have hy := k1 _ (getD_mem ht2)
              have hft := fold_take (l := hx) (o := b1) ht2
              have hb := bd_get (k := (hx.getD t default).toNat) hL
              have hbi := bd_inc (y := hx.getD t default) hL
              rw [← hft] at hbi
              rw [incF_def] at hft
              generalize hyy : hx.getD t default = y at *
              obtain ⟨a1, a2, a3⟩ := hy
              have a4 : (y.toNat : Int) = y := Int.toNat_of_nonneg a1
              have a6 : ((hx.take (t + 1)).foldl incF b1).length = n.length := by rw [fold_len]; omega
              generalize (hx.take t).foldl incF b1 = O at *
              generalize (hx.take (t + 1)).foldl incF b1 = O2 at *
              have a5 : y.toNat < O.length := by omega
              simp (maxSteps := 9000000) -implicitDefEqProofs -dsimp (disch := omega) only [go_sem, lt_T, lt_F, le_T, le_F, eq_T, eq_F, and_F, hyy, Nat.reduceEqDiff, Nat.reduceAdd, Nat.reduceMul, Nat.reduceLeDiff, Nat.reduceBEq, Nat.reduceBNe, Int.reduceEq, ↓reduceIte, reduceCtorEq]
              refine ⟨⟨by omega, hbi⟩, (imp_sub (by simp (maxSteps := 9000000) -implicitDefEqProofs -dsimp (disch := omega) only [go_sem, ← hft, Nat.reduceEqDiff, Nat.reduceAdd, Nat.reduceMul, Nat.reduceLeDiff, Nat.reduceBEq, Nat.reduceBNe, Int.reduceEq, ↓reduceIte, reduceCtorEq]) (by simp (maxSteps := 9000000) -implicitDefEqProofs -dsimp (disch := omega) only [go_sem, ← hft, Nat.reduceEqDiff, Nat.reduceAdd, Nat.reduceMul, Nat.reduceLeDiff, Nat.reduceBEq, Nat.reduceBNe, Int.reduceEq, ↓reduceIte, reduceCtorEq]) rfl)⟩
            · obtain rfl : t = hx.length := by omega
              rw [List.take_length] at hL hlen3
              simp (maxSteps := 9000000) -implicitDefEqProofs -dsimp (disch := omega) only [go_sem, List.take_length, ← hct, Nat.reduceEqDiff, Nat.reduceAdd, Nat.reduceMul, Nat.reduceLeDiff, Nat.reduceBEq, Nat.reduceBNe, Int.reduceEq, ↓reduceIte, reduceCtorEq]
              refine ⟨⟨by omega, ?_⟩, (imp_sub (by simp (maxSteps := 9000000) -implicitDefEqProofs -dsimp (disch := omega) only [go_sem, List.take_length, ← hct, Nat.reduceEqDiff, Nat.reduceAdd, Nat.reduceMul, Nat.reduceLeDiff, Nat.reduceBEq, Nat.reduceBNe, Int.reduceEq, ↓reduceIte, reduceCtorEq]) (by simp (maxSteps := 9000000) -implicitDefEqProofs -dsimp (disch := omega) only [go_sem, List.take_length, ← hct, Nat.reduceEqDiff, Nat.reduceAdd, Nat.reduceMul, Nat.reduceLeDiff, Nat.reduceBEq, Nat.reduceBNe, Int.reduceEq, ↓reduceIte, reduceCtorEq]) rfl)⟩
              rw [hct]
              exact bd_mono hL (by omega)
        · obtain rfl : i = n.length := by omega
          rw [List.take_length] at hK hlen2
          simp (maxSteps := 9000000) -implicitDefEqProofs -dsimp (disch := omega) only [go_sem, List.take_length, countsF, Nat.reduceEqDiff, Nat.reduceAdd, Nat.reduceMul, Nat.reduceLeDiff, Nat.reduceBEq, Nat.reduceBNe, Int.reduceEq, ↓reduceIte, reduceCtorEq]
          exact need_i (by simp only [hO]) (by simp (maxSteps := 9000000) -implicitDefEqProofs -dsimp (disch := omega) only [go_sem, Nat.reduceEqDiff, Nat.reduceAdd, Nat.reduceMul, Nat.reduceLeDiff, Nat.reduceBEq, Nat.reduceBNe, Int.reduceEq, ↓reduceIte, reduceCtorEq])
end Go.Proofs.YtdhclelfnbjikaaT

/- Functions of the program as contracts: rows that are the same, function values. No condition. -/
set_option maxRecDepth 100000
set_option maxHeartbeats 8000000
set_option linter.unusedSimpArgs false
set_option linter.unusedVariables false
namespace Go.Proofs.YtdhclelfnbjikaaT
open Go Go.RowKit
def g63_0 : List Gop := [⟨none, (some 4), (.mov (.k (.one (.bool .false))))⟩]
def g63_1 : List Gop := [⟨none, (some 6), (.mov (.t 0))⟩, ⟨none, (some 7), (.len (.t 6))⟩, ⟨none, (some 8), (.mov (.t 1))⟩, ⟨none, (some 9), (.len (.t 8))⟩, ⟨none, (some 10), (.bin .neq (.t 7) (.t 9))⟩]
def g63_2 : List Gop := [⟨none, (some 4), (.mov (.k (.one (.bool .false))))⟩]
def g63_3 : List Gop := [⟨none, (some 11), (.mov (.t 0))⟩, ⟨none, (some 12), (.len (.t 11))⟩, ⟨none, (some 13), (.mov (.k (.one (.int .i64 0))))⟩]
def g63_4 : List Gop := [⟨none, (some 14), (.bin .lss (.t 13) (.t 12))⟩]
def g63_5 : List Gop := [⟨none, (some 15), (.mov (.t 13))⟩, ⟨none, (some 5), (.mov (.t 15))⟩]
def g63_6 : List Gop := [⟨none, (some 16), (.mov (.t 0))⟩, ⟨none, (some 17), (.mov (.t 5))⟩, ⟨none, (some 18), (.iaddr 1 (.t 16) (.t 17))⟩, ⟨none, (some 19), (.load none (.t 18))⟩, ⟨none, (some 20), (.mov (.t 1))⟩, ⟨none, (some 21), (.mov (.t 5))⟩, ⟨none, (some 22), (.iaddr 1 (.t 20) (.t 21))⟩, ⟨none, (some 23), (.load none (.t 22))⟩, ⟨none, (some 24), (.bin .neq (.t 19) (.t 23))⟩]
def a63_6 : List (List Nat) := [[], [], [0, 1], [0, 1, 2], [], [], [4, 5], [4, 5, 6], [0, 1, 2, 3, 4, 5, 6, 7]]
def n63_6 : Nat := 8 -- of 9
def g63_7 : List Gop := [⟨none, (some 4), (.mov (.k (.one (.bool .false))))⟩]
def g63_8 : List Gop := [⟨none, (some 25), (.bin .add (.t 13) (.k (.one (.int .i64 1))))⟩, ⟨none, (some 13), (.mov (.t 25))⟩]
def g63_9 : List Gop := [⟨none, (some 4), (.mov (.k (.one (.bool .true))))⟩]
def i63 : Ir := (.seq (.region g63_0) (.seq (.seq (.region g63_1) (.cond (.t 10) (.seq (.region g63_2) .ret) .skip)) (.seq (.seq (.region g63_3) (.block 0 (.loop (.seq (.region g63_4) (.seq (.cond (.t 14) .skip (.exit 0)) (.seq (.block 1 (.seq (.region g63_5) (.seq (.draw [[], [], [0, 1], [2], [], [], [4, 5], [6], [3, 7]] g63_6) (.cond (.t 24) (.seq (.region g63_7) .ret) .skip)))) (.region g63_8))))))) (.seq (.region g63_9) .ret))))
theorem l1Same_ok (a b : List Int) (ha : a.length ≤ 9223372036854775807) : Meets Try.prog 63 [.one (.sl false 1 a.length (a.map (T.int .i64))), .one (.sl false 1 b.length (b.map (T.int .i64)))] (.w (.one (.bool (decide (a = b))))) [.one .hole, .one .hole] := by
  refine meets_go (ir := i63) (fn := Try.f63) (rx := [(.tmp 4)]) rfl rfl (by rfl) (by rfl) (by exact Nat.le_of_ble_eq_true rfl) ?_
  simp (maxSteps := 9000000) -implicitDefEqProofs -dsimp (disch := omega) only [go_sem, g63_0, g63_1, g63_2, g63_3, g63_4, g63_5, g63_6, a63_6, n63_6, g63_7, g63_8, g63_9, i63, Nat.reduceEqDiff, Nat.reduceAdd, Nat.reduceMul, Nat.reduceLeDiff, Nat.reduceBEq, Nat.reduceBNe, Int.reduceEq, ↓reduceIte, reduceCtorEq]
  refine brP_i (fun h => ?_) (fun h => ?_)
  · have h' : b.length = a.length := by omega
    simp (maxSteps := 9000000) -implicitDefEqProofs -dsimp (disch := omega) only [go_sem, Nat.reduceEqDiff, Nat.reduceAdd, Nat.reduceMul, Nat.reduceLeDiff, Nat.reduceBEq, Nat.reduceBNe, Int.reduceEq, ↓reduceIte, reduceCtorEq]
    refine loop_n a.length (fun i => ⟨[(13, .w (.one (.int .i64 (i : Nat)))), (12, .w (.one (.int .i64 a.length))), (1, .w (.one (.hs 1 [] 0 1 b.length))), (0, .w (.one (.hs 0 [] 0 1 a.length)))], [(1, (.sl false 1 b.length (b.map (T.int .i64)))), (0, (.sl false 1 a.length (a.map (T.int .i64))))], [.one (.hs 0 [] 0 1 a.length), .one (.hs 1 [] 0 1 b.length)]⟩) (fun i => a.take i = b.take i) ?_ ?_ ?_
    · exact (imp_sub (by simp (maxSteps := 9000000) -implicitDefEqProofs -dsimp (disch := omega) only [go_sem, Nat.reduceEqDiff, Nat.reduceAdd, Nat.reduceMul, Nat.reduceLeDiff, Nat.reduceBEq, Nat.reduceBNe, Int.reduceEq, ↓reduceIte, reduceCtorEq]) (by simp (maxSteps := 9000000) -implicitDefEqProofs -dsimp (disch := omega) only [go_sem, Nat.reduceEqDiff, Nat.reduceAdd, Nat.reduceMul, Nat.reduceLeDiff, Nat.reduceBEq, Nat.reduceBNe, Int.reduceEq, ↓reduceIte, reduceCtorEq]) rfl)
    · simp
    · intro i hi hJ
      simp (maxSteps := 9000000) -implicitDefEqProofs -dsimp (disch := omega) only [go_sem, Nat.reduceEqDiff, Nat.reduceAdd, Nat.reduceMul, Nat.reduceLeDiff, Nat.reduceBEq, Nat.reduceBNe, Int.reduceEq, ↓reduceIte, reduceCtorEq]
      refine brP_i (fun h2 => ?_) (fun h2 => ?_)
      · simp (maxSteps := 9000000) -implicitDefEqProofs -dsimp (disch := omega) only [go_sem, Nat.reduceEqDiff, Nat.reduceAdd, Nat.reduceMul, Nat.reduceLeDiff, Nat.reduceBEq, Nat.reduceBNe, Int.reduceEq, ↓reduceIte, reduceCtorEq]
        refine draw_go n63_6 a63_6 (by decide +kernel) ?_
        simp (maxSteps := 9000000) -implicitDefEqProofs -dsimp (disch := omega) only [go_sem, n63_6, a63_6, Nat.reduceEqDiff, Nat.reduceAdd, Nat.reduceMul, Nat.reduceLeDiff, Nat.reduceBEq, Nat.reduceBNe, Int.reduceEq, ↓reduceIte, reduceCtorEq]
        refine brP_i (fun h3 => ?_) (fun h3 => ?_)
        · simp (maxSteps := 9000000) -implicitDefEqProofs -dsimp (disch := omega) only [go_sem, n63_6, a63_6, Nat.reduceEqDiff, Nat.reduceAdd, Nat.reduceMul, Nat.reduceLeDiff, Nat.reduceBEq, Nat.reduceBNe, Int.reduceEq, ↓reduceIte, reduceCtorEq]
          exact ⟨⟨by omega, take_eq_succ (by omega) (by omega) hJ h3⟩, (imp_sub (by simp (maxSteps := 9000000) -implicitDefEqProofs -dsimp (disch := omega) only [go_sem, n63_6, a63_6, Nat.reduceEqDiff, Nat.reduceAdd, Nat.reduceMul, Nat.reduceLeDiff, Nat.reduceBEq, Nat.reduceBNe, Int.reduceEq, ↓reduceIte, reduceCtorEq]) (by simp (maxSteps := 9000000) -implicitDefEqProofs -dsimp (disch := omega) only [go_sem, n63_6, a63_6, Nat.reduceEqDiff, Nat.reduceAdd, Nat.reduceMul, Nat.reduceLeDiff, Nat.reduceBEq, Nat.reduceBNe, Int.reduceEq, ↓reduceIte, reduceCtorEq]) rfl)⟩
        · simp (maxSteps := 9000000) -implicitDefEqProofs -dsimp (disch := omega) only [go_sem, n63_6, a63_6, Nat.reduceEqDiff, Nat.reduceAdd, Nat.reduceMul, Nat.reduceLeDiff, Nat.reduceBEq, Nat.reduceBNe, Int.reduceEq, ↓reduceIte, reduceCtorEq]
          exact need_i (by simp [show a ≠ b from fun e => h3 (by rw [e])]) (by simp (maxSteps := 9000000) -implicitDefEqProofs -dsimp (disch := omega) only [go_sem, n63_6, a63_6, Nat.reduceEqDiff, Nat.reduceAdd, Nat.reduceMul, Nat.reduceLeDiff, Nat.reduceBEq, Nat.reduceBNe, Int.reduceEq, ↓reduceIte, reduceCtorEq])
      · simp (maxSteps := 9000000) -implicitDefEqProofs -dsimp (disch := omega) only [go_sem, n63_6, a63_6, Nat.reduceEqDiff, Nat.reduceAdd, Nat.reduceMul, Nat.reduceLeDiff, Nat.reduceBEq, Nat.reduceBNe, Int.reduceEq, ↓reduceIte, reduceCtorEq]
        exact need_i (by simp [eq_of_take hJ (by omega) (by omega)]) (by simp (maxSteps := 9000000) -implicitDefEqProofs -dsimp (disch := omega) only [go_sem, n63_6, a63_6, Nat.reduceEqDiff, Nat.reduceAdd, Nat.reduceMul, Nat.reduceLeDiff, Nat.reduceBEq, Nat.reduceBNe, Int.reduceEq, ↓reduceIte, reduceCtorEq])
  · simp (maxSteps := 9000000) -implicitDefEqProofs -dsimp (disch := omega) only [go_sem, n63_6, a63_6, Nat.reduceEqDiff, Nat.reduceAdd, Nat.reduceMul, Nat.reduceLeDiff, Nat.reduceBEq, Nat.reduceBNe, Int.reduceEq, ↓reduceIte, reduceCtorEq]
    exact need_i (by simp [show a ≠ b from fun e => h (by rw [e])]) (by simp (maxSteps := 9000000) -implicitDefEqProofs -dsimp (disch := omega) only [go_sem, n63_6, a63_6, Nat.reduceEqDiff, Nat.reduceAdd, Nat.reduceMul, Nat.reduceLeDiff, Nat.reduceBEq, Nat.reduceBNe, Int.reduceEq, ↓reduceIte, reduceCtorEq])
def g64_0 : List Gop := [⟨none, (some 4), (.mov (.k (.one (.bool .false))))⟩]
def g64_1 : List Gop := [⟨none, (some 6), (.mov (.t 0))⟩, ⟨none, (some 7), (.len (.t 6))⟩, ⟨none, (some 8), (.mov (.t 1))⟩, ⟨none, (some 9), (.len (.t 8))⟩, ⟨none, (some 10), (.bin .neq (.t 7) (.t 9))⟩]
def g64_2 : List Gop := [⟨none, (some 4), (.mov (.k (.one (.bool .false))))⟩]
def g64_3 : List Gop := [⟨none, (some 11), (.mov (.t 0))⟩, ⟨none, (some 12), (.len (.t 11))⟩, ⟨none, (some 13), (.mov (.k (.one (.int .i64 0))))⟩]
def g64_4 : List Gop := [⟨none, (some 14), (.bin .lss (.t 13) (.t 12))⟩]
def g64_5 : List Gop := [⟨none, (some 15), (.mov (.t 13))⟩, ⟨none, (some 5), (.mov (.t 15))⟩]
def g64_6 : List Gop := [⟨none, (some 16), (.mov (.t 0))⟩, ⟨none, (some 17), (.mov (.t 5))⟩, ⟨none, (some 18), (.iaddr 1 (.t 16) (.t 17))⟩, ⟨none, (some 19), (.load none (.t 18))⟩, ⟨none, (some 20), (.mov (.t 1))⟩, ⟨none, (some 21), (.mov (.t 5))⟩, ⟨none, (some 22), (.iaddr 1 (.t 20) (.t 21))⟩, ⟨none, (some 23), (.load none (.t 22))⟩, ⟨none, (some 24), (.bin .neq (.t 19) (.t 23))⟩]
def a64_6 : List (List Nat) := [[], [], [0, 1], [0, 1, 2], [], [], [4, 5], [4, 5, 6], [0, 1, 2, 3, 4, 5, 6, 7]]
def n64_6 : Nat := 8 -- of 9
def g64_7 : List Gop := [⟨none, (some 4), (.mov (.k (.one (.bool .false))))⟩]
def g64_8 : List Gop := [⟨none, (some 25), (.bin .add (.t 13) (.k (.one (.int .i64 1))))⟩, ⟨none, (some 13), (.mov (.t 25))⟩]
def g64_9 : List Gop := [⟨none, (some 4), (.mov (.k (.one (.bool .true))))⟩]
def i64 : Ir := (.seq (.region g64_0) (.seq (.seq (.region g64_1) (.cond (.t 10) (.seq (.region g64_2) .ret) .skip)) (.seq (.seq (.region g64_3) (.block 0 (.loop (.seq (.region g64_4) (.seq (.cond (.t 14) .skip (.exit 0)) (.seq (.block 1 (.seq (.region g64_5) (.seq (.draw [[], [], [0, 1], [2], [], [], [4, 5], [6], [3, 7]] g64_6) (.cond (.t 24) (.seq (.region g64_7) .ret) .skip)))) (.region g64_8))))))) (.seq (.region g64_9) .ret))))
theorem sliceEq_ok (a b : List Int) (ha : a.length ≤ 9223372036854775807) : Meets Try.prog 64 [.one (.sl false 1 a.length (a.map (T.int .i64))), .one (.sl false 1 b.length (b.map (T.int .i64)))] (.w (.one (.bool (decide (a = b))))) [.one .hole, .one .hole] := by
  refine meets_go (ir := i64) (fn := Try.f64) (rx := [(.tmp 4)]) rfl rfl (by rfl) (by rfl) (by exact Nat.le_of_ble_eq_true rfl) ?_
  simp (maxSteps := 9000000) -implicitDefEqProofs -dsimp (disch := omega) only [go_sem, g64_0, g64_1, g64_2, g64_3, g64_4, g64_5, g64_6, a64_6, n64_6, g64_7, g64_8, g64_9, i64, Nat.reduceEqDiff, Nat.reduceAdd, Nat.reduceMul, Nat.reduceLeDiff, Nat.reduceBEq, Nat.reduceBNe, Int.reduceEq, ↓reduceIte, reduceCtorEq]
  refine brP_i (fun h => ?_) (fun h => ?_)
  · have h' : b.length = a.length := by omega
    simp (maxSteps := 9000000) -implicitDefEqProofs -dsimp (disch := omega) only [go_sem, Nat.reduceEqDiff, Nat.reduceAdd, Nat.reduceMul, Nat.reduceLeDiff, Nat.reduceBEq, Nat.reduceBNe, Int.reduceEq, ↓reduceIte, reduceCtorEq]
    refine loop_n a.length (fun i => ⟨[(13, .w (.one (.int .i64 (i : Nat)))), (12, .w (.one (.int .i64 a.length))), (1, .w (.one (.hs 1 [] 0 1 b.length))), (0, .w (.one (.hs 0 [] 0 1 a.length)))], [(1, (.sl false 1 b.length (b.map (T.int .i64)))), (0, (.sl false 1 a.length (a.map (T.int .i64))))], [.one (.hs 0 [] 0 1 a.length), .one (.hs 1 [] 0 1 b.length)]⟩) (fun i => a.take i = b.take i) ?_ ?_ ?_
    · exact (imp_sub (by simp (maxSteps := 9000000) -implicitDefEqProofs -dsimp (disch := omega) only [go_sem, Nat.reduceEqDiff, Nat.reduceAdd, Nat.reduceMul, Nat.reduceLeDiff, Nat.reduceBEq, Nat.reduceBNe, Int.reduceEq, ↓reduceIte, reduceCtorEq]) (by simp (maxSteps := 9000000) -implicitDefEqProofs -dsimp (disch := omega) only [go_sem, Nat.reduceEqDiff, Nat.reduceAdd, Nat.reduceMul, Nat.reduceLeDiff, Nat.reduceBEq, Nat.reduceBNe, Int.reduceEq, ↓reduceIte, reduceCtorEq]) rfl)
    · simp
    · intro i hi hJ
      simp (maxSteps := 9000000) -implicitDefEqProofs -dsimp (disch := omega) only [go_sem, Nat.reduceEqDiff, Nat.reduceAdd, Nat.reduceMul, Nat.reduceLeDiff, Nat.reduceBEq, Nat.reduceBNe, Int.reduceEq, ↓reduceIte, reduceCtorEq]
      refine brP_i (fun h2 => ?_) (fun h2 => ?_)
      · simp (maxSteps := 9000000) -implicitDefEqProofs -dsimp (disch := omega) only [go_sem, Nat.reduceEqDiff, Nat.reduceAdd, Nat.reduceMul, Nat.reduceLeDiff, Nat.reduceBEq, Nat.reduceBNe, Int.reduceEq, ↓reduceIte, reduceCtorEq]
        refine draw_go n64_6 a64_6 (by decide +kernel) ?_
        simp (maxSteps := 9000000) -implicitDefEqProofs -dsimp (disch := omega) only [go_sem, n64_6, a64_6, Nat.reduceEqDiff, Nat.reduceAdd, Nat.reduceMul, Nat.reduceLeDiff, Nat.reduceBEq, Nat.reduceBNe, Int.reduceEq, ↓reduceIte, reduceCtorEq]
        refine brP_i (fun h3 => ?_) (fun h3 => ?_)
        · simp (maxSteps := 9000000) -implicitDefEqProofs -dsimp (disch := omega) only [go_sem, n64_6, a64_6, Nat.reduceEqDiff, Nat.reduceAdd, Nat.reduceMul, Nat.reduceLeDiff, Nat.reduceBEq, Nat.reduceBNe, Int.reduceEq, ↓reduceIte, reduceCtorEq]
          exact ⟨⟨by omega, take_eq_succ (by omega) (by omega) hJ h3⟩, (imp_sub (by simp (maxSteps := 9000000) -implicitDefEqProofs -dsimp (disch := omega) only [go_sem, n64_6, a64_6, Nat.reduceEqDiff, Nat.reduceAdd, Nat.reduceMul, Nat.reduceLeDiff, Nat.reduceBEq, Nat.reduceBNe, Int.reduceEq, ↓reduceIte, reduceCtorEq]) (by simp (maxSteps := 9000000) -implicitDefEqProofs -dsimp (disch := omega) only [go_sem, n64_6, a64_6, Nat.reduceEqDiff, Nat.reduceAdd, Nat.reduceMul, Nat.reduceLeDiff, Nat.reduceBEq, Nat.reduceBNe, Int.reduceEq, ↓reduceIte, reduceCtorEq]) rfl)⟩
        · simp (maxSteps := 9000000) -implicitDefEqProofs -dsimp (disch := omega) only [go_sem, n64_6, a64_6, Nat.reduceEqDiff, Nat.reduceAdd, Nat.reduceMul, Nat.reduceLeDiff, Nat.reduceBEq, Nat.reduceBNe, Int.reduceEq, ↓reduceIte, reduceCtorEq]
          exact need_i (by simp [show a ≠ b from fun e => h3 (by rw [e])]) (by simp (maxSteps := 9000000) -implicitDefEqProofs -dsimp (disch := omega) only [go_sem, n64_6, a64_6, Nat.reduceEqDiff, Nat.reduceAdd, Nat.reduceMul, Nat.reduceLeDiff, Nat.reduceBEq, Nat.reduceBNe, Int.reduceEq, ↓reduceIte, reduceCtorEq])
      · simp (maxSteps := 9000000) -implicitDefEqProofs -dsimp (disch := omega) only [go_sem, n64_6, a64_6, Nat.reduceEqDiff, Nat.reduceAdd, Nat.reduceMul, Nat.reduceLeDiff, Nat.reduceBEq, Nat.reduceBNe, Int.reduceEq, ↓reduceIte, reduceCtorEq]
        exact need_i (by simp [eq_of_take hJ (by omega) (by omega)]) (by simp (maxSteps := 9000000) -implicitDefEqProofs -dsimp (disch := omega) only [go_sem, n64_6, a64_6, Nat.reduceEqDiff, Nat.reduceAdd, Nat.reduceMul, Nat.reduceLeDiff, Nat.reduceBEq, Nat.reduceBNe, Int.reduceEq, ↓reduceIte, reduceCtorEq])
  · simp (maxSteps := 9000000) -implicitDefEqProofs -dsimp (disch := omega) only [go_sem, n64_6, a64_6, Nat.reduceEqDiff, Nat.reduceAdd, Nat.reduceMul, Nat.reduceLeDiff, Nat.reduceBEq, Nat.reduceBNe, Int.reduceEq, ↓reduceIte, reduceCtorEq]
    exact need_i (by simp [show a ≠ b from fun e => h (by rw [e])]) (by simp (maxSteps := 9000000) -implicitDefEqProofs -dsimp (disch := omega) only [go_sem, n64_6, a64_6, Nat.reduceEqDiff, Nat.reduceAdd, Nat.reduceMul, Nat.reduceLeDiff, Nat.reduceBEq, Nat.reduceBNe, Int.reduceEq, ↓reduceIte, reduceCtorEq])
def g91_0 : List Gop := [⟨none, (some 4), (.mov (.k (.one (.int .i64 0))))⟩]
def g91_1 : List Gop := [⟨none, (some 6), (.mov (.t 0))⟩, ⟨none, (some 7), (.len (.t 6))⟩, ⟨none, (some 8), (.mov (.k (.one (.int .i64 0))))⟩]
def g91_2 : List Gop := [⟨none, (some 9), (.bin .lss (.t 8) (.t 7))⟩]
def g91_3 : List Gop := [⟨none, (some 10), (.mov (.t 8))⟩, ⟨none, (some 5), (.mov (.t 10))⟩]
def g91_4 : List Gop := [⟨none, (some 11), (.mov (.t 1))⟩, ⟨none, (some 12), (.mov (.t 0))⟩, ⟨none, (some 13), (.mov (.t 5))⟩, ⟨none, (some 14), (.iaddr 1 (.t 12) (.t 13))⟩, ⟨none, (some 15), (.load none (.t 14))⟩, ⟨none, (some 16), (.callv (.t 11) [(.t 15)])⟩]
def g91_5 : List Gop := [⟨none, (some 17), (.mov (.t 5))⟩, ⟨none, (some 4), (.mov (.t 17))⟩]
def g91_6 : List Gop := [⟨none, (some 18), (.bin .add (.t 8) (.k (.one (.int .i64 1))))⟩, ⟨none, (some 8), (.mov (.t 18))⟩]
def g91_7 : List Gop := [⟨none, (some 4), (.mov (.k (.one (.int .i64 (-1)))))⟩]
def i91 : Ir := (.seq (.region g91_0) (.seq (.seq (.region g91_1) (.block 0 (.loop (.seq (.region g91_2) (.seq (.cond (.t 9) .skip (.exit 0)) (.seq (.block 1 (.seq (.region g91_3) (.seq (.region g91_4) (.cond (.t 16) (.seq (.region g91_5) .ret) .skip)))) (.region g91_6))))))) (.seq (.region g91_7) .ret)))
theorem indexFunc_ok (l : List Int) (f : FuncId) (cs : List T) (pr : Int → Bool) (hl : l.length ≤ 1048576) (hb : ∃ fn, Try.prog.funcs[f]? = some fn ∧ fn.body.isSome ∧ (fn.name != "runtime.NumGoroutine") = true)
    (hM : ∀ x ∈ l, Meets Try.prog f [.one (.int .i64 x), .one (.bx false cs)] (.w (.one (.bool (pr x)))) [.one .hole, .one .hole]) : ∃ n : Int, Meets Try.prog 91 [.one (.sl false 1 l.length (l.map (T.int .i64))), .one (.fn f [.bx false cs])] (.w (.one (.int .i64 n))) [.one .hole, .one .hole] ∧ (0 ≤ n ↔ l.any pr = true) := by
  have key : ∀ n : Nat, n ≤ l.length → (∀ j, j < n → pr (l.getD j default) = false) → (n < l.length → pr (l.getD n default) = true) → Meets Try.prog 91 [.one (.sl false 1 l.length (l.map (T.int .i64))), .one (.fn f [.bx false cs])] (.w (.one (.int .i64 (if n < l.length then (n : Int) else -1)))) [.one .hole, .one .hole] := by
    intro n hn h0 h1
    refine meets_go (ir := i91) (fn := Try.f91) (rx := [(.tmp 4)]) rfl rfl (by rfl) (by rfl) (by exact Nat.le_of_ble_eq_true rfl) ?_
    simp (maxSteps := 9000000) -implicitDefEqProofs -dsimp (disch := omega) only [go_sem, g91_0, g91_1, g91_2, g91_3, g91_4, g91_5, g91_6, g91_7, i91, Nat.reduceEqDiff, Nat.reduceAdd, Nat.reduceMul, Nat.reduceLeDiff, Nat.reduceBEq, Nat.reduceBNe, Int.reduceEq, ↓reduceIte, reduceCtorEq]
    refine loop_n n (fun i => ⟨[(8, .w (.one (.int .i64 (i : Nat)))), (7, .w (.one (.int .i64 l.length))), (0, .w (.one (.hs 0 [] 0 1 l.length))), (1, .w (.one (.fn f [.hp 1 [] 0])))],
      [(1, .bx false cs), (0, (.sl false 1 l.length (l.map (T.int .i64))))], [.one (.hs 0 [] 0 1 l.length), .one (.fn f [.hp 1 [] 0])]⟩) (fun i => True) ?_ trivial ?_
    · exact (imp_sub (by simp (maxSteps := 9000000) -implicitDefEqProofs -dsimp (disch := omega) only [go_sem, Nat.reduceEqDiff, Nat.reduceAdd, Nat.reduceMul, Nat.reduceLeDiff, Nat.reduceBEq, Nat.reduceBNe, Int.reduceEq, ↓reduceIte, reduceCtorEq]) (by simp (maxSteps := 9000000) -implicitDefEqProofs -dsimp (disch := omega) only [go_sem, Nat.reduceEqDiff, Nat.reduceAdd, Nat.reduceMul, Nat.reduceLeDiff, Nat.reduceBEq, Nat.reduceBNe, Int.reduceEq, ↓reduceIte, reduceCtorEq]) rfl)
    · intro i hi _
      simp (maxSteps := 9000000) -implicitDefEqProofs -dsimp (disch := omega) only [go_sem, Nat.reduceEqDiff, Nat.reduceAdd, Nat.reduceMul, Nat.reduceLeDiff, Nat.reduceBEq, Nat.reduceBNe, Int.reduceEq, ↓reduceIte, reduceCtorEq]
      refine brP_i (fun h2 => ?_) (fun h2 => ?_)
      · simp (maxSteps := 9000000) -implicitDefEqProofs -dsimp (disch := omega) only [go_sem, Nat.reduceEqDiff, Nat.reduceAdd, Nat.reduceMul, Nat.reduceLeDiff, Nat.reduceBEq, Nat.reduceBNe, Int.reduceEq, ↓reduceIte, reduceCtorEq]
        refine callv_go true hb (hM (l.getD i default) (getD_mem (by omega))) ?_
        simp (maxSteps := 9000000) -implicitDefEqProofs -dsimp (disch := omega) only [go_sem, Nat.reduceEqDiff, Nat.reduceAdd, Nat.reduceMul, Nat.reduceLeDiff, Nat.reduceBEq, Nat.reduceBNe, Int.reduceEq, ↓reduceIte, reduceCtorEq]
        refine ⟨[.hp 1 [] 0], ?_⟩
        by_cases e : i < n
        · simp (maxSteps := 9000000) -implicitDefEqProofs -dsimp (disch := omega) only [go_sem, h0 i e, Nat.reduceEqDiff, Nat.reduceAdd, Nat.reduceMul, Nat.reduceLeDiff, Nat.reduceBEq, Nat.reduceBNe, Int.reduceEq, ↓reduceIte, reduceCtorEq]
          exact ⟨by omega, (imp_sub (by simp (maxSteps := 9000000) -implicitDefEqProofs -dsimp (disch := omega) only [go_sem, Nat.reduceEqDiff, Nat.reduceAdd, Nat.reduceMul, Nat.reduceLeDiff, Nat.reduceBEq, Nat.reduceBNe, Int.reduceEq, ↓reduceIte, reduceCtorEq]) (by simp (maxSteps := 9000000) -implicitDefEqProofs -dsimp (disch := omega) only [go_sem, Nat.reduceEqDiff, Nat.reduceAdd, Nat.reduceMul, Nat.reduceLeDiff, Nat.reduceBEq, Nat.reduceBNe, Int.reduceEq, ↓reduceIte, reduceCtorEq]) rfl)⟩
        · obtain rfl : i = n := by omega
          simp (maxSteps := 9000000) -implicitDefEqProofs -dsimp (disch := omega) only [go_sem, h1 (by omega), Nat.reduceEqDiff, Nat.reduceAdd, Nat.reduceMul, Nat.reduceLeDiff, Nat.reduceBEq, Nat.reduceBNe, Int.reduceEq, ↓reduceIte, reduceCtorEq]
          exact need_i (by rw [if_pos (by omega)]) (by simp (maxSteps := 9000000) -implicitDefEqProofs -dsimp (disch := omega) only [go_sem, Nat.reduceEqDiff, Nat.reduceAdd, Nat.reduceMul, Nat.reduceLeDiff, Nat.reduceBEq, Nat.reduceBNe, Int.reduceEq, ↓reduceIte, reduceCtorEq])
      · simp (maxSteps := 9000000) -implicitDefEqProofs -dsimp (disch := omega) only [go_sem, Nat.reduceEqDiff, Nat.reduceAdd, Nat.reduceMul, Nat.reduceLeDiff, Nat.reduceBEq, Nat.reduceBNe, Int.reduceEq, ↓reduceIte, reduceCtorEq]
        exact need_i (by rw [if_neg (by omega)]) (by simp (maxSteps := 9000000) -implicitDefEqProofs -dsimp (disch := omega) only [go_sem, Nat.reduceEqDiff, Nat.reduceAdd, Nat.reduceMul, Nat.reduceLeDiff, Nat.reduceBEq, Nat.reduceBNe, Int.reduceEq, ↓reduceIte, reduceCtorEq])
  have least : ∃ n : Nat, n ≤ l.length ∧ (∀ j, j < n → pr (l.getD j default) = false) ∧ (n < l.length → pr (l.getD n default) = true) := by
    have : ∀ k, k ≤ l.length → (∀ j, j < k → pr (l.getD j default) = false) ∨ ∃ n : Nat, n < k ∧ (∀ j, j < n → pr (l.getD j default) = false) ∧ pr (l.getD n default) = true := by
      intro k
      induction k with
      | zero => intro _; exact .inl fun j hj => by omega
      | succ k ih =>
        intro hk
        rcases ih (by omega) with h | ⟨n, h1, h2, h3⟩
        · cases hp : pr (l.getD k default) with
          | false => exact .inl (all_succ h hp)
          | true => exact .inr ⟨k, by omega, h, hp⟩
        · exact .inr ⟨n, by omega, h2, h3⟩
    rcases this l.length (Nat.le_refl _) with h | ⟨n, h1, h2, h3⟩
    · exact ⟨l.length, Nat.le_refl _, h, fun h => by omega⟩
    · exact ⟨n, by omega, h2, fun _ => h3⟩
  obtain ⟨n, h1, h2, h3⟩ := least
  refine ⟨_, key n h1 h2 h3, ?_⟩
  split
  · rename_i hn
    exact ⟨fun _ => List.any_eq_true.2 ⟨_, getD_mem hn, h3 hn⟩, fun _ => by omega⟩
  · rename_i hn
    refine ⟨fun h => by omega, fun h => ?_⟩
    obtain ⟨x, hx, hp⟩ := List.any_eq_true.1 h
    obtain ⟨j, hj, rfl⟩ := mem_getD hx
    rw [h2 j (by omega)] at hp; simp at hp
def g82_0 : List Gop := [⟨none, (some 4), (.mov (.k (.one (.bool .false))))⟩]
def g82_1 : List Gop := [⟨none, (some 5), (.mov (.t 0))⟩, ⟨none, (some 6), (.mov (.t 1))⟩, ⟨none, (some 7), (.call 91 [(.t 5), (.t 6)])⟩, ⟨none, (some 8), (.bin .geq (.t 7) (.k (.one (.int .i64 0))))⟩, ⟨none, (some 4), (.mov (.t 8))⟩]
def i82 : Ir := (.seq (.region g82_0) (.seq (.region g82_1) .ret))
theorem containsFunc_ok (l : List Int) (f : FuncId) (cs : List T) (pr : Int → Bool) (hl : l.length ≤ 1048576) (hb : ∃ fn, Try.prog.funcs[f]? = some fn ∧ fn.body.isSome ∧ (fn.name != "runtime.NumGoroutine") = true)
    (hM : ∀ x ∈ l, Meets Try.prog f [.one (.int .i64 x), .one (.bx false cs)] (.w (.one (.bool (pr x)))) [.one .hole, .one .hole]) : Meets Try.prog 82 [.one (.sl false 1 l.length (l.map (T.int .i64))), .one (.fn f [.bx false cs])] (.w (.one (.bool (l.any pr)))) [.one .hole, .one .hole] := by
  obtain ⟨n, hI, hn⟩ := indexFunc_ok l f cs pr hl hb hM
  refine meets_go (ir := i82) (fn := Try.f82) (rx := [(.tmp 4)]) rfl rfl (by rfl) (by rfl) (by exact Nat.le_of_ble_eq_true rfl) ?_
  simp (maxSteps := 9000000) -implicitDefEqProofs -dsimp (disch := omega) only [go_sem, g82_0, g82_1, i82, Nat.reduceEqDiff, Nat.reduceAdd, Nat.reduceMul, Nat.reduceLeDiff, Nat.reduceBEq, Nat.reduceBNe, Int.reduceEq, ↓reduceIte, reduceCtorEq]
  refine call_go false hI ?_
  simp (maxSteps := 9000000) -implicitDefEqProofs -dsimp (disch := omega) only [go_sem, Nat.reduceEqDiff, Nat.reduceAdd, Nat.reduceMul, Nat.reduceLeDiff, Nat.reduceBEq, Nat.reduceBNe, Int.reduceEq, ↓reduceIte, reduceCtorEq]
  exact need_i (by rw [show (l.any pr) = decide (0 ≤ n) from by rw [Bool.eq_iff_iff, decide_eq_true_eq]; exact hn.symm]) (by simp (maxSteps := 9000000) -implicitDefEqProofs -dsimp (disch := omega) only [go_sem, Nat.reduceEqDiff, Nat.reduceAdd, Nat.reduceMul, Nat.reduceLeDiff, Nat.reduceBEq, Nat.reduceBNe, Int.reduceEq, ↓reduceIte, reduceCtorEq])
theorem indexFunc2_ok (l : List Int) (f : FuncId) (cs ds : List T) (pr : Int → Bool) (hl : l.length ≤ 1048576) (hb : ∃ fn, Try.prog.funcs[f]? = some fn ∧ fn.body.isSome ∧ (fn.name != "runtime.NumGoroutine") = true)
    (hM : ∀ x ∈ l, Meets Try.prog f [.one (.int .i64 x), .one (.bx false cs), .one (.bx false ds)] (.w (.one (.bool (pr x)))) [.one .hole, .one .hole, .one .hole]) : ∃ n : Int, Meets Try.prog 91 [.one (.sl false 1 l.length (l.map (T.int .i64))), .one (.fn f [.bx false cs, .bx false ds])] (.w (.one (.int .i64 n))) [.one .hole, .one .hole] ∧ (0 ≤ n ↔ l.any pr = true) := by
  have key : ∀ n : Nat, n ≤ l.length → (∀ j, j < n → pr (l.getD j default) = false) → (n < l.length → pr (l.getD n default) = true) → Meets Try.prog 91 [.one (.sl false 1 l.length (l.map (T.int .i64))), .one (.fn f [.bx false cs, .bx false ds])] (.w (.one (.int .i64 (if n < l.length then (n : Int) else -1)))) [.one .hole, .one .hole] := by
    intro n hn h0 h1
    refine meets_go (ir := i91) (fn := Try.f91) (rx := [(.tmp 4)]) rfl rfl (by rfl) (by rfl) (by exact Nat.le_of_ble_eq_true rfl) ?_
    simp (maxSteps := 9000000) -implicitDefEqProofs -dsimp (disch := omega) only [go_sem, g91_0, g91_1, g91_2, g91_3, g91_4, g91_5, g91_6, g91_7, i91, Nat.reduceEqDiff, Nat.reduceAdd, Nat.reduceMul, Nat.reduceLeDiff, Nat.reduceBEq, Nat.reduceBNe, Int.reduceEq, ↓reduceIte, reduceCtorEq]
    refine loop_n n (fun i => ⟨[(8, .w (.one (.int .i64 (i : Nat)))), (7, .w (.one (.int .i64 l.length))), (0, .w (.one (.hs 0 [] 0 1 l.length))), (1, .w (.one (.fn f [.hp 1 [] 0, .hp 2 [] 0])))],
      [(2, .bx false ds), (1, .bx false cs), (0, (.sl false 1 l.length (l.map (T.int .i64))))], [.one (.hs 0 [] 0 1 l.length), .one (.fn f [.hp 1 [] 0, .hp 2 [] 0])]⟩) (fun i => True) ?_ trivial ?_
    · exact (imp_sub (by simp (maxSteps := 9000000) -implicitDefEqProofs -dsimp (disch := omega) only [go_sem, Nat.reduceEqDiff, Nat.reduceAdd, Nat.reduceMul, Nat.reduceLeDiff, Nat.reduceBEq, Nat.reduceBNe, Int.reduceEq, ↓reduceIte, reduceCtorEq]) (by simp (maxSteps := 9000000) -implicitDefEqProofs -dsimp (disch := omega) only [go_sem, Nat.reduceEqDiff, Nat.reduceAdd, Nat.reduceMul, Nat.reduceLeDiff, Nat.reduceBEq, Nat.reduceBNe, Int.reduceEq, ↓reduceIte, reduceCtorEq]) rfl)
    · intro i hi _
      simp (maxSteps := 9000000) -implicitDefEqProofs -dsimp (disch := omega) only [go_sem, Nat.reduceEqDiff, Nat.reduceAdd, Nat.reduceMul, Nat.reduceLeDiff, Nat.reduceBEq, Nat.reduceBNe, Int.reduceEq, ↓reduceIte, reduceCtorEq]
      refine brP_i (fun h2 => ?_) (fun h2 => ?_)
      · simp (maxSteps := 9000000) -implicitDefEqProofs -dsimp (disch := omega) only [go_sem, Nat.reduceEqDiff, Nat.reduceAdd, Nat.reduceMul, Nat.reduceLeDiff, Nat.reduceBEq, Nat.reduceBNe, Int.reduceEq, ↓reduceIte, reduceCtorEq]
        refine callv_go true hb (hM (l.getD i default) (getD_mem (by omega))) ?_
        simp (maxSteps := 9000000) -implicitDefEqProofs -dsimp (disch := omega) only [go_sem, Nat.reduceEqDiff, Nat.reduceAdd, Nat.reduceMul, Nat.reduceLeDiff, Nat.reduceBEq, Nat.reduceBNe, Int.reduceEq, ↓reduceIte, reduceCtorEq]
        refine ⟨[.hp 1 [] 0, .hp 2 [] 0], ?_⟩
        by_cases e : i < n
        · simp (maxSteps := 9000000) -implicitDefEqProofs -dsimp (disch := omega) only [go_sem, h0 i e, Nat.reduceEqDiff, Nat.reduceAdd, Nat.reduceMul, Nat.reduceLeDiff, Nat.reduceBEq, Nat.reduceBNe, Int.reduceEq, ↓reduceIte, reduceCtorEq]
          exact ⟨by omega, (imp_sub (by simp (maxSteps := 9000000) -implicitDefEqProofs -dsimp (disch := omega) only [go_sem, Nat.reduceEqDiff, Nat.reduceAdd, Nat.reduceMul, Nat.reduceLeDiff, Nat.reduceBEq, Nat.reduceBNe, Int.reduceEq, ↓reduceIte, reduceCtorEq]) (by simp (maxSteps := 9000000) -implicitDefEqProofs -dsimp (disch := omega) only [go_sem, Nat.reduceEqDiff, Nat.reduceAdd, Nat.reduceMul, Nat.reduceLeDiff, Nat.reduceBEq, Nat.reduceBNe, Int.reduceEq, ↓reduceIte, reduceCtorEq]) rfl)⟩
        · obtain rfl : i = n := by omega
          simp (maxSteps := 9000000) -implicitDefEqProofs -dsimp (disch := omega) only [go_sem, h1 (by omega), Nat.reduceEqDiff, Nat.reduceAdd, Nat.reduceMul, Nat.reduceLeDiff, Nat.reduceBEq, Nat.reduceBNe, Int.reduceEq, ↓reduceIte, reduceCtorEq]
          exact need_i (by rw [if_pos (by omega)]) (by simp (maxSteps := 9000000) -implicitDefEqProofs -dsimp (disch := omega) only [go_sem, Nat.reduceEqDiff, Nat.reduceAdd, Nat.reduceMul, Nat.reduceLeDiff, Nat.reduceBEq, Nat.reduceBNe, Int.reduceEq, ↓reduceIte, reduceCtorEq])
      · simp (maxSteps := 9000000) -implicitDefEqProofs -dsimp (disch := omega) only [go_sem, Nat.reduceEqDiff, Nat.reduceAdd, Nat.reduceMul, Nat.reduceLeDiff, Nat.reduceBEq, Nat.reduceBNe, Int.reduceEq, ↓reduceIte, reduceCtorEq]
        exact need_i (by rw [if_neg (by omega)]) (by simp (maxSteps := 9000000) -implicitDefEqProofs -dsimp (disch := omega) only [go_sem, Nat.reduceEqDiff, Nat.reduceAdd, Nat.reduceMul, Nat.reduceLeDiff, Nat.reduceBEq, Nat.reduceBNe, Int.reduceEq, ↓reduceIte, reduceCtorEq])
  have least : ∃ n : Nat, n ≤ l.length ∧ (∀ j, j < n → pr (l.getD j default) = false) ∧ (n < l.length → pr (l.getD n default) = true) := by
    have : ∀ k, k ≤ l.length → (∀ j, j < k → pr (l.getD j default) = false) ∨ ∃ n : Nat, n < k ∧ (∀ j, j < n → pr (l.getD j default) = false) ∧ pr (l.getD n default) = true := by
      intro k
      induction k with
      | zero => intro _; exact .inl fun j hj => by omega
      | succ k ih =>
        intro hk
        rcases ih (by omega) with h | ⟨n, h1, h2, h3⟩
        · cases hp : pr (l.getD k default) with
          | false => exact .inl (all_succ h hp)
          | true => exact .inr ⟨k, by omega, h, hp⟩
        · exact .inr ⟨n, by omega, h2, h3⟩
    rcases this l.length (Nat.le_refl _) with h | ⟨n, h1, h2, h3⟩
    · exact ⟨l.length, Nat.le_refl _, h, fun h => by omega⟩
    · exact ⟨n, by omega, h2, fun _ => h3⟩
  obtain ⟨n, h1, h2, h3⟩ := least
  refine ⟨_, key n h1 h2 h3, ?_⟩
  split
  · rename_i hn
    exact ⟨fun _ => List.any_eq_true.2 ⟨_, getD_mem hn, h3 hn⟩, fun _ => by omega⟩
  · rename_i hn
    refine ⟨fun h => by omega, fun h => ?_⟩
    obtain ⟨x, hx, hp⟩ := List.any_eq_true.1 h
    obtain ⟨j, hj, rfl⟩ := mem_getD hx
    rw [h2 j (by omega)] at hp; simp at hp
theorem containsFunc2_ok (l : List Int) (f : FuncId) (cs ds : List T) (pr : Int → Bool) (hl : l.length ≤ 1048576) (hb : ∃ fn, Try.prog.funcs[f]? = some fn ∧ fn.body.isSome ∧ (fn.name != "runtime.NumGoroutine") = true)
    (hM : ∀ x ∈ l, Meets Try.prog f [.one (.int .i64 x), .one (.bx false cs), .one (.bx false ds)] (.w (.one (.bool (pr x)))) [.one .hole, .one .hole, .one .hole]) : Meets Try.prog 82 [.one (.sl false 1 l.length (l.map (T.int .i64))), .one (.fn f [.bx false cs, .bx false ds])] (.w (.one (.bool (l.any pr)))) [.one .hole, .one .hole] := by
  obtain ⟨n, hI, hn⟩ := indexFunc2_ok l f cs ds pr hl hb hM
  refine meets_go (ir := i82) (fn := Try.f82) (rx := [(.tmp 4)]) rfl rfl (by rfl) (by rfl) (by exact Nat.le_of_ble_eq_true rfl) ?_
  simp (maxSteps := 9000000) -implicitDefEqProofs -dsimp (disch := omega) only [go_sem, g82_0, g82_1, i82, Nat.reduceEqDiff, Nat.reduceAdd, Nat.reduceMul, Nat.reduceLeDiff, Nat.reduceBEq, Nat.reduceBNe, Int.reduceEq, ↓reduceIte, reduceCtorEq]
  refine call_go false hI ?_
  simp (maxSteps := 9000000) -implicitDefEqProofs -dsimp (disch := omega) only [go_sem, Nat.reduceEqDiff, Nat.reduceAdd, Nat.reduceMul, Nat.reduceLeDiff, Nat.reduceBEq, Nat.reduceBNe, Int.reduceEq, ↓reduceIte, reduceCtorEq]
  exact need_i (by rw [show (l.any pr) = decide (0 ≤ n) from by rw [Bool.eq_iff_iff, decide_eq_true_eq]; exact hn.symm]) (by simp (maxSteps := 9000000) -implicitDefEqProofs -dsimp (disch := omega) only [go_sem, Nat.reduceEqDiff, Nat.reduceAdd, Nat.reduceMul, Nat.reduceLeDiff, Nat.reduceBEq, Nat.reduceBNe, Int.reduceEq, ↓reduceIte, reduceCtorEq])
end Go.Proofs.YtdhclelfnbjikaaT
