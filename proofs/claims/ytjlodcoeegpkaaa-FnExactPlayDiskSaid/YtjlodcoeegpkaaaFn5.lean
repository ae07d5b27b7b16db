/- Functions of the program, each with what it returns and leaves. No condition. -/
import Derived.Test.YtjlodcoeegpkaaaFn1
import Derived.Test.YtjlodcoeegpkaaaTree8
import Derived.Test.YtjlodcoeegpkaaaProg
import Derived.KernelRfl
import Derived.Test.YtjlodcoeegpkaaaFn4
set_option linter.all false
set_option linter.unusedVariables false
set_option linter.unusedSimpArgs false
set_option linter.unusedSectionVars false
set_option linter.unnecessarySimpa false
set_option linter.deprecated false
/- Functions of the program as contracts: what the law marks and counts. No condition. -/
set_option maxRecDepth 100000
set_option maxHeartbeats 8000000
set_option linter.unusedSimpArgs false
set_option linter.unusedVariables false
namespace Go.Proofs.YtjlodcoeegpkaaaT
open Go
def mkS (k : Int) (n : Nat) : List ByteArray := (List.range n).map (fun j : Nat => mtext (k + (j : Int)))
def mkB (k : Int) (n : Nat) : List Bool := (List.range n).map (fun j : Nat => decide ((k + (j : Int)).tmod 3 = 0))
def mkI (k : Int) (n : Nat) : List Int := (List.range n).map (fun j : Nat => k + (j : Int))
theorem cut_mr {α : Type} {f : α → T} {g : Nat → α} {n : Nat} : cut (List.map f (List.map g (List.range n))) 0 n = List.map f (List.map g (List.range n)) := cut_all (by simp)
def g16_0 : List Gop := [⟨none, (some 2), (.box (.t 0))⟩, ⟨none, (some 4), (.mov (.k (.one (.int .i64 0))))⟩]
def g16_1 : List Gop := [⟨none, (some 5), (.faddr (.t 2) 0)⟩, ⟨none, (some 6), (.load none (.t 5))⟩, ⟨none, (some 7), (.mov (.t 1))⟩, ⟨none, (some 8), (.call 61 [(.t 6), (.t 7)])⟩, ⟨none, (some 1), (.mov (.t 8))⟩]
def g16_2 : List Gop := [⟨none, (some 9), (.faddr (.t 2) 1)⟩, ⟨none, (some 10), (.load none (.t 9))⟩, ⟨none, (some 11), (.mov (.t 1))⟩, ⟨none, (some 12), (.call 61 [(.t 10), (.t 11)])⟩, ⟨none, (some 1), (.mov (.t 12))⟩]
def g16_3 : List Gop := [⟨none, (some 13), (.faddr (.t 2) 2)⟩, ⟨none, (some 14), (.load none (.t 13))⟩, ⟨none, (some 15), (.mov (.t 1))⟩, ⟨none, (some 16), (.call 52 [(.t 14), (.t 15)])⟩, ⟨none, (some 1), (.mov (.t 16))⟩]
def g16_4 : List Gop := [⟨none, (some 17), (.mov (.t 1))⟩, ⟨none, (some 4), (.mov (.t 17))⟩]
def i16 : Ir := (.seq (.region g16_0) (.seq (.region g16_1) (.seq (.region g16_2) (.seq (.region g16_3) (.seq (.region g16_4) .ret)))))
def r16 : List Rx := [(.tmp 4)]
theorem markDisk_ok (p h : List ByteArray) (b : List Bool) (k : Int) (h0 : 0 < k) (hk : k ≤ 1000000) (hp : p.length ≤ 1048576) (hh : h.length ≤ 1048576) (hb : b.length ≤ 1048576) : Meets Try.prog 16 [.agg [(.sl true 1 p.length (p.map T.str)), (.sl true 1 h.length (h.map T.str)), (.sl true 1 b.length (b.map T.bool))], .one (.int .i64 k)] (.w (.one (.int .i64 (k + p.length + h.length + b.length)))) [.agg [.sl true 1 p.length ((mkS k p.length).map T.str), .sl true 1 h.length ((mkS (k + p.length) h.length).map T.str), .sl true 1 b.length ((mkB (k + p.length + h.length) b.length).map T.bool)], .one .hole] := by
  refine meets_go (ir := i16) (fn := Try.f16) (rx := [(.tmp 4)]) rfl rfl (by rfl) (by rfl) (by exact Nat.le_of_ble_eq_true rfl) ?_
  simp (maxSteps := 9000000) -implicitDefEqProofs -dsimp (disch := omega) only [go_sem, g16_0, g16_1, g16_2, g16_3, g16_4, i16, Nat.reduceEqDiff, Nat.reduceAdd, Nat.reduceMul, Nat.reduceLeDiff, Nat.reduceBEq, Nat.reduceBNe, Int.reduceEq, ↓reduceIte, reduceCtorEq]
  refine callk_go [(3, [0]), (3, [1]), (3, [2])] true (markStringS_ok p k h0 (by omega) hp) ?_
  simp (maxSteps := 9000000) -implicitDefEqProofs -dsimp (disch := omega) only [go_sem, g16_0, g16_1, g16_2, g16_3, g16_4, i16, Nat.reduceEqDiff, Nat.reduceAdd, Nat.reduceMul, Nat.reduceLeDiff, Nat.reduceBEq, Nat.reduceBNe, Int.reduceEq, ↓reduceIte, reduceCtorEq]
  refine callk_go [(3, [0]), (3, [1]), (3, [2])] true (markStringS_ok h (k + p.length) (by omega) (by omega) hh) ?_
  simp (maxSteps := 9000000) -implicitDefEqProofs -dsimp (disch := omega) only [go_sem, g16_0, g16_1, g16_2, g16_3, g16_4, i16, Nat.reduceEqDiff, Nat.reduceAdd, Nat.reduceMul, Nat.reduceLeDiff, Nat.reduceBEq, Nat.reduceBNe, Int.reduceEq, ↓reduceIte, reduceCtorEq]
  refine callk_go [(3, [0]), (3, [1]), (3, [2])] true (markBoolS_ok b (k + p.length + h.length) (by omega) (by omega) hb) ?_
  simp (maxSteps := 9000000) -implicitDefEqProofs -dsimp (disch := omega) only [go_sem, g16_0, g16_1, g16_2, g16_3, g16_4, i16, cut_mr, mkS, mkB, Nat.reduceEqDiff, Nat.reduceAdd, Nat.reduceMul, Nat.reduceLeDiff, Nat.reduceBEq, Nat.reduceBNe, Int.reduceEq, ↓reduceIte, reduceCtorEq]
def g57_0 : List Gop := [⟨none, (some 2), (.box (.t 0))⟩, ⟨none, (some 4), (.mov (.k (.one (.int .i64 0))))⟩]
def g57_1 : List Gop := [⟨none, (some 5), (.faddr (.t 2) 3)⟩, ⟨none, (some 6), (.load none (.t 5))⟩, ⟨none, (some 7), (.mov (.t 1))⟩, ⟨none, (some 8), (.call 29 [(.t 6), (.t 7)])⟩, ⟨none, (some 1), (.mov (.t 8))⟩]
def g57_2 : List Gop := [⟨none, (some 9), (.mov (.t 1))⟩, ⟨none, (some 4), (.mov (.t 9))⟩]
def i57 : Ir := (.seq (.region g57_0) (.seq (.region g57_1) (.seq (.region g57_2) .ret)))
def r57 : List Rx := [(.tmp 4)]
theorem markDiskStep_ok (kd a : Int) (text : ByteArray) (kept : List Int) (k : Int) (h0 : 0 < k) (hk : k ≤ 100000000) (hl : kept.length ≤ 1048576) : Meets Try.prog 57 [.agg [.int .i64 kd, .int .i64 a, .str text, (.sl true 1 kept.length (kept.map (T.int .i64)))], .one (.int .i64 k)] (.w (.one (.int .i64 (k + kept.length)))) [.agg [.hole, .hole, .hole, .sl true 1 kept.length ((mkI k kept.length).map (T.int .i64))], .one .hole] := by
  refine meets_go (ir := i57) (fn := Try.f57) (rx := [(.tmp 4)]) rfl rfl (by rfl) (by rfl) (by exact Nat.le_of_ble_eq_true rfl) ?_
  simp (maxSteps := 9000000) -implicitDefEqProofs -dsimp (disch := omega) only [go_sem, g57_0, g57_1, g57_2, i57, Nat.reduceEqDiff, Nat.reduceAdd, Nat.reduceMul, Nat.reduceLeDiff, Nat.reduceBEq, Nat.reduceBNe, Int.reduceEq, ↓reduceIte, reduceCtorEq]
  refine callk_go [(1, [3])] true (markIntS_ok kept k h0 (by omega) hl) ?_
  simp (maxSteps := 9000000) -implicitDefEqProofs -dsimp (disch := omega) only [go_sem, g57_0, g57_1, g57_2, i57, cut_mr, mkI, Nat.reduceEqDiff, Nat.reduceAdd, Nat.reduceMul, Nat.reduceLeDiff, Nat.reduceBEq, Nat.reduceBNe, Int.reduceEq, ↓reduceIte, reduceCtorEq]
def g17_0 : List Gop := [⟨none, (some 2), (.box (.t 0))⟩, ⟨none, (some 4), (.mov (.k (.one (.int .i64 0))))⟩]
def g17_1 : List Gop := [⟨none, (some 5), (.faddr (.t 2) 0)⟩, ⟨none, (some 6), (.load none (.t 5))⟩, ⟨none, (some 7), (.mov (.t 1))⟩, ⟨none, (some 8), (.call 62 [(.t 6), (.t 7)])⟩, ⟨none, (some 1), (.mov (.t 8))⟩]
def g17_2 : List Gop := [⟨none, (some 9), (.mov (.t 1))⟩, ⟨none, (some 10), (.bin .lss (.t 9) (.k (.one (.int .i64 0))))⟩]
def g17_3 : List Gop := [⟨none, (some 4), (.mov (.k (.one (.int .i64 (-1)))))⟩]
def g17_4 : List Gop := [⟨none, (some 11), (.faddr (.t 2) 1)⟩, ⟨none, (some 12), (.load none (.t 11))⟩, ⟨none, (some 13), (.mov (.t 1))⟩, ⟨none, (some 14), (.call 62 [(.t 12), (.t 13)])⟩, ⟨none, (some 1), (.mov (.t 14))⟩]
def g17_5 : List Gop := [⟨none, (some 15), (.mov (.t 1))⟩, ⟨none, (some 16), (.bin .lss (.t 15) (.k (.one (.int .i64 0))))⟩]
def g17_6 : List Gop := [⟨none, (some 4), (.mov (.k (.one (.int .i64 (-1)))))⟩]
def g17_7 : List Gop := [⟨none, (some 17), (.faddr (.t 2) 2)⟩, ⟨none, (some 18), (.load none (.t 17))⟩, ⟨none, (some 19), (.mov (.t 1))⟩, ⟨none, (some 20), (.call 53 [(.t 18), (.t 19)])⟩, ⟨none, (some 1), (.mov (.t 20))⟩]
def g17_8 : List Gop := [⟨none, (some 21), (.mov (.t 1))⟩, ⟨none, (some 22), (.bin .lss (.t 21) (.k (.one (.int .i64 0))))⟩]
def g17_9 : List Gop := [⟨none, (some 4), (.mov (.k (.one (.int .i64 (-1)))))⟩]
def g17_10 : List Gop := [⟨none, (some 23), (.mov (.t 1))⟩, ⟨none, (some 4), (.mov (.t 23))⟩]
def i17 : Ir := (.seq (.region g17_0) (.seq (.region g17_1) (.seq (.seq (.region g17_2) (.cond (.t 10) (.seq (.region g17_3) .ret) .skip)) (.seq (.region g17_4) (.seq (.seq (.region g17_5) (.cond (.t 16) (.seq (.region g17_6) .ret) .skip)) (.seq (.region g17_7) (.seq (.seq (.region g17_8) (.cond (.t 22) (.seq (.region g17_9) .ret) .skip)) (.seq (.region g17_10) .ret))))))))
def r17 : List Rx := [(.tmp 4)]
theorem heldDisk_ok (n1 n2 n3 : Nat) (k : Int) (h0 : 0 < k) (hk : k ≤ 1000000) (h1 : n1 ≤ 1048576) (h2 : n2 ≤ 1048576) (h3 : n3 ≤ 1048576) : Meets Try.prog 17 [.agg [.sl false 1 n1 ((mkS k n1).map T.str), .sl false 1 n2 ((mkS (k + n1) n2).map T.str), .sl false 1 n3 ((mkB (k + n1 + n2) n3).map T.bool)], .one (.int .i64 k)] (.w (.one (.int .i64 (k + n1 + n2 + n3)))) [.agg [.hole, .hole, .hole], .one .hole] := by
  have e1 : (mkS k n1).length = n1 := by simp [mkS]
  have e2 : (mkS (k + n1) n2).length = n2 := by simp [mkS]
  have e3 : (mkB (k + n1 + n2) n3).length = n3 := by simp [mkB]
  have c1 : cut ((mkS k n1).map T.str) 0 n1 = (mkS k n1).map T.str := cut_all (by simp [e1])
  have c2 : cut ((mkS (k + n1) n2).map T.str) 0 n2 = (mkS (k + n1) n2).map T.str := cut_all (by simp [e2])
  have c3 : cut ((mkB (k + n1 + n2) n3).map T.bool) 0 n3 = (mkB (k + n1 + n2) n3).map T.bool := cut_all (by simp [e3])
  refine meets_go (ir := i17) (fn := Try.f17) (rx := [(.tmp 4)]) rfl rfl (by rfl) (by rfl) (by exact Nat.le_of_ble_eq_true rfl) ?_
  simp (maxSteps := 9000000) -implicitDefEqProofs -dsimp (disch := omega) only [go_sem, g17_0, g17_1, g17_2, g17_3, g17_4, g17_5, g17_6, g17_7, g17_8, g17_9, g17_10, i17, c1, c2, c3, Nat.reduceEqDiff, Nat.reduceAdd, Nat.reduceMul, Nat.reduceLeDiff, Nat.reduceBEq, Nat.reduceBNe, Int.reduceEq, ↓reduceIte, reduceCtorEq]
  refine call_go true (heldStringS_ok n1 k h0 (by omega) h1) ?_
  simp (maxSteps := 9000000) -implicitDefEqProofs -dsimp (disch := omega) only [go_sem, g17_0, g17_1, g17_2, g17_3, g17_4, g17_5, g17_6, g17_7, g17_8, g17_9, g17_10, i17, lt_T, lt_F, le_T, le_F, eq_T, eq_F, and_F, c1, c2, c3, mkS, cut_mr, Nat.reduceEqDiff, Nat.reduceAdd, Nat.reduceMul, Nat.reduceLeDiff, Nat.reduceBEq, Nat.reduceBNe, Int.reduceEq, ↓reduceIte, reduceCtorEq]
  refine call_go true (heldStringS_ok n2 (k + n1) (by omega) (by omega) h2) ?_
  simp (maxSteps := 9000000) -implicitDefEqProofs -dsimp (disch := omega) only [go_sem, g17_0, g17_1, g17_2, g17_3, g17_4, g17_5, g17_6, g17_7, g17_8, g17_9, g17_10, i17, lt_T, lt_F, le_T, le_F, eq_T, eq_F, and_F, c1, c2, c3, mkS, cut_mr, Nat.reduceEqDiff, Nat.reduceAdd, Nat.reduceMul, Nat.reduceLeDiff, Nat.reduceBEq, Nat.reduceBNe, Int.reduceEq, ↓reduceIte, reduceCtorEq]
  refine call_go true (heldBoolS_ok n3 (k + n1 + n2) (by omega) (by omega) h3) ?_
  simp (maxSteps := 9000000) -implicitDefEqProofs -dsimp (disch := omega) only [go_sem, g17_0, g17_1, g17_2, g17_3, g17_4, g17_5, g17_6, g17_7, g17_8, g17_9, g17_10, i17, lt_T, lt_F, le_T, le_F, eq_T, eq_F, and_F, c1, c2, c3, mkB, cut_mr, Nat.reduceEqDiff, Nat.reduceAdd, Nat.reduceMul, Nat.reduceLeDiff, Nat.reduceBEq, Nat.reduceBNe, Int.reduceEq, ↓reduceIte, reduceCtorEq]
def g18_0 : List Gop := [⟨none, (some 2), (.box (.t 0))⟩, ⟨none, (some 4), (.mov (.k (.one (.int .i64 0))))⟩]
def g18_1 : List Gop := [⟨none, (some 5), (.faddr (.t 2) 0)⟩, ⟨none, (some 6), (.load none (.t 5))⟩, ⟨none, (some 7), (.mov (.t 1))⟩, ⟨none, (some 8), (.call 63 [(.t 6), (.t 7)])⟩, ⟨none, (some 1), (.mov (.t 8))⟩]
def g18_2 : List Gop := [⟨none, (some 9), (.mov (.t 1))⟩, ⟨none, (some 10), (.bin .lss (.t 9) (.k (.one (.int .i64 0))))⟩]
def g18_3 : List Gop := [⟨none, (some 4), (.mov (.k (.one (.int .i64 (-1)))))⟩]
def g18_4 : List Gop := [⟨none, (some 11), (.faddr (.t 2) 1)⟩, ⟨none, (some 12), (.load none (.t 11))⟩, ⟨none, (some 13), (.mov (.t 1))⟩, ⟨none, (some 14), (.call 63 [(.t 12), (.t 13)])⟩, ⟨none, (some 1), (.mov (.t 14))⟩]
def g18_5 : List Gop := [⟨none, (some 15), (.mov (.t 1))⟩, ⟨none, (some 16), (.bin .lss (.t 15) (.k (.one (.int .i64 0))))⟩]
def g18_6 : List Gop := [⟨none, (some 4), (.mov (.k (.one (.int .i64 (-1)))))⟩]
def g18_7 : List Gop := [⟨none, (some 17), (.faddr (.t 2) 2)⟩, ⟨none, (some 18), (.load none (.t 17))⟩, ⟨none, (some 19), (.mov (.t 1))⟩, ⟨none, (some 20), (.call 64 [(.t 18), (.t 19)])⟩, ⟨none, (some 1), (.mov (.t 20))⟩]
def g18_8 : List Gop := [⟨none, (some 21), (.mov (.t 1))⟩, ⟨none, (some 22), (.bin .lss (.t 21) (.k (.one (.int .i64 0))))⟩]
def g18_9 : List Gop := [⟨none, (some 4), (.mov (.k (.one (.int .i64 (-1)))))⟩]
def g18_10 : List Gop := [⟨none, (some 23), (.mov (.t 1))⟩, ⟨none, (some 4), (.mov (.t 23))⟩]
def i18 : Ir := (.seq (.region g18_0) (.seq (.region g18_1) (.seq (.seq (.region g18_2) (.cond (.t 10) (.seq (.region g18_3) .ret) .skip)) (.seq (.region g18_4) (.seq (.seq (.region g18_5) (.cond (.t 16) (.seq (.region g18_6) .ret) .skip)) (.seq (.region g18_7) (.seq (.seq (.region g18_8) (.cond (.t 22) (.seq (.region g18_9) .ret) .skip)) (.seq (.region g18_10) .ret))))))))
def r18 : List Rx := [(.tmp 4)]
theorem szDisk_ok (p h : List ByteArray) (b : List Bool) (n : Int) (h0 : 0 ≤ n) (hn : n ≤ 1048576) (hp : p.length ≤ 9223372036854775807) (hh : h.length ≤ 9223372036854775807) (hb : b.length ≤ 9223372036854775807) (hsp : ∀ x ∈ p, x.size ≤ 9223372036854775807) (hsh : ∀ x ∈ h, x.size ≤ 9223372036854775807) :
    Meets Try.prog 18 [.agg [(.sl false 1 p.length (p.map T.str)), (.sl false 1 h.length (h.map T.str)), (.sl false 1 b.length (b.map T.bool))], .one (.int .i64 n)] (.w (.one (.int .i64 (szf (n - p.length - tot p - h.length - tot h - b.length))))) [.agg [.hole, .hole, .hole], .one .hole] := by
  have t1 := tot_nonneg (a := p)
  have t2 := tot_nonneg (a := h)
  have nn : ∀ x : Int, x < 0 → szf x = -1 := fun x hx => if_pos hx
  have np : ∀ x : Int, 0 ≤ x → szf x = x := fun x hx => if_neg (by omega)
  refine meets_go (ir := i18) (fn := Try.f18) (rx := [(.tmp 4)]) rfl rfl (by rfl) (by rfl) (by exact Nat.le_of_ble_eq_true rfl) ?_
  simp (maxSteps := 9000000) -implicitDefEqProofs -dsimp (disch := omega) only [go_sem, g18_0, g18_1, g18_2, g18_3, g18_4, g18_5, g18_6, g18_7, g18_8, g18_9, g18_10, i18, Nat.reduceEqDiff, Nat.reduceAdd, Nat.reduceMul, Nat.reduceLeDiff, Nat.reduceBEq, Nat.reduceBNe, Int.reduceEq, ↓reduceIte, reduceCtorEq]
  refine call_go true (szStringS_ok p n h0 hn hp hsp) ?_
  by_cases q1 : n - p.length - tot p < 0
  · rw [nn _ q1, nn _ (by omega)]
    simp (maxSteps := 9000000) -implicitDefEqProofs -dsimp (disch := omega) only [go_sem, g18_0, g18_1, g18_2, g18_3, g18_4, g18_5, g18_6, g18_7, g18_8, g18_9, g18_10, i18, lt_T, lt_F, le_T, le_F, eq_T, eq_F, and_F, Nat.reduceEqDiff, Nat.reduceAdd, Nat.reduceMul, Nat.reduceLeDiff, Nat.reduceBEq, Nat.reduceBNe, Int.reduceEq, ↓reduceIte, reduceCtorEq]
  · rw [np _ (by omega)]
    simp (maxSteps := 9000000) -implicitDefEqProofs -dsimp (disch := omega) only [go_sem, g18_0, g18_1, g18_2, g18_3, g18_4, g18_5, g18_6, g18_7, g18_8, g18_9, g18_10, i18, lt_T, lt_F, le_T, le_F, eq_T, eq_F, and_F, Nat.reduceEqDiff, Nat.reduceAdd, Nat.reduceMul, Nat.reduceLeDiff, Nat.reduceBEq, Nat.reduceBNe, Int.reduceEq, ↓reduceIte, reduceCtorEq]
    refine call_go true (szStringS_ok h (n - p.length - tot p) (by omega) (by omega) hh hsh) ?_
    by_cases q2 : n - p.length - tot p - h.length - tot h < 0
    · rw [nn _ q2, nn _ (by omega)]
      simp (maxSteps := 9000000) -implicitDefEqProofs -dsimp (disch := omega) only [go_sem, g18_0, g18_1, g18_2, g18_3, g18_4, g18_5, g18_6, g18_7, g18_8, g18_9, g18_10, i18, lt_T, lt_F, le_T, le_F, eq_T, eq_F, and_F, Nat.reduceEqDiff, Nat.reduceAdd, Nat.reduceMul, Nat.reduceLeDiff, Nat.reduceBEq, Nat.reduceBNe, Int.reduceEq, ↓reduceIte, reduceCtorEq]
    · rw [np _ (by omega)]
      simp (maxSteps := 9000000) -implicitDefEqProofs -dsimp (disch := omega) only [go_sem, g18_0, g18_1, g18_2, g18_3, g18_4, g18_5, g18_6, g18_7, g18_8, g18_9, g18_10, i18, lt_T, lt_F, le_T, le_F, eq_T, eq_F, and_F, Nat.reduceEqDiff, Nat.reduceAdd, Nat.reduceMul, Nat.reduceLeDiff, Nat.reduceBEq, Nat.reduceBNe, Int.reduceEq, ↓reduceIte, reduceCtorEq]
      refine call_go true (szBoolS_ok b (n - p.length - tot p - h.length - tot h) (by omega) (by omega) hb) ?_
      by_cases q3 : n - p.length - tot p - h.length - tot h - b.length < 0
      · rw [nn _ q3]
        simp (maxSteps := 9000000) -implicitDefEqProofs -dsimp (disch := omega) only [go_sem, g18_0, g18_1, g18_2, g18_3, g18_4, g18_5, g18_6, g18_7, g18_8, g18_9, g18_10, i18, lt_T, lt_F, le_T, le_F, eq_T, eq_F, and_F, Nat.reduceEqDiff, Nat.reduceAdd, Nat.reduceMul, Nat.reduceLeDiff, Nat.reduceBEq, Nat.reduceBNe, Int.reduceEq, ↓reduceIte, reduceCtorEq]
      · rw [np _ (by omega)]
        simp (maxSteps := 9000000) -implicitDefEqProofs -dsimp (disch := omega) only [go_sem, g18_0, g18_1, g18_2, g18_3, g18_4, g18_5, g18_6, g18_7, g18_8, g18_9, g18_10, i18, lt_T, lt_F, le_T, le_F, eq_T, eq_F, and_F, Nat.reduceEqDiff, Nat.reduceAdd, Nat.reduceMul, Nat.reduceLeDiff, Nat.reduceBEq, Nat.reduceBNe, Int.reduceEq, ↓reduceIte, reduceCtorEq]
def g54_0 : List Gop := [⟨none, (some 2), (.box (.t 0))⟩, ⟨none, (some 4), (.mov (.k (.one (.int .i64 0))))⟩]
def g54_1 : List Gop := [⟨none, (some 5), (.mov (.t 1))⟩, ⟨none, (some 6), (.faddr (.t 2) 2)⟩, ⟨none, (some 7), (.load none (.t 6))⟩, ⟨none, (some 8), (.lent (.t 7))⟩, ⟨none, (some 9), (.bin .sub (.t 5) (.t 8))⟩, ⟨none, (some 1), (.mov (.t 9))⟩]
def g54_2 : List Gop := [⟨none, (some 10), (.mov (.t 1))⟩, ⟨none, (some 11), (.bin .lss (.t 10) (.k (.one (.int .i64 0))))⟩]
def g54_3 : List Gop := [⟨none, (some 4), (.mov (.k (.one (.int .i64 (-1)))))⟩]
def g54_4 : List Gop := [⟨none, (some 12), (.faddr (.t 2) 3)⟩, ⟨none, (some 13), (.load none (.t 12))⟩, ⟨none, (some 14), (.mov (.t 1))⟩, ⟨none, (some 15), (.call 88 [(.t 13), (.t 14)])⟩, ⟨none, (some 1), (.mov (.t 15))⟩]
def g54_5 : List Gop := [⟨none, (some 16), (.mov (.t 1))⟩, ⟨none, (some 17), (.bin .lss (.t 16) (.k (.one (.int .i64 0))))⟩]
def g54_6 : List Gop := [⟨none, (some 4), (.mov (.k (.one (.int .i64 (-1)))))⟩]
def g54_7 : List Gop := [⟨none, (some 18), (.mov (.t 1))⟩, ⟨none, (some 4), (.mov (.t 18))⟩]
def i54 : Ir := (.seq (.region g54_0) (.seq (.region g54_1) (.seq (.seq (.region g54_2) (.cond (.t 11) (.seq (.region g54_3) .ret) .skip)) (.seq (.region g54_4) (.seq (.seq (.region g54_5) (.cond (.t 17) (.seq (.region g54_6) .ret) .skip)) (.seq (.region g54_7) .ret))))))
def r54 : List Rx := [(.tmp 4)]
theorem szDiskStep_ok (kd a : Int) (text : ByteArray) (kept : List Int) (n : Int) (h0 : 0 ≤ n) (hn : n ≤ 1048576) (ht : text.size ≤ 9223372036854775807) (hl : kept.length ≤ 9223372036854775807) :
    Meets Try.prog 54 [.agg [.int .i64 kd, .int .i64 a, .str text, (.sl false 1 kept.length (kept.map (T.int .i64)))], .one (.int .i64 n)] (.w (.one (.int .i64 (szf (n - text.size - kept.length))))) [.agg [.hole, .hole, .hole, .hole], .one .hole] := by
  have nn : ∀ x : Int, x < 0 → szf x = -1 := fun x hx => if_pos hx
  have np : ∀ x : Int, 0 ≤ x → szf x = x := fun x hx => if_neg (by omega)
  refine meets_go (ir := i54) (fn := Try.f54) (rx := [(.tmp 4)]) rfl rfl (by rfl) (by rfl) (by exact Nat.le_of_ble_eq_true rfl) ?_
  by_cases q1 : n - text.size < 0
  · rw [nn _ (by omega)]
    simp (maxSteps := 9000000) -implicitDefEqProofs -dsimp (disch := omega) only [go_sem, g54_0, g54_1, g54_2, g54_3, g54_4, g54_5, g54_6, g54_7, i54, lt_T, lt_F, le_T, le_F, eq_T, eq_F, and_F, Nat.reduceEqDiff, Nat.reduceAdd, Nat.reduceMul, Nat.reduceLeDiff, Nat.reduceBEq, Nat.reduceBNe, Int.reduceEq, ↓reduceIte, reduceCtorEq]
  · simp (maxSteps := 9000000) -implicitDefEqProofs -dsimp (disch := omega) only [go_sem, g54_0, g54_1, g54_2, g54_3, g54_4, g54_5, g54_6, g54_7, i54, lt_T, lt_F, le_T, le_F, eq_T, eq_F, and_F, Nat.reduceEqDiff, Nat.reduceAdd, Nat.reduceMul, Nat.reduceLeDiff, Nat.reduceBEq, Nat.reduceBNe, Int.reduceEq, ↓reduceIte, reduceCtorEq]
    refine call_go true (szIntS_ok kept (n - text.size) (by omega) (by omega) hl) ?_
    by_cases q2 : n - text.size - kept.length < 0
    · rw [nn _ q2]
      simp (maxSteps := 9000000) -implicitDefEqProofs -dsimp (disch := omega) only [go_sem, g54_0, g54_1, g54_2, g54_3, g54_4, g54_5, g54_6, g54_7, i54, lt_T, lt_F, le_T, le_F, eq_T, eq_F, and_F, Nat.reduceEqDiff, Nat.reduceAdd, Nat.reduceMul, Nat.reduceLeDiff, Nat.reduceBEq, Nat.reduceBNe, Int.reduceEq, ↓reduceIte, reduceCtorEq]
    · rw [np _ (by omega)]
      simp (maxSteps := 9000000) -implicitDefEqProofs -dsimp (disch := omega) only [go_sem, g54_0, g54_1, g54_2, g54_3, g54_4, g54_5, g54_6, g54_7, i54, lt_T, lt_F, le_T, le_F, eq_T, eq_F, and_F, Nat.reduceEqDiff, Nat.reduceAdd, Nat.reduceMul, Nat.reduceLeDiff, Nat.reduceBEq, Nat.reduceBNe, Int.reduceEq, ↓reduceIte, reduceCtorEq]
end Go.Proofs.YtjlodcoeegpkaaaT

/- What a disk and its steps read as. No condition. -/
set_option maxRecDepth 100000
set_option maxHeartbeats 8000000
set_option linter.unusedSimpArgs false
set_option linter.unusedVariables false
namespace Go.Proofs.YtjlodcoeegpkaaaT
open Go Go.RowKit
theorem flat_one {α : Type} {c : α → T} {l : List α} : (l.map fun s => [c s]).flatten = l.map c := by
  induction l with
  | nil => rfl
  | cons x l ih => simp only [List.map_cons, List.flatten_cons, ih, List.cons_append, List.nil_append]
theorem told_texts {t e : TypeId} (he : Try.prog.underlying e = some .string) (hc : Try.prog.cellsOf e = 1) (ht : Try.prog.underlying t = some (.slice e)) : Told Try.prog t (fun l : List ByteArray => [(.sl false 1 l.length (l.map T.str))]) (fun l => l.length ≤ maxLen ∧ ∀ x ∈ l, x.size ≤ maxLen) :=
  told_iso (told_slice (told_string he) hc (fun _ => rfl) (by decide) ht) fun y h => ⟨y, by rw [flat_one], h⟩
theorem told_ints {t e : TypeId} (he : Try.prog.underlying e = some (.int .i64)) (hc : Try.prog.cellsOf e = 1) (ht : Try.prog.underlying t = some (.slice e)) : Told Try.prog t (fun l : List Int => [(.sl false 1 l.length (l.map (T.int .i64)))]) (fun l => l.length ≤ maxLen ∧ ∀ x ∈ l, (Lit.int .i64 x).wf = true) :=
  told_iso (told_slice (told_int he) hc (fun _ => rfl) (by decide) ht) fun y h => ⟨y, by rw [flat_one], h⟩
theorem told_bools {t e : TypeId} (he : Try.prog.underlying e = some .bool) (hc : Try.prog.cellsOf e = 1) (ht : Try.prog.underlying t = some (.slice e)) : Told Try.prog t (fun l : List Bool => [(.sl false 1 l.length (l.map T.bool))]) (fun l => l.length ≤ maxLen ∧ ∀ x ∈ l, True) :=
  told_iso (told_slice (told_bool he) hc (fun _ => rfl) (by decide) ht) fun y h => ⟨y, by rw [flat_one], h⟩
theorem told_Disk : Told Try.prog 31 (fun y : List ByteArray × List ByteArray × List Bool => [(.sl false 1 y.1.length (y.1.map T.str)), (.sl false 1 y.2.1.length (y.2.1.map T.str)), (.sl false 1 y.2.2.length (y.2.2.map T.bool))]) (fun y => (y.1.length ≤ maxLen ∧ ∀ x ∈ y.1, x.size ≤ maxLen) ∧ (y.2.1.length ≤ maxLen ∧ ∀ x ∈ y.2.1, x.size ≤ maxLen) ∧ y.2.2.length ≤ maxLen) :=
  told_iso (told_struct Try.underlying31 (by kernel_rfl) (segs_cons (told_texts Try.underlying9 (by kernel_rfl) Try.underlying22) (segs_cons (told_texts Try.underlying9 (by kernel_rfl) Try.underlying22) (segs_cons (told_bools Try.underlying4 (by kernel_rfl) Try.underlying23) segs_nil))))
    fun y h => ⟨(y.1, y.2.1, y.2.2.1), rfl, h.1, h.2.1, h.2.2.1.1⟩
theorem told_DiskStep : Told Try.prog 75 (fun y : Int × Int × ByteArray × List Int => [.int .i64 y.1, .int .i64 y.2.1, .str y.2.2.1, (.sl false 1 y.2.2.2.length (y.2.2.2.map (T.int .i64)))]) (fun y => y.2.2.1.size ≤ maxLen ∧ y.2.2.2.length ≤ maxLen) :=
  told_iso (told_struct Try.underlying75 (by kernel_rfl) (segs_cons (told_int Try.underlying3) (segs_cons (told_int Try.underlying3) (segs_cons (told_string Try.underlying9) (segs_cons (told_ints Try.underlying3 (by kernel_rfl) Try.underlying41) segs_nil)))))
    fun y h => ⟨(y.1, y.2.1, y.2.2.1, y.2.2.2.1), rfl, h.2.2.1, h.2.2.2.1.1⟩
end Go.Proofs.YtjlodcoeegpkaaaT

/- Functions of the program as contracts: rows of a disk's steps. No condition. -/
set_option maxRecDepth 100000
set_option maxHeartbeats 8000000
set_option linter.unusedSimpArgs false
set_option linter.unusedVariables false
namespace Go.Proofs.YtjlodcoeegpkaaaT
open Go Go.RowKit
/-- a disk's step -/
structure Stp where
  k : Int
  a : Int
  t : ByteArray
  h : List Int
  deriving Inhabited
def stR (l : List Stp) : List T := rows4 (fun x => .int .i64 x.k) (fun x => .int .i64 x.a) (fun x => .str x.t) (fun x => (.sl false 1 x.h.length (x.h.map (T.int .i64)))) l
def stO (l : List Stp) : List T := rows4 (fun x => .int .i64 x.k) (fun x => .int .i64 x.a) (fun x => .str x.t) (fun x => (.sl true 1 x.h.length (x.h.map (T.int .i64)))) l
def oK : Option Stp → Int | some x => x.k | none => 0
def oA : Option Stp → Int | some x => x.a | none => 0
def oT : Option Stp → ByteArray | some x => x.t | none => ⟨#[]⟩
def oH : Option Stp → T | some x => (.sl true 1 x.h.length (x.h.map (T.int .i64))) | none => .sl true 0 0 []
def stF (l : List (Option Stp)) : List T := rows4 (fun x => .int .i64 (oK x)) (fun x => .int .i64 (oA x)) (fun x => .str (oT x)) oH l
theorem stF_end (l : List Stp) : stF (fillL (l.map some) none l.length) = stO l := by
  have : fillL (l.map some) none l.length = l.map some := by have := fillL_end (a := l.map some) (d := (none : Option Stp)); rwa [List.length_map] at this
  rw [this]; unfold stF stO; rw [rows4_map]; rfl
def LS (l : List Stp) : T := .sl false 4 l.length (stR l)
def OL (l : List Stp) : T := .sl true 4 l.length (stO l)
theorem stR_0 {l : List Stp} {i : Nat} (h : i < l.length) : (stR l)[i * 4]? = some (.int .i64 (l.getD i default).k) := rows4_0 h
theorem stR_1 {l : List Stp} {i : Nat} (h : i < l.length) : (stR l)[i * 4 + 1]? = some (.int .i64 (l.getD i default).a) := rows4_1 h
theorem stR_2 {l : List Stp} {i : Nat} (h : i < l.length) : (stR l)[i * 4 + 1 + 1]? = some (.str (l.getD i default).t) := rows4_2' h
theorem stR_3 {l : List Stp} {i : Nat} (h : i < l.length) : (stR l)[i * 4 + 1 + 1 + 1]? = some (.sl false 1 ((l.getD i default).h).length (((l.getD i default).h).map (T.int .i64))) := rows4_3' h
theorem stF_0 {l : List (Option Stp)} {i : Nat} (h : i < l.length) : (stF l)[i * 4]? = some (.int .i64 (oK (l.getD i default))) := rows4_0 h
theorem stF_1 {l : List (Option Stp)} {i : Nat} (h : i < l.length) : (stF l)[i * 4 + 1]? = some (.int .i64 (oA (l.getD i default))) := rows4_1 h
theorem stF_2 {l : List (Option Stp)} {i : Nat} (h : i < l.length) : (stF l)[i * 4 + 1 + 1]? = some (.str (oT (l.getD i default))) := rows4_2' h
theorem stF_3 {l : List (Option Stp)} {i : Nat} (h : i < l.length) : (stF l)[i * 4 + 1 + 1 + 1]? = some (oH (l.getD i default)) := rows4_3' h
theorem stF_set {l : List (Option Stp)} {i : Nat} (x : Stp) (h : i < l.length) : ((((stF l).set (i * 4) (.int .i64 x.k)).set (i * 4 + 1) (.int .i64 x.a)).set (i * 4 + 1 + 1) (.str x.t)).set (i * 4 + 1 + 1 + 1) (.sl true 1 x.h.length (x.h.map (T.int .i64))) = stF (l.set i (some x)) := rows4_set' (some x) h
theorem stO_cut {l : List Stp} : cut (stO l) 0 (l.length * 4) = stO l := rows4_cut rfl
theorem stR_cut {l : List Stp} : cut (stR l) 0 (l.length * 4) = stR l := rows4_cut rfl
def g48_0 : List Gop := [⟨none, (some 2), (.mov (.k (.one .nil)))⟩]
def g48_1 : List Gop := [⟨none, (some 5), (.mov (.t 0))⟩, ⟨none, (some 6), (.len (.t 5))⟩, ⟨none, (some 7), (.make 4 [(.int .i64 0), (.int .i64 0), (.str ⟨#[]⟩), .nil] 56 (.t 6) (.t 6))⟩, ⟨none, (some 3), (.mov (.t 7))⟩]
def g48_2 : List Gop := [⟨none, (some 4), (.mov (.k (.one (.int .i64 0))))⟩]
def g48_3 : List Gop := [⟨none, (some 8), (.mov (.t 4))⟩, ⟨none, (some 9), (.mov (.t 0))⟩, ⟨none, (some 10), (.len (.t 9))⟩, ⟨none, (some 11), (.bin .lss (.t 8) (.t 10))⟩]
def g48_4 : List Gop := [⟨none, (some 14), (.mov (.t 3))⟩, ⟨none, (some 15), (.mov (.t 4))⟩, ⟨none, (some 16), (.mov (.t 0))⟩, ⟨none, (some 17), (.mov (.t 4))⟩, ⟨none, (some 18), (.iaddr 4 (.t 16) (.t 17))⟩, ⟨none, (some 19), (.load (some 4) (.t 18))⟩, ⟨none, (some 20), (.call 55 [(.t 19)])⟩, ⟨none, (some 21), (.iaddr 4 (.t 14) (.t 15))⟩, ⟨none, none, (.store 4 (.t 21) (.t 20))⟩]
def g48_5 : List Gop := [⟨none, (some 12), (.mov (.t 4))⟩, ⟨none, (some 13), (.bin .add (.t 12) (.k (.one (.int .i64 1))))⟩, ⟨none, (some 4), (.mov (.t 13))⟩]
def g48_6 : List Gop := [⟨none, (some 22), (.mov (.t 3))⟩, ⟨none, (some 2), (.mov (.t 22))⟩]
def i48 : Ir := (.seq (.region g48_0) (.seq (.region g48_1) (.seq (.seq (.region g48_2) (.block 0 (.loop (.seq (.seq (.region g48_3) (.cond (.t 11) .skip (.exit 0))) (.seq (.block 1 (.region g48_4)) (.region g48_5)))))) (.seq (.region g48_6) .ret))))
def r48 : List Rx := [(.tmp 2)]
theorem toDiskStepS_ok (l : List Stp) (hl : l.length ≤ 1048576) (hk : ∀ x ∈ l, x.h.length ≤ 1048576) : Meets Try.prog 48 [.one (LS l)] (.w (.one (OL l))) [.one .hole] := by
  unfold LS OL
  refine meets_go (ir := i48) (fn := Try.f48) (rx := [(.tmp 2)]) rfl rfl (by rfl) (by rfl) (by exact Nat.le_of_ble_eq_true rfl) ?_
  simp (maxSteps := 9000000) -implicitDefEqProofs -dsimp (disch := omega) only [go_sem, g48_0, g48_1, g48_2, g48_3, g48_4, g48_5, g48_6, i48, Nat.reduceEqDiff, Nat.reduceAdd, Nat.reduceMul, Nat.reduceLeDiff, Nat.reduceBEq, Nat.reduceBNe, Int.reduceEq, ↓reduceIte, reduceCtorEq]
  refine loop_n l.length (fun i => ⟨[(4, .w (.one (.int .i64 (i : Nat)))), (3, .w (.one (.hs 1 [] 0 4 l.length))), (0, .w (.one (.hs 0 [] 0 4 l.length)))], [(1, .sl true 4 l.length (stF (fillL (l.map some) none i))), (0, .sl false 4 l.length (stR l))], [.one (.hs 0 [] 0 4 l.length)]⟩) (fun i => True) ?_ trivial ?_
  · have e : (List.replicate l.length [T.int IntKind.i64 0, T.int IntKind.i64 0, T.str { data := #[] }, T.sl true 0 0 []]).flatten = stF (fillL (l.map some) none 0) := by rw [fillL_0, List.length_map, stF, rows4_rep]; rfl
    exact (imp_sub (by simp (maxSteps := 9000000) -implicitDefEqProofs -dsimp (disch := omega) only [go_sem, g48_0, g48_1, g48_2, g48_3, g48_4, g48_5, g48_6, i48, e, Nat.reduceEqDiff, Nat.reduceAdd, Nat.reduceMul, Nat.reduceLeDiff, Nat.reduceBEq, Nat.reduceBNe, Int.reduceEq, ↓reduceIte, reduceCtorEq]) (by simp (maxSteps := 9000000) -implicitDefEqProofs -dsimp (disch := omega) only [go_sem, g48_0, g48_1, g48_2, g48_3, g48_4, g48_5, g48_6, i48, e, Nat.reduceEqDiff, Nat.reduceAdd, Nat.reduceMul, Nat.reduceLeDiff, Nat.reduceBEq, Nat.reduceBNe, Int.reduceEq, ↓reduceIte, reduceCtorEq]) rfl)
  · intro i hi hJ
    simp (maxSteps := 9000000) -implicitDefEqProofs -dsimp (disch := omega) only [go_sem, g48_0, g48_1, g48_2, g48_3, g48_4, g48_5, g48_6, i48, Nat.reduceEqDiff, Nat.reduceAdd, Nat.reduceMul, Nat.reduceLeDiff, Nat.reduceBEq, Nat.reduceBNe, Int.reduceEq, ↓reduceIte, reduceCtorEq]
    refine brP_i (fun h1 => ?_) (fun h1 => ?_)
    · have q1 : i < (fillL (l.map some) (none : Option Stp) i).length := by rw [fillL_len, List.length_map]; omega
      have hlt : i < l.length := by omega
      have hm : l.getD i default ∈ l := getD_mem hlt
      have hk1 := hk _ hm
      simp (maxSteps := 9000000) -implicitDefEqProofs -dsimp (disch := omega) only [go_sem, g48_0, g48_1, g48_2, g48_3, g48_4, g48_5, g48_6, i48, stR_0 hlt, stR_1 hlt, stR_2 hlt, stR_3 hlt, Nat.reduceEqDiff, Nat.reduceAdd, Nat.reduceMul, Nat.reduceLeDiff, Nat.reduceBEq, Nat.reduceBNe, Int.reduceEq, ↓reduceIte, reduceCtorEq]
      refine call_go true (toDiskStep_ok (l.getD i default).k (l.getD i default).a (l.getD i default).t (l.getD i default).h hk1) ?_
      have b4 : (fillL (l.map some) (none : Option Stp) i).getD i default = none := by
        simp only [fillL, List.getD_eq_getElem?_getD]
        rw [List.getElem?_append_right (by simp; omega)]
        simp only [List.getElem?_replicate]
        split <;> rfl
      have b3 := stF_3 q1
      rw [b4] at b3
      simp (maxSteps := 9000000) -implicitDefEqProofs -dsimp (disch := omega) only [go_sem, g48_0, g48_1, g48_2, g48_3, g48_4, g48_5, g48_6, i48, stR_0 hlt, stR_1 hlt, stR_2 hlt, stR_3 hlt, stF_0 q1, stF_1 q1, stF_2 q1, b3, List.getElem?_set_ne, oH, Nat.reduceEqDiff, Nat.reduceAdd, Nat.reduceMul, Nat.reduceLeDiff, Nat.reduceBEq, Nat.reduceBNe, Int.reduceEq, ↓reduceIte, reduceCtorEq]
      have e6 : (l.map some).getD i default = some (l.getD i default) := by simp [List.getD_eq_getElem?_getD, List.getElem?_eq_getElem hlt]
      have e5 := stF_set (l.getD i default) q1
      have e7 := fillL_set (a := l.map some) (d := (none : Option Stp)) (i := i) (by rw [List.length_map]; exact hlt)
      rw [e6] at e7
      rw [e7] at e5
      exact ⟨hlt, (imp_sub (by simp (maxSteps := 9000000) -implicitDefEqProofs -dsimp (disch := omega) only [go_sem, g48_0, g48_1, g48_2, g48_3, g48_4, g48_5, g48_6, i48, e5, Nat.reduceEqDiff, Nat.reduceAdd, Nat.reduceMul, Nat.reduceLeDiff, Nat.reduceBEq, Nat.reduceBNe, Int.reduceEq, ↓reduceIte, reduceCtorEq]) (by simp (maxSteps := 9000000) -implicitDefEqProofs -dsimp (disch := omega) only [go_sem, g48_0, g48_1, g48_2, g48_3, g48_4, g48_5, g48_6, i48, e5, Nat.reduceEqDiff, Nat.reduceAdd, Nat.reduceMul, Nat.reduceLeDiff, Nat.reduceBEq, Nat.reduceBNe, Int.reduceEq, ↓reduceIte, reduceCtorEq]) rfl)⟩
    · obtain rfl : i = l.length := by omega
      have q1 : (stO l).length = l.length * 4 := rows4_len
      simp (maxSteps := 9000000) -implicitDefEqProofs -dsimp (disch := omega) only [go_sem, g48_0, g48_1, g48_2, g48_3, g48_4, g48_5, g48_6, i48, stF_end, stO_cut, Nat.reduceEqDiff, Nat.reduceAdd, Nat.reduceMul, Nat.reduceLeDiff, Nat.reduceBEq, Nat.reduceBNe, Int.reduceEq, ↓reduceIte, reduceCtorEq]
/-- how much room steps take -/
def stt (l : List Stp) : Int := (l.map fun x : Stp => (x.t.size : Int) + x.h.length).sum
theorem stt_nonneg : ∀ {l : List Stp}, 0 ≤ stt l
  | [] => by simp [stt]
  | x :: l => by have := stt_nonneg (l := l); simp only [stt, List.map_cons, List.sum_cons] at *; omega
theorem stt_take {l : List Stp} {i : Nat} (h : i < l.length) : stt (l.take (i + 1)) = stt (l.take i) + ((l.getD i default).t.size + (l.getD i default).h.length) := by
  simp only [stt, List.take_add_one, List.map_append, List.sum_append, List.getElem?_eq_getElem h, Option.toList_some, List.map_cons, List.map_nil, List.sum_cons, List.sum_nil, List.getD_eq_getElem?_getD, Option.getD_some]; omega
theorem stt_le {l : List Stp} {i : Nat} : stt (l.take i) ≤ stt l := by
  have h := stt_nonneg (l := l.drop i)
  have : stt l = stt (l.take i) + stt (l.drop i) := by
    have e := congrArg stt (List.take_append_drop i l)
    rw [← e]
    simp only [stt, List.map_append, List.sum_append]
  omega
theorem mem_stt {l : List Stp} {x : Stp} (h : x ∈ l) : (x.t.size : Int) + x.h.length ≤ stt l := by
  induction l with
  | nil => simp at h
  | cons y l ih =>
    have := stt_nonneg (l := l)
    have e : stt (y :: l) = (y.t.size + y.h.length) + stt l := by simp [stt]
    rcases List.mem_cons.1 h with rfl | h
    · omega
    · have := ih h; omega
def g47_0 : List Gop := [⟨none, (some 4), (.mov (.k (.one (.int .i64 0))))⟩]
def g47_1 : List Gop := [⟨none, (some 6), (.mov (.t 1))⟩, ⟨none, (some 7), (.mov (.t 0))⟩, ⟨none, (some 8), (.len (.t 7))⟩, ⟨none, (some 9), (.bin .sub (.t 6) (.t 8))⟩, ⟨none, (some 1), (.mov (.t 9))⟩]
def g47_2 : List Gop := [⟨none, (some 10), (.mov (.t 1))⟩, ⟨none, (some 11), (.bin .lss (.t 10) (.k (.one (.int .i64 0))))⟩]
def g47_3 : List Gop := [⟨none, (some 4), (.mov (.k (.one (.int .i64 (-1)))))⟩]
def g47_4 : List Gop := [⟨none, (some 5), (.mov (.k (.one (.int .i64 0))))⟩]
def g47_5 : List Gop := [⟨none, (some 12), (.mov (.t 5))⟩, ⟨none, (some 13), (.mov (.t 0))⟩, ⟨none, (some 14), (.len (.t 13))⟩, ⟨none, (some 15), (.bin .lss (.t 12) (.t 14))⟩]
def g47_6 : List Gop := [⟨none, (some 18), (.mov (.t 0))⟩, ⟨none, (some 19), (.mov (.t 5))⟩, ⟨none, (some 20), (.iaddr 4 (.t 18) (.t 19))⟩, ⟨none, (some 21), (.load (some 4) (.t 20))⟩, ⟨none, (some 22), (.mov (.t 1))⟩, ⟨none, (some 23), (.call 54 [(.t 21), (.t 22)])⟩, ⟨none, (some 1), (.mov (.t 23))⟩]
def g47_7 : List Gop := [⟨none, (some 24), (.mov (.t 1))⟩, ⟨none, (some 25), (.bin .lss (.t 24) (.k (.one (.int .i64 0))))⟩]
def g47_8 : List Gop := [⟨none, (some 4), (.mov (.k (.one (.int .i64 (-1)))))⟩]
def g47_9 : List Gop := [⟨none, (some 16), (.mov (.t 5))⟩, ⟨none, (some 17), (.bin .add (.t 16) (.k (.one (.int .i64 1))))⟩, ⟨none, (some 5), (.mov (.t 17))⟩]
def g47_10 : List Gop := [⟨none, (some 26), (.mov (.t 1))⟩, ⟨none, (some 4), (.mov (.t 26))⟩]
def i47 : Ir := (.seq (.region g47_0) (.seq (.region g47_1) (.seq (.seq (.region g47_2) (.cond (.t 11) (.seq (.region g47_3) .ret) .skip)) (.seq (.seq (.region g47_4) (.block 0 (.loop (.seq (.seq (.region g47_5) (.cond (.t 15) .skip (.exit 0))) (.seq (.block 1 (.seq (.region g47_6) (.seq (.region g47_7) (.cond (.t 25) (.seq (.region g47_8) .ret) .skip)))) (.region g47_9)))))) (.seq (.region g47_10) .ret)))))
def r47 : List Rx := [(.tmp 4)]
theorem szDiskStepS_ok (l : List Stp) (n : Int) (h0 : 0 ≤ n) (hn : n ≤ 1048576) (ha : l.length ≤ 9223372036854775807) (hs : ∀ x ∈ l, x.t.size ≤ 9223372036854775807 ∧ x.h.length ≤ 9223372036854775807) : Meets Try.prog 47 [.one (LS l), .one (.int .i64 n)] (.w (.one (.int .i64 (szf (n - l.length - stt l))))) [.one .hole, .one .hole] := by
  unfold LS
  have nn : ∀ x : Int, x < 0 → szf x = -1 := fun x hx => if_pos hx
  have np : ∀ x : Int, 0 ≤ x → szf x = x := fun x hx => if_neg (by omega)
  have ht := stt_nonneg (l := l)
  refine meets_go (ir := i47) (fn := Try.f47) (rx := [(.tmp 4)]) rfl rfl (by rfl) (by rfl) (by exact Nat.le_of_ble_eq_true rfl) ?_
  simp (maxSteps := 9000000) -implicitDefEqProofs -dsimp (disch := omega) only [go_sem, g47_0, g47_1, g47_2, g47_3, g47_4, g47_5, g47_6, g47_7, g47_8, g47_9, g47_10, i47, Nat.reduceEqDiff, Nat.reduceAdd, Nat.reduceMul, Nat.reduceLeDiff, Nat.reduceBEq, Nat.reduceBNe, Int.reduceEq, ↓reduceIte, reduceCtorEq]
  refine brP_i (fun h => ?_) (fun h => ?_)
  · simp (maxSteps := 9000000) -implicitDefEqProofs -dsimp (disch := omega) only [go_sem, g47_0, g47_1, g47_2, g47_3, g47_4, g47_5, g47_6, g47_7, g47_8, g47_9, g47_10, i47, Nat.reduceEqDiff, Nat.reduceAdd, Nat.reduceMul, Nat.reduceLeDiff, Nat.reduceBEq, Nat.reduceBNe, Int.reduceEq, ↓reduceIte, reduceCtorEq]
    exact need_i (by rw [nn _ (by omega)]) (by simp (maxSteps := 9000000) -implicitDefEqProofs -dsimp (disch := omega) only [go_sem, g47_0, g47_1, g47_2, g47_3, g47_4, g47_5, g47_6, g47_7, g47_8, g47_9, g47_10, i47, Nat.reduceEqDiff, Nat.reduceAdd, Nat.reduceMul, Nat.reduceLeDiff, Nat.reduceBEq, Nat.reduceBNe, Int.reduceEq, ↓reduceIte, reduceCtorEq])
  · simp (maxSteps := 9000000) -implicitDefEqProofs -dsimp (disch := omega) only [go_sem, g47_0, g47_1, g47_2, g47_3, g47_4, g47_5, g47_6, g47_7, g47_8, g47_9, g47_10, i47, Nat.reduceEqDiff, Nat.reduceAdd, Nat.reduceMul, Nat.reduceLeDiff, Nat.reduceBEq, Nat.reduceBNe, Int.reduceEq, ↓reduceIte, reduceCtorEq]
    refine loop_n l.length (fun i => ⟨[(5, .w (.one (.int .i64 (i : Nat)))), (1, .w (.one (.int .i64 (n - l.length - stt (l.take i))))), (0, .w (.one (.hs 0 [] 0 4 l.length)))], [(0, .sl false 4 l.length (stR l))], [.one (.hs 0 [] 0 4 l.length), .one (.int .i64 n)]⟩) (fun i => 0 ≤ n - l.length - stt (l.take i)) ?_ ?_ ?_
    · exact (imp_sub (by simp (maxSteps := 9000000) -implicitDefEqProofs -dsimp (disch := omega) only [go_sem, g47_0, g47_1, g47_2, g47_3, g47_4, g47_5, g47_6, g47_7, g47_8, g47_9, g47_10, i47, List.take_zero, show stt [] = 0 from rfl, Int.sub_zero, Nat.reduceEqDiff, Nat.reduceAdd, Nat.reduceMul, Nat.reduceLeDiff, Nat.reduceBEq, Nat.reduceBNe, Int.reduceEq, ↓reduceIte, reduceCtorEq]) (by simp (maxSteps := 9000000) -implicitDefEqProofs -dsimp (disch := omega) only [go_sem, g47_0, g47_1, g47_2, g47_3, g47_4, g47_5, g47_6, g47_7, g47_8, g47_9, g47_10, i47, List.take_zero, show stt [] = 0 from rfl, Int.sub_zero, Nat.reduceEqDiff, Nat.reduceAdd, Nat.reduceMul, Nat.reduceLeDiff, Nat.reduceBEq, Nat.reduceBNe, Int.reduceEq, ↓reduceIte, reduceCtorEq]) rfl)
    · simp only [List.take_zero, show stt [] = 0 from rfl]; omega
    · intro i hi hJ
      simp (maxSteps := 9000000) -implicitDefEqProofs -dsimp (disch := omega) only [go_sem, g47_0, g47_1, g47_2, g47_3, g47_4, g47_5, g47_6, g47_7, g47_8, g47_9, g47_10, i47, Nat.reduceEqDiff, Nat.reduceAdd, Nat.reduceMul, Nat.reduceLeDiff, Nat.reduceBEq, Nat.reduceBNe, Int.reduceEq, ↓reduceIte, reduceCtorEq]
      refine brP_i (fun h2 => ?_) (fun h2 => ?_)
      · have hlt : i < l.length := by omega
        have h4 := stt_take hlt
        obtain ⟨h5, h6⟩ := hs _ (getD_mem hlt)
        have h7 := stt_le (l := l) (i := i + 1)
        have h8 := stt_nonneg (l := l.take i)
        have M := szDiskStep_ok (l.getD i default).k (l.getD i default).a (l.getD i default).t (l.getD i default).h (n - l.length - stt (l.take i)) (by omega) (by omega) h5 h6
        simp (maxSteps := 9000000) -implicitDefEqProofs -dsimp (disch := omega) only [go_sem, g47_0, g47_1, g47_2, g47_3, g47_4, g47_5, g47_6, g47_7, g47_8, g47_9, g47_10, i47, stR_0 hlt, stR_1 hlt, stR_2 hlt, stR_3 hlt, Nat.reduceEqDiff, Nat.reduceAdd, Nat.reduceMul, Nat.reduceLeDiff, Nat.reduceBEq, Nat.reduceBNe, Int.reduceEq, ↓reduceIte, reduceCtorEq]
        by_cases h9 : n - l.length - stt (l.take i) - (l.getD i default).t.size - (l.getD i default).h.length < 0
        · rw [nn _ h9] at M
          refine call_go true M ?_
          simp (maxSteps := 9000000) -implicitDefEqProofs -dsimp (disch := omega) only [go_sem, g47_0, g47_1, g47_2, g47_3, g47_4, g47_5, g47_6, g47_7, g47_8, g47_9, g47_10, i47, lt_T, lt_F, le_T, le_F, eq_T, eq_F, and_F, stR_3 hlt, Nat.reduceEqDiff, Nat.reduceAdd, Nat.reduceMul, Nat.reduceLeDiff, Nat.reduceBEq, Nat.reduceBNe, Int.reduceEq, ↓reduceIte, reduceCtorEq]
          exact need_i (by rw [nn _ (by omega)]) (by simp (maxSteps := 9000000) -implicitDefEqProofs -dsimp (disch := omega) only [go_sem, g47_0, g47_1, g47_2, g47_3, g47_4, g47_5, g47_6, g47_7, g47_8, g47_9, g47_10, i47, Nat.reduceEqDiff, Nat.reduceAdd, Nat.reduceMul, Nat.reduceLeDiff, Nat.reduceBEq, Nat.reduceBNe, Int.reduceEq, ↓reduceIte, reduceCtorEq])
        · rw [np _ (by omega)] at M
          refine call_go true M ?_
          simp (maxSteps := 9000000) -implicitDefEqProofs -dsimp (disch := omega) only [go_sem, g47_0, g47_1, g47_2, g47_3, g47_4, g47_5, g47_6, g47_7, g47_8, g47_9, g47_10, i47, lt_T, lt_F, le_T, le_F, eq_T, eq_F, and_F, stR_3 hlt, Nat.reduceEqDiff, Nat.reduceAdd, Nat.reduceMul, Nat.reduceLeDiff, Nat.reduceBEq, Nat.reduceBNe, Int.reduceEq, ↓reduceIte, reduceCtorEq]
          first
            | exact ⟨⟨by omega, by omega⟩, (imp_sub (by simp (maxSteps := 9000000) -implicitDefEqProofs -dsimp (disch := omega) only [go_sem, g47_0, g47_1, g47_2, g47_3, g47_4, g47_5, g47_6, g47_7, g47_8, g47_9, g47_10, i47, h4, Int.sub_sub, Int.add_assoc, Nat.reduceEqDiff, Nat.reduceAdd, Nat.reduceMul, Nat.reduceLeDiff, Nat.reduceBEq, Nat.reduceBNe, Int.reduceEq, ↓reduceIte, reduceCtorEq]) (by simp (maxSteps := 9000000) -implicitDefEqProofs -dsimp (disch := omega) only [go_sem, g47_0, g47_1, g47_2, g47_3, g47_4, g47_5, g47_6, g47_7, g47_8, g47_9, g47_10, i47, h4, Int.sub_sub, Int.add_assoc, Nat.reduceEqDiff, Nat.reduceAdd, Nat.reduceMul, Nat.reduceLeDiff, Nat.reduceBEq, Nat.reduceBNe, Int.reduceEq, ↓reduceIte, reduceCtorEq]) rfl)⟩
            | exact ⟨by omega, (imp_sub (by simp (maxSteps := 9000000) -implicitDefEqProofs -dsimp (disch := omega) only [go_sem, g47_0, g47_1, g47_2, g47_3, g47_4, g47_5, g47_6, g47_7, g47_8, g47_9, g47_10, i47, h4, Int.sub_sub, Int.add_assoc, Nat.reduceEqDiff, Nat.reduceAdd, Nat.reduceMul, Nat.reduceLeDiff, Nat.reduceBEq, Nat.reduceBNe, Int.reduceEq, ↓reduceIte, reduceCtorEq]) (by simp (maxSteps := 9000000) -implicitDefEqProofs -dsimp (disch := omega) only [go_sem, g47_0, g47_1, g47_2, g47_3, g47_4, g47_5, g47_6, g47_7, g47_8, g47_9, g47_10, i47, h4, Int.sub_sub, Int.add_assoc, Nat.reduceEqDiff, Nat.reduceAdd, Nat.reduceMul, Nat.reduceLeDiff, Nat.reduceBEq, Nat.reduceBNe, Int.reduceEq, ↓reduceIte, reduceCtorEq]) rfl)⟩
      · obtain rfl : i = l.length := by omega
        rw [List.take_length] at hJ
        simp (maxSteps := 9000000) -implicitDefEqProofs -dsimp (disch := omega) only [go_sem, g47_0, g47_1, g47_2, g47_3, g47_4, g47_5, g47_6, g47_7, g47_8, g47_9, g47_10, i47, List.take_length, Nat.reduceEqDiff, Nat.reduceAdd, Nat.reduceMul, Nat.reduceLeDiff, Nat.reduceBEq, Nat.reduceBNe, Int.reduceEq, ↓reduceIte, reduceCtorEq]
        exact need_i (by rw [np _ (by omega)]) (by simp (maxSteps := 9000000) -implicitDefEqProofs -dsimp (disch := omega) only [go_sem, g47_0, g47_1, g47_2, g47_3, g47_4, g47_5, g47_6, g47_7, g47_8, g47_9, g47_10, i47, Nat.reduceEqDiff, Nat.reduceAdd, Nat.reduceMul, Nat.reduceLeDiff, Nat.reduceBEq, Nat.reduceBNe, Int.reduceEq, ↓reduceIte, reduceCtorEq])
def g50_0 : List Gop := [⟨none, (some 4), (.mov (.k (.one (.bool .false))))⟩]
def g50_1 : List Gop := [⟨none, (some 6), (.mov (.t 0))⟩, ⟨none, (some 7), (.len (.t 6))⟩, ⟨none, (some 8), (.mov (.t 1))⟩, ⟨none, (some 9), (.len (.t 8))⟩, ⟨none, (some 10), (.bin .neq (.t 7) (.t 9))⟩]
def g50_2 : List Gop := [⟨none, (some 4), (.mov (.k (.one (.bool .false))))⟩]
def g50_3 : List Gop := [⟨none, (some 5), (.mov (.k (.one (.int .i64 0))))⟩]
def g50_4 : List Gop := [⟨none, (some 11), (.mov (.t 5))⟩, ⟨none, (some 12), (.mov (.t 0))⟩, ⟨none, (some 13), (.len (.t 12))⟩, ⟨none, (some 14), (.bin .lss (.t 11) (.t 13))⟩]
def g50_5 : List Gop := [⟨none, (some 17), (.mov (.t 0))⟩, ⟨none, (some 18), (.mov (.t 5))⟩, ⟨none, (some 19), (.iaddr 4 (.t 17) (.t 18))⟩, ⟨none, (some 20), (.load (some 4) (.t 19))⟩, ⟨none, (some 21), (.mov (.t 1))⟩, ⟨none, (some 22), (.mov (.t 5))⟩, ⟨none, (some 23), (.iaddr 4 (.t 21) (.t 22))⟩, ⟨none, (some 24), (.load (some 4) (.t 23))⟩, ⟨none, (some 25), (.call 56 [(.t 20), (.t 24)])⟩, ⟨none, (some 26), (.un .not (.t 25))⟩]
def a50_5 : List (List Nat) := [[], [], [0, 1], [0, 1, 2], [], [], [4, 5], [4, 5, 6], [0, 1, 2, 3, 4, 5, 6, 7], [0, 1, 2, 3, 4, 5, 6, 7, 8]]
def n50_5 : Nat := 8 -- of 10
def g50_6 : List Gop := [⟨none, (some 4), (.mov (.k (.one (.bool .false))))⟩]
def g50_7 : List Gop := [⟨none, (some 15), (.mov (.t 5))⟩, ⟨none, (some 16), (.bin .add (.t 15) (.k (.one (.int .i64 1))))⟩, ⟨none, (some 5), (.mov (.t 16))⟩]
def g50_8 : List Gop := [⟨none, (some 4), (.mov (.k (.one (.bool .true))))⟩]
def i50 : Ir := (.seq (.region g50_0) (.seq (.seq (.region g50_1) (.cond (.t 10) (.seq (.region g50_2) .ret) .skip)) (.seq (.seq (.region g50_3) (.block 0 (.loop (.seq (.seq (.region g50_4) (.cond (.t 14) .skip (.exit 0))) (.seq (.block 1 (.seq (.draw [[], [], [0, 1], [2], [], [], [4, 5], [6], [3, 7], [8]] g50_5) (.cond (.t 26) (.seq (.region g50_6) .ret) .skip))) (.region g50_7)))))) (.seq (.region g50_8) .ret))))
def r50 : List Rx := [(.tmp 4)]
theorem eqDiskStepS_ok (l : List Stp) (ha : l.length ≤ 1048576) (hs : ∀ x ∈ l, x.h.length ≤ 1048576) : Meets Try.prog 50 [.one (LS l), .one (LS l)] (.w (.one (.bool true))) [.one .hole, .one .hole] := by
  unfold LS
  refine meets_go (ir := i50) (fn := Try.f50) (rx := [(.tmp 4)]) rfl rfl (by rfl) (by rfl) (by exact Nat.le_of_ble_eq_true rfl) ?_
  simp (maxSteps := 9000000) -implicitDefEqProofs -dsimp (disch := omega) only [go_sem, g50_0, g50_1, g50_2, g50_3, g50_4, g50_5, a50_5, n50_5, g50_6, g50_7, g50_8, i50, lt_T, lt_F, le_T, le_F, eq_T, eq_F, and_F, Nat.reduceEqDiff, Nat.reduceAdd, Nat.reduceMul, Nat.reduceLeDiff, Nat.reduceBEq, Nat.reduceBNe, Int.reduceEq, ↓reduceIte, reduceCtorEq]
  refine loop_n l.length (fun i => ⟨[(5, .w (.one (.int .i64 (i : Nat)))), (1, .w (.one (.hs 1 [] 0 4 l.length))), (0, .w (.one (.hs 0 [] 0 4 l.length)))], [(1, .sl false 4 l.length (stR l)), (0, .sl false 4 l.length (stR l))], [.one (.hs 0 [] 0 4 l.length), .one (.hs 1 [] 0 4 l.length)]⟩) (fun i => True) ?_ trivial ?_
  · exact (imp_sub (by simp (maxSteps := 9000000) -implicitDefEqProofs -dsimp (disch := omega) only [go_sem, g50_0, g50_1, g50_2, g50_3, g50_4, g50_5, a50_5, n50_5, g50_6, g50_7, g50_8, i50, Nat.reduceEqDiff, Nat.reduceAdd, Nat.reduceMul, Nat.reduceLeDiff, Nat.reduceBEq, Nat.reduceBNe, Int.reduceEq, ↓reduceIte, reduceCtorEq]) (by simp (maxSteps := 9000000) -implicitDefEqProofs -dsimp (disch := omega) only [go_sem, g50_0, g50_1, g50_2, g50_3, g50_4, g50_5, a50_5, n50_5, g50_6, g50_7, g50_8, i50, Nat.reduceEqDiff, Nat.reduceAdd, Nat.reduceMul, Nat.reduceLeDiff, Nat.reduceBEq, Nat.reduceBNe, Int.reduceEq, ↓reduceIte, reduceCtorEq]) rfl)
  · intro i hi hJ
    simp (maxSteps := 9000000) -implicitDefEqProofs -dsimp (disch := omega) only [go_sem, g50_0, g50_1, g50_2, g50_3, g50_4, g50_5, a50_5, n50_5, g50_6, g50_7, g50_8, i50, Nat.reduceEqDiff, Nat.reduceAdd, Nat.reduceMul, Nat.reduceLeDiff, Nat.reduceBEq, Nat.reduceBNe, Int.reduceEq, ↓reduceIte, reduceCtorEq]
    refine brP_i (fun h2 => ?_) (fun h2 => ?_)
    · have hlt : i < l.length := by omega
      have hk := hs _ (getD_mem hlt)
      refine draw_go n50_5 a50_5 (by decide +kernel) ?_
      simp (maxSteps := 9000000) -implicitDefEqProofs -dsimp (disch := omega) only [go_sem, g50_0, g50_1, g50_2, g50_3, g50_4, g50_5, a50_5, n50_5, g50_6, g50_7, g50_8, i50, stR_0 hlt, stR_1 hlt, stR_2 hlt, stR_3 hlt, Nat.reduceEqDiff, Nat.reduceAdd, Nat.reduceMul, Nat.reduceLeDiff, Nat.reduceBEq, Nat.reduceBNe, Int.reduceEq, ↓reduceIte, reduceCtorEq]
      refine call_go true (eqDiskStep_ok (l.getD i default).k (l.getD i default).a (l.getD i default).t (l.getD i default).h (l.getD i default).k (l.getD i default).a (l.getD i default).t (l.getD i default).h hk) ?_
      simp (maxSteps := 9000000) -implicitDefEqProofs -dsimp (disch := omega) only [go_sem, g50_0, g50_1, g50_2, g50_3, g50_4, g50_5, a50_5, n50_5, g50_6, g50_7, g50_8, i50, stR_3 hlt, Nat.reduceEqDiff, Nat.reduceAdd, Nat.reduceMul, Nat.reduceLeDiff, Nat.reduceBEq, Nat.reduceBNe, Int.reduceEq, ↓reduceIte, reduceCtorEq]
      exact ⟨hlt, (imp_sub (by simp (maxSteps := 9000000) -implicitDefEqProofs -dsimp (disch := omega) only [go_sem, g50_0, g50_1, g50_2, g50_3, g50_4, g50_5, a50_5, n50_5, g50_6, g50_7, g50_8, i50, Nat.reduceEqDiff, Nat.reduceAdd, Nat.reduceMul, Nat.reduceLeDiff, Nat.reduceBEq, Nat.reduceBNe, Int.reduceEq, ↓reduceIte, reduceCtorEq]) (by simp (maxSteps := 9000000) -implicitDefEqProofs -dsimp (disch := omega) only [go_sem, g50_0, g50_1, g50_2, g50_3, g50_4, g50_5, a50_5, n50_5, g50_6, g50_7, g50_8, i50, Nat.reduceEqDiff, Nat.reduceAdd, Nat.reduceMul, Nat.reduceLeDiff, Nat.reduceBEq, Nat.reduceBNe, Int.reduceEq, ↓reduceIte, reduceCtorEq]) rfl)⟩
    · simp (maxSteps := 9000000) -implicitDefEqProofs -dsimp (disch := omega) only [go_sem, g50_0, g50_1, g50_2, g50_3, g50_4, g50_5, a50_5, n50_5, g50_6, g50_7, g50_8, i50, Nat.reduceEqDiff, Nat.reduceAdd, Nat.reduceMul, Nat.reduceLeDiff, Nat.reduceBEq, Nat.reduceBNe, Int.reduceEq, ↓reduceIte, reduceCtorEq]
/-- the marked steps -/
def mkk (l : List Stp) (k : Int) (j : Nat) : Int := k + 3 * j + ((l.take j).map fun x : Stp => (x.h.length : Int)).sum
def mkG (l : List Stp) (k : Int) (j : Nat) : Stp := ⟨mkk l k j, mkk l k j + 1, mtext (mkk l k j + 2), mkI (mkk l k j + 3) (l.getD j default).h.length⟩
theorem mkk_0 {l : List Stp} {k : Int} : mkk l k 0 = k := by simp [mkk]
theorem mkk_s {l : List Stp} {k : Int} {j : Nat} (h : j < l.length) : mkk l k (j + 1) = mkk l k j + 3 + (l.getD j default).h.length := by
  simp only [mkk, List.take_add_one, List.map_append, List.sum_append, List.getElem?_eq_getElem h, Option.toList_some, List.map_cons, List.map_nil, List.sum_cons, List.sum_nil, List.getD_eq_getElem?_getD, Option.getD_some]; omega
theorem mkk_lo {l : List Stp} {k : Int} {j : Nat} : k ≤ mkk l k j := by
  have : ∀ m : List Stp, 0 ≤ (m.map fun x : Stp => (x.h.length : Int)).sum := fun m => by
    induction m with
    | nil => simp
    | cons x m ih => simp only [List.map_cons, List.sum_cons]; omega
  have := this (l.take j)
  simp only [mkk]; omega
theorem mkk_hi {l : List Stp} {k : Int} {j : Nat} (h : j ≤ l.length) : mkk l k j ≤ k + 3 * l.length + stt l := by
  have q : ∀ m : List Stp, (m.map fun x : Stp => (x.h.length : Int)).sum ≤ stt m := fun m => by
    induction m with
    | nil => simp [stt]
    | cons x m ih => simp only [stt, List.map_cons, List.sum_cons] at *; omega
  have h1 := q (l.take j)
  have h2 := stt_le (l := l) (i := j)
  simp only [mkk]; omega
theorem stO_0 {l : List Stp} {i : Nat} (h : i < l.length) : (stO l)[i * 4]? = some (.int .i64 (l.getD i default).k) := rows4_0 h
theorem stO_1 {l : List Stp} {i : Nat} (h : i < l.length) : (stO l)[i * 4 + 1]? = some (.int .i64 (l.getD i default).a) := rows4_1 h
theorem stO_2 {l : List Stp} {i : Nat} (h : i < l.length) : (stO l)[i * 4 + 2]? = some (.str (l.getD i default).t) := rows4_2 h
theorem stO_3 {l : List Stp} {i : Nat} (h : i < l.length) : (stO l)[i * 4 + 3]? = some (.sl true 1 ((l.getD i default).h).length (((l.getD i default).h).map (T.int .i64))) := rows4_3 h
theorem stO_set {l : List Stp} {i : Nat} (x : Stp) (h : i < l.length) : ((((stO l).set (i * 4) (.int .i64 x.k)).set (i * 4 + 1) (.int .i64 x.a)).set (i * 4 + 2) (.str x.t)).set (i * 4 + 3) (.sl true 1 x.h.length (x.h.map (T.int .i64))) = stO (l.set i x) := rows4_set x h
def g51_0 : List Gop := [⟨none, (some 4), (.mov (.k (.one (.int .i64 0))))⟩]
def g51_1 : List Gop := [⟨none, (some 5), (.mov (.k (.one (.int .i64 0))))⟩]
def g51_2 : List Gop := [⟨none, (some 6), (.mov (.t 5))⟩, ⟨none, (some 7), (.mov (.t 0))⟩, ⟨none, (some 8), (.len (.t 7))⟩, ⟨none, (some 9), (.bin .lss (.t 6) (.t 8))⟩]
def g51_3 : List Gop := [⟨none, (some 12), (.mov (.t 0))⟩, ⟨none, (some 13), (.mov (.t 5))⟩, ⟨none, (some 14), (.mov (.t 1))⟩, ⟨none, (some 15), (.iaddr 4 (.t 12) (.t 13))⟩, ⟨none, (some 16), (.faddr (.t 15) 0)⟩, ⟨none, none, (.store 1 (.t 16) (.t 14))⟩]
def g51_4 : List Gop := [⟨none, (some 17), (.mov (.t 1))⟩, ⟨none, (some 18), (.bin .add (.t 17) (.k (.one (.int .i64 1))))⟩, ⟨none, (some 1), (.mov (.t 18))⟩]
def g51_5 : List Gop := [⟨none, (some 19), (.mov (.t 0))⟩, ⟨none, (some 20), (.mov (.t 5))⟩, ⟨none, (some 21), (.mov (.t 1))⟩, ⟨none, (some 22), (.iaddr 4 (.t 19) (.t 20))⟩, ⟨none, (some 23), (.faddr (.t 22) 1)⟩, ⟨none, none, (.store 1 (.t 23) (.t 21))⟩]
def g51_6 : List Gop := [⟨none, (some 24), (.mov (.t 1))⟩, ⟨none, (some 25), (.bin .add (.t 24) (.k (.one (.int .i64 1))))⟩, ⟨none, (some 1), (.mov (.t 25))⟩]
def g51_7 : List Gop := [⟨none, (some 26), (.mov (.t 0))⟩, ⟨none, (some 27), (.mov (.t 5))⟩, ⟨none, (some 28), (.mov (.t 1))⟩, ⟨none, (some 29), (.call 87 [(.t 28)])⟩, ⟨none, (some 30), (.iaddr 4 (.t 26) (.t 27))⟩, ⟨none, (some 31), (.faddr (.t 30) 2)⟩, ⟨none, none, (.store 1 (.t 31) (.t 29))⟩]
def g51_8 : List Gop := [⟨none, (some 32), (.mov (.t 1))⟩, ⟨none, (some 33), (.bin .add (.t 32) (.k (.one (.int .i64 1))))⟩, ⟨none, (some 1), (.mov (.t 33))⟩]
def g51_9 : List Gop := [⟨none, (some 34), (.mov (.t 0))⟩, ⟨none, (some 35), (.mov (.t 5))⟩, ⟨none, (some 36), (.iaddr 4 (.t 34) (.t 35))⟩, ⟨none, (some 37), (.faddr (.t 36) 3)⟩, ⟨none, (some 38), (.load none (.t 37))⟩, ⟨none, (some 39), (.mov (.t 1))⟩, ⟨none, (some 40), (.call 29 [(.t 38), (.t 39)])⟩, ⟨none, (some 1), (.mov (.t 40))⟩]
def g51_10 : List Gop := [⟨none, (some 10), (.mov (.t 5))⟩, ⟨none, (some 11), (.bin .add (.t 10) (.k (.one (.int .i64 1))))⟩, ⟨none, (some 5), (.mov (.t 11))⟩]
def g51_11 : List Gop := [⟨none, (some 41), (.mov (.t 1))⟩, ⟨none, (some 4), (.mov (.t 41))⟩]
def i51 : Ir := (.seq (.region g51_0) (.seq (.seq (.region g51_1) (.block 0 (.loop (.seq (.seq (.region g51_2) (.cond (.t 9) .skip (.exit 0))) (.seq (.block 1 (.seq (.region g51_3) (.seq (.region g51_4) (.seq (.region g51_5) (.seq (.region g51_6) (.seq (.region g51_7) (.seq (.region g51_8) (.region g51_9)))))))) (.region g51_10)))))) (.seq (.region g51_11) .ret)))
def r51 : List Rx := [(.tmp 4)]
theorem markDiskStepS_ok (l : List Stp) (k : Int) (h0 : 0 < k) (hk : k ≤ 1000000) (ha : l.length ≤ 1048576) (hs : stt l ≤ 1048576) : Meets Try.prog 51 [.one (OL l), .one (.int .i64 k)] (.w (.one (.int .i64 (mkk l k l.length)))) [.one .hole, .one .hole] := by
  unfold OL
  refine meets_go (ir := i51) (fn := Try.f51) (rx := [(.tmp 4)]) rfl rfl (by rfl) (by rfl) (by exact Nat.le_of_ble_eq_true rfl) ?_
  simp (maxSteps := 9000000) -implicitDefEqProofs -dsimp (disch := omega) only [go_sem, g51_0, g51_1, g51_2, g51_3, g51_4, g51_5, g51_6, g51_7, g51_8, g51_9, g51_10, g51_11, i51, Nat.reduceEqDiff, Nat.reduceAdd, Nat.reduceMul, Nat.reduceLeDiff, Nat.reduceBEq, Nat.reduceBNe, Int.reduceEq, ↓reduceIte, reduceCtorEq]
  refine loop_n l.length (fun i => ⟨[(5, .w (.one (.int .i64 (i : Nat)))), (1, .w (.one (.int .i64 (mkk l k i)))), (0, .w (.one (.hs 0 [] 0 4 l.length)))], [(0, .sl true 4 l.length (stO (mixL (mkG l k) l i)))], [.one (.hs 0 [] 0 4 l.length), .one (.int .i64 k)]⟩) (fun i => True) ?_ trivial ?_
  · exact (imp_sub (by simp (maxSteps := 9000000) -implicitDefEqProofs -dsimp (disch := omega) only [go_sem, g51_0, g51_1, g51_2, g51_3, g51_4, g51_5, g51_6, g51_7, g51_8, g51_9, g51_10, g51_11, i51, mixL_0, mkk_0, Nat.reduceEqDiff, Nat.reduceAdd, Nat.reduceMul, Nat.reduceLeDiff, Nat.reduceBEq, Nat.reduceBNe, Int.reduceEq, ↓reduceIte, reduceCtorEq]) (by simp (maxSteps := 9000000) -implicitDefEqProofs -dsimp (disch := omega) only [go_sem, g51_0, g51_1, g51_2, g51_3, g51_4, g51_5, g51_6, g51_7, g51_8, g51_9, g51_10, g51_11, i51, mixL_0, mkk_0, Nat.reduceEqDiff, Nat.reduceAdd, Nat.reduceMul, Nat.reduceLeDiff, Nat.reduceBEq, Nat.reduceBNe, Int.reduceEq, ↓reduceIte, reduceCtorEq]) rfl)
  · intro i hi hJ
    simp (maxSteps := 9000000) -implicitDefEqProofs -dsimp (disch := omega) only [go_sem, g51_0, g51_1, g51_2, g51_3, g51_4, g51_5, g51_6, g51_7, g51_8, g51_9, g51_10, g51_11, i51, Nat.reduceEqDiff, Nat.reduceAdd, Nat.reduceMul, Nat.reduceLeDiff, Nat.reduceBEq, Nat.reduceBNe, Int.reduceEq, ↓reduceIte, reduceCtorEq]
    refine brP_i (fun h2 => ?_) (fun h2 => ?_)
    · have hlt : i < l.length := by omega
      have q1 : i < (mixL (mkG l k) l i).length := by rw [mixL_len]; exact hlt
      have g1 := mixL_get (g := mkG l k) hlt
      have lo := mkk_lo (l := l) (k := k) (j := i)
      have hh := mkk_hi (l := l) (k := k) (j := i) hi
      have hm := mem_stt (getD_mem hlt)
      have b0 := stO_0 q1
      have b1 := stO_1 q1
      have b2 := stO_2 q1
      have b3 := stO_3 q1
      rw [g1] at b0 b1 b2 b3
      simp (maxSteps := 9000000) -implicitDefEqProofs -dsimp (disch := omega) only [go_sem, g51_0, g51_1, g51_2, g51_3, g51_4, g51_5, g51_6, g51_7, g51_8, g51_9, g51_10, g51_11, i51, b0, b1, b2, b3, List.getElem?_set_ne, Nat.reduceEqDiff, Nat.reduceAdd, Nat.reduceMul, Nat.reduceLeDiff, Nat.reduceBEq, Nat.reduceBNe, Int.reduceEq, ↓reduceIte, reduceCtorEq]
      refine call_go true (markText_ok (mkk l k i + 1 + 1) (by omega) (by omega)) ?_
      simp (maxSteps := 9000000) -implicitDefEqProofs -dsimp (disch := omega) only [go_sem, g51_0, g51_1, g51_2, g51_3, g51_4, g51_5, g51_6, g51_7, g51_8, g51_9, g51_10, g51_11, i51, b0, b1, b2, b3, List.getElem?_set_ne, Nat.reduceEqDiff, Nat.reduceAdd, Nat.reduceMul, Nat.reduceLeDiff, Nat.reduceBEq, Nat.reduceBNe, Int.reduceEq, ↓reduceIte, reduceCtorEq]
      generalize hL : (((stO (mixL (mkG l k) l i)).set (i * 4) (T.int IntKind.i64 (mkk l k i))).set (i * 4 + 1) (T.int IntKind.i64 (mkk l k i + 1))).set (i * 4 + 2) (T.str (mtext (mkk l k i + 1 + 1))) = L
      have c3 : L[i * 4 + 3]? = some (.sl true 1 ((l.getD i default).h).length (((l.getD i default).h).map (T.int .i64))) := by
        rw [← hL, List.getElem?_set_ne (by omega), List.getElem?_set_ne (by omega), List.getElem?_set_ne (by omega)]; exact b3
      have hlen : i * 4 + 3 < L.length := (List.getElem?_eq_some_iff.1 c3).1
      have c4 : (L.set (i * 4 + 3) T.hole)[i * 4 + 3]? = some T.hole := by rw [List.getElem?_set_self hlen]
      refine call_go true (markIntS_ok (l.getD i default).h (mkk l k i + 1 + 1 + 1) (by omega) (by omega) (by omega)) ?_
      simp (maxSteps := 9000000) -implicitDefEqProofs -dsimp (disch := omega) only [go_sem, g51_0, g51_1, g51_2, g51_3, g51_4, g51_5, g51_6, g51_7, g51_8, g51_9, g51_10, g51_11, i51, c3, c4, List.set_set, Nat.reduceEqDiff, Nat.reduceAdd, Nat.reduceMul, Nat.reduceLeDiff, Nat.reduceBEq, Nat.reduceBNe, Int.reduceEq, ↓reduceIte, reduceCtorEq]
      have e5 := stO_set (mkG l k i) q1
      simp only [mkG] at e5
      have e6 : mkI (mkk l k i + 3) (l.getD i default).h.length = (List.range (l.getD i default).h.length).map (fun j : Nat => mkk l k i + 1 + 1 + 1 + (j : Int)) := by
        simp only [mkI]; refine List.map_congr_left fun j _ => by omega
      have e7 : mkk l k i + 2 = mkk l k i + 1 + 1 := by omega
      have e8 := mixL_set (g := mkG l k) hlt
      simp only [mkG] at e8
      rw [e6, e7, hL] at e5
      rw [e6, e7] at e8
      have e9 : mkk l k i + 1 + 1 + 1 + ((l.getD i default).h.length : Int) = mkk l k (i + 1) := by rw [mkk_s hlt]; omega
      have e10 := e5.trans (congrArg stO e8)
      simp only [List.length_map, List.length_range] at e10
      exact ⟨hlt, (imp_sub (by simp (maxSteps := 9000000) -implicitDefEqProofs -dsimp (disch := omega) only [go_sem, g51_0, g51_1, g51_2, g51_3, g51_4, g51_5, g51_6, g51_7, g51_8, g51_9, g51_10, g51_11, i51, e10, e9, beq_self_eq_true, Nat.reduceEqDiff, Nat.reduceAdd, Nat.reduceMul, Nat.reduceLeDiff, Nat.reduceBEq, Nat.reduceBNe, Int.reduceEq, ↓reduceIte, reduceCtorEq]) (by simp (maxSteps := 9000000) -implicitDefEqProofs -dsimp (disch := omega) only [go_sem, g51_0, g51_1, g51_2, g51_3, g51_4, g51_5, g51_6, g51_7, g51_8, g51_9, g51_10, g51_11, i51, e10, e9, beq_self_eq_true, Nat.reduceEqDiff, Nat.reduceAdd, Nat.reduceMul, Nat.reduceLeDiff, Nat.reduceBEq, Nat.reduceBNe, Int.reduceEq, ↓reduceIte, reduceCtorEq]) rfl)⟩
    · obtain rfl : i = l.length := by omega
      simp (maxSteps := 9000000) -implicitDefEqProofs -dsimp (disch := omega) only [go_sem, g51_0, g51_1, g51_2, g51_3, g51_4, g51_5, g51_6, g51_7, g51_8, g51_9, g51_10, g51_11, i51, Nat.reduceEqDiff, Nat.reduceAdd, Nat.reduceMul, Nat.reduceLeDiff, Nat.reduceBEq, Nat.reduceBNe, Int.reduceEq, ↓reduceIte, reduceCtorEq]
end Go.Proofs.YtjlodcoeegpkaaaT
