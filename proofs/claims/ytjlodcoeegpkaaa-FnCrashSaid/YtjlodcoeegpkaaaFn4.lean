/- Functions of the program, each with what it returns and leaves. No condition. -/
import Derived.Test.YtjlodcoeegpkaaaFn3
import Derived.Test.YtjlodcoeegpkaaaFn2
set_option linter.all false
set_option linter.unusedVariables false
set_option linter.unusedSimpArgs false
set_option linter.unusedSectionVars false
set_option linter.unnecessarySimpa false
set_option linter.deprecated false
/- Functions of the program as contracts: a disk drawn from a code. No condition. -/
set_option maxRecDepth 100000
set_option maxHeartbeats 8000000
set_option linter.unusedSimpArgs false
set_option linter.unusedVariables false
namespace Go.Proofs.YtjlodcoeegpkaaaT
open Go Go.RowKit
/-- a drawn disk: good, or one row too short, or one text too long -/
def DrOk (p h : List ByteArray) (b : List Bool) : Prop := (1 ≤ p.length ∧ p.length ≤ 24) ∧ h.length = p.length ∧ b.length ≤ p.length ∧ (∀ x ∈ p, x.size ≤ 29) ∧ (∀ x ∈ h, x.size ≤ 28)
theorem cut_take {α : Type} {f : α → T} {l : List α} {n : Nat} : cut (l.map f) 0 n = (l.take n).map f := by simp [cut, List.map_take]
def big29 : ByteArray := ⟨(List.replicate 29 (0 : UInt8)).toArray⟩
theorem hbt : bytesT (List.take (Int.toNat 29) (List.replicate (Int.toNat 29) (T.int .u8 0))) = some (List.replicate 29 (0 : UInt8)) := by decide
theorem big_set {l : List ByteArray} (h : ∀ x ∈ l, x.size ≤ 28) : ∀ x ∈ l.set 0 big29, x.size ≤ 29 := fun x hx => by
  rcases List.mem_or_eq_of_mem_set hx with hx | rfl
  · have := h x hx; omega
  · decide
def g79_0 : List Gop := [⟨none, (some 2), (.alloc [.nil, .nil, .nil])⟩]
def g79_1 : List Gop := [⟨none, (some 7), (.mov (.t 0))⟩, ⟨none, (some 8), (.call 81 [(.t 7), (.k (.one (.int .i64 5)))])⟩, ⟨none, (some 9), (.bin .add (.k (.one (.int .i64 1))) (.t 8))⟩, ⟨none, (some 3), (.mov (.t 9))⟩]
def g79_2 : List Gop := [⟨none, (some 11), (.mov (.t 3))⟩, ⟨none, (some 12), (.mov (.t 0))⟩, ⟨none, (some 13), (.mov (.t 3))⟩, ⟨none, (some 14), (.call 84 [(.t 12), (.t 13)])⟩, ⟨none, (some 15), (.call 42 [(.t 11), (.t 14)])⟩, ⟨none, (some 10), (.mov (.t 15))⟩, ⟨none, (some 16), (.ext (.t 10) 0)⟩, ⟨none, (some 17), (.ext (.t 10) 1)⟩, ⟨none, (some 18), (.ext (.t 10) 2)⟩, ⟨none, (some 4), (.alloc [.nil, .nil, .nil])⟩, ⟨none, none, (.store 3 (.t 4) (.t 16))⟩, ⟨none, (some 5), (.mov (.t 17))⟩, ⟨none, (some 6), (.mov (.t 18))⟩]
def g79_3 : List Gop := [⟨none, (some 19), (.mov (.t 6))⟩, ⟨none, (some 20), (.un .not (.t 19))⟩]
def g79_4 : List Gop := [⟨none, (some 22), (.call 13 [(.k (.one (.int .i64 2)))])⟩, ⟨none, (some 21), (.mov (.t 22))⟩, ⟨none, (some 23), (.ext (.t 21) 0)⟩, ⟨none, (some 24), (.ext (.t 21) 1)⟩, ⟨none, none, (.store 3 (.t 4) (.t 23))⟩]
def g79_5 : List Gop := [⟨none, (some 25), (.mov (.t 0))⟩, ⟨none, (some 26), (.call 81 [(.t 25), (.k (.one (.int .i64 30)))])⟩]
def g79_6 : List Gop := [⟨none, (some 28), (.bin .eql (.t 26) (.k (.one (.int .i64 0))))⟩, ⟨none, (some 27), (.mov (.t 28))⟩]
def g79_7 : List Gop := [⟨none, (some 29), (.faddr (.t 4) 2)⟩, ⟨none, (some 30), (.load none (.t 29))⟩, ⟨none, (some 31), (.faddr (.t 4) 2)⟩, ⟨none, (some 32), (.load none (.t 31))⟩, ⟨none, (some 33), (.len (.t 32))⟩, ⟨none, (some 34), (.bin .sub (.t 33) (.k (.one (.int .i64 1))))⟩, ⟨none, (some 35), (.slice 1 (.t 30) none (some (.t 34)) none)⟩, ⟨none, (some 36), (.faddr (.t 4) 2)⟩, ⟨none, none, (.store 1 (.t 36) (.t 35))⟩]
def g79_8 : List Gop := [⟨none, (some 38), (.bin .eql (.t 26) (.k (.one (.int .i64 1))))⟩, ⟨none, (some 37), (.mov (.t 38))⟩]
def g79_9 : List Gop := [⟨none, (some 39), (.faddr (.t 4) 0)⟩, ⟨none, (some 40), (.load none (.t 39))⟩, ⟨none, (some 41), (.make 1 [(.int .u8 0)] 1 (.k (.one (.int .i64 29))) (.k (.one (.int .i64 29))))⟩, ⟨none, (some 42), (.cvs (.t 41))⟩, ⟨none, (some 43), (.iaddr 1 (.t 40) (.k (.one (.int .i64 0))))⟩, ⟨none, none, (.store 1 (.t 43) (.t 42))⟩]
def a79_9 : List (List Nat) := [[], [0], [], [2], [0, 1, 2, 3], [0, 1, 2, 3, 4]]
def n79_9 : Nat := 4 -- of 6
def g79_10 : List Gop := [⟨none, (some 44), (.load (some 3) (.t 4))⟩, ⟨none, none, (.store 3 (.t 2) (.t 44))⟩]
def i79 : Ir := (.seq (.region g79_0) (.seq (.region g79_1) (.seq (.region g79_2) (.seq (.seq (.region g79_3) (.cond (.t 20) (.region g79_4) .skip)) (.seq (.seq (.region g79_5) (.block 0 (.seq (.region g79_6) (.cond (.t 27) (.region g79_7) (.seq (.region g79_8) (.cond (.t 37) (.draw [[], [0], [], [2], [1, 0, 1, 2, 3], [4, 3, 0, 1, 2, 3]] g79_9) .skip)))))) (.seq (.region g79_10) .ret))))))
theorem disk_ok (c : Cu) (b : Int) (hc : c.ok b) (hb : b ≤ 50000) : ∃ p h bb c', c'.ok (b + 40000) ∧ DrOk p h bb ∧ Meets Try.prog 79 [.one (cuT c)] (.w (.agg [(.sl true 1 p.length (p.map T.str)), (.sl true 1 h.length (h.map T.str)), (.sl true 1 bb.length (bb.map T.bool))])) [.one (cuT c')] := by
  obtain ⟨x, c1, k1, r1, M1⟩ := pick_ok c b 5 hc (by omega) (by omega) (by omega)
  obtain ⟨l, c2, k2, hl, hs, M2⟩ := diskSteps_ok c1 (b + 1) (1 + x) k1 (by omega) (by omega)
  obtain ⟨y, c3, k3, r3, M3⟩ := pick_ok c2 (b + 1 + 30000) 30 k2 (by omega) (by omega) (by omega)
  have MP := specPlayDisk_ok (1 + x) l (by omega) (fun z hz => by have := hs z hz; omega)
  obtain ⟨m, hm⟩ : ∃ m : Nat, 1 + x = ((m + 1 : Nat) : Int) := ⟨x.toNat, by omega⟩
  have co := stO_cut (l := l)
  have cr := stR_cut (l := l)
  have ro : (stO l).map toRo = stR l := by
    unfold stO stR
    rw [rows4_ro (fun _ => by simp) (fun _ => by simp) (fun _ => by simp)]
    congr 1
    funext x
    simp
  rw [hm] at M2 MP
  have hx : x = (m : Int) := by omega
  have h1m : (1 : Int) + (m : Int) = (m : Int) + 1 := by omega
  by_cases h80 : l.length ≤ 80
  · rw [PlayRes, if_pos ⟨by omega, h80⟩, toNat_nat] at MP
    obtain ⟨i1, i2, i3, i4, i5⟩ := playS_inv (n := m + 1) (l := l) (i := l.length)
    generalize playS (m + 1) l l.length = D at *
    have hmm : ∃ mm, mm = m := ⟨m, rfl⟩
    obtain ⟨mm, hmm⟩ := hmm
    have zb : ((D.b.length : Int) - 1).toNat - 0 = mm := by omega
    have tb : (D.b.take mm).length = mm := by simp; omega
    by_cases y0 : y = 0
    · refine ⟨D.p, D.h, D.b.take mm, c3, k3.mono (by omega), ⟨by omega, by omega, by simp; omega, fun z hz => by have := i4 z hz; omega, i5⟩, ?_⟩
      unfold LS OL at *
      refine meets_go (ir := i79) (fn := Try.f79) (rx := [(.cell 2 (some 3))]) rfl rfl (by rfl) (by rfl) (by exact Nat.le_of_ble_eq_true rfl) ?_
      simp (maxSteps := 9000000) -implicitDefEqProofs -dsimp (disch := omega) only [go_sem, g79_0, g79_1, g79_2, g79_3, g79_4, g79_5, g79_6, g79_7, g79_8, g79_9, a79_9, n79_9, g79_10, i79, cuT, hx, h1m, Nat.reduceEqDiff, Nat.reduceAdd, Nat.reduceMul, Nat.reduceLeDiff, Nat.reduceBEq, Nat.reduceBNe, Int.reduceEq, ↓reduceIte, reduceCtorEq]
      refine call_go false M1 ?_
      simp (maxSteps := 9000000) -implicitDefEqProofs -dsimp (disch := omega) only [go_sem, g79_0, g79_1, g79_2, g79_3, g79_4, g79_5, g79_6, g79_7, g79_8, g79_9, a79_9, n79_9, g79_10, i79, lt_T, lt_F, le_T, le_F, eq_T, eq_F, and_F, cuT, hx, h1m, Nat.reduceEqDiff, Nat.reduceAdd, Nat.reduceMul, Nat.reduceLeDiff, Nat.reduceBEq, Nat.reduceBNe, Int.reduceEq, ↓reduceIte, reduceCtorEq]
      refine call_go false M2 ?_
      simp (maxSteps := 9000000) -implicitDefEqProofs -dsimp (disch := omega) only [go_sem, g79_0, g79_1, g79_2, g79_3, g79_4, g79_5, g79_6, g79_7, g79_8, g79_9, a79_9, n79_9, g79_10, i79, lt_T, lt_F, le_T, le_F, eq_T, eq_F, and_F, cuT, hx, h1m, co, cr, ro, Nat.reduceEqDiff, Nat.reduceAdd, Nat.reduceMul, Nat.reduceLeDiff, Nat.reduceBEq, Nat.reduceBNe, Int.reduceEq, ↓reduceIte, reduceCtorEq]
      refine call_go true MP ?_
      simp (maxSteps := 9000000) -implicitDefEqProofs -dsimp (disch := omega) only [go_sem, g79_0, g79_1, g79_2, g79_3, g79_4, g79_5, g79_6, g79_7, g79_8, g79_9, a79_9, n79_9, g79_10, i79, lt_T, lt_F, le_T, le_F, eq_T, eq_F, and_F, cuT, hx, h1m, co, cr, ro, Nat.reduceEqDiff, Nat.reduceAdd, Nat.reduceMul, Nat.reduceLeDiff, Nat.reduceBEq, Nat.reduceBNe, Int.reduceEq, ↓reduceIte, reduceCtorEq]
      refine call_go false M3 ?_
      simp (maxSteps := 9000000) -implicitDefEqProofs -dsimp (disch := omega) only [go_sem, g79_0, g79_1, g79_2, g79_3, g79_4, g79_5, g79_6, g79_7, g79_8, g79_9, a79_9, n79_9, g79_10, i79, lt_T, lt_F, le_T, le_F, eq_T, eq_F, and_F, cuT, hx, h1m, co, cr, ro, y0, zb, tb, cut_take, List.take_take, Nat.min_self, List.take_length, Nat.reduceEqDiff, Nat.reduceAdd, Nat.reduceMul, Nat.reduceLeDiff, Nat.reduceBEq, Nat.reduceBNe, Int.reduceEq, ↓reduceIte, reduceCtorEq]
    · by_cases y1 : y = 1
      · refine ⟨D.p.set 0 big29, D.h, D.b, c3, k3.mono (by omega), ⟨by simp only [List.length_set] <;> omega, by simp only [List.length_set] <;> omega, by simp only [List.length_set] <;> omega, big_set i4, i5⟩, ?_⟩
        unfold LS OL at *
        refine meets_go (ir := i79) (fn := Try.f79) (rx := [(.cell 2 (some 3))]) rfl rfl (by rfl) (by rfl) (by exact Nat.le_of_ble_eq_true rfl) ?_
        simp (maxSteps := 9000000) -implicitDefEqProofs -dsimp (disch := omega) only [go_sem, g79_0, g79_1, g79_2, g79_3, g79_4, g79_5, g79_6, g79_7, g79_8, g79_9, a79_9, n79_9, g79_10, i79, cuT, hx, h1m, Nat.reduceEqDiff, Nat.reduceAdd, Nat.reduceMul, Nat.reduceLeDiff, Nat.reduceBEq, Nat.reduceBNe, Int.reduceEq, ↓reduceIte, reduceCtorEq]
        refine call_go false M1 ?_
        simp (maxSteps := 9000000) -implicitDefEqProofs -dsimp (disch := omega) only [go_sem, g79_0, g79_1, g79_2, g79_3, g79_4, g79_5, g79_6, g79_7, g79_8, g79_9, a79_9, n79_9, g79_10, i79, lt_T, lt_F, le_T, le_F, eq_T, eq_F, and_F, cuT, hx, h1m, Nat.reduceEqDiff, Nat.reduceAdd, Nat.reduceMul, Nat.reduceLeDiff, Nat.reduceBEq, Nat.reduceBNe, Int.reduceEq, ↓reduceIte, reduceCtorEq]
        refine call_go false M2 ?_
        simp (maxSteps := 9000000) -implicitDefEqProofs -dsimp (disch := omega) only [go_sem, g79_0, g79_1, g79_2, g79_3, g79_4, g79_5, g79_6, g79_7, g79_8, g79_9, a79_9, n79_9, g79_10, i79, lt_T, lt_F, le_T, le_F, eq_T, eq_F, and_F, cuT, hx, h1m, co, cr, ro, Nat.reduceEqDiff, Nat.reduceAdd, Nat.reduceMul, Nat.reduceLeDiff, Nat.reduceBEq, Nat.reduceBNe, Int.reduceEq, ↓reduceIte, reduceCtorEq]
        refine call_go true MP ?_
        simp (maxSteps := 9000000) -implicitDefEqProofs -dsimp (disch := omega) only [go_sem, g79_0, g79_1, g79_2, g79_3, g79_4, g79_5, g79_6, g79_7, g79_8, g79_9, a79_9, n79_9, g79_10, i79, lt_T, lt_F, le_T, le_F, eq_T, eq_F, and_F, cuT, hx, h1m, co, cr, ro, Nat.reduceEqDiff, Nat.reduceAdd, Nat.reduceMul, Nat.reduceLeDiff, Nat.reduceBEq, Nat.reduceBNe, Int.reduceEq, ↓reduceIte, reduceCtorEq]
        refine call_go false M3 ?_
        simp (maxSteps := 9000000) -implicitDefEqProofs -dsimp (disch := omega) only [go_sem, g79_0, g79_1, g79_2, g79_3, g79_4, g79_5, g79_6, g79_7, g79_8, g79_9, a79_9, n79_9, g79_10, i79, lt_T, lt_F, le_T, le_F, eq_T, eq_F, and_F, cuT, hx, h1m, co, cr, ro, y1, y0, Nat.reduceEqDiff, Nat.reduceAdd, Nat.reduceMul, Nat.reduceLeDiff, Nat.reduceBEq, Nat.reduceBNe, Int.reduceEq, ↓reduceIte, reduceCtorEq]
        refine draw_go n79_9 a79_9 (by decide +kernel) ?_
        simp (maxSteps := 9000000) -implicitDefEqProofs -dsimp (disch := omega) only [go_sem, g79_0, g79_1, g79_2, g79_3, g79_4, g79_5, g79_6, g79_7, g79_8, g79_9, a79_9, n79_9, g79_10, i79, lt_T, lt_F, le_T, le_F, eq_T, eq_F, and_F, cuT, hx, h1m, co, cr, ro, hbt, Nat.reduceEqDiff, Nat.reduceAdd, Nat.reduceMul, Nat.reduceLeDiff, Nat.reduceBEq, Nat.reduceBNe, Int.reduceEq, ↓reduceIte, reduceCtorEq]
        exact need_i rfl (by simp (maxSteps := 9000000) -implicitDefEqProofs -dsimp (disch := omega) only [go_sem, g79_0, g79_1, g79_2, g79_3, g79_4, g79_5, g79_6, g79_7, g79_8, g79_9, a79_9, n79_9, g79_10, i79, lt_T, lt_F, le_T, le_F, eq_T, eq_F, and_F, cuT, hx, h1m, Nat.reduceEqDiff, Nat.reduceAdd, Nat.reduceMul, Nat.reduceLeDiff, Nat.reduceBEq, Nat.reduceBNe, Int.reduceEq, ↓reduceIte, reduceCtorEq])
      · refine ⟨D.p, D.h, D.b, c3, k3.mono (by omega), ⟨by omega, by omega, by omega, fun z hz => by have := i4 z hz; omega, i5⟩, ?_⟩
        unfold LS OL at *
        refine meets_go (ir := i79) (fn := Try.f79) (rx := [(.cell 2 (some 3))]) rfl rfl (by rfl) (by rfl) (by exact Nat.le_of_ble_eq_true rfl) ?_
        simp (maxSteps := 9000000) -implicitDefEqProofs -dsimp (disch := omega) only [go_sem, g79_0, g79_1, g79_2, g79_3, g79_4, g79_5, g79_6, g79_7, g79_8, g79_9, a79_9, n79_9, g79_10, i79, cuT, hx, h1m, Nat.reduceEqDiff, Nat.reduceAdd, Nat.reduceMul, Nat.reduceLeDiff, Nat.reduceBEq, Nat.reduceBNe, Int.reduceEq, ↓reduceIte, reduceCtorEq]
        refine call_go false M1 ?_
        simp (maxSteps := 9000000) -implicitDefEqProofs -dsimp (disch := omega) only [go_sem, g79_0, g79_1, g79_2, g79_3, g79_4, g79_5, g79_6, g79_7, g79_8, g79_9, a79_9, n79_9, g79_10, i79, lt_T, lt_F, le_T, le_F, eq_T, eq_F, and_F, cuT, hx, h1m, Nat.reduceEqDiff, Nat.reduceAdd, Nat.reduceMul, Nat.reduceLeDiff, Nat.reduceBEq, Nat.reduceBNe, Int.reduceEq, ↓reduceIte, reduceCtorEq]
        refine call_go false M2 ?_
        simp (maxSteps := 9000000) -implicitDefEqProofs -dsimp (disch := omega) only [go_sem, g79_0, g79_1, g79_2, g79_3, g79_4, g79_5, g79_6, g79_7, g79_8, g79_9, a79_9, n79_9, g79_10, i79, lt_T, lt_F, le_T, le_F, eq_T, eq_F, and_F, cuT, hx, h1m, co, cr, ro, Nat.reduceEqDiff, Nat.reduceAdd, Nat.reduceMul, Nat.reduceLeDiff, Nat.reduceBEq, Nat.reduceBNe, Int.reduceEq, ↓reduceIte, reduceCtorEq]
        refine call_go true MP ?_
        simp (maxSteps := 9000000) -implicitDefEqProofs -dsimp (disch := omega) only [go_sem, g79_0, g79_1, g79_2, g79_3, g79_4, g79_5, g79_6, g79_7, g79_8, g79_9, a79_9, n79_9, g79_10, i79, lt_T, lt_F, le_T, le_F, eq_T, eq_F, and_F, cuT, hx, h1m, co, cr, ro, Nat.reduceEqDiff, Nat.reduceAdd, Nat.reduceMul, Nat.reduceLeDiff, Nat.reduceBEq, Nat.reduceBNe, Int.reduceEq, ↓reduceIte, reduceCtorEq]
        refine call_go false M3 ?_
        simp (maxSteps := 9000000) -implicitDefEqProofs -dsimp (disch := omega) only [go_sem, g79_0, g79_1, g79_2, g79_3, g79_4, g79_5, g79_6, g79_7, g79_8, g79_9, a79_9, n79_9, g79_10, i79, lt_T, lt_F, le_T, le_F, eq_T, eq_F, and_F, cuT, hx, h1m, co, cr, ro, y1, y0, Nat.reduceEqDiff, Nat.reduceAdd, Nat.reduceMul, Nat.reduceLeDiff, Nat.reduceBEq, Nat.reduceBNe, Int.reduceEq, ↓reduceIte, reduceCtorEq]
  · rw [PlayRes, if_neg (fun q => h80 q.2)] at MP
    have MN2 := specNewDisk_ok 2
    rw [NewRes, if_pos (by omega)] at MN2
    have hD : ∃ D : Dk, D.p = List.replicate (Int.toNat 2) e0 ∧ D.h = List.replicate (Int.toNat 2) e0 ∧ D.b = List.replicate (Int.toNat 2) false := ⟨⟨_, _, _, true⟩, rfl, rfl, rfl⟩
    obtain ⟨D, d1, d2, d3⟩ := hD
    rw [← d1, ← d3] at MN2
    have e12 : D.h = D.p := d2.trans d1.symm
    have i1 : D.p.length = 2 := by rw [d1]; rfl
    have i2 : D.h.length = 2 := by rw [d2]; rfl
    have i3 : D.b.length = 2 := by rw [d3]; rfl
    have i4 : ∀ z ∈ D.p, z.size ≤ 28 := fun z hz => by rw [d1] at hz; rw [(List.mem_replicate.1 hz).2]; decide
    have i5 : ∀ z ∈ D.h, z.size ≤ 28 := fun z hz => by rw [d2] at hz; rw [(List.mem_replicate.1 hz).2]; decide
    have hmm : ∃ mm, mm = 1 := ⟨1, rfl⟩
    obtain ⟨mm, hmm⟩ := hmm
    clear d1 d2 d3
    have zb : ((D.b.length : Int) - 1).toNat - 0 = mm := by omega
    have tb : (D.b.take mm).length = mm := by simp; omega
    by_cases y0 : y = 0
    · refine ⟨D.p, D.p, D.b.take mm, c3, k3.mono (by omega), ⟨by omega, by omega, by simp; omega, fun z hz => by have := i4 z hz; omega, e12 ▸ i5⟩, ?_⟩
      unfold LS OL at *
      refine meets_go (ir := i79) (fn := Try.f79) (rx := [(.cell 2 (some 3))]) rfl rfl (by rfl) (by rfl) (by exact Nat.le_of_ble_eq_true rfl) ?_
      simp (maxSteps := 9000000) -implicitDefEqProofs -dsimp (disch := omega) only [go_sem, g79_0, g79_1, g79_2, g79_3, g79_4, g79_5, g79_6, g79_7, g79_8, g79_9, a79_9, n79_9, g79_10, i79, cuT, hx, h1m, Nat.reduceEqDiff, Nat.reduceAdd, Nat.reduceMul, Nat.reduceLeDiff, Nat.reduceBEq, Nat.reduceBNe, Int.reduceEq, ↓reduceIte, reduceCtorEq]
      refine call_go false M1 ?_
      simp (maxSteps := 9000000) -implicitDefEqProofs -dsimp (disch := omega) only [go_sem, g79_0, g79_1, g79_2, g79_3, g79_4, g79_5, g79_6, g79_7, g79_8, g79_9, a79_9, n79_9, g79_10, i79, lt_T, lt_F, le_T, le_F, eq_T, eq_F, and_F, cuT, hx, h1m, Nat.reduceEqDiff, Nat.reduceAdd, Nat.reduceMul, Nat.reduceLeDiff, Nat.reduceBEq, Nat.reduceBNe, Int.reduceEq, ↓reduceIte, reduceCtorEq]
      refine call_go false M2 ?_
      simp (maxSteps := 9000000) -implicitDefEqProofs -dsimp (disch := omega) only [go_sem, g79_0, g79_1, g79_2, g79_3, g79_4, g79_5, g79_6, g79_7, g79_8, g79_9, a79_9, n79_9, g79_10, i79, lt_T, lt_F, le_T, le_F, eq_T, eq_F, and_F, cuT, hx, h1m, co, cr, ro, Nat.reduceEqDiff, Nat.reduceAdd, Nat.reduceMul, Nat.reduceLeDiff, Nat.reduceBEq, Nat.reduceBNe, Int.reduceEq, ↓reduceIte, reduceCtorEq]
      refine call_go true MP ?_
      simp (maxSteps := 9000000) -implicitDefEqProofs -dsimp (disch := omega) only [go_sem, g79_0, g79_1, g79_2, g79_3, g79_4, g79_5, g79_6, g79_7, g79_8, g79_9, a79_9, n79_9, g79_10, i79, lt_T, lt_F, le_T, le_F, eq_T, eq_F, and_F, cuT, hx, h1m, co, cr, ro, Nat.reduceEqDiff, Nat.reduceAdd, Nat.reduceMul, Nat.reduceLeDiff, Nat.reduceBEq, Nat.reduceBNe, Int.reduceEq, ↓reduceIte, reduceCtorEq]
      refine call_go true MN2 ?_
      simp (maxSteps := 9000000) -implicitDefEqProofs -dsimp (disch := omega) only [go_sem, g79_0, g79_1, g79_2, g79_3, g79_4, g79_5, g79_6, g79_7, g79_8, g79_9, a79_9, n79_9, g79_10, i79, lt_T, lt_F, le_T, le_F, eq_T, eq_F, and_F, cuT, hx, h1m, co, cr, ro, Nat.reduceEqDiff, Nat.reduceAdd, Nat.reduceMul, Nat.reduceLeDiff, Nat.reduceBEq, Nat.reduceBNe, Int.reduceEq, ↓reduceIte, reduceCtorEq]
      refine call_go false M3 ?_
      simp (maxSteps := 9000000) -implicitDefEqProofs -dsimp (disch := omega) only [go_sem, g79_0, g79_1, g79_2, g79_3, g79_4, g79_5, g79_6, g79_7, g79_8, g79_9, a79_9, n79_9, g79_10, i79, lt_T, lt_F, le_T, le_F, eq_T, eq_F, and_F, cuT, hx, h1m, co, cr, ro, y0, zb, tb, cut_take, List.take_take, Nat.min_self, List.take_length, Nat.reduceEqDiff, Nat.reduceAdd, Nat.reduceMul, Nat.reduceLeDiff, Nat.reduceBEq, Nat.reduceBNe, Int.reduceEq, ↓reduceIte, reduceCtorEq]
    · by_cases y1 : y = 1
      · refine ⟨D.p.set 0 big29, D.p, D.b, c3, k3.mono (by omega), ⟨by simp only [List.length_set] <;> omega, by simp only [List.length_set] <;> omega, by simp only [List.length_set] <;> omega, big_set i4, e12 ▸ i5⟩, ?_⟩
        unfold LS OL at *
        refine meets_go (ir := i79) (fn := Try.f79) (rx := [(.cell 2 (some 3))]) rfl rfl (by rfl) (by rfl) (by exact Nat.le_of_ble_eq_true rfl) ?_
        simp (maxSteps := 9000000) -implicitDefEqProofs -dsimp (disch := omega) only [go_sem, g79_0, g79_1, g79_2, g79_3, g79_4, g79_5, g79_6, g79_7, g79_8, g79_9, a79_9, n79_9, g79_10, i79, cuT, hx, h1m, Nat.reduceEqDiff, Nat.reduceAdd, Nat.reduceMul, Nat.reduceLeDiff, Nat.reduceBEq, Nat.reduceBNe, Int.reduceEq, ↓reduceIte, reduceCtorEq]
        refine call_go false M1 ?_
        simp (maxSteps := 9000000) -implicitDefEqProofs -dsimp (disch := omega) only [go_sem, g79_0, g79_1, g79_2, g79_3, g79_4, g79_5, g79_6, g79_7, g79_8, g79_9, a79_9, n79_9, g79_10, i79, lt_T, lt_F, le_T, le_F, eq_T, eq_F, and_F, cuT, hx, h1m, Nat.reduceEqDiff, Nat.reduceAdd, Nat.reduceMul, Nat.reduceLeDiff, Nat.reduceBEq, Nat.reduceBNe, Int.reduceEq, ↓reduceIte, reduceCtorEq]
        refine call_go false M2 ?_
        simp (maxSteps := 9000000) -implicitDefEqProofs -dsimp (disch := omega) only [go_sem, g79_0, g79_1, g79_2, g79_3, g79_4, g79_5, g79_6, g79_7, g79_8, g79_9, a79_9, n79_9, g79_10, i79, lt_T, lt_F, le_T, le_F, eq_T, eq_F, and_F, cuT, hx, h1m, co, cr, ro, Nat.reduceEqDiff, Nat.reduceAdd, Nat.reduceMul, Nat.reduceLeDiff, Nat.reduceBEq, Nat.reduceBNe, Int.reduceEq, ↓reduceIte, reduceCtorEq]
        refine call_go true MP ?_
        simp (maxSteps := 9000000) -implicitDefEqProofs -dsimp (disch := omega) only [go_sem, g79_0, g79_1, g79_2, g79_3, g79_4, g79_5, g79_6, g79_7, g79_8, g79_9, a79_9, n79_9, g79_10, i79, lt_T, lt_F, le_T, le_F, eq_T, eq_F, and_F, cuT, hx, h1m, co, cr, ro, Nat.reduceEqDiff, Nat.reduceAdd, Nat.reduceMul, Nat.reduceLeDiff, Nat.reduceBEq, Nat.reduceBNe, Int.reduceEq, ↓reduceIte, reduceCtorEq]
        refine call_go true MN2 ?_
        simp (maxSteps := 9000000) -implicitDefEqProofs -dsimp (disch := omega) only [go_sem, g79_0, g79_1, g79_2, g79_3, g79_4, g79_5, g79_6, g79_7, g79_8, g79_9, a79_9, n79_9, g79_10, i79, lt_T, lt_F, le_T, le_F, eq_T, eq_F, and_F, cuT, hx, h1m, co, cr, ro, Nat.reduceEqDiff, Nat.reduceAdd, Nat.reduceMul, Nat.reduceLeDiff, Nat.reduceBEq, Nat.reduceBNe, Int.reduceEq, ↓reduceIte, reduceCtorEq]
        refine call_go false M3 ?_
        simp (maxSteps := 9000000) -implicitDefEqProofs -dsimp (disch := omega) only [go_sem, g79_0, g79_1, g79_2, g79_3, g79_4, g79_5, g79_6, g79_7, g79_8, g79_9, a79_9, n79_9, g79_10, i79, lt_T, lt_F, le_T, le_F, eq_T, eq_F, and_F, cuT, hx, h1m, co, cr, ro, y1, y0, Nat.reduceEqDiff, Nat.reduceAdd, Nat.reduceMul, Nat.reduceLeDiff, Nat.reduceBEq, Nat.reduceBNe, Int.reduceEq, ↓reduceIte, reduceCtorEq]
        refine draw_go n79_9 a79_9 (by decide +kernel) ?_
        simp (maxSteps := 9000000) -implicitDefEqProofs -dsimp (disch := omega) only [go_sem, g79_0, g79_1, g79_2, g79_3, g79_4, g79_5, g79_6, g79_7, g79_8, g79_9, a79_9, n79_9, g79_10, i79, lt_T, lt_F, le_T, le_F, eq_T, eq_F, and_F, cuT, hx, h1m, co, cr, ro, hbt, Nat.reduceEqDiff, Nat.reduceAdd, Nat.reduceMul, Nat.reduceLeDiff, Nat.reduceBEq, Nat.reduceBNe, Int.reduceEq, ↓reduceIte, reduceCtorEq]
        exact need_i rfl (by simp (maxSteps := 9000000) -implicitDefEqProofs -dsimp (disch := omega) only [go_sem, g79_0, g79_1, g79_2, g79_3, g79_4, g79_5, g79_6, g79_7, g79_8, g79_9, a79_9, n79_9, g79_10, i79, lt_T, lt_F, le_T, le_F, eq_T, eq_F, and_F, cuT, hx, h1m, Nat.reduceEqDiff, Nat.reduceAdd, Nat.reduceMul, Nat.reduceLeDiff, Nat.reduceBEq, Nat.reduceBNe, Int.reduceEq, ↓reduceIte, reduceCtorEq])
      · refine ⟨D.p, D.p, D.b, c3, k3.mono (by omega), ⟨by omega, by omega, by omega, fun z hz => by have := i4 z hz; omega, e12 ▸ i5⟩, ?_⟩
        unfold LS OL at *
        refine meets_go (ir := i79) (fn := Try.f79) (rx := [(.cell 2 (some 3))]) rfl rfl (by rfl) (by rfl) (by exact Nat.le_of_ble_eq_true rfl) ?_
        simp (maxSteps := 9000000) -implicitDefEqProofs -dsimp (disch := omega) only [go_sem, g79_0, g79_1, g79_2, g79_3, g79_4, g79_5, g79_6, g79_7, g79_8, g79_9, a79_9, n79_9, g79_10, i79, cuT, hx, h1m, Nat.reduceEqDiff, Nat.reduceAdd, Nat.reduceMul, Nat.reduceLeDiff, Nat.reduceBEq, Nat.reduceBNe, Int.reduceEq, ↓reduceIte, reduceCtorEq]
        refine call_go false M1 ?_
        simp (maxSteps := 9000000) -implicitDefEqProofs -dsimp (disch := omega) only [go_sem, g79_0, g79_1, g79_2, g79_3, g79_4, g79_5, g79_6, g79_7, g79_8, g79_9, a79_9, n79_9, g79_10, i79, lt_T, lt_F, le_T, le_F, eq_T, eq_F, and_F, cuT, hx, h1m, Nat.reduceEqDiff, Nat.reduceAdd, Nat.reduceMul, Nat.reduceLeDiff, Nat.reduceBEq, Nat.reduceBNe, Int.reduceEq, ↓reduceIte, reduceCtorEq]
        refine call_go false M2 ?_
        simp (maxSteps := 9000000) -implicitDefEqProofs -dsimp (disch := omega) only [go_sem, g79_0, g79_1, g79_2, g79_3, g79_4, g79_5, g79_6, g79_7, g79_8, g79_9, a79_9, n79_9, g79_10, i79, lt_T, lt_F, le_T, le_F, eq_T, eq_F, and_F, cuT, hx, h1m, co, cr, ro, Nat.reduceEqDiff, Nat.reduceAdd, Nat.reduceMul, Nat.reduceLeDiff, Nat.reduceBEq, Nat.reduceBNe, Int.reduceEq, ↓reduceIte, reduceCtorEq]
        refine call_go true MP ?_
        simp (maxSteps := 9000000) -implicitDefEqProofs -dsimp (disch := omega) only [go_sem, g79_0, g79_1, g79_2, g79_3, g79_4, g79_5, g79_6, g79_7, g79_8, g79_9, a79_9, n79_9, g79_10, i79, lt_T, lt_F, le_T, le_F, eq_T, eq_F, and_F, cuT, hx, h1m, co, cr, ro, Nat.reduceEqDiff, Nat.reduceAdd, Nat.reduceMul, Nat.reduceLeDiff, Nat.reduceBEq, Nat.reduceBNe, Int.reduceEq, ↓reduceIte, reduceCtorEq]
        refine call_go true MN2 ?_
        simp (maxSteps := 9000000) -implicitDefEqProofs -dsimp (disch := omega) only [go_sem, g79_0, g79_1, g79_2, g79_3, g79_4, g79_5, g79_6, g79_7, g79_8, g79_9, a79_9, n79_9, g79_10, i79, lt_T, lt_F, le_T, le_F, eq_T, eq_F, and_F, cuT, hx, h1m, co, cr, ro, Nat.reduceEqDiff, Nat.reduceAdd, Nat.reduceMul, Nat.reduceLeDiff, Nat.reduceBEq, Nat.reduceBNe, Int.reduceEq, ↓reduceIte, reduceCtorEq]
        refine call_go false M3 ?_
        simp (maxSteps := 9000000) -implicitDefEqProofs -dsimp (disch := omega) only [go_sem, g79_0, g79_1, g79_2, g79_3, g79_4, g79_5, g79_6, g79_7, g79_8, g79_9, a79_9, n79_9, g79_10, i79, lt_T, lt_F, le_T, le_F, eq_T, eq_F, and_F, cuT, hx, h1m, co, cr, ro, y1, y0, Nat.reduceEqDiff, Nat.reduceAdd, Nat.reduceMul, Nat.reduceLeDiff, Nat.reduceBEq, Nat.reduceBNe, Int.reduceEq, ↓reduceIte, reduceCtorEq]
end Go.Proofs.YtjlodcoeegpkaaaT

/- Functions of the program as contracts: what the laws of disks ask. No condition. -/
set_option maxRecDepth 100000
set_option maxHeartbeats 8000000
set_option linter.unusedSimpArgs false
set_option linter.unusedVariables false
namespace Go.Proofs.YtjlodcoeegpkaaaT
open Go Go.RowKit
def g36_0 : List Gop := [⟨none, (some 4), (.mov (.k (.one (.bool .false))))⟩]
def g36_1 : List Gop := [⟨none, (some 6), (.mov (.t 0))⟩, ⟨none, (some 7), (.len (.t 6))⟩, ⟨none, (some 8), (.mov (.t 1))⟩, ⟨none, (some 9), (.len (.t 8))⟩, ⟨none, (some 10), (.bin .neq (.t 7) (.t 9))⟩]
def g36_2 : List Gop := [⟨none, (some 4), (.mov (.k (.one (.bool .false))))⟩]
def g36_3 : List Gop := [⟨none, (some 11), (.mov (.t 0))⟩, ⟨none, (some 12), (.len (.t 11))⟩, ⟨none, (some 13), (.mov (.k (.one (.int .i64 0))))⟩]
def g36_4 : List Gop := [⟨none, (some 14), (.bin .lss (.t 13) (.t 12))⟩]
def g36_5 : List Gop := [⟨none, (some 15), (.mov (.t 13))⟩, ⟨none, (some 5), (.mov (.t 15))⟩]
def g36_6 : List Gop := [⟨none, (some 16), (.mov (.t 0))⟩, ⟨none, (some 17), (.mov (.t 5))⟩, ⟨none, (some 18), (.iaddr 1 (.t 16) (.t 17))⟩, ⟨none, (some 19), (.load none (.t 18))⟩, ⟨none, (some 20), (.mov (.t 1))⟩, ⟨none, (some 21), (.mov (.t 5))⟩, ⟨none, (some 22), (.iaddr 1 (.t 20) (.t 21))⟩, ⟨none, (some 23), (.load none (.t 22))⟩, ⟨none, (some 24), (.bin .neq (.t 19) (.t 23))⟩]
def a36_6 : List (List Nat) := [[], [], [0, 1], [0, 1, 2], [], [], [4, 5], [4, 5, 6], [0, 1, 2, 3, 4, 5, 6, 7]]
def n36_6 : Nat := 8 -- of 9
def g36_7 : List Gop := [⟨none, (some 4), (.mov (.k (.one (.bool .false))))⟩]
def g36_8 : List Gop := [⟨none, (some 25), (.bin .add (.t 13) (.k (.one (.int .i64 1))))⟩, ⟨none, (some 13), (.mov (.t 25))⟩]
def g36_9 : List Gop := [⟨none, (some 4), (.mov (.k (.one (.bool .true))))⟩]
def i36 : Ir := (.seq (.region g36_0) (.seq (.seq (.region g36_1) (.cond (.t 10) (.seq (.region g36_2) .ret) .skip)) (.seq (.seq (.region g36_3) (.block 0 (.loop (.seq (.region g36_4) (.seq (.cond (.t 14) .skip (.exit 0)) (.seq (.block 1 (.seq (.region g36_5) (.seq (.draw [[], [], [0, 1], [2], [], [], [4, 5], [6], [3, 7]] g36_6) (.cond (.t 24) (.seq (.region g36_7) .ret) .skip)))) (.region g36_8))))))) (.seq (.region g36_9) .ret))))
theorem sameInts_ok (l : List Int) (hl : l.length ≤ 9223372036854775807) : Meets Try.prog 36 [.one (.sl false 1 l.length (l.map (T.int .i64))), .one (.sl false 1 l.length (l.map (T.int .i64)))] (.w (.one (.bool true))) [.one .hole, .one .hole] := by
  refine meets_go (ir := i36) (fn := Try.f36) (rx := [(.tmp 4)]) rfl rfl (by rfl) (by rfl) (by exact Nat.le_of_ble_eq_true rfl) ?_
  simp (maxSteps := 9000000) -implicitDefEqProofs -dsimp (disch := omega) only [go_sem, g36_0, g36_1, g36_2, g36_3, g36_4, g36_5, g36_6, a36_6, n36_6, g36_7, g36_8, g36_9, i36, lt_T, lt_F, le_T, le_F, eq_T, eq_F, and_F, Nat.reduceEqDiff, Nat.reduceAdd, Nat.reduceMul, Nat.reduceLeDiff, Nat.reduceBEq, Nat.reduceBNe, Int.reduceEq, ↓reduceIte, reduceCtorEq]
  refine loop_n l.length (fun i => ⟨[(13, .w (.one (.int .i64 (i : Nat)))), (12, .w (.one (.int .i64 l.length))), (1, .w (.one (.hs 1 [] 0 1 l.length))), (0, .w (.one (.hs 0 [] 0 1 l.length)))], [(1, (.sl false 1 l.length (l.map (T.int .i64)))), (0, (.sl false 1 l.length (l.map (T.int .i64))))], [.one (.hs 0 [] 0 1 l.length), .one (.hs 1 [] 0 1 l.length)]⟩) (fun i => True) ?_ trivial ?_
  · exact (imp_sub (by simp (maxSteps := 9000000) -implicitDefEqProofs -dsimp (disch := omega) only [go_sem, g36_0, g36_1, g36_2, g36_3, g36_4, g36_5, g36_6, a36_6, n36_6, g36_7, g36_8, g36_9, i36, Nat.reduceEqDiff, Nat.reduceAdd, Nat.reduceMul, Nat.reduceLeDiff, Nat.reduceBEq, Nat.reduceBNe, Int.reduceEq, ↓reduceIte, reduceCtorEq]) (by simp (maxSteps := 9000000) -implicitDefEqProofs -dsimp (disch := omega) only [go_sem, g36_0, g36_1, g36_2, g36_3, g36_4, g36_5, g36_6, a36_6, n36_6, g36_7, g36_8, g36_9, i36, Nat.reduceEqDiff, Nat.reduceAdd, Nat.reduceMul, Nat.reduceLeDiff, Nat.reduceBEq, Nat.reduceBNe, Int.reduceEq, ↓reduceIte, reduceCtorEq]) rfl)
  · intro i hi hJ
    simp (maxSteps := 9000000) -implicitDefEqProofs -dsimp (disch := omega) only [go_sem, g36_0, g36_1, g36_2, g36_3, g36_4, g36_5, g36_6, a36_6, n36_6, g36_7, g36_8, g36_9, i36, Nat.reduceEqDiff, Nat.reduceAdd, Nat.reduceMul, Nat.reduceLeDiff, Nat.reduceBEq, Nat.reduceBNe, Int.reduceEq, ↓reduceIte, reduceCtorEq]
    refine brP_i (fun h2 => ?_) (fun h2 => ?_)
    · simp (maxSteps := 9000000) -implicitDefEqProofs -dsimp (disch := omega) only [go_sem, g36_0, g36_1, g36_2, g36_3, g36_4, g36_5, g36_6, a36_6, n36_6, g36_7, g36_8, g36_9, i36, Nat.reduceEqDiff, Nat.reduceAdd, Nat.reduceMul, Nat.reduceLeDiff, Nat.reduceBEq, Nat.reduceBNe, Int.reduceEq, ↓reduceIte, reduceCtorEq]
      refine draw_go n36_6 a36_6 (by decide +kernel) ?_
      simp (maxSteps := 9000000) -implicitDefEqProofs -dsimp (disch := omega) only [go_sem, g36_0, g36_1, g36_2, g36_3, g36_4, g36_5, g36_6, a36_6, n36_6, g36_7, g36_8, g36_9, i36, not_true_eq_false, bne_self_eq_false, Nat.reduceEqDiff, Nat.reduceAdd, Nat.reduceMul, Nat.reduceLeDiff, Nat.reduceBEq, Nat.reduceBNe, Int.reduceEq, ↓reduceIte, reduceCtorEq]
      exact ⟨by omega, (imp_sub (by simp (maxSteps := 9000000) -implicitDefEqProofs -dsimp (disch := omega) only [go_sem, g36_0, g36_1, g36_2, g36_3, g36_4, g36_5, g36_6, a36_6, n36_6, g36_7, g36_8, g36_9, i36, Nat.reduceEqDiff, Nat.reduceAdd, Nat.reduceMul, Nat.reduceLeDiff, Nat.reduceBEq, Nat.reduceBNe, Int.reduceEq, ↓reduceIte, reduceCtorEq]) (by simp (maxSteps := 9000000) -implicitDefEqProofs -dsimp (disch := omega) only [go_sem, g36_0, g36_1, g36_2, g36_3, g36_4, g36_5, g36_6, a36_6, n36_6, g36_7, g36_8, g36_9, i36, Nat.reduceEqDiff, Nat.reduceAdd, Nat.reduceMul, Nat.reduceLeDiff, Nat.reduceBEq, Nat.reduceBNe, Int.reduceEq, ↓reduceIte, reduceCtorEq]) rfl)⟩
    · simp (maxSteps := 9000000) -implicitDefEqProofs -dsimp (disch := omega) only [go_sem, g36_0, g36_1, g36_2, g36_3, g36_4, g36_5, g36_6, a36_6, n36_6, g36_7, g36_8, g36_9, i36, Nat.reduceEqDiff, Nat.reduceAdd, Nat.reduceMul, Nat.reduceLeDiff, Nat.reduceBEq, Nat.reduceBNe, Int.reduceEq, ↓reduceIte, reduceCtorEq]
def g43_0 : List Gop := [⟨none, (some 4), (.mov (.k (.one (.bool .false))))⟩]
def g43_1 : List Gop := [⟨none, (some 6), (.mov (.t 0))⟩, ⟨none, (some 7), (.len (.t 6))⟩, ⟨none, (some 8), (.mov (.t 1))⟩, ⟨none, (some 9), (.len (.t 8))⟩, ⟨none, (some 10), (.bin .neq (.t 7) (.t 9))⟩]
def g43_2 : List Gop := [⟨none, (some 4), (.mov (.k (.one (.bool .false))))⟩]
def g43_3 : List Gop := [⟨none, (some 11), (.mov (.t 0))⟩, ⟨none, (some 12), (.len (.t 11))⟩, ⟨none, (some 13), (.mov (.k (.one (.int .i64 0))))⟩]
def g43_4 : List Gop := [⟨none, (some 14), (.bin .lss (.t 13) (.t 12))⟩]
def g43_5 : List Gop := [⟨none, (some 15), (.mov (.t 13))⟩, ⟨none, (some 5), (.mov (.t 15))⟩]
def g43_6 : List Gop := [⟨none, (some 16), (.mov (.t 0))⟩, ⟨none, (some 17), (.mov (.t 5))⟩, ⟨none, (some 18), (.iaddr 1 (.t 16) (.t 17))⟩, ⟨none, (some 19), (.load none (.t 18))⟩, ⟨none, (some 20), (.mov (.t 1))⟩, ⟨none, (some 21), (.mov (.t 5))⟩, ⟨none, (some 22), (.iaddr 1 (.t 20) (.t 21))⟩, ⟨none, (some 23), (.load none (.t 22))⟩, ⟨none, (some 24), (.beq .true (.t 19) (.t 23))⟩]
def a43_6 : List (List Nat) := [[], [], [0, 1], [0, 1, 2], [], [], [4, 5], [4, 5, 6], [0, 1, 2, 3, 4, 5, 6, 7]]
def n43_6 : Nat := 8 -- of 9
def g43_7 : List Gop := [⟨none, (some 4), (.mov (.k (.one (.bool .false))))⟩]
def g43_8 : List Gop := [⟨none, (some 25), (.bin .add (.t 13) (.k (.one (.int .i64 1))))⟩, ⟨none, (some 13), (.mov (.t 25))⟩]
def g43_9 : List Gop := [⟨none, (some 4), (.mov (.k (.one (.bool .true))))⟩]
def i43 : Ir := (.seq (.region g43_0) (.seq (.seq (.region g43_1) (.cond (.t 10) (.seq (.region g43_2) .ret) .skip)) (.seq (.seq (.region g43_3) (.block 0 (.loop (.seq (.region g43_4) (.seq (.cond (.t 14) .skip (.exit 0)) (.seq (.block 1 (.seq (.region g43_5) (.seq (.draw [[], [], [0, 1], [2], [], [], [4, 5], [6], [3, 7]] g43_6) (.cond (.t 24) (.seq (.region g43_7) .ret) .skip)))) (.region g43_8))))))) (.seq (.region g43_9) .ret))))
theorem sameBools_ok (l : List Bool) (hl : l.length ≤ 9223372036854775807) : Meets Try.prog 43 [.one (.sl false 1 l.length (l.map T.bool)), .one (.sl false 1 l.length (l.map T.bool))] (.w (.one (.bool true))) [.one .hole, .one .hole] := by
  refine meets_go (ir := i43) (fn := Try.f43) (rx := [(.tmp 4)]) rfl rfl (by rfl) (by rfl) (by exact Nat.le_of_ble_eq_true rfl) ?_
  simp (maxSteps := 9000000) -implicitDefEqProofs -dsimp (disch := omega) only [go_sem, g43_0, g43_1, g43_2, g43_3, g43_4, g43_5, g43_6, a43_6, n43_6, g43_7, g43_8, g43_9, i43, lt_T, lt_F, le_T, le_F, eq_T, eq_F, and_F, Nat.reduceEqDiff, Nat.reduceAdd, Nat.reduceMul, Nat.reduceLeDiff, Nat.reduceBEq, Nat.reduceBNe, Int.reduceEq, ↓reduceIte, reduceCtorEq]
  refine loop_n l.length (fun i => ⟨[(13, .w (.one (.int .i64 (i : Nat)))), (12, .w (.one (.int .i64 l.length))), (1, .w (.one (.hs 1 [] 0 1 l.length))), (0, .w (.one (.hs 0 [] 0 1 l.length)))], [(1, (.sl false 1 l.length (l.map T.bool))), (0, (.sl false 1 l.length (l.map T.bool)))], [.one (.hs 0 [] 0 1 l.length), .one (.hs 1 [] 0 1 l.length)]⟩) (fun i => True) ?_ trivial ?_
  · exact (imp_sub (by simp (maxSteps := 9000000) -implicitDefEqProofs -dsimp (disch := omega) only [go_sem, g43_0, g43_1, g43_2, g43_3, g43_4, g43_5, g43_6, a43_6, n43_6, g43_7, g43_8, g43_9, i43, Nat.reduceEqDiff, Nat.reduceAdd, Nat.reduceMul, Nat.reduceLeDiff, Nat.reduceBEq, Nat.reduceBNe, Int.reduceEq, ↓reduceIte, reduceCtorEq]) (by simp (maxSteps := 9000000) -implicitDefEqProofs -dsimp (disch := omega) only [go_sem, g43_0, g43_1, g43_2, g43_3, g43_4, g43_5, g43_6, a43_6, n43_6, g43_7, g43_8, g43_9, i43, Nat.reduceEqDiff, Nat.reduceAdd, Nat.reduceMul, Nat.reduceLeDiff, Nat.reduceBEq, Nat.reduceBNe, Int.reduceEq, ↓reduceIte, reduceCtorEq]) rfl)
  · intro i hi hJ
    simp (maxSteps := 9000000) -implicitDefEqProofs -dsimp (disch := omega) only [go_sem, g43_0, g43_1, g43_2, g43_3, g43_4, g43_5, g43_6, a43_6, n43_6, g43_7, g43_8, g43_9, i43, Nat.reduceEqDiff, Nat.reduceAdd, Nat.reduceMul, Nat.reduceLeDiff, Nat.reduceBEq, Nat.reduceBNe, Int.reduceEq, ↓reduceIte, reduceCtorEq]
    refine brP_i (fun h2 => ?_) (fun h2 => ?_)
    · simp (maxSteps := 9000000) -implicitDefEqProofs -dsimp (disch := omega) only [go_sem, g43_0, g43_1, g43_2, g43_3, g43_4, g43_5, g43_6, a43_6, n43_6, g43_7, g43_8, g43_9, i43, Nat.reduceEqDiff, Nat.reduceAdd, Nat.reduceMul, Nat.reduceLeDiff, Nat.reduceBEq, Nat.reduceBNe, Int.reduceEq, ↓reduceIte, reduceCtorEq]
      refine draw_go n43_6 a43_6 (by decide +kernel) ?_
      simp (maxSteps := 9000000) -implicitDefEqProofs -dsimp (disch := omega) only [go_sem, g43_0, g43_1, g43_2, g43_3, g43_4, g43_5, g43_6, a43_6, n43_6, g43_7, g43_8, g43_9, i43, not_true_eq_false, bne_self_eq_false, Nat.reduceEqDiff, Nat.reduceAdd, Nat.reduceMul, Nat.reduceLeDiff, Nat.reduceBEq, Nat.reduceBNe, Int.reduceEq, ↓reduceIte, reduceCtorEq]
      exact ⟨by omega, (imp_sub (by simp (maxSteps := 9000000) -implicitDefEqProofs -dsimp (disch := omega) only [go_sem, g43_0, g43_1, g43_2, g43_3, g43_4, g43_5, g43_6, a43_6, n43_6, g43_7, g43_8, g43_9, i43, Nat.reduceEqDiff, Nat.reduceAdd, Nat.reduceMul, Nat.reduceLeDiff, Nat.reduceBEq, Nat.reduceBNe, Int.reduceEq, ↓reduceIte, reduceCtorEq]) (by simp (maxSteps := 9000000) -implicitDefEqProofs -dsimp (disch := omega) only [go_sem, g43_0, g43_1, g43_2, g43_3, g43_4, g43_5, g43_6, a43_6, n43_6, g43_7, g43_8, g43_9, i43, Nat.reduceEqDiff, Nat.reduceAdd, Nat.reduceMul, Nat.reduceLeDiff, Nat.reduceBEq, Nat.reduceBNe, Int.reduceEq, ↓reduceIte, reduceCtorEq]) rfl)⟩
    · simp (maxSteps := 9000000) -implicitDefEqProofs -dsimp (disch := omega) only [go_sem, g43_0, g43_1, g43_2, g43_3, g43_4, g43_5, g43_6, a43_6, n43_6, g43_7, g43_8, g43_9, i43, Nat.reduceEqDiff, Nat.reduceAdd, Nat.reduceMul, Nat.reduceLeDiff, Nat.reduceBEq, Nat.reduceBNe, Int.reduceEq, ↓reduceIte, reduceCtorEq]
def g82_0 : List Gop := [⟨none, (some 4), (.mov (.k (.one (.bool .false))))⟩]
def g82_1 : List Gop := [⟨none, (some 6), (.mov (.t 0))⟩, ⟨none, (some 7), (.len (.t 6))⟩, ⟨none, (some 8), (.mov (.t 1))⟩, ⟨none, (some 9), (.len (.t 8))⟩, ⟨none, (some 10), (.bin .neq (.t 7) (.t 9))⟩]
def g82_2 : List Gop := [⟨none, (some 4), (.mov (.k (.one (.bool .false))))⟩]
def g82_3 : List Gop := [⟨none, (some 11), (.mov (.t 0))⟩, ⟨none, (some 12), (.len (.t 11))⟩, ⟨none, (some 13), (.mov (.k (.one (.int .i64 0))))⟩]
def g82_4 : List Gop := [⟨none, (some 14), (.bin .lss (.t 13) (.t 12))⟩]
def g82_5 : List Gop := [⟨none, (some 15), (.mov (.t 13))⟩, ⟨none, (some 5), (.mov (.t 15))⟩]
def g82_6 : List Gop := [⟨none, (some 16), (.mov (.t 0))⟩, ⟨none, (some 17), (.mov (.t 5))⟩, ⟨none, (some 18), (.iaddr 1 (.t 16) (.t 17))⟩, ⟨none, (some 19), (.load none (.t 18))⟩, ⟨none, (some 20), (.mov (.t 1))⟩, ⟨none, (some 21), (.mov (.t 5))⟩, ⟨none, (some 22), (.iaddr 1 (.t 20) (.t 21))⟩, ⟨none, (some 23), (.load none (.t 22))⟩, ⟨none, (some 24), (.bin .neq (.t 19) (.t 23))⟩]
def a82_6 : List (List Nat) := [[], [], [0, 1], [0, 1, 2], [], [], [4, 5], [4, 5, 6], [0, 1, 2, 3, 4, 5, 6, 7]]
def n82_6 : Nat := 8 -- of 9
def g82_7 : List Gop := [⟨none, (some 4), (.mov (.k (.one (.bool .false))))⟩]
def g82_8 : List Gop := [⟨none, (some 25), (.bin .add (.t 13) (.k (.one (.int .i64 1))))⟩, ⟨none, (some 13), (.mov (.t 25))⟩]
def g82_9 : List Gop := [⟨none, (some 4), (.mov (.k (.one (.bool .true))))⟩]
def i82 : Ir := (.seq (.region g82_0) (.seq (.seq (.region g82_1) (.cond (.t 10) (.seq (.region g82_2) .ret) .skip)) (.seq (.seq (.region g82_3) (.block 0 (.loop (.seq (.region g82_4) (.seq (.cond (.t 14) .skip (.exit 0)) (.seq (.block 1 (.seq (.region g82_5) (.seq (.draw [[], [], [0, 1], [2], [], [], [4, 5], [6], [3, 7]] g82_6) (.cond (.t 24) (.seq (.region g82_7) .ret) .skip)))) (.region g82_8))))))) (.seq (.region g82_9) .ret))))
theorem sameTexts_ok (l : List ByteArray) (hl : l.length ≤ 9223372036854775807) : Meets Try.prog 82 [.one (.sl false 1 l.length (l.map T.str)), .one (.sl false 1 l.length (l.map T.str))] (.w (.one (.bool true))) [.one .hole, .one .hole] := by
  refine meets_go (ir := i82) (fn := Try.f82) (rx := [(.tmp 4)]) rfl rfl (by rfl) (by rfl) (by exact Nat.le_of_ble_eq_true rfl) ?_
  simp (maxSteps := 9000000) -implicitDefEqProofs -dsimp (disch := omega) only [go_sem, g82_0, g82_1, g82_2, g82_3, g82_4, g82_5, g82_6, a82_6, n82_6, g82_7, g82_8, g82_9, i82, lt_T, lt_F, le_T, le_F, eq_T, eq_F, and_F, Nat.reduceEqDiff, Nat.reduceAdd, Nat.reduceMul, Nat.reduceLeDiff, Nat.reduceBEq, Nat.reduceBNe, Int.reduceEq, ↓reduceIte, reduceCtorEq]
  refine loop_n l.length (fun i => ⟨[(13, .w (.one (.int .i64 (i : Nat)))), (12, .w (.one (.int .i64 l.length))), (1, .w (.one (.hs 1 [] 0 1 l.length))), (0, .w (.one (.hs 0 [] 0 1 l.length)))], [(1, (.sl false 1 l.length (l.map T.str))), (0, (.sl false 1 l.length (l.map T.str)))], [.one (.hs 0 [] 0 1 l.length), .one (.hs 1 [] 0 1 l.length)]⟩) (fun i => True) ?_ trivial ?_
  · exact (imp_sub (by simp (maxSteps := 9000000) -implicitDefEqProofs -dsimp (disch := omega) only [go_sem, g82_0, g82_1, g82_2, g82_3, g82_4, g82_5, g82_6, a82_6, n82_6, g82_7, g82_8, g82_9, i82, Nat.reduceEqDiff, Nat.reduceAdd, Nat.reduceMul, Nat.reduceLeDiff, Nat.reduceBEq, Nat.reduceBNe, Int.reduceEq, ↓reduceIte, reduceCtorEq]) (by simp (maxSteps := 9000000) -implicitDefEqProofs -dsimp (disch := omega) only [go_sem, g82_0, g82_1, g82_2, g82_3, g82_4, g82_5, g82_6, a82_6, n82_6, g82_7, g82_8, g82_9, i82, Nat.reduceEqDiff, Nat.reduceAdd, Nat.reduceMul, Nat.reduceLeDiff, Nat.reduceBEq, Nat.reduceBNe, Int.reduceEq, ↓reduceIte, reduceCtorEq]) rfl)
  · intro i hi hJ
    simp (maxSteps := 9000000) -implicitDefEqProofs -dsimp (disch := omega) only [go_sem, g82_0, g82_1, g82_2, g82_3, g82_4, g82_5, g82_6, a82_6, n82_6, g82_7, g82_8, g82_9, i82, Nat.reduceEqDiff, Nat.reduceAdd, Nat.reduceMul, Nat.reduceLeDiff, Nat.reduceBEq, Nat.reduceBNe, Int.reduceEq, ↓reduceIte, reduceCtorEq]
    refine brP_i (fun h2 => ?_) (fun h2 => ?_)
    · simp (maxSteps := 9000000) -implicitDefEqProofs -dsimp (disch := omega) only [go_sem, g82_0, g82_1, g82_2, g82_3, g82_4, g82_5, g82_6, a82_6, n82_6, g82_7, g82_8, g82_9, i82, Nat.reduceEqDiff, Nat.reduceAdd, Nat.reduceMul, Nat.reduceLeDiff, Nat.reduceBEq, Nat.reduceBNe, Int.reduceEq, ↓reduceIte, reduceCtorEq]
      refine draw_go n82_6 a82_6 (by decide +kernel) ?_
      simp (maxSteps := 9000000) -implicitDefEqProofs -dsimp (disch := omega) only [go_sem, g82_0, g82_1, g82_2, g82_3, g82_4, g82_5, g82_6, a82_6, n82_6, g82_7, g82_8, g82_9, i82, not_true_eq_false, bne_self_eq_false, Nat.reduceEqDiff, Nat.reduceAdd, Nat.reduceMul, Nat.reduceLeDiff, Nat.reduceBEq, Nat.reduceBNe, Int.reduceEq, ↓reduceIte, reduceCtorEq]
      exact ⟨by omega, (imp_sub (by simp (maxSteps := 9000000) -implicitDefEqProofs -dsimp (disch := omega) only [go_sem, g82_0, g82_1, g82_2, g82_3, g82_4, g82_5, g82_6, a82_6, n82_6, g82_7, g82_8, g82_9, i82, Nat.reduceEqDiff, Nat.reduceAdd, Nat.reduceMul, Nat.reduceLeDiff, Nat.reduceBEq, Nat.reduceBNe, Int.reduceEq, ↓reduceIte, reduceCtorEq]) (by simp (maxSteps := 9000000) -implicitDefEqProofs -dsimp (disch := omega) only [go_sem, g82_0, g82_1, g82_2, g82_3, g82_4, g82_5, g82_6, a82_6, n82_6, g82_7, g82_8, g82_9, i82, Nat.reduceEqDiff, Nat.reduceAdd, Nat.reduceMul, Nat.reduceLeDiff, Nat.reduceBEq, Nat.reduceBNe, Int.reduceEq, ↓reduceIte, reduceCtorEq]) rfl)⟩
    · simp (maxSteps := 9000000) -implicitDefEqProofs -dsimp (disch := omega) only [go_sem, g82_0, g82_1, g82_2, g82_3, g82_4, g82_5, g82_6, a82_6, n82_6, g82_7, g82_8, g82_9, i82, Nat.reduceEqDiff, Nat.reduceAdd, Nat.reduceMul, Nat.reduceLeDiff, Nat.reduceBEq, Nat.reduceBNe, Int.reduceEq, ↓reduceIte, reduceCtorEq]
def g35_0 : List Gop := [⟨none, (some 2), (.box (.t 0))⟩, ⟨none, (some 3), (.box (.t 1))⟩, ⟨none, (some 4), (.mov (.k (.one (.bool .false))))⟩]
def g35_1 : List Gop := [⟨none, (some 5), (.faddr (.t 2) 0)⟩, ⟨none, (some 6), (.load none (.t 5))⟩, ⟨none, (some 7), (.faddr (.t 3) 0)⟩, ⟨none, (some 8), (.load none (.t 7))⟩, ⟨none, (some 9), (.call 82 [(.t 6), (.t 8)])⟩, ⟨none, (some 10), (.mov (.t 9))⟩, ⟨(some (10, .true)), (some 11), (.faddr (.t 2) 1)⟩, ⟨(some (10, .true)), (some 12), (.load none (.t 11))⟩, ⟨(some (10, .true)), (some 13), (.faddr (.t 3) 1)⟩, ⟨(some (10, .true)), (some 14), (.load none (.t 13))⟩, ⟨(some (10, .true)), (some 15), (.call 82 [(.t 12), (.t 14)])⟩, ⟨none, (some 16), (.pick (.t 10) (.t 15) (.k (.one (.bool .false))))⟩, ⟨none, (some 17), (.mov (.t 16))⟩, ⟨(some (17, .true)), (some 18), (.faddr (.t 2) 2)⟩, ⟨(some (17, .true)), (some 19), (.load none (.t 18))⟩, ⟨(some (17, .true)), (some 20), (.faddr (.t 3) 2)⟩, ⟨(some (17, .true)), (some 21), (.load none (.t 20))⟩, ⟨(some (17, .true)), (some 22), (.call 43 [(.t 19), (.t 21)])⟩, ⟨none, (some 23), (.pick (.t 17) (.t 22) (.k (.one (.bool .false))))⟩, ⟨none, (some 4), (.mov (.t 23))⟩]
def i35 : Ir := (.seq (.region g35_0) (.seq (.region g35_1) .ret))
theorem sameDisks_ok (p h : List ByteArray) (b : List Bool) (hp : p.length ≤ 9223372036854775807) (hh : h.length ≤ 9223372036854775807) (hb : b.length ≤ 9223372036854775807) : Meets Try.prog 35 [.agg [(.sl false 1 p.length (p.map T.str)), (.sl false 1 h.length (h.map T.str)), (.sl false 1 b.length (b.map T.bool))], .agg [(.sl false 1 p.length (p.map T.str)), (.sl false 1 h.length (h.map T.str)), (.sl false 1 b.length (b.map T.bool))]] (.w (.one (.bool true))) [.agg [.hole, .hole, .hole], .agg [.hole, .hole, .hole]] := by
  refine meets_go (ir := i35) (fn := Try.f35) (rx := [(.tmp 4)]) rfl rfl (by rfl) (by rfl) (by exact Nat.le_of_ble_eq_true rfl) ?_
  simp (maxSteps := 9000000) -implicitDefEqProofs -dsimp (disch := omega) only [go_sem, g35_0, g35_1, i35, Nat.reduceEqDiff, Nat.reduceAdd, Nat.reduceMul, Nat.reduceLeDiff, Nat.reduceBEq, Nat.reduceBNe, Int.reduceEq, ↓reduceIte, reduceCtorEq]
  refine call_go true (sameTexts_ok p hp) ?_
  simp (maxSteps := 9000000) -implicitDefEqProofs -dsimp (disch := omega) only [go_sem, g35_0, g35_1, i35, Nat.reduceEqDiff, Nat.reduceAdd, Nat.reduceMul, Nat.reduceLeDiff, Nat.reduceBEq, Nat.reduceBNe, Int.reduceEq, ↓reduceIte, reduceCtorEq]
  refine call_go true (sameTexts_ok h hh) ?_
  simp (maxSteps := 9000000) -implicitDefEqProofs -dsimp (disch := omega) only [go_sem, g35_0, g35_1, i35, Nat.reduceEqDiff, Nat.reduceAdd, Nat.reduceMul, Nat.reduceLeDiff, Nat.reduceBEq, Nat.reduceBNe, Int.reduceEq, ↓reduceIte, reduceCtorEq]
  refine call_go true (sameBools_ok b hb) ?_
  simp (maxSteps := 9000000) -implicitDefEqProofs -dsimp (disch := omega) only [go_sem, g35_0, g35_1, i35, Nat.reduceEqDiff, Nat.reduceAdd, Nat.reduceMul, Nat.reduceLeDiff, Nat.reduceBEq, Nat.reduceBNe, Int.reduceEq, ↓reduceIte, reduceCtorEq]
def g37_0 : List Gop := [⟨none, (some 4), (.mov (.k (.one (.bool .false))))⟩]
def g37_1 : List Gop := [⟨none, (some 7), (.mov (.t 0))⟩, ⟨none, (some 8), (.len (.t 7))⟩, ⟨none, (some 9), (.mov (.k (.one (.int .i64 0))))⟩]
def g37_2 : List Gop := [⟨none, (some 10), (.bin .lss (.t 9) (.t 8))⟩]
def g37_3 : List Gop := [⟨none, (some 11), (.iaddr 1 (.t 7) (.t 9))⟩, ⟨none, (some 12), (.load none (.t 11))⟩, ⟨none, (some 6), (.mov (.t 12))⟩]
def g37_4 : List Gop := [⟨none, (some 13), (.mov (.t 6))⟩, ⟨none, (some 14), (.mov (.t 1))⟩, ⟨none, (some 15), (.bin .eql (.t 13) (.t 14))⟩]
def g37_5 : List Gop := [⟨none, (some 4), (.mov (.k (.one (.bool .true))))⟩]
def g37_6 : List Gop := [⟨none, (some 16), (.bin .add (.t 9) (.k (.one (.int .i64 1))))⟩, ⟨none, (some 9), (.mov (.t 16))⟩]
def g37_7 : List Gop := [⟨none, (some 4), (.mov (.k (.one (.bool .false))))⟩]
def i37 : Ir := (.seq (.region g37_0) (.seq (.seq (.region g37_1) (.block 0 (.loop (.seq (.region g37_2) (.seq (.cond (.t 10) .skip (.exit 0)) (.seq (.block 1 (.seq (.region g37_3) (.seq (.region g37_4) (.cond (.t 15) (.seq (.region g37_5) .ret) .skip)))) (.region g37_6))))))) (.seq (.region g37_7) .ret)))
theorem lawHas_ok (l : List Int) (x : Int) (hl : l.length ≤ 9223372036854775807) : Meets Try.prog 37 [.one (.sl false 1 l.length (l.map (T.int .i64))), .one (.int .i64 x)] (.w (.one (.bool (decide (x ∈ l))))) [.one .hole, .one .hole] := by
  refine meets_go (ir := i37) (fn := Try.f37) (rx := [(.tmp 4)]) rfl rfl (by rfl) (by rfl) (by exact Nat.le_of_ble_eq_true rfl) ?_
  simp (maxSteps := 9000000) -implicitDefEqProofs -dsimp (disch := omega) only [go_sem, g37_0, g37_1, g37_2, g37_3, g37_4, g37_5, g37_6, g37_7, i37, Nat.reduceEqDiff, Nat.reduceAdd, Nat.reduceMul, Nat.reduceLeDiff, Nat.reduceBEq, Nat.reduceBNe, Int.reduceEq, ↓reduceIte, reduceCtorEq]
  refine loop_n l.length (fun i => ⟨[(9, .w (.one (.int .i64 (i : Nat)))), (8, .w (.one (.int .i64 l.length))), (7, .w (.one (.hs 0 [] 0 1 l.length))), (4, .w (.one (.bool false))), (1, .w (.one (.int .i64 x)))], [(0, (.sl false 1 l.length (l.map (T.int .i64))))], [.one (.hs 0 [] 0 1 l.length), .one (.int .i64 x)]⟩) (fun i => ∀ j, j < i → l.getD j 0 ≠ x) ?_ ?_ ?_
  · exact (imp_sub (by simp (maxSteps := 9000000) -implicitDefEqProofs -dsimp (disch := omega) only [go_sem, g37_0, g37_1, g37_2, g37_3, g37_4, g37_5, g37_6, g37_7, i37, Nat.reduceEqDiff, Nat.reduceAdd, Nat.reduceMul, Nat.reduceLeDiff, Nat.reduceBEq, Nat.reduceBNe, Int.reduceEq, ↓reduceIte, reduceCtorEq]) (by simp (maxSteps := 9000000) -implicitDefEqProofs -dsimp (disch := omega) only [go_sem, g37_0, g37_1, g37_2, g37_3, g37_4, g37_5, g37_6, g37_7, i37, Nat.reduceEqDiff, Nat.reduceAdd, Nat.reduceMul, Nat.reduceLeDiff, Nat.reduceBEq, Nat.reduceBNe, Int.reduceEq, ↓reduceIte, reduceCtorEq]) rfl)
  · intro j hj; omega
  · intro i hi hJ
    simp (maxSteps := 9000000) -implicitDefEqProofs -dsimp (disch := omega) only [go_sem, g37_0, g37_1, g37_2, g37_3, g37_4, g37_5, g37_6, g37_7, i37, Nat.reduceEqDiff, Nat.reduceAdd, Nat.reduceMul, Nat.reduceLeDiff, Nat.reduceBEq, Nat.reduceBNe, Int.reduceEq, ↓reduceIte, reduceCtorEq]
    refine brP_i (fun h => ?_) (fun h => ?_)
    · simp (maxSteps := 9000000) -implicitDefEqProofs -dsimp (disch := omega) only [go_sem, g37_0, g37_1, g37_2, g37_3, g37_4, g37_5, g37_6, g37_7, i37, Nat.reduceEqDiff, Nat.reduceAdd, Nat.reduceMul, Nat.reduceLeDiff, Nat.reduceBEq, Nat.reduceBNe, Int.reduceEq, ↓reduceIte, reduceCtorEq]
      refine brP_i (fun h2 => ?_) (fun h2 => ?_)
      · simp (maxSteps := 9000000) -implicitDefEqProofs -dsimp (disch := omega) only [go_sem, g37_0, g37_1, g37_2, g37_3, g37_4, g37_5, g37_6, g37_7, i37, Nat.reduceEqDiff, Nat.reduceAdd, Nat.reduceMul, Nat.reduceLeDiff, Nat.reduceBEq, Nat.reduceBNe, Int.reduceEq, ↓reduceIte, reduceCtorEq]
        exact need_i (res_T (by rw [← h2]; exact getD_mem (by omega))) (by simp (maxSteps := 9000000) -implicitDefEqProofs -dsimp (disch := omega) only [go_sem, g37_0, g37_1, g37_2, g37_3, g37_4, g37_5, g37_6, g37_7, i37, Nat.reduceEqDiff, Nat.reduceAdd, Nat.reduceMul, Nat.reduceLeDiff, Nat.reduceBEq, Nat.reduceBNe, Int.reduceEq, ↓reduceIte, reduceCtorEq])
      · simp (maxSteps := 9000000) -implicitDefEqProofs -dsimp (disch := omega) only [go_sem, g37_0, g37_1, g37_2, g37_3, g37_4, g37_5, g37_6, g37_7, i37, Nat.reduceEqDiff, Nat.reduceAdd, Nat.reduceMul, Nat.reduceLeDiff, Nat.reduceBEq, Nat.reduceBNe, Int.reduceEq, ↓reduceIte, reduceCtorEq]
        refine ⟨⟨by omega, fun j hj => ?_⟩, (imp_sub (by simp (maxSteps := 9000000) -implicitDefEqProofs -dsimp (disch := omega) only [go_sem, g37_0, g37_1, g37_2, g37_3, g37_4, g37_5, g37_6, g37_7, i37, Nat.reduceEqDiff, Nat.reduceAdd, Nat.reduceMul, Nat.reduceLeDiff, Nat.reduceBEq, Nat.reduceBNe, Int.reduceEq, ↓reduceIte, reduceCtorEq]) (by simp (maxSteps := 9000000) -implicitDefEqProofs -dsimp (disch := omega) only [go_sem, g37_0, g37_1, g37_2, g37_3, g37_4, g37_5, g37_6, g37_7, i37, Nat.reduceEqDiff, Nat.reduceAdd, Nat.reduceMul, Nat.reduceLeDiff, Nat.reduceBEq, Nat.reduceBNe, Int.reduceEq, ↓reduceIte, reduceCtorEq]) rfl)⟩
        by_cases e : j = i
        · subst e; exact h2
        · exact hJ j (by omega)
    · simp (maxSteps := 9000000) -implicitDefEqProofs -dsimp (disch := omega) only [go_sem, g37_0, g37_1, g37_2, g37_3, g37_4, g37_5, g37_6, g37_7, i37, Nat.reduceEqDiff, Nat.reduceAdd, Nat.reduceMul, Nat.reduceLeDiff, Nat.reduceBEq, Nat.reduceBNe, Int.reduceEq, ↓reduceIte, reduceCtorEq]
      exact need_i (res_F (fun hm => by obtain ⟨j, hj, e⟩ := mem_getD hm; exact hJ j (by omega) e)) (by simp (maxSteps := 9000000) -implicitDefEqProofs -dsimp (disch := omega) only [go_sem, g37_0, g37_1, g37_2, g37_3, g37_4, g37_5, g37_6, g37_7, i37, Nat.reduceEqDiff, Nat.reduceAdd, Nat.reduceMul, Nat.reduceLeDiff, Nat.reduceBEq, Nat.reduceBNe, Int.reduceEq, ↓reduceIte, reduceCtorEq])
/-- what is held in a disk -/
noncomputable def HeldRes (p h : List ByteArray) (b : List Bool) : TV := open Classical in if GoodD p h b then .tup [.one (.sl true 1 (heldN h h.length).length ((heldN h h.length).map (T.int .i64))), .one (.bool true)] else .tup [.one (.sl true 0 0 []), .one (.bool false)]
/-- a disk behind a crash -/
noncomputable def CrashRes (p h : List ByteArray) (b : List Bool) (kept : List Int) : TV := open Classical in if GoodD p h b ∧ KeptOk h kept then .tup [.agg [(.sl true 1 (crashP p h kept).length ((crashP p h kept).map T.str)), (.sl true 1 (crashH h).length ((crashH h).map T.str)), (.sl true 1 b.length (b.map T.bool))], .one (.bool true)] else .tup [.agg [.sl true 0 0 [], .sl true 0 0 [], .sl true 0 0 []], .one (.bool false)]
noncomputable def readF (p h : List ByteArray) (b : List Bool) (x : Int) : ByteArray × Bool := open Classical in if GoodD p h b ∧ (0 ≤ x ∧ x < p.length) ∧ b.getD x.toNat default = false then (if h.getD x.toNat default = e0 then p.getD x.toNat default else h.getD x.toNat default, true) else (e0, false)
def g26_0 : List Gop := [⟨none, (some 1), (.box (.t 0))⟩, ⟨none, (some 2), (.mov (.k (.one .nil)))⟩, ⟨none, (some 3), (.mov (.k (.one (.bool .false))))⟩]
def g26_1 : List Gop := [⟨none, (some 4), (.load (some 3) (.t 1))⟩, ⟨none, (some 5), (.call 19 [(.t 4)])⟩, ⟨none, (some 6), (.un .not (.t 5))⟩]
def g26_2 : List Gop := [⟨none, (some 2), (.mov (.k (.one .nil)))⟩, ⟨none, (some 3), (.mov (.k (.one (.bool .false))))⟩]
def g26_3 : List Gop := [⟨none, (some 7), (.load (some 3) (.t 1))⟩, ⟨none, (some 8), (.call 72 [(.t 7)])⟩, ⟨none, (some 2), (.mov (.t 8))⟩, ⟨none, (some 3), (.mov (.k (.one (.bool .true))))⟩]
def i26 : Ir := (.seq (.region g26_0) (.seq (.seq (.region g26_1) (.cond (.t 6) (.seq (.region g26_2) .ret) .skip)) (.seq (.region g26_3) .ret)))
theorem specHeldIn_ok (p h : List ByteArray) (b : List Bool) (hp : p.length ≤ 1048576) (hh : h.length ≤ 1048576) (hb : b.length ≤ 1048576) : Meets Try.prog 26 [.agg [(.sl false 1 p.length (p.map T.str)), (.sl false 1 h.length (h.map T.str)), (.sl false 1 b.length (b.map T.bool))]] (HeldRes p h b) [.agg [.hole, .hole, .hole]] := by
  by_cases hg : GoodD p h b
  · rw [HeldRes, if_pos hg]
    refine meets_go (ir := i26) (fn := Try.f26) (rx := [(.tmp 2), (.tmp 3)]) rfl rfl (by rfl) (by rfl) (by exact Nat.le_of_ble_eq_true rfl) ?_
    simp (maxSteps := 9000000) -implicitDefEqProofs -dsimp (disch := omega) only [go_sem, g26_0, g26_1, g26_2, g26_3, i26, Nat.reduceEqDiff, Nat.reduceAdd, Nat.reduceMul, Nat.reduceLeDiff, Nat.reduceBEq, Nat.reduceBNe, Int.reduceEq, ↓reduceIte, reduceCtorEq]
    refine call_go true (specGoodDisk_ok p h b (by omega) (by omega) (by omega)) ?_
    simp (maxSteps := 9000000) -implicitDefEqProofs -dsimp (disch := omega) only [go_sem, g26_0, g26_1, g26_2, g26_3, i26, hg, Nat.reduceEqDiff, Nat.reduceAdd, Nat.reduceMul, Nat.reduceLeDiff, Nat.reduceBEq, Nat.reduceBNe, Int.reduceEq, ↓reduceIte, reduceCtorEq]
    refine call_go true (l7Held_ok p h b hh) ?_
    simp (maxSteps := 9000000) -implicitDefEqProofs -dsimp (disch := omega) only [go_sem, g26_0, g26_1, g26_2, g26_3, i26, Nat.reduceEqDiff, Nat.reduceAdd, Nat.reduceMul, Nat.reduceLeDiff, Nat.reduceBEq, Nat.reduceBNe, Int.reduceEq, ↓reduceIte, reduceCtorEq]
  · rw [HeldRes, if_neg hg]
    refine meets_go (ir := i26) (fn := Try.f26) (rx := [(.tmp 2), (.tmp 3)]) rfl rfl (by rfl) (by rfl) (by exact Nat.le_of_ble_eq_true rfl) ?_
    simp (maxSteps := 9000000) -implicitDefEqProofs -dsimp (disch := omega) only [go_sem, g26_0, g26_1, g26_2, g26_3, i26, Nat.reduceEqDiff, Nat.reduceAdd, Nat.reduceMul, Nat.reduceLeDiff, Nat.reduceBEq, Nat.reduceBNe, Int.reduceEq, ↓reduceIte, reduceCtorEq]
    refine call_go true (specGoodDisk_ok p h b (by omega) (by omega) (by omega)) ?_
    simp (maxSteps := 9000000) -implicitDefEqProofs -dsimp (disch := omega) only [go_sem, g26_0, g26_1, g26_2, g26_3, i26, hg, Nat.reduceEqDiff, Nat.reduceAdd, Nat.reduceMul, Nat.reduceLeDiff, Nat.reduceBEq, Nat.reduceBNe, Int.reduceEq, ↓reduceIte, reduceCtorEq]
def g31_0 : List Gop := [⟨none, (some 2), (.box (.t 0))⟩, ⟨none, (some 4), (.alloc [.nil, .nil, .nil])⟩, ⟨none, (some 5), (.mov (.k (.one (.bool .false))))⟩]
def g31_1 : List Gop := [⟨none, (some 6), (.load (some 3) (.t 2))⟩, ⟨none, (some 7), (.call 19 [(.t 6)])⟩, ⟨none, (some 8), (.un .not (.t 7))⟩, ⟨none, (some 9), (.mov (.t 8))⟩, ⟨(some (9, .false)), (some 10), (.load (some 3) (.t 2))⟩, ⟨(some (9, .false)), (some 11), (.mov (.t 1))⟩, ⟨(some (9, .false)), (some 12), (.call 74 [(.t 10), (.t 11)])⟩, ⟨(some (9, .false)), (some 13), (.un .not (.t 12))⟩, ⟨none, (some 14), (.pick (.t 9) (.k (.one (.bool .true))) (.t 13))⟩]
def g31_2 : List Gop := [⟨none, (some 15), (.build [.nil, .nil, .nil] [])⟩, ⟨none, none, (.store 3 (.t 4) (.t 15))⟩, ⟨none, (some 5), (.mov (.k (.one (.bool .false))))⟩]
def g31_3 : List Gop := [⟨none, (some 16), (.load (some 3) (.t 2))⟩, ⟨none, (some 17), (.call 76 [(.t 16)])⟩, ⟨none, (some 18), (.mov (.t 1))⟩, ⟨none, (some 19), (.call 75 [(.t 17), (.t 18)])⟩, ⟨none, none, (.store 3 (.t 4) (.t 19))⟩, ⟨none, (some 5), (.mov (.k (.one (.bool .true))))⟩]
def i31 : Ir := (.seq (.region g31_0) (.seq (.seq (.region g31_1) (.cond (.t 14) (.seq (.region g31_2) .ret) .skip)) (.seq (.region g31_3) .ret)))
theorem specAfterCrash_ok (p h : List ByteArray) (b : List Bool) (kept : List Int) (hp : p.length ≤ 1048576) (hh : h.length ≤ 1048576) (hb : b.length ≤ 1048576) (hk : kept.length ≤ 1048576) : Meets Try.prog 31 [.agg [(.sl false 1 p.length (p.map T.str)), (.sl false 1 h.length (h.map T.str)), (.sl false 1 b.length (b.map T.bool))], .one (.sl false 1 kept.length (kept.map (T.int .i64)))] (CrashRes p h b kept) [.agg [.hole, .hole, .hole], .one .hole] := by
  by_cases hg : GoodD p h b
  · by_cases hq : KeptOk h kept
    · have hz : b ≠ [] := fun e => by have := hg.2.2.1; rw [e] at this; have := hg.1; simp only [List.length_nil] at *; omega
      rw [CrashRes, if_pos ⟨hg, hq⟩]
      refine meets_go (ir := i31) (fn := Try.f31) (rx := [(.cell 4 (some 3)), (.tmp 5)]) rfl rfl (by rfl) (by rfl) (by exact Nat.le_of_ble_eq_true rfl) ?_
      simp (maxSteps := 9000000) -implicitDefEqProofs -dsimp (disch := omega) only [go_sem, g31_0, g31_1, g31_2, g31_3, i31, Nat.reduceEqDiff, Nat.reduceAdd, Nat.reduceMul, Nat.reduceLeDiff, Nat.reduceBEq, Nat.reduceBNe, Int.reduceEq, ↓reduceIte, reduceCtorEq]
      refine call_go true (specGoodDisk_ok p h b (by omega) (by omega) (by omega)) ?_
      simp (maxSteps := 9000000) -implicitDefEqProofs -dsimp (disch := omega) only [go_sem, g31_0, g31_1, g31_2, g31_3, i31, hg, Nat.reduceEqDiff, Nat.reduceAdd, Nat.reduceMul, Nat.reduceLeDiff, Nat.reduceBEq, Nat.reduceBNe, Int.reduceEq, ↓reduceIte, reduceCtorEq]
      refine call_go true (l7Kept_ok p h b kept (by omega) hk) ?_
      simp (maxSteps := 9000000) -implicitDefEqProofs -dsimp (disch := omega) only [go_sem, g31_0, g31_1, g31_2, g31_3, i31, hq, Nat.reduceEqDiff, Nat.reduceAdd, Nat.reduceMul, Nat.reduceLeDiff, Nat.reduceBEq, Nat.reduceBNe, Int.reduceEq, ↓reduceIte, reduceCtorEq]
      refine call_go true (l7Own_ok p h b hp hh hb) ?_
      simp (maxSteps := 9000000) -implicitDefEqProofs -dsimp (disch := omega) only [go_sem, g31_0, g31_1, g31_2, g31_3, i31, Nat.reduceEqDiff, Nat.reduceAdd, Nat.reduceMul, Nat.reduceLeDiff, Nat.reduceBEq, Nat.reduceBNe, Int.reduceEq, ↓reduceIte, reduceCtorEq]
      refine call_go true (l7Crash_ok p h b kept hp hg.2.1 hk) ?_
      simp (maxSteps := 9000000) -implicitDefEqProofs -dsimp (disch := omega) only [go_sem, g31_0, g31_1, g31_2, g31_3, i31, Nat.reduceEqDiff, Nat.reduceAdd, Nat.reduceMul, Nat.reduceLeDiff, Nat.reduceBEq, Nat.reduceBNe, Int.reduceEq, ↓reduceIte, reduceCtorEq]
    · rw [CrashRes, if_neg (fun q => hq q.2)]
      refine meets_go (ir := i31) (fn := Try.f31) (rx := [(.cell 4 (some 3)), (.tmp 5)]) rfl rfl (by rfl) (by rfl) (by exact Nat.le_of_ble_eq_true rfl) ?_
      simp (maxSteps := 9000000) -implicitDefEqProofs -dsimp (disch := omega) only [go_sem, g31_0, g31_1, g31_2, g31_3, i31, Nat.reduceEqDiff, Nat.reduceAdd, Nat.reduceMul, Nat.reduceLeDiff, Nat.reduceBEq, Nat.reduceBNe, Int.reduceEq, ↓reduceIte, reduceCtorEq]
      refine call_go true (specGoodDisk_ok p h b (by omega) (by omega) (by omega)) ?_
      simp (maxSteps := 9000000) -implicitDefEqProofs -dsimp (disch := omega) only [go_sem, g31_0, g31_1, g31_2, g31_3, i31, hg, Nat.reduceEqDiff, Nat.reduceAdd, Nat.reduceMul, Nat.reduceLeDiff, Nat.reduceBEq, Nat.reduceBNe, Int.reduceEq, ↓reduceIte, reduceCtorEq]
      refine call_go true (l7Kept_ok p h b kept (by omega) hk) ?_
      simp (maxSteps := 9000000) -implicitDefEqProofs -dsimp (disch := omega) only [go_sem, g31_0, g31_1, g31_2, g31_3, i31, hq, Nat.reduceEqDiff, Nat.reduceAdd, Nat.reduceMul, Nat.reduceLeDiff, Nat.reduceBEq, Nat.reduceBNe, Int.reduceEq, ↓reduceIte, reduceCtorEq]
  · rw [CrashRes, if_neg (fun q => hg q.1)]
    refine meets_go (ir := i31) (fn := Try.f31) (rx := [(.cell 4 (some 3)), (.tmp 5)]) rfl rfl (by rfl) (by rfl) (by exact Nat.le_of_ble_eq_true rfl) ?_
    simp (maxSteps := 9000000) -implicitDefEqProofs -dsimp (disch := omega) only [go_sem, g31_0, g31_1, g31_2, g31_3, i31, Nat.reduceEqDiff, Nat.reduceAdd, Nat.reduceMul, Nat.reduceLeDiff, Nat.reduceBEq, Nat.reduceBNe, Int.reduceEq, ↓reduceIte, reduceCtorEq]
    refine call_go true (specGoodDisk_ok p h b (by omega) (by omega) (by omega)) ?_
    simp (maxSteps := 9000000) -implicitDefEqProofs -dsimp (disch := omega) only [go_sem, g31_0, g31_1, g31_2, g31_3, i31, hg, Nat.reduceEqDiff, Nat.reduceAdd, Nat.reduceMul, Nat.reduceLeDiff, Nat.reduceBEq, Nat.reduceBNe, Int.reduceEq, ↓reduceIte, reduceCtorEq]
def g70_0 : List Gop := [⟨none, (some 2), (.box (.t 0))⟩, ⟨none, (some 4), (.mov (.k (.one (.str ⟨#[]⟩))))⟩, ⟨none, (some 5), (.mov (.k (.one (.bool .false))))⟩]
def g70_1 : List Gop := [⟨none, (some 6), (.faddr (.t 2) 2)⟩, ⟨none, (some 7), (.load none (.t 6))⟩, ⟨none, (some 8), (.mov (.t 1))⟩, ⟨none, (some 9), (.iaddr 1 (.t 7) (.t 8))⟩, ⟨none, (some 10), (.load none (.t 9))⟩]
def g70_2 : List Gop := [⟨none, (some 4), (.mov (.k (.one (.str ⟨#[]⟩))))⟩, ⟨none, (some 5), (.mov (.k (.one (.bool .false))))⟩]
def g70_3 : List Gop := [⟨none, (some 11), (.faddr (.t 2) 1)⟩, ⟨none, (some 12), (.load none (.t 11))⟩, ⟨none, (some 13), (.mov (.t 1))⟩, ⟨none, (some 14), (.iaddr 1 (.t 12) (.t 13))⟩, ⟨none, (some 15), (.load none (.t 14))⟩, ⟨none, (some 16), (.bin .neq (.t 15) (.k (.one (.str ⟨#[]⟩))))⟩]
def g70_4 : List Gop := [⟨none, (some 17), (.faddr (.t 2) 1)⟩, ⟨none, (some 18), (.load none (.t 17))⟩, ⟨none, (some 19), (.mov (.t 1))⟩, ⟨none, (some 20), (.iaddr 1 (.t 18) (.t 19))⟩, ⟨none, (some 21), (.load none (.t 20))⟩, ⟨none, (some 4), (.mov (.t 21))⟩, ⟨none, (some 5), (.mov (.k (.one (.bool .true))))⟩]
def g70_5 : List Gop := [⟨none, (some 22), (.faddr (.t 2) 0)⟩, ⟨none, (some 23), (.load none (.t 22))⟩, ⟨none, (some 24), (.mov (.t 1))⟩, ⟨none, (some 25), (.iaddr 1 (.t 23) (.t 24))⟩, ⟨none, (some 26), (.load none (.t 25))⟩, ⟨none, (some 4), (.mov (.t 26))⟩, ⟨none, (some 5), (.mov (.k (.one (.bool .true))))⟩]
def i70 : Ir := (.seq (.region g70_0) (.seq (.seq (.region g70_1) (.cond (.t 10) (.seq (.region g70_2) .ret) .skip)) (.seq (.seq (.region g70_3) (.cond (.t 16) (.seq (.region g70_4) .ret) .skip)) (.seq (.region g70_5) .ret))))
theorem l7Read_ok (p h : List ByteArray) (b : List Bool) (x : Int) (hp : p.length ≤ 1048576) (he : h.length = p.length) (hb : b.length = p.length) (hx : 0 ≤ x ∧ x < p.length) : Meets Try.prog 70 [.agg [(.sl false 1 p.length (p.map T.str)), (.sl false 1 h.length (h.map T.str)), (.sl false 1 b.length (b.map T.bool))], .one (.int .i64 x)] (if b.getD x.toNat default = false then .tup [.one (.str (if h.getD x.toNat default = e0 then p.getD x.toNat default else h.getD x.toNat default)), .one (.bool true)] else .tup [.one (.str e0), .one (.bool false)]) [.agg [.hole, .hole, .hole], .one .hole] := by
  have e1 : (x.toNat : Int) = x := Int.toNat_of_nonneg hx.1
  have l1 : x.toNat < p.length := by omega
  have l2 : x.toNat < h.length := by omega
  have l3 : x.toNat < b.length := by omega
  by_cases hb0 : b.getD x.toNat default = false
  · rw [if_pos hb0]
    by_cases hh0 : h.getD x.toNat default = e0
    · rw [if_pos hh0]
      have hh1 := hh0
      unfold e0 at hh1
      refine meets_go (ir := i70) (fn := Try.f70) (rx := [(.tmp 4), (.tmp 5)]) rfl rfl (by rfl) (by rfl) (by exact Nat.le_of_ble_eq_true rfl) ?_
      simp (maxSteps := 9000000) -implicitDefEqProofs -dsimp (disch := omega) only [go_sem, g70_0, g70_1, g70_2, g70_3, g70_4, g70_5, i70, hb0, hh1, Nat.reduceEqDiff, Nat.reduceAdd, Nat.reduceMul, Nat.reduceLeDiff, Nat.reduceBEq, Nat.reduceBNe, Int.reduceEq, ↓reduceIte, reduceCtorEq]
    · rw [if_neg hh0]
      have hh1 := hh0
      unfold e0 at hh1
      refine meets_go (ir := i70) (fn := Try.f70) (rx := [(.tmp 4), (.tmp 5)]) rfl rfl (by rfl) (by rfl) (by exact Nat.le_of_ble_eq_true rfl) ?_
      simp (maxSteps := 9000000) -implicitDefEqProofs -dsimp (disch := omega) only [go_sem, g70_0, g70_1, g70_2, g70_3, g70_4, g70_5, i70, hb0, hh1, Nat.reduceEqDiff, Nat.reduceAdd, Nat.reduceMul, Nat.reduceLeDiff, Nat.reduceBEq, Nat.reduceBNe, Int.reduceEq, ↓reduceIte, reduceCtorEq]
  · rw [if_neg hb0]
    have hb1 : b.getD x.toNat default = true := by simpa using hb0
    unfold e0
    refine meets_go (ir := i70) (fn := Try.f70) (rx := [(.tmp 4), (.tmp 5)]) rfl rfl (by rfl) (by rfl) (by exact Nat.le_of_ble_eq_true rfl) ?_
    simp (maxSteps := 9000000) -implicitDefEqProofs -dsimp (disch := omega) only [go_sem, g70_0, g70_1, g70_2, g70_3, g70_4, g70_5, i70, hb1, Nat.reduceEqDiff, Nat.reduceAdd, Nat.reduceMul, Nat.reduceLeDiff, Nat.reduceBEq, Nat.reduceBNe, Int.reduceEq, ↓reduceIte, reduceCtorEq]
def g24_0 : List Gop := [⟨none, (some 2), (.box (.t 0))⟩, ⟨none, (some 4), (.mov (.k (.one (.str ⟨#[]⟩))))⟩, ⟨none, (some 5), (.mov (.k (.one (.bool .false))))⟩]
def g24_1 : List Gop := [⟨none, (some 6), (.load (some 3) (.t 2))⟩, ⟨none, (some 7), (.call 19 [(.t 6)])⟩, ⟨none, (some 8), (.un .not (.t 7))⟩, ⟨none, (some 9), (.mov (.t 8))⟩, ⟨(some (9, .false)), (some 10), (.load (some 3) (.t 2))⟩, ⟨(some (9, .false)), (some 11), (.mov (.t 1))⟩, ⟨(some (9, .false)), (some 12), (.call 69 [(.t 10), (.t 11)])⟩, ⟨(some (9, .false)), (some 13), (.un .not (.t 12))⟩, ⟨none, (some 14), (.pick (.t 9) (.k (.one (.bool .true))) (.t 13))⟩]
def g24_2 : List Gop := [⟨none, (some 4), (.mov (.k (.one (.str ⟨#[]⟩))))⟩, ⟨none, (some 5), (.mov (.k (.one (.bool .false))))⟩]
def g24_3 : List Gop := [⟨none, (some 15), (.load (some 3) (.t 2))⟩, ⟨none, (some 16), (.mov (.t 1))⟩, ⟨none, (some 17), (.call 70 [(.t 15), (.t 16)])⟩, ⟨none, (some 18), (.ext (.t 17) 0)⟩, ⟨none, (some 19), (.ext (.t 17) 1)⟩, ⟨none, (some 4), (.mov (.t 18))⟩, ⟨none, (some 5), (.mov (.t 19))⟩]
def i24 : Ir := (.seq (.region g24_0) (.seq (.seq (.region g24_1) (.cond (.t 14) (.seq (.region g24_2) .ret) .skip)) (.seq (.region g24_3) .ret)))
theorem specReadSector_ok (p h : List ByteArray) (b : List Bool) (x : Int) (hp : p.length ≤ 1048576) (hh : h.length ≤ 1048576) (hb : b.length ≤ 1048576) : Meets Try.prog 24 [.agg [(.sl false 1 p.length (p.map T.str)), (.sl false 1 h.length (h.map T.str)), (.sl false 1 b.length (b.map T.bool))], .one (.int .i64 x)] (.tup [.one (.str (readF p h b x).1), .one (.bool (readF p h b x).2)]) [.agg [.hole, .hole, .hole], .one .hole] := by
  by_cases hg : GoodD p h b
  · by_cases hx : 0 ≤ x ∧ x < p.length
    · have e1 : (x.toNat : Int) = x := Int.toNat_of_nonneg hx.1
      have l1 : x.toNat < p.length := by omega
      have l2 : x.toNat < h.length := by have := hg.2.1; omega
      have l3 : x.toNat < b.length := by have := hg.2.2.1; omega
      have MR := l7Read_ok p h b x hp hg.2.1 hg.2.2.1 hx
      by_cases hb0 : b.getD x.toNat default = false
      · rw [if_pos hb0] at MR
        rw [readF, if_pos ⟨hg, hx, hb0⟩]
        refine meets_go (ir := i24) (fn := Try.f24) (rx := [(.tmp 4), (.tmp 5)]) rfl rfl (by rfl) (by rfl) (by exact Nat.le_of_ble_eq_true rfl) ?_
        simp (maxSteps := 9000000) -implicitDefEqProofs -dsimp (disch := omega) only [go_sem, g24_0, g24_1, g24_2, g24_3, i24, Nat.reduceEqDiff, Nat.reduceAdd, Nat.reduceMul, Nat.reduceLeDiff, Nat.reduceBEq, Nat.reduceBNe, Int.reduceEq, ↓reduceIte, reduceCtorEq]
        refine call_go true (specGoodDisk_ok p h b (by omega) (by omega) (by omega)) ?_
        simp (maxSteps := 9000000) -implicitDefEqProofs -dsimp (disch := omega) only [go_sem, g24_0, g24_1, g24_2, g24_3, i24, hg, Nat.reduceEqDiff, Nat.reduceAdd, Nat.reduceMul, Nat.reduceLeDiff, Nat.reduceBEq, Nat.reduceBNe, Int.reduceEq, ↓reduceIte, reduceCtorEq]
        refine call_go true (l7There_ok p h b x hp hh hb) ?_
        simp (maxSteps := 9000000) -implicitDefEqProofs -dsimp (disch := omega) only [go_sem, g24_0, g24_1, g24_2, g24_3, i24, hx, Nat.reduceEqDiff, Nat.reduceAdd, Nat.reduceMul, Nat.reduceLeDiff, Nat.reduceBEq, Nat.reduceBNe, Int.reduceEq, ↓reduceIte, reduceCtorEq]
        refine call_go true MR ?_
        simp (maxSteps := 9000000) -implicitDefEqProofs -dsimp (disch := omega) only [go_sem, g24_0, g24_1, g24_2, g24_3, i24, Nat.reduceEqDiff, Nat.reduceAdd, Nat.reduceMul, Nat.reduceLeDiff, Nat.reduceBEq, Nat.reduceBNe, Int.reduceEq, ↓reduceIte, reduceCtorEq]
      · rw [if_neg hb0] at MR
        rw [readF, if_neg (fun q => hb0 q.2.2)]
        refine meets_go (ir := i24) (fn := Try.f24) (rx := [(.tmp 4), (.tmp 5)]) rfl rfl (by rfl) (by rfl) (by exact Nat.le_of_ble_eq_true rfl) ?_
        simp (maxSteps := 9000000) -implicitDefEqProofs -dsimp (disch := omega) only [go_sem, g24_0, g24_1, g24_2, g24_3, i24, Nat.reduceEqDiff, Nat.reduceAdd, Nat.reduceMul, Nat.reduceLeDiff, Nat.reduceBEq, Nat.reduceBNe, Int.reduceEq, ↓reduceIte, reduceCtorEq]
        refine call_go true (specGoodDisk_ok p h b (by omega) (by omega) (by omega)) ?_
        simp (maxSteps := 9000000) -implicitDefEqProofs -dsimp (disch := omega) only [go_sem, g24_0, g24_1, g24_2, g24_3, i24, hg, Nat.reduceEqDiff, Nat.reduceAdd, Nat.reduceMul, Nat.reduceLeDiff, Nat.reduceBEq, Nat.reduceBNe, Int.reduceEq, ↓reduceIte, reduceCtorEq]
        refine call_go true (l7There_ok p h b x hp hh hb) ?_
        simp (maxSteps := 9000000) -implicitDefEqProofs -dsimp (disch := omega) only [go_sem, g24_0, g24_1, g24_2, g24_3, i24, hx, Nat.reduceEqDiff, Nat.reduceAdd, Nat.reduceMul, Nat.reduceLeDiff, Nat.reduceBEq, Nat.reduceBNe, Int.reduceEq, ↓reduceIte, reduceCtorEq]
        refine call_go true MR ?_
        simp (maxSteps := 9000000) -implicitDefEqProofs -dsimp (disch := omega) only [go_sem, g24_0, g24_1, g24_2, g24_3, i24, Nat.reduceEqDiff, Nat.reduceAdd, Nat.reduceMul, Nat.reduceLeDiff, Nat.reduceBEq, Nat.reduceBNe, Int.reduceEq, ↓reduceIte, reduceCtorEq]
    · rw [readF, if_neg (fun q => hx q.2.1)]
      unfold e0
      refine meets_go (ir := i24) (fn := Try.f24) (rx := [(.tmp 4), (.tmp 5)]) rfl rfl (by rfl) (by rfl) (by exact Nat.le_of_ble_eq_true rfl) ?_
      simp (maxSteps := 9000000) -implicitDefEqProofs -dsimp (disch := omega) only [go_sem, g24_0, g24_1, g24_2, g24_3, i24, Nat.reduceEqDiff, Nat.reduceAdd, Nat.reduceMul, Nat.reduceLeDiff, Nat.reduceBEq, Nat.reduceBNe, Int.reduceEq, ↓reduceIte, reduceCtorEq]
      refine call_go true (specGoodDisk_ok p h b (by omega) (by omega) (by omega)) ?_
      simp (maxSteps := 9000000) -implicitDefEqProofs -dsimp (disch := omega) only [go_sem, g24_0, g24_1, g24_2, g24_3, i24, hg, Nat.reduceEqDiff, Nat.reduceAdd, Nat.reduceMul, Nat.reduceLeDiff, Nat.reduceBEq, Nat.reduceBNe, Int.reduceEq, ↓reduceIte, reduceCtorEq]
      refine call_go true (l7There_ok p h b x hp hh hb) ?_
      simp (maxSteps := 9000000) -implicitDefEqProofs -dsimp (disch := omega) only [go_sem, g24_0, g24_1, g24_2, g24_3, i24, hx, Nat.reduceEqDiff, Nat.reduceAdd, Nat.reduceMul, Nat.reduceLeDiff, Nat.reduceBEq, Nat.reduceBNe, Int.reduceEq, ↓reduceIte, reduceCtorEq]
  · rw [readF, if_neg (fun q => hg q.1)]
    unfold e0
    refine meets_go (ir := i24) (fn := Try.f24) (rx := [(.tmp 4), (.tmp 5)]) rfl rfl (by rfl) (by rfl) (by exact Nat.le_of_ble_eq_true rfl) ?_
    simp (maxSteps := 9000000) -implicitDefEqProofs -dsimp (disch := omega) only [go_sem, g24_0, g24_1, g24_2, g24_3, i24, Nat.reduceEqDiff, Nat.reduceAdd, Nat.reduceMul, Nat.reduceLeDiff, Nat.reduceBEq, Nat.reduceBNe, Int.reduceEq, ↓reduceIte, reduceCtorEq]
    refine call_go true (specGoodDisk_ok p h b (by omega) (by omega) (by omega)) ?_
    simp (maxSteps := 9000000) -implicitDefEqProofs -dsimp (disch := omega) only [go_sem, g24_0, g24_1, g24_2, g24_3, i24, hg, Nat.reduceEqDiff, Nat.reduceAdd, Nat.reduceMul, Nat.reduceLeDiff, Nat.reduceBEq, Nat.reduceBNe, Int.reduceEq, ↓reduceIte, reduceCtorEq]
def g27_0 : List Gop := [⟨none, (some 1), (.box (.t 0))⟩, ⟨none, (some 2), (.mov (.k (.one .nil)))⟩, ⟨none, (some 3), (.mov (.k (.one (.bool .false))))⟩]
def g27_1 : List Gop := [⟨none, (some 4), (.load (some 3) (.t 1))⟩, ⟨none, (some 5), (.call 21 [(.t 4)])⟩, ⟨none, (some 6), (.un .not (.t 5))⟩]
def g27_2 : List Gop := [⟨none, (some 2), (.mov (.k (.one .nil)))⟩, ⟨none, (some 3), (.mov (.k (.one (.bool .false))))⟩]
def g27_3 : List Gop := [⟨none, (some 7), (.load (some 3) (.t 1))⟩, ⟨none, (some 8), (.call 73 [(.t 7)])⟩, ⟨none, (some 2), (.mov (.t 8))⟩, ⟨none, (some 3), (.mov (.k (.one (.bool .true))))⟩]
def i27 : Ir := (.seq (.region g27_0) (.seq (.seq (.region g27_1) (.cond (.t 6) (.seq (.region g27_2) .ret) .skip)) (.seq (.region g27_3) .ret)))
theorem implHeldIn_ok (p h : List ByteArray) (b : List Bool) (hp : p.length ≤ 1048576) (hh : h.length ≤ 1048576) (hb : b.length ≤ 1048576) : Meets Try.prog 27 [.agg [(.sl false 1 p.length (p.map T.str)), (.sl false 1 h.length (h.map T.str)), (.sl false 1 b.length (b.map T.bool))]] (HeldRes p h b) [.agg [.hole, .hole, .hole]] := by
  by_cases hg : GoodD p h b
  · rw [HeldRes, if_pos hg]
    refine meets_go (ir := i27) (fn := Try.f27) (rx := [(.tmp 2), (.tmp 3)]) rfl rfl (by rfl) (by rfl) (by exact Nat.le_of_ble_eq_true rfl) ?_
    simp (maxSteps := 9000000) -implicitDefEqProofs -dsimp (disch := omega) only [go_sem, g27_0, g27_1, g27_2, g27_3, i27, Nat.reduceEqDiff, Nat.reduceAdd, Nat.reduceMul, Nat.reduceLeDiff, Nat.reduceBEq, Nat.reduceBNe, Int.reduceEq, ↓reduceIte, reduceCtorEq]
    refine call_go true (implGoodDisk_ok p h b (by omega) (by omega) (by omega)) ?_
    simp (maxSteps := 9000000) -implicitDefEqProofs -dsimp (disch := omega) only [go_sem, g27_0, g27_1, g27_2, g27_3, i27, hg, Nat.reduceEqDiff, Nat.reduceAdd, Nat.reduceMul, Nat.reduceLeDiff, Nat.reduceBEq, Nat.reduceBNe, Int.reduceEq, ↓reduceIte, reduceCtorEq]
    refine call_go true (heldIn_ok p h b hh) ?_
    simp (maxSteps := 9000000) -implicitDefEqProofs -dsimp (disch := omega) only [go_sem, g27_0, g27_1, g27_2, g27_3, i27, Nat.reduceEqDiff, Nat.reduceAdd, Nat.reduceMul, Nat.reduceLeDiff, Nat.reduceBEq, Nat.reduceBNe, Int.reduceEq, ↓reduceIte, reduceCtorEq]
  · rw [HeldRes, if_neg hg]
    refine meets_go (ir := i27) (fn := Try.f27) (rx := [(.tmp 2), (.tmp 3)]) rfl rfl (by rfl) (by rfl) (by exact Nat.le_of_ble_eq_true rfl) ?_
    simp (maxSteps := 9000000) -implicitDefEqProofs -dsimp (disch := omega) only [go_sem, g27_0, g27_1, g27_2, g27_3, i27, Nat.reduceEqDiff, Nat.reduceAdd, Nat.reduceMul, Nat.reduceLeDiff, Nat.reduceBEq, Nat.reduceBNe, Int.reduceEq, ↓reduceIte, reduceCtorEq]
    refine call_go true (implGoodDisk_ok p h b (by omega) (by omega) (by omega)) ?_
    simp (maxSteps := 9000000) -implicitDefEqProofs -dsimp (disch := omega) only [go_sem, g27_0, g27_1, g27_2, g27_3, i27, hg, Nat.reduceEqDiff, Nat.reduceAdd, Nat.reduceMul, Nat.reduceLeDiff, Nat.reduceBEq, Nat.reduceBNe, Int.reduceEq, ↓reduceIte, reduceCtorEq]
def g33_0 : List Gop := [⟨none, (some 2), (.box (.t 0))⟩, ⟨none, (some 4), (.alloc [.nil, .nil, .nil])⟩, ⟨none, (some 5), (.mov (.k (.one (.bool .false))))⟩]
def g33_1 : List Gop := [⟨none, (some 6), (.load (some 3) (.t 2))⟩, ⟨none, (some 7), (.call 21 [(.t 6)])⟩, ⟨none, (some 8), (.un .not (.t 7))⟩, ⟨none, (some 9), (.mov (.t 8))⟩, ⟨(some (9, .false)), (some 10), (.load (some 3) (.t 2))⟩, ⟨(some (9, .false)), (some 11), (.mov (.t 1))⟩, ⟨(some (9, .false)), (some 12), (.call 77 [(.t 10), (.t 11)])⟩, ⟨(some (9, .false)), (some 13), (.un .not (.t 12))⟩, ⟨none, (some 14), (.pick (.t 9) (.k (.one (.bool .true))) (.t 13))⟩]
def g33_2 : List Gop := [⟨none, (some 15), (.build [.nil, .nil, .nil] [])⟩, ⟨none, none, (.store 3 (.t 4) (.t 15))⟩, ⟨none, (some 5), (.mov (.k (.one (.bool .false))))⟩]
def g33_3 : List Gop := [⟨none, (some 16), (.load (some 3) (.t 2))⟩, ⟨none, (some 17), (.mov (.t 1))⟩, ⟨none, (some 18), (.call 78 [(.t 16), (.t 17)])⟩, ⟨none, none, (.store 3 (.t 4) (.t 18))⟩, ⟨none, (some 5), (.mov (.k (.one (.bool .true))))⟩]
def i33 : Ir := (.seq (.region g33_0) (.seq (.seq (.region g33_1) (.cond (.t 14) (.seq (.region g33_2) .ret) .skip)) (.seq (.region g33_3) .ret)))
theorem implAfterCrash_ok (p h : List ByteArray) (b : List Bool) (kept : List Int) (hp : p.length ≤ 1048576) (hh : h.length ≤ 1048576) (hb : b.length ≤ 1048576) (hk : kept.length ≤ 1048576) : Meets Try.prog 33 [.agg [(.sl false 1 p.length (p.map T.str)), (.sl false 1 h.length (h.map T.str)), (.sl false 1 b.length (b.map T.bool))], .one (.sl false 1 kept.length (kept.map (T.int .i64)))] (CrashRes p h b kept) [.agg [.hole, .hole, .hole], .one .hole] := by
  by_cases hg : GoodD p h b
  · by_cases hq : KeptOk h kept
    · have hz : b ≠ [] := fun e => by have := hg.2.2.1; rw [e] at this; have := hg.1; simp only [List.length_nil] at *; omega
      rw [CrashRes, if_pos ⟨hg, hq⟩]
      refine meets_go (ir := i33) (fn := Try.f33) (rx := [(.cell 4 (some 3)), (.tmp 5)]) rfl rfl (by rfl) (by rfl) (by exact Nat.le_of_ble_eq_true rfl) ?_
      simp (maxSteps := 9000000) -implicitDefEqProofs -dsimp (disch := omega) only [go_sem, g33_0, g33_1, g33_2, g33_3, i33, Nat.reduceEqDiff, Nat.reduceAdd, Nat.reduceMul, Nat.reduceLeDiff, Nat.reduceBEq, Nat.reduceBNe, Int.reduceEq, ↓reduceIte, reduceCtorEq]
      refine call_go true (implGoodDisk_ok p h b (by omega) (by omega) (by omega)) ?_
      simp (maxSteps := 9000000) -implicitDefEqProofs -dsimp (disch := omega) only [go_sem, g33_0, g33_1, g33_2, g33_3, i33, hg, Nat.reduceEqDiff, Nat.reduceAdd, Nat.reduceMul, Nat.reduceLeDiff, Nat.reduceBEq, Nat.reduceBNe, Int.reduceEq, ↓reduceIte, reduceCtorEq]
      refine call_go true (areHeld_ok p h b kept hp (hg.2.1) hk) ?_
      simp (maxSteps := 9000000) -implicitDefEqProofs -dsimp (disch := omega) only [go_sem, g33_0, g33_1, g33_2, g33_3, i33, hq, Nat.reduceEqDiff, Nat.reduceAdd, Nat.reduceMul, Nat.reduceLeDiff, Nat.reduceBEq, Nat.reduceBNe, Int.reduceEq, ↓reduceIte, reduceCtorEq]
      refine call_go true (crashed_ok p h b kept hz hb hp hg.2.1 hk) ?_
      simp (maxSteps := 9000000) -implicitDefEqProofs -dsimp (disch := omega) only [go_sem, g33_0, g33_1, g33_2, g33_3, i33, Nat.reduceEqDiff, Nat.reduceAdd, Nat.reduceMul, Nat.reduceLeDiff, Nat.reduceBEq, Nat.reduceBNe, Int.reduceEq, ↓reduceIte, reduceCtorEq]
    · rw [CrashRes, if_neg (fun q => hq q.2)]
      refine meets_go (ir := i33) (fn := Try.f33) (rx := [(.cell 4 (some 3)), (.tmp 5)]) rfl rfl (by rfl) (by rfl) (by exact Nat.le_of_ble_eq_true rfl) ?_
      simp (maxSteps := 9000000) -implicitDefEqProofs -dsimp (disch := omega) only [go_sem, g33_0, g33_1, g33_2, g33_3, i33, Nat.reduceEqDiff, Nat.reduceAdd, Nat.reduceMul, Nat.reduceLeDiff, Nat.reduceBEq, Nat.reduceBNe, Int.reduceEq, ↓reduceIte, reduceCtorEq]
      refine call_go true (implGoodDisk_ok p h b (by omega) (by omega) (by omega)) ?_
      simp (maxSteps := 9000000) -implicitDefEqProofs -dsimp (disch := omega) only [go_sem, g33_0, g33_1, g33_2, g33_3, i33, hg, Nat.reduceEqDiff, Nat.reduceAdd, Nat.reduceMul, Nat.reduceLeDiff, Nat.reduceBEq, Nat.reduceBNe, Int.reduceEq, ↓reduceIte, reduceCtorEq]
      refine call_go true (areHeld_ok p h b kept hp (hg.2.1) hk) ?_
      simp (maxSteps := 9000000) -implicitDefEqProofs -dsimp (disch := omega) only [go_sem, g33_0, g33_1, g33_2, g33_3, i33, hq, Nat.reduceEqDiff, Nat.reduceAdd, Nat.reduceMul, Nat.reduceLeDiff, Nat.reduceBEq, Nat.reduceBNe, Int.reduceEq, ↓reduceIte, reduceCtorEq]
  · rw [CrashRes, if_neg (fun q => hg q.1)]
    refine meets_go (ir := i33) (fn := Try.f33) (rx := [(.cell 4 (some 3)), (.tmp 5)]) rfl rfl (by rfl) (by rfl) (by exact Nat.le_of_ble_eq_true rfl) ?_
    simp (maxSteps := 9000000) -implicitDefEqProofs -dsimp (disch := omega) only [go_sem, g33_0, g33_1, g33_2, g33_3, i33, Nat.reduceEqDiff, Nat.reduceAdd, Nat.reduceMul, Nat.reduceLeDiff, Nat.reduceBEq, Nat.reduceBNe, Int.reduceEq, ↓reduceIte, reduceCtorEq]
    refine call_go true (implGoodDisk_ok p h b (by omega) (by omega) (by omega)) ?_
    simp (maxSteps := 9000000) -implicitDefEqProofs -dsimp (disch := omega) only [go_sem, g33_0, g33_1, g33_2, g33_3, i33, hg, Nat.reduceEqDiff, Nat.reduceAdd, Nat.reduceMul, Nat.reduceLeDiff, Nat.reduceBEq, Nat.reduceBNe, Int.reduceEq, ↓reduceIte, reduceCtorEq]
def g25_0 : List Gop := [⟨none, (some 2), (.box (.t 0))⟩, ⟨none, (some 4), (.mov (.k (.one (.str ⟨#[]⟩))))⟩, ⟨none, (some 5), (.mov (.k (.one (.bool .false))))⟩]
def g25_1 : List Gop := [⟨none, (some 7), (.load (some 3) (.t 2))⟩, ⟨none, (some 8), (.call 21 [(.t 7)])⟩, ⟨none, (some 9), (.un .not (.t 8))⟩, ⟨none, (some 10), (.mov (.t 9))⟩, ⟨(some (10, .false)), (some 11), (.load (some 3) (.t 2))⟩, ⟨(some (10, .false)), (some 12), (.mov (.t 1))⟩, ⟨(some (10, .false)), (some 13), (.call 71 [(.t 11), (.t 12)])⟩, ⟨(some (10, .false)), (some 14), (.un .not (.t 13))⟩, ⟨none, (some 15), (.pick (.t 10) (.k (.one (.bool .true))) (.t 14))⟩, ⟨none, (some 16), (.mov (.t 15))⟩, ⟨(some (16, .false)), (some 17), (.faddr (.t 2) 2)⟩, ⟨(some (16, .false)), (some 18), (.load none (.t 17))⟩, ⟨(some (16, .false)), (some 19), (.mov (.t 1))⟩, ⟨(some (16, .false)), (some 20), (.iaddr 1 (.t 18) (.t 19))⟩, ⟨(some (16, .false)), (some 21), (.load none (.t 20))⟩, ⟨none, (some 22), (.pick (.t 16) (.k (.one (.bool .true))) (.t 21))⟩, ⟨none, (some 6), (.mov (.t 22))⟩]
def g25_2 : List Gop := [⟨none, (some 4), (.mov (.k (.one (.str ⟨#[]⟩))))⟩, ⟨none, (some 5), (.mov (.k (.one (.bool .false))))⟩]
def g25_3 : List Gop := [⟨none, (some 24), (.faddr (.t 2) 1)⟩, ⟨none, (some 25), (.load none (.t 24))⟩, ⟨none, (some 26), (.mov (.t 1))⟩, ⟨none, (some 27), (.iaddr 1 (.t 25) (.t 26))⟩, ⟨none, (some 28), (.load none (.t 27))⟩, ⟨none, (some 29), (.bin .neq (.t 28) (.k (.one (.str ⟨#[]⟩))))⟩, ⟨none, (some 23), (.mov (.t 29))⟩]
def g25_4 : List Gop := [⟨none, (some 30), (.faddr (.t 2) 1)⟩, ⟨none, (some 31), (.load none (.t 30))⟩, ⟨none, (some 32), (.mov (.t 1))⟩, ⟨none, (some 33), (.iaddr 1 (.t 31) (.t 32))⟩, ⟨none, (some 34), (.load none (.t 33))⟩, ⟨none, (some 4), (.mov (.t 34))⟩, ⟨none, (some 5), (.mov (.k (.one (.bool .true))))⟩]
def g25_5 : List Gop := [⟨none, (some 35), (.faddr (.t 2) 0)⟩, ⟨none, (some 36), (.load none (.t 35))⟩, ⟨none, (some 37), (.mov (.t 1))⟩, ⟨none, (some 38), (.iaddr 1 (.t 36) (.t 37))⟩, ⟨none, (some 39), (.load none (.t 38))⟩, ⟨none, (some 4), (.mov (.t 39))⟩, ⟨none, (some 5), (.mov (.k (.one (.bool .true))))⟩]
def i25 : Ir := (.seq (.region g25_0) (.seq (.block 0 (.seq (.region g25_1) (.cond (.t 6) (.seq (.region g25_2) .ret) (.seq (.region g25_3) (.cond (.t 23) (.seq (.region g25_4) .ret) .skip))))) (.seq (.region g25_5) .ret)))
theorem implReadSector_ok (p h : List ByteArray) (b : List Bool) (x : Int) (hp : p.length ≤ 1048576) (hh : h.length ≤ 1048576) (hb : b.length ≤ 1048576) : Meets Try.prog 25 [.agg [(.sl false 1 p.length (p.map T.str)), (.sl false 1 h.length (h.map T.str)), (.sl false 1 b.length (b.map T.bool))], .one (.int .i64 x)] (.tup [.one (.str (readF p h b x).1), .one (.bool (readF p h b x).2)]) [.agg [.hole, .hole, .hole], .one .hole] := by
  by_cases hg : GoodD p h b
  · by_cases hx : 0 ≤ x ∧ x < p.length
    · have e1 : (x.toNat : Int) = x := Int.toNat_of_nonneg hx.1
      have l1 : x.toNat < p.length := by omega
      have l2 : x.toNat < h.length := by have := hg.2.1; omega
      have l3 : x.toNat < b.length := by have := hg.2.2.1; omega
      by_cases hb0 : b.getD x.toNat default = false
      · rw [readF, if_pos ⟨hg, hx, hb0⟩]
        by_cases hh0 : h.getD x.toNat default = e0
        · have hh1 := hh0
          unfold e0 at hh1
          refine meets_go (ir := i25) (fn := Try.f25) (rx := [(.tmp 4), (.tmp 5)]) rfl rfl (by rfl) (by rfl) (by exact Nat.le_of_ble_eq_true rfl) ?_
          simp (maxSteps := 9000000) -implicitDefEqProofs -dsimp (disch := omega) only [go_sem, g25_0, g25_1, g25_2, g25_3, g25_4, g25_5, i25, Nat.reduceEqDiff, Nat.reduceAdd, Nat.reduceMul, Nat.reduceLeDiff, Nat.reduceBEq, Nat.reduceBNe, Int.reduceEq, ↓reduceIte, reduceCtorEq]
          refine call_go true (implGoodDisk_ok p h b (by omega) (by omega) (by omega)) ?_
          simp (maxSteps := 9000000) -implicitDefEqProofs -dsimp (disch := omega) only [go_sem, g25_0, g25_1, g25_2, g25_3, g25_4, g25_5, i25, hg, Nat.reduceEqDiff, Nat.reduceAdd, Nat.reduceMul, Nat.reduceLeDiff, Nat.reduceBEq, Nat.reduceBNe, Int.reduceEq, ↓reduceIte, reduceCtorEq]
          refine call_go true (has_ok p h b x hp hh hb) ?_
          simp (maxSteps := 9000000) -implicitDefEqProofs -dsimp (disch := omega) only [go_sem, g25_0, g25_1, g25_2, g25_3, g25_4, g25_5, i25, hx, hb0, hh0, hh1, Nat.reduceEqDiff, Nat.reduceAdd, Nat.reduceMul, Nat.reduceLeDiff, Nat.reduceBEq, Nat.reduceBNe, Int.reduceEq, ↓reduceIte, reduceCtorEq]
        · have hh1 := hh0
          unfold e0 at hh1
          refine meets_go (ir := i25) (fn := Try.f25) (rx := [(.tmp 4), (.tmp 5)]) rfl rfl (by rfl) (by rfl) (by exact Nat.le_of_ble_eq_true rfl) ?_
          simp (maxSteps := 9000000) -implicitDefEqProofs -dsimp (disch := omega) only [go_sem, g25_0, g25_1, g25_2, g25_3, g25_4, g25_5, i25, Nat.reduceEqDiff, Nat.reduceAdd, Nat.reduceMul, Nat.reduceLeDiff, Nat.reduceBEq, Nat.reduceBNe, Int.reduceEq, ↓reduceIte, reduceCtorEq]
          refine call_go true (implGoodDisk_ok p h b (by omega) (by omega) (by omega)) ?_
          simp (maxSteps := 9000000) -implicitDefEqProofs -dsimp (disch := omega) only [go_sem, g25_0, g25_1, g25_2, g25_3, g25_4, g25_5, i25, hg, Nat.reduceEqDiff, Nat.reduceAdd, Nat.reduceMul, Nat.reduceLeDiff, Nat.reduceBEq, Nat.reduceBNe, Int.reduceEq, ↓reduceIte, reduceCtorEq]
          refine call_go true (has_ok p h b x hp hh hb) ?_
          simp (maxSteps := 9000000) -implicitDefEqProofs -dsimp (disch := omega) only [go_sem, g25_0, g25_1, g25_2, g25_3, g25_4, g25_5, i25, hx, hb0, hh0, hh1, Nat.reduceEqDiff, Nat.reduceAdd, Nat.reduceMul, Nat.reduceLeDiff, Nat.reduceBEq, Nat.reduceBNe, Int.reduceEq, ↓reduceIte, reduceCtorEq]
      · have hb1 : b.getD x.toNat default = true := by simpa using hb0
        rw [readF, if_neg (fun q => hb0 q.2.2)]
        unfold e0
        refine meets_go (ir := i25) (fn := Try.f25) (rx := [(.tmp 4), (.tmp 5)]) rfl rfl (by rfl) (by rfl) (by exact Nat.le_of_ble_eq_true rfl) ?_
        simp (maxSteps := 9000000) -implicitDefEqProofs -dsimp (disch := omega) only [go_sem, g25_0, g25_1, g25_2, g25_3, g25_4, g25_5, i25, Nat.reduceEqDiff, Nat.reduceAdd, Nat.reduceMul, Nat.reduceLeDiff, Nat.reduceBEq, Nat.reduceBNe, Int.reduceEq, ↓reduceIte, reduceCtorEq]
        refine call_go true (implGoodDisk_ok p h b (by omega) (by omega) (by omega)) ?_
        simp (maxSteps := 9000000) -implicitDefEqProofs -dsimp (disch := omega) only [go_sem, g25_0, g25_1, g25_2, g25_3, g25_4, g25_5, i25, hg, Nat.reduceEqDiff, Nat.reduceAdd, Nat.reduceMul, Nat.reduceLeDiff, Nat.reduceBEq, Nat.reduceBNe, Int.reduceEq, ↓reduceIte, reduceCtorEq]
        refine call_go true (has_ok p h b x hp hh hb) ?_
        simp (maxSteps := 9000000) -implicitDefEqProofs -dsimp (disch := omega) only [go_sem, g25_0, g25_1, g25_2, g25_3, g25_4, g25_5, i25, hx, hb1, Nat.reduceEqDiff, Nat.reduceAdd, Nat.reduceMul, Nat.reduceLeDiff, Nat.reduceBEq, Nat.reduceBNe, Int.reduceEq, ↓reduceIte, reduceCtorEq]
    · rw [readF, if_neg (fun q => hx q.2.1)]
      unfold e0
      refine meets_go (ir := i25) (fn := Try.f25) (rx := [(.tmp 4), (.tmp 5)]) rfl rfl (by rfl) (by rfl) (by exact Nat.le_of_ble_eq_true rfl) ?_
      simp (maxSteps := 9000000) -implicitDefEqProofs -dsimp (disch := omega) only [go_sem, g25_0, g25_1, g25_2, g25_3, g25_4, g25_5, i25, Nat.reduceEqDiff, Nat.reduceAdd, Nat.reduceMul, Nat.reduceLeDiff, Nat.reduceBEq, Nat.reduceBNe, Int.reduceEq, ↓reduceIte, reduceCtorEq]
      refine call_go true (implGoodDisk_ok p h b (by omega) (by omega) (by omega)) ?_
      simp (maxSteps := 9000000) -implicitDefEqProofs -dsimp (disch := omega) only [go_sem, g25_0, g25_1, g25_2, g25_3, g25_4, g25_5, i25, hg, Nat.reduceEqDiff, Nat.reduceAdd, Nat.reduceMul, Nat.reduceLeDiff, Nat.reduceBEq, Nat.reduceBNe, Int.reduceEq, ↓reduceIte, reduceCtorEq]
      refine call_go true (has_ok p h b x hp hh hb) ?_
      simp (maxSteps := 9000000) -implicitDefEqProofs -dsimp (disch := omega) only [go_sem, g25_0, g25_1, g25_2, g25_3, g25_4, g25_5, i25, hx, Nat.reduceEqDiff, Nat.reduceAdd, Nat.reduceMul, Nat.reduceLeDiff, Nat.reduceBEq, Nat.reduceBNe, Int.reduceEq, ↓reduceIte, reduceCtorEq]
  · rw [readF, if_neg (fun q => hg q.1)]
    unfold e0
    refine meets_go (ir := i25) (fn := Try.f25) (rx := [(.tmp 4), (.tmp 5)]) rfl rfl (by rfl) (by rfl) (by exact Nat.le_of_ble_eq_true rfl) ?_
    simp (maxSteps := 9000000) -implicitDefEqProofs -dsimp (disch := omega) only [go_sem, g25_0, g25_1, g25_2, g25_3, g25_4, g25_5, i25, Nat.reduceEqDiff, Nat.reduceAdd, Nat.reduceMul, Nat.reduceLeDiff, Nat.reduceBEq, Nat.reduceBNe, Int.reduceEq, ↓reduceIte, reduceCtorEq]
    refine call_go true (implGoodDisk_ok p h b (by omega) (by omega) (by omega)) ?_
    simp (maxSteps := 9000000) -implicitDefEqProofs -dsimp (disch := omega) only [go_sem, g25_0, g25_1, g25_2, g25_3, g25_4, g25_5, i25, hg, Nat.reduceEqDiff, Nat.reduceAdd, Nat.reduceMul, Nat.reduceLeDiff, Nat.reduceBEq, Nat.reduceBNe, Int.reduceEq, ↓reduceIte, reduceCtorEq]
end Go.Proofs.YtjlodcoeegpkaaaT
