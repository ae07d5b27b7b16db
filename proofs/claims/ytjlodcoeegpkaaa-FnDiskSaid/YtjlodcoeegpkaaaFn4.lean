/- Functions of the program, each with what it returns and leaves. No condition. -/
import Derived.Test.YtjlodcoeegpkaaaFn3
import Derived.Test.YtjlodcoeegpkaaaFn1
set_option linter.all false
set_option linter.unusedVariables false
set_option linter.unusedSimpArgs false
set_option linter.unusedSectionVars false
set_option linter.unnecessarySimpa false
set_option linter.deprecated false
/- Functions of the program as contracts: a disk played. No condition. -/
set_option maxRecDepth 100000
set_option maxHeartbeats 8000000
set_option linter.unusedSimpArgs false
set_option linter.unusedVariables false
namespace Go.Proofs.YtjlodcoeegpkaaaT
open Go Go.RowKit
theorem rep_str {n : Nat} : (List.replicate n [T.str (⟨#[]⟩ : ByteArray)]).flatten = (List.replicate n e0).map T.str := by
  induction n with
  | zero => rfl
  | succ n ih => simp only [List.replicate_succ, List.flatten_cons, ih, List.map_cons]; rfl
theorem rep_bool {n : Nat} : (List.replicate n [T.bool false]).flatten = (List.replicate n false).map T.bool := by
  induction n with
  | zero => rfl
  | succ n ih => simp only [List.replicate_succ, List.flatten_cons, ih, List.map_cons]; rfl
theorem cut_rs {n : Nat} {x : ByteArray} : cut ((List.replicate n x).map T.str) 0 n = (List.replicate n x).map T.str := cut_all (by simp)
theorem cut_rb {n : Nat} {x : Bool} : cut ((List.replicate n x).map T.bool) 0 n = (List.replicate n x).map T.bool := cut_all (by simp)
/-- a new disk -/
def NewRes (n : Int) : TV := if 1 ≤ n ∧ n ≤ 24 then .tup [.agg [(.sl true 1 (List.replicate n.toNat e0).length ((List.replicate n.toNat e0).map T.str)), (.sl true 1 (List.replicate n.toNat e0).length ((List.replicate n.toNat e0).map T.str)), (.sl true 1 (List.replicate n.toNat false).length ((List.replicate n.toNat false).map T.bool))], .one (.bool true)] else .tup [.agg [.sl true 0 0 [], .sl true 0 0 [], .sl true 0 0 []], .one (.bool false)]
def g13_0 : List Gop := [⟨none, (some 2), (.alloc [.nil, .nil, .nil])⟩, ⟨none, (some 3), (.mov (.k (.one (.bool .false))))⟩]
def g13_1 : List Gop := [⟨none, (some 4), (.mov (.t 0))⟩, ⟨none, (some 5), (.call 58 [(.t 4), (.k (.one (.int .i64 1))), (.k (.one (.int .i64 24)))])⟩, ⟨none, (some 6), (.un .not (.t 5))⟩]
def g13_2 : List Gop := [⟨none, (some 7), (.build [.nil, .nil, .nil] [])⟩, ⟨none, none, (.store 3 (.t 2) (.t 7))⟩, ⟨none, (some 3), (.mov (.k (.one (.bool .false))))⟩]
def g13_3 : List Gop := [⟨none, (some 8), (.mov (.t 0))⟩, ⟨none, (some 9), (.make 1 [(.str ⟨#[]⟩)] 16 (.t 8) (.t 8))⟩, ⟨none, (some 10), (.mov (.t 0))⟩, ⟨none, (some 11), (.make 1 [(.str ⟨#[]⟩)] 16 (.t 10) (.t 10))⟩, ⟨none, (some 12), (.mov (.t 0))⟩, ⟨none, (some 13), (.make 1 [(.bool .false)] 1 (.t 12) (.t 12))⟩, ⟨none, (some 14), (.build [.nil, .nil, .nil] [(0, (1, (.t 9))), (1, (1, (.t 11))), (2, (1, (.t 13)))])⟩, ⟨none, none, (.store 3 (.t 2) (.t 14))⟩, ⟨none, (some 3), (.mov (.k (.one (.bool .true))))⟩]
def a13_3 : List (List Nat) := [[], [0], [], [2], [], [4], [0, 1, 2, 3, 4, 5], [0, 1, 2, 3, 4, 5, 6], [0, 1, 2, 3, 4, 5, 6, 7]]
def n13_3 : Nat := 6 -- of 9
def i13 : Ir := (.seq (.region g13_0) (.seq (.seq (.region g13_1) (.cond (.t 6) (.seq (.region g13_2) .ret) .skip)) (.seq (.draw [[], [0, 0], [], [2, 2], [], [4, 4], [1, 3, 5], [6, 0, 1, 2, 3, 4, 5, 6], [7, 0, 1, 2, 3, 4, 5, 6, 7]] g13_3) .ret)))
theorem specNewDisk_ok (n : Int) : Meets Try.prog 13 [.one (.int .i64 n)] (NewRes n) [.one .hole] := by
  by_cases h : 1 ≤ n ∧ n ≤ 24
  · obtain ⟨m, rfl⟩ := Int.eq_ofNat_of_zero_le (show 0 ≤ n by omega)
    rw [NewRes, if_pos h]
    refine meets_go (ir := i13) (fn := Try.f13) (rx := [(.cell 2 (some 3)), (.tmp 3)]) rfl rfl (by rfl) (by rfl) (by exact Nat.le_of_ble_eq_true rfl) ?_
    simp (maxSteps := 9000000) -implicitDefEqProofs -dsimp (disch := omega) only [go_sem, g13_0, g13_1, g13_2, g13_3, a13_3, n13_3, i13, Nat.reduceEqDiff, Nat.reduceAdd, Nat.reduceMul, Nat.reduceLeDiff, Nat.reduceBEq, Nat.reduceBNe, Int.reduceEq, ↓reduceIte, reduceCtorEq]
    refine call_go true (l1In_ok m 1 24) ?_
    simp (maxSteps := 9000000) -implicitDefEqProofs -dsimp (disch := omega) only [go_sem, g13_0, g13_1, g13_2, g13_3, a13_3, n13_3, i13, h, Nat.reduceEqDiff, Nat.reduceAdd, Nat.reduceMul, Nat.reduceLeDiff, Nat.reduceBEq, Nat.reduceBNe, Int.reduceEq, ↓reduceIte, reduceCtorEq]
    refine draw_go n13_3 a13_3 (by decide +kernel) ?_
    simp (maxSteps := 9000000) -implicitDefEqProofs -dsimp (disch := omega) only [go_sem, g13_0, g13_1, g13_2, g13_3, a13_3, n13_3, i13, rep_str, rep_bool, List.length_replicate, cut_rs, cut_rb, Nat.reduceEqDiff, Nat.reduceAdd, Nat.reduceMul, Nat.reduceLeDiff, Nat.reduceBEq, Nat.reduceBNe, Int.reduceEq, ↓reduceIte, reduceCtorEq]
  · rw [NewRes, if_neg h]
    refine meets_go (ir := i13) (fn := Try.f13) (rx := [(.cell 2 (some 3)), (.tmp 3)]) rfl rfl (by rfl) (by rfl) (by exact Nat.le_of_ble_eq_true rfl) ?_
    simp (maxSteps := 9000000) -implicitDefEqProofs -dsimp (disch := omega) only [go_sem, g13_0, g13_1, g13_2, g13_3, a13_3, n13_3, i13, Nat.reduceEqDiff, Nat.reduceAdd, Nat.reduceMul, Nat.reduceLeDiff, Nat.reduceBEq, Nat.reduceBNe, Int.reduceEq, ↓reduceIte, reduceCtorEq]
    refine call_go true (l1In_ok n 1 24) ?_
    simp (maxSteps := 9000000) -implicitDefEqProofs -dsimp (disch := omega) only [go_sem, g13_0, g13_1, g13_2, g13_3, a13_3, n13_3, i13, h, Nat.reduceEqDiff, Nat.reduceAdd, Nat.reduceMul, Nat.reduceLeDiff, Nat.reduceBEq, Nat.reduceBNe, Int.reduceEq, ↓reduceIte, reduceCtorEq]
def g14_0 : List Gop := [⟨none, (some 2), (.alloc [.nil, .nil, .nil])⟩, ⟨none, (some 3), (.mov (.k (.one (.bool .false))))⟩]
def g14_1 : List Gop := [⟨none, (some 4), (.mov (.t 0))⟩, ⟨none, (some 5), (.call 59 [(.t 4), (.k (.one (.int .i64 1))), (.k (.one (.int .i64 24)))])⟩, ⟨none, (some 6), (.un .not (.t 5))⟩]
def g14_2 : List Gop := [⟨none, (some 7), (.build [.nil, .nil, .nil] [])⟩, ⟨none, none, (.store 3 (.t 2) (.t 7))⟩, ⟨none, (some 3), (.mov (.k (.one (.bool .false))))⟩]
def g14_3 : List Gop := [⟨none, (some 8), (.mov (.t 0))⟩, ⟨none, (some 9), (.make 1 [(.str ⟨#[]⟩)] 16 (.t 8) (.t 8))⟩, ⟨none, (some 10), (.mov (.t 0))⟩, ⟨none, (some 11), (.make 1 [(.str ⟨#[]⟩)] 16 (.t 10) (.t 10))⟩, ⟨none, (some 12), (.mov (.t 0))⟩, ⟨none, (some 13), (.make 1 [(.bool .false)] 1 (.t 12) (.t 12))⟩, ⟨none, (some 14), (.build [.nil, .nil, .nil] [(0, (1, (.t 9))), (1, (1, (.t 11))), (2, (1, (.t 13)))])⟩, ⟨none, none, (.store 3 (.t 2) (.t 14))⟩, ⟨none, (some 3), (.mov (.k (.one (.bool .true))))⟩]
def a14_3 : List (List Nat) := [[], [0], [], [2], [], [4], [0, 1, 2, 3, 4, 5], [0, 1, 2, 3, 4, 5, 6], [0, 1, 2, 3, 4, 5, 6, 7]]
def n14_3 : Nat := 6 -- of 9
def i14 : Ir := (.seq (.region g14_0) (.seq (.seq (.region g14_1) (.cond (.t 6) (.seq (.region g14_2) .ret) .skip)) (.seq (.draw [[], [0, 0], [], [2, 2], [], [4, 4], [1, 3, 5], [6, 0, 1, 2, 3, 4, 5, 6], [7, 0, 1, 2, 3, 4, 5, 6, 7]] g14_3) .ret)))
theorem implNewDisk_ok (n : Int) : Meets Try.prog 14 [.one (.int .i64 n)] (NewRes n) [.one .hole] := by
  by_cases h : 1 ≤ n ∧ n ≤ 24
  · obtain ⟨m, rfl⟩ := Int.eq_ofNat_of_zero_le (show 0 ≤ n by omega)
    rw [NewRes, if_pos h]
    refine meets_go (ir := i14) (fn := Try.f14) (rx := [(.cell 2 (some 3)), (.tmp 3)]) rfl rfl (by rfl) (by rfl) (by exact Nat.le_of_ble_eq_true rfl) ?_
    simp (maxSteps := 9000000) -implicitDefEqProofs -dsimp (disch := omega) only [go_sem, g14_0, g14_1, g14_2, g14_3, a14_3, n14_3, i14, Nat.reduceEqDiff, Nat.reduceAdd, Nat.reduceMul, Nat.reduceLeDiff, Nat.reduceBEq, Nat.reduceBNe, Int.reduceEq, ↓reduceIte, reduceCtorEq]
    refine call_go true (within_ok m 1 24) ?_
    simp (maxSteps := 9000000) -implicitDefEqProofs -dsimp (disch := omega) only [go_sem, g14_0, g14_1, g14_2, g14_3, a14_3, n14_3, i14, h, Nat.reduceEqDiff, Nat.reduceAdd, Nat.reduceMul, Nat.reduceLeDiff, Nat.reduceBEq, Nat.reduceBNe, Int.reduceEq, ↓reduceIte, reduceCtorEq]
    refine draw_go n14_3 a14_3 (by decide +kernel) ?_
    simp (maxSteps := 9000000) -implicitDefEqProofs -dsimp (disch := omega) only [go_sem, g14_0, g14_1, g14_2, g14_3, a14_3, n14_3, i14, rep_str, rep_bool, List.length_replicate, cut_rs, cut_rb, Nat.reduceEqDiff, Nat.reduceAdd, Nat.reduceMul, Nat.reduceLeDiff, Nat.reduceBEq, Nat.reduceBNe, Int.reduceEq, ↓reduceIte, reduceCtorEq]
  · rw [NewRes, if_neg h]
    refine meets_go (ir := i14) (fn := Try.f14) (rx := [(.cell 2 (some 3)), (.tmp 3)]) rfl rfl (by rfl) (by rfl) (by exact Nat.le_of_ble_eq_true rfl) ?_
    simp (maxSteps := 9000000) -implicitDefEqProofs -dsimp (disch := omega) only [go_sem, g14_0, g14_1, g14_2, g14_3, a14_3, n14_3, i14, Nat.reduceEqDiff, Nat.reduceAdd, Nat.reduceMul, Nat.reduceLeDiff, Nat.reduceBEq, Nat.reduceBNe, Int.reduceEq, ↓reduceIte, reduceCtorEq]
    refine call_go true (within_ok n 1 24) ?_
    simp (maxSteps := 9000000) -implicitDefEqProofs -dsimp (disch := omega) only [go_sem, g14_0, g14_1, g14_2, g14_3, a14_3, n14_3, i14, h, Nat.reduceEqDiff, Nat.reduceAdd, Nat.reduceMul, Nat.reduceLeDiff, Nat.reduceBEq, Nat.reduceBNe, Int.reduceEq, ↓reduceIte, reduceCtorEq]
/-- a disk after steps -/
noncomputable def playS (n : Nat) (l : List Stp) : Nat → Dk
  | 0 => ⟨List.replicate n e0, List.replicate n e0, List.replicate n false, true⟩
  | i + 1 => stepF (playS n l i).p (playS n l i).h (playS n l i).b (l.getD i default).k (l.getD i default).a (l.getD i default).t (l.getD i default).h
noncomputable def didS (n : Nat) (l : List Stp) (i : Nat) : List Bool := (List.range i).map fun j => (playS n l (j + 1)).ok
theorem didS_s {n : Nat} {l : List Stp} {i : Nat} : didS n l (i + 1) = didS n l i ++ [(playS n l (i + 1)).ok] := by simp [didS, List.range_succ]
theorem didS_0 {n : Nat} {l : List Stp} : didS n l 0 = [] := rfl
theorem didS_len {n : Nat} {l : List Stp} {i : Nat} : (didS n l i).length = i := by simp [didS]
theorem stepF_no {p h : List ByteArray} {b : List Bool} {k a : Int} {text : ByteArray} {kept : List Int} (ho : (stepF p h b k a text kept).ok = false) : stepF p h b k a text kept = ⟨p, h, b, false⟩ := by
  generalize hD : stepF p h b k a text kept = D at ho
  unfold stepF at hD
  repeat' split at hD
  all_goals (subst hD; first | rfl | simp at ho)
theorem stepF_len' (p h : List ByteArray) (b : List Bool) (k a : Int) (text : ByteArray) (kept : List Int) : (stepF p h b k a text kept).p.length = p.length ∧ (stepF p h b k a text kept).h.length = h.length ∧ (stepF p h b k a text kept).b.length = b.length := by
  generalize hD : stepF p h b k a text kept = D
  unfold stepF at hD
  repeat' split at hD
  all_goals (subst hD; simp [crashP, crashH])
/-- a disk as steps leave it -/
def DInv (n : Nat) (d : Dk) : Prop := d.p.length = n ∧ d.h.length = n ∧ d.b.length = n ∧ (∀ x ∈ d.p, x.size ≤ 28) ∧ (∀ x ∈ d.h, x.size ≤ 28)
theorem sz_set {l : List ByteArray} {i : Nat} {y : ByteArray} (h : ∀ x ∈ l, x.size ≤ 28) (hy : y.size ≤ 28) : ∀ x ∈ l.set i y, x.size ≤ 28 := fun x hx => (List.mem_or_eq_of_mem_set hx).elim (h x) (fun e => e ▸ hy)
theorem sz_get {l : List ByteArray} {i : Nat} (h : ∀ x ∈ l, x.size ≤ 28) : (l.getD i default).size ≤ 28 := by
  by_cases hi : i < l.length
  · exact h _ (getD_mem hi)
  · rw [List.getD_eq_getElem?_getD, List.getElem?_eq_none (by omega)]; decide
theorem stepF_inv {n : Nat} {p h : List ByteArray} {b : List Bool} {k a : Int} {text : ByteArray} {kept : List Int} {o : Bool} (hi : DInv n ⟨p, h, b, o⟩) : DInv n (stepF p h b k a text kept) := by
  obtain ⟨l1, l2, l3⟩ := stepF_len' p h b k a text kept
  obtain ⟨h1, h2, h3, h4, h5⟩ := hi
  simp only at h1 h2 h3 h4 h5
  refine ⟨l1.trans h1, l2.trans h2, l3.trans h3, ?_, ?_⟩
  · generalize hD : stepF p h b k a text kept = D
    unfold stepF at hD
    repeat' split at hD
    all_goals subst hD
    all_goals first
      | exact h4
      | exact sz_set h4 (by rw [rotF_size]; exact sz_get h4)
      | exact sz_set h4 (by decide)
      | (intro x hx
         simp only [crashP, List.mem_map] at hx
         obtain ⟨j, _, rfl⟩ := hx
         simp only [crashF]
         split
         · exact sz_get h5
         · exact sz_get h4)
  · generalize hD : stepF p h b k a text kept = D
    unfold stepF at hD
    repeat' split at hD
    all_goals subst hD
    all_goals first
      | exact h5
      | (rename_i c; exact sz_set h5 c.2.2.2)
      | exact sz_set h5 (by decide)
      | (intro x hx
         simp only [crashH, List.mem_map] at hx
         obtain ⟨j, _, rfl⟩ := hx
         decide)
theorem playS_inv {n : Nat} {l : List Stp} : ∀ {i : Nat}, DInv n (playS n l i)
  | 0 => by
    refine ⟨by simp [playS], by simp [playS], by simp [playS], ?_, ?_⟩ <;>
    · intro x hx
      simp only [playS, List.mem_replicate] at hx
      rw [hx.2]; decide
  | i + 1 => stepF_inv (playS_inv (i := i))
/-- a disk played -/
noncomputable def PlayRes (n : Int) (l : List Stp) : TV := if (1 ≤ n ∧ n ≤ 24) ∧ l.length ≤ 80 then .tup [.agg [(.sl true 1 ((playS n.toNat l l.length).p).length (((playS n.toNat l l.length).p).map T.str)), (.sl true 1 ((playS n.toNat l l.length).h).length (((playS n.toNat l l.length).h).map T.str)), (.sl true 1 ((playS n.toNat l l.length).b).length (((playS n.toNat l l.length).b).map T.bool))], .one (.sl true 1 (didS n.toNat l l.length).length ((didS n.toNat l l.length).map T.bool)), .one (.bool true)] else .tup [.agg [.sl true 0 0 [], .sl true 0 0 [], .sl true 0 0 []], .one (.sl true 0 0 []), .one (.bool false)]
def g41_0 : List Gop := [⟨none, (some 4), (.alloc [.nil, .nil, .nil])⟩, ⟨none, (some 5), (.mov (.k (.one .nil)))⟩, ⟨none, (some 6), (.mov (.k (.one (.bool .false))))⟩]
def g41_1 : List Gop := [⟨none, (some 15), (.mov (.t 0))⟩, ⟨none, (some 16), (.call 14 [(.t 15)])⟩, ⟨none, (some 14), (.mov (.t 16))⟩, ⟨none, (some 17), (.ext (.t 14) 0)⟩, ⟨none, (some 18), (.ext (.t 14) 1)⟩, ⟨none, (some 7), (.alloc [.nil, .nil, .nil])⟩, ⟨none, none, (.store 3 (.t 7) (.t 17))⟩, ⟨none, (some 8), (.mov (.t 18))⟩]
def g41_2 : List Gop := [⟨none, (some 19), (.mov (.t 8))⟩, ⟨none, (some 20), (.un .not (.t 19))⟩, ⟨none, (some 21), (.mov (.t 20))⟩, ⟨(some (21, .false)), (some 22), (.mov (.t 1))⟩, ⟨(some (21, .false)), (some 23), (.len (.t 22))⟩, ⟨(some (21, .false)), (some 24), (.bin .gtr (.t 23) (.k (.one (.int .i64 80))))⟩, ⟨none, (some 25), (.pick (.t 21) (.k (.one (.bool .true))) (.t 24))⟩]
def g41_3 : List Gop := [⟨none, (some 26), (.build [.nil, .nil, .nil] [])⟩, ⟨none, none, (.store 3 (.t 4) (.t 26))⟩, ⟨none, (some 5), (.mov (.k (.one .nil)))⟩, ⟨none, (some 6), (.mov (.k (.one (.bool .false))))⟩]
def g41_4 : List Gop := [⟨none, (some 27), (.lit 1 0 [(.bool .false)] [])⟩, ⟨none, (some 9), (.mov (.t 27))⟩]
def g41_5 : List Gop := [⟨none, (some 28), (.mov (.t 1))⟩, ⟨none, (some 29), (.len (.t 28))⟩, ⟨none, (some 30), (.mov (.k (.one (.int .i64 0))))⟩]
def g41_6 : List Gop := [⟨none, (some 31), (.bin .lss (.t 30) (.t 29))⟩]
def g41_7 : List Gop := [⟨none, (some 32), (.iaddr 4 (.t 28) (.t 30))⟩, ⟨none, (some 33), (.load (some 4) (.t 32))⟩, ⟨none, (some 11), (.alloc [(.int .i64 0), (.int .i64 0), (.str ⟨#[]⟩), .nil])⟩, ⟨none, none, (.store 4 (.t 11) (.t 33))⟩]
def g41_8 : List Gop := [⟨none, (some 35), (.load (some 3) (.t 7))⟩, ⟨none, (some 36), (.load (some 4) (.t 11))⟩, ⟨none, (some 37), (.call 85 [(.t 35), (.t 36)])⟩, ⟨none, (some 34), (.mov (.t 37))⟩, ⟨none, (some 38), (.ext (.t 34) 0)⟩, ⟨none, (some 39), (.ext (.t 34) 1)⟩, ⟨none, (some 12), (.alloc [.nil, .nil, .nil])⟩, ⟨none, none, (.store 3 (.t 12) (.t 38))⟩, ⟨none, (some 13), (.mov (.t 39))⟩]
def g41_9 : List Gop := [⟨none, (some 40), (.mov (.t 13))⟩]
def g41_10 : List Gop := [⟨none, (some 41), (.load (some 3) (.t 12))⟩, ⟨none, none, (.store 3 (.t 7) (.t 41))⟩]
def g41_11 : List Gop := [⟨none, (some 42), (.mov (.t 9))⟩, ⟨none, (some 43), (.mov (.t 13))⟩, ⟨none, (some 44), (.lit 1 1 [(.bool .false)] [(0, (.t 43))])⟩, ⟨none, (some 45), (.app 1 1 [(.bool .false)] (.t 42) (.t 44))⟩, ⟨none, (some 9), (.mov (.t 45))⟩]
def g41_12 : List Gop := [⟨none, (some 46), (.bin .add (.t 30) (.k (.one (.int .i64 1))))⟩, ⟨none, (some 30), (.mov (.t 46))⟩]
def g41_13 : List Gop := [⟨none, (some 47), (.load (some 3) (.t 7))⟩, ⟨none, (some 48), (.mov (.t 9))⟩, ⟨none, none, (.store 3 (.t 4) (.t 47))⟩, ⟨none, (some 5), (.mov (.t 48))⟩, ⟨none, (some 6), (.mov (.k (.one (.bool .true))))⟩]
def i41 : Ir := (.seq (.region g41_0) (.seq (.region g41_1) (.seq (.seq (.region g41_2) (.cond (.t 25) (.seq (.region g41_3) .ret) .skip)) (.seq (.region g41_4) (.seq (.seq (.region g41_5) (.block 0 (.loop (.seq (.region g41_6) (.seq (.cond (.t 31) .skip (.exit 0)) (.seq (.block 1 (.seq (.region g41_7) (.seq (.region g41_8) (.seq (.seq (.region g41_9) (.cond (.t 40) (.region g41_10) .skip)) (.region g41_11))))) (.region g41_12))))))) (.seq (.region g41_13) .ret))))))
theorem implPlayDisk_ok (n : Int) (l : List Stp) (hl : l.length ≤ 1048576) (hk : ∀ x ∈ l, x.h.length ≤ 1048576 ∧ x.t.size ≤ 1048576) : Meets Try.prog 41 [.one (.int .i64 n), .one (LS l)] (PlayRes n l) [.one .hole, .one .hole] := by
  unfold LS
  by_cases h : 1 ≤ n ∧ n ≤ 24
  · obtain ⟨m, rfl⟩ := Int.eq_ofNat_of_zero_le (show 0 ≤ n by omega)
    have MN := implNewDisk_ok m
    rw [NewRes, if_pos h] at MN
    by_cases h2 : l.length ≤ 80
    · rw [PlayRes, if_pos ⟨h, h2⟩]
      refine meets_go (ir := i41) (fn := Try.f41) (rx := [(.cell 4 (some 3)), (.tmp 5), (.tmp 6)]) rfl rfl (by rfl) (by rfl) (by exact Nat.le_of_ble_eq_true rfl) ?_
      simp (maxSteps := 9000000) -implicitDefEqProofs -dsimp (disch := omega) only [go_sem, g41_0, g41_1, g41_2, g41_3, g41_4, g41_5, g41_6, g41_7, g41_8, g41_9, g41_10, g41_11, g41_12, g41_13, i41, Nat.reduceEqDiff, Nat.reduceAdd, Nat.reduceMul, Nat.reduceLeDiff, Nat.reduceBEq, Nat.reduceBNe, Int.reduceEq, ↓reduceIte, reduceCtorEq]
      refine call_go true MN ?_
      simp (maxSteps := 9000000) -implicitDefEqProofs -dsimp (disch := omega) only [go_sem, g41_0, g41_1, g41_2, g41_3, g41_4, g41_5, g41_6, g41_7, g41_8, g41_9, g41_10, g41_11, g41_12, g41_13, i41, lt_T, lt_F, le_T, le_F, eq_T, eq_F, and_F, rep_str, rep_bool, List.length_replicate, Nat.reduceEqDiff, Nat.reduceAdd, Nat.reduceMul, Nat.reduceLeDiff, Nat.reduceBEq, Nat.reduceBNe, Int.reduceEq, ↓reduceIte, reduceCtorEq]
      have p0 : (playS m l 0).p = List.replicate m e0 := rfl
      have p1 : (playS m l 0).h = List.replicate m e0 := rfl
      have p2 : (playS m l 0).b = List.replicate m false := rfl
      refine loop_n l.length (fun i => ⟨[(30, .w (.one (.int .i64 (i : Nat)))), (29, .w (.one (.int .i64 l.length))), (28, .w (.one (.hs 0 [] 0 4 l.length))), (9, .w (.one (.hs 9 [] 0 1 i))), (7, .w (.one (.hp 5 [] 0))), (4, .w (.one (.hp 1 [] 0)))],
        [(9, .sl true 1 i ((didS m l i).map T.bool)), (5, .bx true [.sl true 1 m ((playS m l i).p.map T.str), .sl true 1 m ((playS m l i).h.map T.str), .sl true 1 m ((playS m l i).b.map T.bool)]), (1, .bx true [.sl true 0 0 [], .sl true 0 0 [], .sl true 0 0 []]), (0, .sl false 4 l.length (stR l))], [.one (.int .i64 m), .one (.hs 0 [] 0 4 l.length)]⟩) (fun i => True) ?_ trivial ?_
      · exact (imp_adopt 9 9 1 rfl rfl).trans (imp_sub (by simp (maxSteps := 9000000) -implicitDefEqProofs -dsimp (disch := omega) only [go_sem, g41_0, g41_1, g41_2, g41_3, g41_4, g41_5, g41_6, g41_7, g41_8, g41_9, g41_10, g41_11, g41_12, g41_13, i41, cut_rs, cut_rb, p0, p1, p2, didS_0, Nat.reduceEqDiff, Nat.reduceAdd, Nat.reduceMul, Nat.reduceLeDiff, Nat.reduceBEq, Nat.reduceBNe, Int.reduceEq, ↓reduceIte, reduceCtorEq]) (by simp (maxSteps := 9000000) -implicitDefEqProofs -dsimp (disch := omega) only [go_sem, g41_0, g41_1, g41_2, g41_3, g41_4, g41_5, g41_6, g41_7, g41_8, g41_9, g41_10, g41_11, g41_12, g41_13, i41, cut_rs, cut_rb, p0, p1, p2, didS_0, Nat.reduceEqDiff, Nat.reduceAdd, Nat.reduceMul, Nat.reduceLeDiff, Nat.reduceBEq, Nat.reduceBNe, Int.reduceEq, ↓reduceIte, reduceCtorEq]) rfl)
      · intro i hi hJ
        simp (maxSteps := 9000000) -implicitDefEqProofs -dsimp (disch := omega) only [go_sem, g41_0, g41_1, g41_2, g41_3, g41_4, g41_5, g41_6, g41_7, g41_8, g41_9, g41_10, g41_11, g41_12, g41_13, i41, Nat.reduceEqDiff, Nat.reduceAdd, Nat.reduceMul, Nat.reduceLeDiff, Nat.reduceBEq, Nat.reduceBNe, Int.reduceEq, ↓reduceIte, reduceCtorEq]
        refine brP_i (fun h3 => ?_) (fun h3 => ?_)
        · have hlt : i < l.length := by omega
          have hki := hk _ (getD_mem hlt)
          obtain ⟨i1, i2, i3, i4, i5⟩ := playS_inv (n := m) (l := l) (i := i)
          have st := stepped_ok (playS m l i).p (playS m l i).h (playS m l i).b (l.getD i default).k (l.getD i default).a (l.getD i default).t (l.getD i default).h (by omega) (by omega) (by omega) (fun e => by rw [e] at i3; simp only [List.length_nil] at i3; omega) hki.1 hki.2 (fun x hx => by have := i4 x hx; omega)
          have eS : playS m l (i + 1) = stepF (playS m l i).p (playS m l i).h (playS m l i).b (l.getD i default).k (l.getD i default).a (l.getD i default).t (l.getD i default).h := rfl
          have eD := didS_s (n := m) (l := l) (i := i)
          unfold Stepped at st; rw [← eS] at st
          have cp : cut ((playS m l i).p.map T.str) 0 m = (playS m l i).p.map T.str := cut_all (by simp [i1])
          have ch : cut ((playS m l i).h.map T.str) 0 m = (playS m l i).h.map T.str := cut_all (by simp [i2])
          have cb : cut ((playS m l i).b.map T.bool) 0 m = (playS m l i).b.map T.bool := cut_all (by simp [i3])
          have cd : cut ((didS m l i).map T.bool) 0 i = (didS m l i).map T.bool := cut_all (by simp [didS_len])
          have r1 : (didS m l (i + 1)).length = i + 1 := didS_len
          obtain ⟨j1, j2, j3, j4, j5⟩ := playS_inv (n := m) (l := l) (i := i + 1)
          cases hok : (playS m l (i + 1)).ok with
          | true =>
            rcases st with ⟨p', h', b', hM, hD⟩ | ⟨hno, hM⟩
            · have hD' := hD hok
              have k1 : p' = (playS m l (i + 1)).p := by rw [hD']
              have k2 : h' = (playS m l (i + 1)).h := by rw [hD']
              have k3 : b' = (playS m l (i + 1)).b := by rw [hD']
              rw [i1, i2, i3, hok, k1, k2, k3, j1, j2, j3] at hM
              rw [hok] at eD
              have cp' : cut ((playS m l (i + 1)).p.map T.str) 0 m = (playS m l (i + 1)).p.map T.str := cut_all (by simp [j1])
              have ch' : cut ((playS m l (i + 1)).h.map T.str) 0 m = (playS m l (i + 1)).h.map T.str := cut_all (by simp [j2])
              have cb' : cut ((playS m l (i + 1)).b.map T.bool) 0 m = (playS m l (i + 1)).b.map T.bool := cut_all (by simp [j3])
              simp (maxSteps := 9000000) -implicitDefEqProofs -dsimp (disch := omega) only [go_sem, g41_0, g41_1, g41_2, g41_3, g41_4, g41_5, g41_6, g41_7, g41_8, g41_9, g41_10, g41_11, g41_12, g41_13, i41, stR_0 hlt, stR_1 hlt, stR_2 hlt, stR_3 hlt, Nat.reduceEqDiff, Nat.reduceAdd, Nat.reduceMul, Nat.reduceLeDiff, Nat.reduceBEq, Nat.reduceBNe, Int.reduceEq, ↓reduceIte, reduceCtorEq]
              refine call_go true hM ?_
              simp (maxSteps := 9000000) -implicitDefEqProofs -dsimp (disch := omega) only [go_sem, g41_0, g41_1, g41_2, g41_3, g41_4, g41_5, g41_6, g41_7, g41_8, g41_9, g41_10, g41_11, g41_12, g41_13, i41, stR_3 hlt, cp, ch, cb, cp', ch', cb', cd, Nat.reduceEqDiff, Nat.reduceAdd, Nat.reduceMul, Nat.reduceLeDiff, Nat.reduceBEq, Nat.reduceBNe, Int.reduceEq, ↓reduceIte, reduceCtorEq]
              exact ⟨hlt, (imp_ren 16 9 rfl rfl).trans (imp_sub (by simp (maxSteps := 9000000) -implicitDefEqProofs -dsimp (disch := omega) only [go_sem, g41_0, g41_1, g41_2, g41_3, g41_4, g41_5, g41_6, g41_7, g41_8, g41_9, g41_10, g41_11, g41_12, g41_13, i41, eD, Nat.reduceEqDiff, Nat.reduceAdd, Nat.reduceMul, Nat.reduceLeDiff, Nat.reduceBEq, Nat.reduceBNe, Int.reduceEq, ↓reduceIte, reduceCtorEq]) (by simp (maxSteps := 9000000) -implicitDefEqProofs -dsimp (disch := omega) only [go_sem, g41_0, g41_1, g41_2, g41_3, g41_4, g41_5, g41_6, g41_7, g41_8, g41_9, g41_10, g41_11, g41_12, g41_13, i41, eD, Nat.reduceEqDiff, Nat.reduceAdd, Nat.reduceMul, Nat.reduceLeDiff, Nat.reduceBEq, Nat.reduceBNe, Int.reduceEq, ↓reduceIte, reduceCtorEq]) rfl)⟩
            · rw [hok] at hno; simp at hno
          | false =>
            have hn : playS m l (i + 1) = ⟨(playS m l i).p, (playS m l i).h, (playS m l i).b, false⟩ := by rw [eS] at hok ⊢; exact stepF_no hok
            have n1 : (playS m l (i + 1)).p = (playS m l i).p := by rw [hn]
            have n2 : (playS m l (i + 1)).h = (playS m l i).h := by rw [hn]
            have n3 : (playS m l (i + 1)).b = (playS m l i).b := by rw [hn]
            rw [hok] at eD
            rcases st with ⟨p', h', b', hM, hD⟩ | ⟨hno, hM⟩
            · rw [i1, i2, i3, hok] at hM
              simp (maxSteps := 9000000) -implicitDefEqProofs -dsimp (disch := omega) only [go_sem, g41_0, g41_1, g41_2, g41_3, g41_4, g41_5, g41_6, g41_7, g41_8, g41_9, g41_10, g41_11, g41_12, g41_13, i41, stR_0 hlt, stR_1 hlt, stR_2 hlt, stR_3 hlt, Nat.reduceEqDiff, Nat.reduceAdd, Nat.reduceMul, Nat.reduceLeDiff, Nat.reduceBEq, Nat.reduceBNe, Int.reduceEq, ↓reduceIte, reduceCtorEq]
              refine call_go true hM ?_
              simp (maxSteps := 9000000) -implicitDefEqProofs -dsimp (disch := omega) only [go_sem, g41_0, g41_1, g41_2, g41_3, g41_4, g41_5, g41_6, g41_7, g41_8, g41_9, g41_10, g41_11, g41_12, g41_13, i41, stR_3 hlt, cp, ch, cb, cd, Nat.reduceEqDiff, Nat.reduceAdd, Nat.reduceMul, Nat.reduceLeDiff, Nat.reduceBEq, Nat.reduceBNe, Int.reduceEq, ↓reduceIte, reduceCtorEq]
              exact ⟨hlt, (imp_ren 16 9 rfl rfl).trans (imp_sub (by simp (maxSteps := 9000000) -implicitDefEqProofs -dsimp (disch := omega) only [go_sem, g41_0, g41_1, g41_2, g41_3, g41_4, g41_5, g41_6, g41_7, g41_8, g41_9, g41_10, g41_11, g41_12, g41_13, i41, eD, n1, n2, n3, Nat.reduceEqDiff, Nat.reduceAdd, Nat.reduceMul, Nat.reduceLeDiff, Nat.reduceBEq, Nat.reduceBNe, Int.reduceEq, ↓reduceIte, reduceCtorEq]) (by simp (maxSteps := 9000000) -implicitDefEqProofs -dsimp (disch := omega) only [go_sem, g41_0, g41_1, g41_2, g41_3, g41_4, g41_5, g41_6, g41_7, g41_8, g41_9, g41_10, g41_11, g41_12, g41_13, i41, eD, n1, n2, n3, Nat.reduceEqDiff, Nat.reduceAdd, Nat.reduceMul, Nat.reduceLeDiff, Nat.reduceBEq, Nat.reduceBNe, Int.reduceEq, ↓reduceIte, reduceCtorEq]) rfl)⟩
            · rw [i1, i2, i3] at hM
              simp (maxSteps := 9000000) -implicitDefEqProofs -dsimp (disch := omega) only [go_sem, g41_0, g41_1, g41_2, g41_3, g41_4, g41_5, g41_6, g41_7, g41_8, g41_9, g41_10, g41_11, g41_12, g41_13, i41, stR_0 hlt, stR_1 hlt, stR_2 hlt, stR_3 hlt, Nat.reduceEqDiff, Nat.reduceAdd, Nat.reduceMul, Nat.reduceLeDiff, Nat.reduceBEq, Nat.reduceBNe, Int.reduceEq, ↓reduceIte, reduceCtorEq]
              refine call_go true hM ?_
              simp (maxSteps := 9000000) -implicitDefEqProofs -dsimp (disch := omega) only [go_sem, g41_0, g41_1, g41_2, g41_3, g41_4, g41_5, g41_6, g41_7, g41_8, g41_9, g41_10, g41_11, g41_12, g41_13, i41, stR_3 hlt, cp, ch, cb, cd, Nat.reduceEqDiff, Nat.reduceAdd, Nat.reduceMul, Nat.reduceLeDiff, Nat.reduceBEq, Nat.reduceBNe, Int.reduceEq, ↓reduceIte, reduceCtorEq]
              exact ⟨hlt, (imp_ren 13 9 rfl rfl).trans (imp_sub (by simp (maxSteps := 9000000) -implicitDefEqProofs -dsimp (disch := omega) only [go_sem, g41_0, g41_1, g41_2, g41_3, g41_4, g41_5, g41_6, g41_7, g41_8, g41_9, g41_10, g41_11, g41_12, g41_13, i41, eD, n1, n2, n3, Nat.reduceEqDiff, Nat.reduceAdd, Nat.reduceMul, Nat.reduceLeDiff, Nat.reduceBEq, Nat.reduceBNe, Int.reduceEq, ↓reduceIte, reduceCtorEq]) (by simp (maxSteps := 9000000) -implicitDefEqProofs -dsimp (disch := omega) only [go_sem, g41_0, g41_1, g41_2, g41_3, g41_4, g41_5, g41_6, g41_7, g41_8, g41_9, g41_10, g41_11, g41_12, g41_13, i41, eD, n1, n2, n3, Nat.reduceEqDiff, Nat.reduceAdd, Nat.reduceMul, Nat.reduceLeDiff, Nat.reduceBEq, Nat.reduceBNe, Int.reduceEq, ↓reduceIte, reduceCtorEq]) rfl)⟩
        · obtain rfl : i = l.length := by omega
          obtain ⟨i1, i2, i3, i4, i5⟩ := playS_inv (n := m) (l := l) (i := l.length)
          have r1 : (didS m l l.length).length = l.length := didS_len
          have cp : cut ((playS m l l.length).p.map T.str) 0 m = (playS m l l.length).p.map T.str := cut_all (by simp [i1])
          have ch : cut ((playS m l l.length).h.map T.str) 0 m = (playS m l l.length).h.map T.str := cut_all (by simp [i2])
          have cb : cut ((playS m l l.length).b.map T.bool) 0 m = (playS m l l.length).b.map T.bool := cut_all (by simp [i3])
          have cd : cut ((didS m l l.length).map T.bool) 0 l.length = (didS m l l.length).map T.bool := cut_all (by simp [didS_len])
          simp (maxSteps := 9000000) -implicitDefEqProofs -dsimp (disch := omega) only [go_sem, g41_0, g41_1, g41_2, g41_3, g41_4, g41_5, g41_6, g41_7, g41_8, g41_9, g41_10, g41_11, g41_12, g41_13, i41, cp, ch, cb, cd, i1, i2, i3, r1, toNat_nat, Nat.reduceEqDiff, Nat.reduceAdd, Nat.reduceMul, Nat.reduceLeDiff, Nat.reduceBEq, Nat.reduceBNe, Int.reduceEq, ↓reduceIte, reduceCtorEq]
    · rw [PlayRes, if_neg (fun q => h2 q.2)]
      refine meets_go (ir := i41) (fn := Try.f41) (rx := [(.cell 4 (some 3)), (.tmp 5), (.tmp 6)]) rfl rfl (by rfl) (by rfl) (by exact Nat.le_of_ble_eq_true rfl) ?_
      simp (maxSteps := 9000000) -implicitDefEqProofs -dsimp (disch := omega) only [go_sem, g41_0, g41_1, g41_2, g41_3, g41_4, g41_5, g41_6, g41_7, g41_8, g41_9, g41_10, g41_11, g41_12, g41_13, i41, Nat.reduceEqDiff, Nat.reduceAdd, Nat.reduceMul, Nat.reduceLeDiff, Nat.reduceBEq, Nat.reduceBNe, Int.reduceEq, ↓reduceIte, reduceCtorEq]
      refine call_go true MN ?_
      simp (maxSteps := 9000000) -implicitDefEqProofs -dsimp (disch := omega) only [go_sem, g41_0, g41_1, g41_2, g41_3, g41_4, g41_5, g41_6, g41_7, g41_8, g41_9, g41_10, g41_11, g41_12, g41_13, i41, lt_T, lt_F, le_T, le_F, eq_T, eq_F, and_F, rep_str, rep_bool, List.length_replicate, Nat.reduceEqDiff, Nat.reduceAdd, Nat.reduceMul, Nat.reduceLeDiff, Nat.reduceBEq, Nat.reduceBNe, Int.reduceEq, ↓reduceIte, reduceCtorEq]
  · have MN := implNewDisk_ok n
    rw [NewRes, if_neg h] at MN
    rw [PlayRes, if_neg (fun q => h q.1)]
    refine meets_go (ir := i41) (fn := Try.f41) (rx := [(.cell 4 (some 3)), (.tmp 5), (.tmp 6)]) rfl rfl (by rfl) (by rfl) (by exact Nat.le_of_ble_eq_true rfl) ?_
    simp (maxSteps := 9000000) -implicitDefEqProofs -dsimp (disch := omega) only [go_sem, g41_0, g41_1, g41_2, g41_3, g41_4, g41_5, g41_6, g41_7, g41_8, g41_9, g41_10, g41_11, g41_12, g41_13, i41, Nat.reduceEqDiff, Nat.reduceAdd, Nat.reduceMul, Nat.reduceLeDiff, Nat.reduceBEq, Nat.reduceBNe, Int.reduceEq, ↓reduceIte, reduceCtorEq]
    refine call_go true MN ?_
    simp (maxSteps := 9000000) -implicitDefEqProofs -dsimp (disch := omega) only [go_sem, g41_0, g41_1, g41_2, g41_3, g41_4, g41_5, g41_6, g41_7, g41_8, g41_9, g41_10, g41_11, g41_12, g41_13, i41, lt_T, lt_F, le_T, le_F, eq_T, eq_F, and_F, Nat.reduceEqDiff, Nat.reduceAdd, Nat.reduceMul, Nat.reduceLeDiff, Nat.reduceBEq, Nat.reduceBNe, Int.reduceEq, ↓reduceIte, reduceCtorEq]
def g42_0 : List Gop := [⟨none, (some 4), (.alloc [.nil, .nil, .nil])⟩, ⟨none, (some 5), (.mov (.k (.one .nil)))⟩, ⟨none, (some 6), (.mov (.k (.one (.bool .false))))⟩]
def g42_1 : List Gop := [⟨none, (some 15), (.mov (.t 0))⟩, ⟨none, (some 16), (.call 13 [(.t 15)])⟩, ⟨none, (some 14), (.mov (.t 16))⟩, ⟨none, (some 17), (.ext (.t 14) 0)⟩, ⟨none, (some 18), (.ext (.t 14) 1)⟩, ⟨none, (some 7), (.alloc [.nil, .nil, .nil])⟩, ⟨none, none, (.store 3 (.t 7) (.t 17))⟩, ⟨none, (some 8), (.mov (.t 18))⟩]
def g42_2 : List Gop := [⟨none, (some 19), (.mov (.t 8))⟩, ⟨none, (some 20), (.un .not (.t 19))⟩, ⟨none, (some 21), (.mov (.t 20))⟩, ⟨(some (21, .false)), (some 22), (.mov (.t 1))⟩, ⟨(some (21, .false)), (some 23), (.len (.t 22))⟩, ⟨(some (21, .false)), (some 24), (.bin .gtr (.t 23) (.k (.one (.int .i64 80))))⟩, ⟨none, (some 25), (.pick (.t 21) (.k (.one (.bool .true))) (.t 24))⟩]
def g42_3 : List Gop := [⟨none, (some 26), (.build [.nil, .nil, .nil] [])⟩, ⟨none, none, (.store 3 (.t 4) (.t 26))⟩, ⟨none, (some 5), (.mov (.k (.one .nil)))⟩, ⟨none, (some 6), (.mov (.k (.one (.bool .false))))⟩]
def g42_4 : List Gop := [⟨none, (some 9), (.mov (.k (.one .nil)))⟩]
def g42_5 : List Gop := [⟨none, (some 27), (.mov (.t 1))⟩, ⟨none, (some 28), (.len (.t 27))⟩, ⟨none, (some 29), (.mov (.k (.one (.int .i64 0))))⟩]
def g42_6 : List Gop := [⟨none, (some 30), (.bin .lss (.t 29) (.t 28))⟩]
def g42_7 : List Gop := [⟨none, (some 31), (.iaddr 4 (.t 27) (.t 29))⟩, ⟨none, (some 32), (.load (some 4) (.t 31))⟩, ⟨none, (some 11), (.alloc [(.int .i64 0), (.int .i64 0), (.str ⟨#[]⟩), .nil])⟩, ⟨none, none, (.store 4 (.t 11) (.t 32))⟩]
def g42_8 : List Gop := [⟨none, (some 34), (.load (some 3) (.t 7))⟩, ⟨none, (some 35), (.call 76 [(.t 34)])⟩, ⟨none, (some 36), (.load (some 4) (.t 11))⟩, ⟨none, (some 37), (.call 86 [(.t 35), (.t 36)])⟩, ⟨none, (some 33), (.mov (.t 37))⟩, ⟨none, (some 38), (.ext (.t 33) 0)⟩, ⟨none, (some 39), (.ext (.t 33) 1)⟩, ⟨none, (some 12), (.alloc [.nil, .nil, .nil])⟩, ⟨none, none, (.store 3 (.t 12) (.t 38))⟩, ⟨none, (some 13), (.mov (.t 39))⟩]
def a42_8 : List (List Nat) := [[], [0], [], [0, 1, 2], [0, 1, 2, 3], [0, 1, 2, 3, 4], [0, 1, 2, 3, 4], [], [0, 1, 2, 3, 4, 5, 7], [0, 1, 2, 3, 4, 5, 6, 7, 8]]
def n42_8 : Nat := 9 -- of 10
def g42_9 : List Gop := [⟨none, (some 40), (.mov (.t 13))⟩]
def g42_10 : List Gop := [⟨none, (some 41), (.load (some 3) (.t 12))⟩, ⟨none, none, (.store 3 (.t 7) (.t 41))⟩]
def g42_11 : List Gop := [⟨none, (some 42), (.mov (.t 9))⟩, ⟨none, (some 43), (.mov (.t 13))⟩, ⟨none, (some 44), (.lit 1 1 [(.bool .false)] [(0, (.t 43))])⟩, ⟨none, (some 45), (.app 1 1 [(.bool .false)] (.t 42) (.t 44))⟩, ⟨none, (some 9), (.mov (.t 45))⟩]
def g42_12 : List Gop := [⟨none, (some 46), (.bin .add (.t 29) (.k (.one (.int .i64 1))))⟩, ⟨none, (some 29), (.mov (.t 46))⟩]
def g42_13 : List Gop := [⟨none, (some 47), (.load (some 3) (.t 7))⟩, ⟨none, (some 48), (.call 76 [(.t 47)])⟩, ⟨none, (some 49), (.mov (.t 9))⟩, ⟨none, none, (.store 3 (.t 4) (.t 48))⟩, ⟨none, (some 5), (.mov (.t 49))⟩, ⟨none, (some 6), (.mov (.k (.one (.bool .true))))⟩]
def i42 : Ir := (.seq (.region g42_0) (.seq (.region g42_1) (.seq (.seq (.region g42_2) (.cond (.t 25) (.seq (.region g42_3) .ret) .skip)) (.seq (.region g42_4) (.seq (.seq (.region g42_5) (.block 0 (.loop (.seq (.region g42_6) (.seq (.cond (.t 30) .skip (.exit 0)) (.seq (.block 1 (.seq (.region g42_7) (.seq (.draw [[], [0], [], [1, 2, 1], [3], [4], [4], [], [7, 5, 3, 0, 1, 2, 3, 4, 5, 7], [6, 8, 0, 1, 2, 3, 4, 5, 6, 7, 8]] g42_8) (.seq (.seq (.region g42_9) (.cond (.t 40) (.region g42_10) .skip)) (.region g42_11))))) (.region g42_12))))))) (.seq (.region g42_13) .ret))))))
theorem specPlayDisk_ok (n : Int) (l : List Stp) (hl : l.length ≤ 1048576) (hk : ∀ x ∈ l, x.h.length ≤ 1048576 ∧ x.t.size ≤ 1048576) : Meets Try.prog 42 [.one (.int .i64 n), .one (LS l)] (PlayRes n l) [.one .hole, .one .hole] := by
  unfold LS
  by_cases h : 1 ≤ n ∧ n ≤ 24
  · obtain ⟨m, rfl⟩ := Int.eq_ofNat_of_zero_le (show 0 ≤ n by omega)
    have MN := specNewDisk_ok m
    rw [NewRes, if_pos h] at MN
    by_cases h2 : l.length ≤ 80
    · rw [PlayRes, if_pos ⟨h, h2⟩]
      refine meets_go (ir := i42) (fn := Try.f42) (rx := [(.cell 4 (some 3)), (.tmp 5), (.tmp 6)]) rfl rfl (by rfl) (by rfl) (by exact Nat.le_of_ble_eq_true rfl) ?_
      simp (maxSteps := 9000000) -implicitDefEqProofs -dsimp (disch := omega) only [go_sem, g42_0, g42_1, g42_2, g42_3, g42_4, g42_5, g42_6, g42_7, g42_8, a42_8, n42_8, g42_9, g42_10, g42_11, g42_12, g42_13, i42, Nat.reduceEqDiff, Nat.reduceAdd, Nat.reduceMul, Nat.reduceLeDiff, Nat.reduceBEq, Nat.reduceBNe, Int.reduceEq, ↓reduceIte, reduceCtorEq]
      refine call_go true MN ?_
      simp (maxSteps := 9000000) -implicitDefEqProofs -dsimp (disch := omega) only [go_sem, g42_0, g42_1, g42_2, g42_3, g42_4, g42_5, g42_6, g42_7, g42_8, a42_8, n42_8, g42_9, g42_10, g42_11, g42_12, g42_13, i42, lt_T, lt_F, le_T, le_F, eq_T, eq_F, and_F, rep_str, rep_bool, List.length_replicate, Nat.reduceEqDiff, Nat.reduceAdd, Nat.reduceMul, Nat.reduceLeDiff, Nat.reduceBEq, Nat.reduceBNe, Int.reduceEq, ↓reduceIte, reduceCtorEq]
      have p0 : (playS m l 0).p = List.replicate m e0 := rfl
      have p1 : (playS m l 0).h = List.replicate m e0 := rfl
      have p2 : (playS m l 0).b = List.replicate m false := rfl
      refine loop_n l.length (fun i => ⟨[(29, .w (.one (.int .i64 (i : Nat)))), (28, .w (.one (.int .i64 l.length))), (27, .w (.one (.hs 0 [] 0 4 l.length))), (9, .w (.one (.hs 9 [] 0 1 i))), (7, .w (.one (.hp 5 [] 0))), (4, .w (.one (.hp 1 [] 0)))],
        [(9, .sl true 1 i ((didS m l i).map T.bool)), (5, .bx true [.sl true 1 m ((playS m l i).p.map T.str), .sl true 1 m ((playS m l i).h.map T.str), .sl true 1 m ((playS m l i).b.map T.bool)]), (1, .bx true [.sl true 0 0 [], .sl true 0 0 [], .sl true 0 0 []]), (0, .sl false 4 l.length (stR l))], [.one (.int .i64 m), .one (.hs 0 [] 0 4 l.length)]⟩) (fun i => True) ?_ trivial ?_
      · exact (imp_adopt 9 9 1 rfl rfl).trans (imp_sub (by simp (maxSteps := 9000000) -implicitDefEqProofs -dsimp (disch := omega) only [go_sem, g42_0, g42_1, g42_2, g42_3, g42_4, g42_5, g42_6, g42_7, g42_8, a42_8, n42_8, g42_9, g42_10, g42_11, g42_12, g42_13, i42, cut_rs, cut_rb, p0, p1, p2, didS_0, Nat.reduceEqDiff, Nat.reduceAdd, Nat.reduceMul, Nat.reduceLeDiff, Nat.reduceBEq, Nat.reduceBNe, Int.reduceEq, ↓reduceIte, reduceCtorEq]) (by simp (maxSteps := 9000000) -implicitDefEqProofs -dsimp (disch := omega) only [go_sem, g42_0, g42_1, g42_2, g42_3, g42_4, g42_5, g42_6, g42_7, g42_8, a42_8, n42_8, g42_9, g42_10, g42_11, g42_12, g42_13, i42, cut_rs, cut_rb, p0, p1, p2, didS_0, Nat.reduceEqDiff, Nat.reduceAdd, Nat.reduceMul, Nat.reduceLeDiff, Nat.reduceBEq, Nat.reduceBNe, Int.reduceEq, ↓reduceIte, reduceCtorEq]) rfl)
      · intro i hi hJ
        simp (maxSteps := 9000000) -implicitDefEqProofs -dsimp (disch := omega) only [go_sem, g42_0, g42_1, g42_2, g42_3, g42_4, g42_5, g42_6, g42_7, g42_8, a42_8, n42_8, g42_9, g42_10, g42_11, g42_12, g42_13, i42, Nat.reduceEqDiff, Nat.reduceAdd, Nat.reduceMul, Nat.reduceLeDiff, Nat.reduceBEq, Nat.reduceBNe, Int.reduceEq, ↓reduceIte, reduceCtorEq]
        refine brP_i (fun h3 => ?_) (fun h3 => ?_)
        · have hlt : i < l.length := by omega
          have hki := hk _ (getD_mem hlt)
          obtain ⟨i1, i2, i3, i4, i5⟩ := playS_inv (n := m) (l := l) (i := i)
          have eS : playS m l (i + 1) = stepF (playS m l i).p (playS m l i).h (playS m l i).b (l.getD i default).k (l.getD i default).a (l.getD i default).t (l.getD i default).h := rfl
          have eD := didS_s (n := m) (l := l) (i := i)
          have cp : cut ((playS m l i).p.map T.str) 0 m = (playS m l i).p.map T.str := cut_all (by simp [i1])
          have ch : cut ((playS m l i).h.map T.str) 0 m = (playS m l i).h.map T.str := cut_all (by simp [i2])
          have cb : cut ((playS m l i).b.map T.bool) 0 m = (playS m l i).b.map T.bool := cut_all (by simp [i3])
          have cd : cut ((didS m l i).map T.bool) 0 i = (didS m l i).map T.bool := cut_all (by simp [didS_len])
          have r1 : (didS m l (i + 1)).length = i + 1 := didS_len
          obtain ⟨j1, j2, j3, j4, j5⟩ := playS_inv (n := m) (l := l) (i := i + 1)
          have cp' : cut ((playS m l (i + 1)).p.map T.str) 0 m = (playS m l (i + 1)).p.map T.str := cut_all (by simp [j1])
          have ch' : cut ((playS m l (i + 1)).h.map T.str) 0 m = (playS m l (i + 1)).h.map T.str := cut_all (by simp [j2])
          have cb' : cut ((playS m l (i + 1)).b.map T.bool) 0 m = (playS m l (i + 1)).b.map T.bool := cut_all (by simp [j3])
          have MO := l7Own_ok (playS m l i).p (playS m l i).h (playS m l i).b (by omega) (by omega) (by omega)
          have MS := l7Step_ok (playS m l i).p (playS m l i).h (playS m l i).b (l.getD i default).k (l.getD i default).a (l.getD i default).t (l.getD i default).h (by omega) (by omega) (by omega) hki.1 hki.2 (fun x hx => by have := i4 x hx; omega)
          rw [← eS, j1, j2, j3, i1, i2, i3] at MS
          rw [i1, i2, i3] at MO
          simp (maxSteps := 9000000) -implicitDefEqProofs -dsimp (disch := omega) only [go_sem, g42_0, g42_1, g42_2, g42_3, g42_4, g42_5, g42_6, g42_7, g42_8, a42_8, n42_8, g42_9, g42_10, g42_11, g42_12, g42_13, i42, stR_0 hlt, stR_1 hlt, stR_2 hlt, stR_3 hlt, Nat.reduceEqDiff, Nat.reduceAdd, Nat.reduceMul, Nat.reduceLeDiff, Nat.reduceBEq, Nat.reduceBNe, Int.reduceEq, ↓reduceIte, reduceCtorEq]
          refine drawm_go n42_8 a42_8 [(3, .framed []), (8, .framed [])] (by decide +kernel) ?_
          simp (maxSteps := 9000000) -implicitDefEqProofs -dsimp (disch := omega) only [go_sem, g42_0, g42_1, g42_2, g42_3, g42_4, g42_5, g42_6, g42_7, g42_8, a42_8, n42_8, g42_9, g42_10, g42_11, g42_12, g42_13, i42, cp, ch, cb, Nat.reduceEqDiff, Nat.reduceAdd, Nat.reduceMul, Nat.reduceLeDiff, Nat.reduceBEq, Nat.reduceBNe, Int.reduceEq, ↓reduceIte, reduceCtorEq]
          refine calla_go true MO ?_
          simp (maxSteps := 9000000) -implicitDefEqProofs -dsimp (disch := omega) only [go_sem, g42_0, g42_1, g42_2, g42_3, g42_4, g42_5, g42_6, g42_7, g42_8, a42_8, n42_8, g42_9, g42_10, g42_11, g42_12, g42_13, i42, cp, ch, cb, Nat.reduceEqDiff, Nat.reduceAdd, Nat.reduceMul, Nat.reduceLeDiff, Nat.reduceBEq, Nat.reduceBNe, Int.reduceEq, ↓reduceIte, reduceCtorEq]
          refine call_go true MS ?_
          cases hok : (playS m l (i + 1)).ok with
          | true =>
            rw [hok] at eD
            simp (maxSteps := 9000000) -implicitDefEqProofs -dsimp (disch := omega) only [go_sem, g42_0, g42_1, g42_2, g42_3, g42_4, g42_5, g42_6, g42_7, g42_8, a42_8, n42_8, g42_9, g42_10, g42_11, g42_12, g42_13, i42, stR_3 hlt, cp, ch, cb, cp', ch', cb', cd, hok, Nat.reduceEqDiff, Nat.reduceAdd, Nat.reduceMul, Nat.reduceLeDiff, Nat.reduceBEq, Nat.reduceBNe, Int.reduceEq, ↓reduceIte, reduceCtorEq]
            exact ⟨hlt, (imp_ren 19 9 rfl rfl).trans (imp_sub (by simp (maxSteps := 9000000) -implicitDefEqProofs -dsimp (disch := omega) only [go_sem, g42_0, g42_1, g42_2, g42_3, g42_4, g42_5, g42_6, g42_7, g42_8, a42_8, n42_8, g42_9, g42_10, g42_11, g42_12, g42_13, i42, eD, Nat.reduceEqDiff, Nat.reduceAdd, Nat.reduceMul, Nat.reduceLeDiff, Nat.reduceBEq, Nat.reduceBNe, Int.reduceEq, ↓reduceIte, reduceCtorEq]) (by simp (maxSteps := 9000000) -implicitDefEqProofs -dsimp (disch := omega) only [go_sem, g42_0, g42_1, g42_2, g42_3, g42_4, g42_5, g42_6, g42_7, g42_8, a42_8, n42_8, g42_9, g42_10, g42_11, g42_12, g42_13, i42, eD, Nat.reduceEqDiff, Nat.reduceAdd, Nat.reduceMul, Nat.reduceLeDiff, Nat.reduceBEq, Nat.reduceBNe, Int.reduceEq, ↓reduceIte, reduceCtorEq]) rfl)⟩
          | false =>
            have hn : playS m l (i + 1) = ⟨(playS m l i).p, (playS m l i).h, (playS m l i).b, false⟩ := by rw [eS] at hok ⊢; exact stepF_no hok
            have n1 : (playS m l (i + 1)).p = (playS m l i).p := by rw [hn]
            have n2 : (playS m l (i + 1)).h = (playS m l i).h := by rw [hn]
            have n3 : (playS m l (i + 1)).b = (playS m l i).b := by rw [hn]
            rw [hok] at eD
            simp (maxSteps := 9000000) -implicitDefEqProofs -dsimp (disch := omega) only [go_sem, g42_0, g42_1, g42_2, g42_3, g42_4, g42_5, g42_6, g42_7, g42_8, a42_8, n42_8, g42_9, g42_10, g42_11, g42_12, g42_13, i42, stR_3 hlt, cp, ch, cb, cp', ch', cb', cd, hok, Nat.reduceEqDiff, Nat.reduceAdd, Nat.reduceMul, Nat.reduceLeDiff, Nat.reduceBEq, Nat.reduceBNe, Int.reduceEq, ↓reduceIte, reduceCtorEq]
            exact ⟨hlt, (imp_ren 19 9 rfl rfl).trans (imp_sub (by simp (maxSteps := 9000000) -implicitDefEqProofs -dsimp (disch := omega) only [go_sem, g42_0, g42_1, g42_2, g42_3, g42_4, g42_5, g42_6, g42_7, g42_8, a42_8, n42_8, g42_9, g42_10, g42_11, g42_12, g42_13, i42, eD, n1, n2, n3, Nat.reduceEqDiff, Nat.reduceAdd, Nat.reduceMul, Nat.reduceLeDiff, Nat.reduceBEq, Nat.reduceBNe, Int.reduceEq, ↓reduceIte, reduceCtorEq]) (by simp (maxSteps := 9000000) -implicitDefEqProofs -dsimp (disch := omega) only [go_sem, g42_0, g42_1, g42_2, g42_3, g42_4, g42_5, g42_6, g42_7, g42_8, a42_8, n42_8, g42_9, g42_10, g42_11, g42_12, g42_13, i42, eD, n1, n2, n3, Nat.reduceEqDiff, Nat.reduceAdd, Nat.reduceMul, Nat.reduceLeDiff, Nat.reduceBEq, Nat.reduceBNe, Int.reduceEq, ↓reduceIte, reduceCtorEq]) rfl)⟩
        · obtain rfl : i = l.length := by omega
          obtain ⟨i1, i2, i3, i4, i5⟩ := playS_inv (n := m) (l := l) (i := l.length)
          have MO := l7Own_ok (playS m l l.length).p (playS m l l.length).h (playS m l l.length).b (by omega) (by omega) (by omega)
          rw [i1, i2, i3] at MO
          have r1 : (didS m l l.length).length = l.length := didS_len
          have cp : cut ((playS m l l.length).p.map T.str) 0 m = (playS m l l.length).p.map T.str := cut_all (by simp [i1])
          have ch : cut ((playS m l l.length).h.map T.str) 0 m = (playS m l l.length).h.map T.str := cut_all (by simp [i2])
          have cb : cut ((playS m l l.length).b.map T.bool) 0 m = (playS m l l.length).b.map T.bool := cut_all (by simp [i3])
          have cd : cut ((didS m l l.length).map T.bool) 0 l.length = (didS m l l.length).map T.bool := cut_all (by simp [didS_len])
          simp (maxSteps := 9000000) -implicitDefEqProofs -dsimp (disch := omega) only [go_sem, g42_0, g42_1, g42_2, g42_3, g42_4, g42_5, g42_6, g42_7, g42_8, a42_8, n42_8, g42_9, g42_10, g42_11, g42_12, g42_13, i42, cp, ch, cb, cd, i1, i2, i3, r1, toNat_nat, Nat.reduceEqDiff, Nat.reduceAdd, Nat.reduceMul, Nat.reduceLeDiff, Nat.reduceBEq, Nat.reduceBNe, Int.reduceEq, ↓reduceIte, reduceCtorEq]
          refine call_go true MO ?_
          simp (maxSteps := 9000000) -implicitDefEqProofs -dsimp (disch := omega) only [go_sem, g42_0, g42_1, g42_2, g42_3, g42_4, g42_5, g42_6, g42_7, g42_8, a42_8, n42_8, g42_9, g42_10, g42_11, g42_12, g42_13, i42, cp, ch, cb, cd, i1, i2, i3, r1, toNat_nat, Nat.reduceEqDiff, Nat.reduceAdd, Nat.reduceMul, Nat.reduceLeDiff, Nat.reduceBEq, Nat.reduceBNe, Int.reduceEq, ↓reduceIte, reduceCtorEq]
    · rw [PlayRes, if_neg (fun q => h2 q.2)]
      refine meets_go (ir := i42) (fn := Try.f42) (rx := [(.cell 4 (some 3)), (.tmp 5), (.tmp 6)]) rfl rfl (by rfl) (by rfl) (by exact Nat.le_of_ble_eq_true rfl) ?_
      simp (maxSteps := 9000000) -implicitDefEqProofs -dsimp (disch := omega) only [go_sem, g42_0, g42_1, g42_2, g42_3, g42_4, g42_5, g42_6, g42_7, g42_8, a42_8, n42_8, g42_9, g42_10, g42_11, g42_12, g42_13, i42, Nat.reduceEqDiff, Nat.reduceAdd, Nat.reduceMul, Nat.reduceLeDiff, Nat.reduceBEq, Nat.reduceBNe, Int.reduceEq, ↓reduceIte, reduceCtorEq]
      refine call_go true MN ?_
      simp (maxSteps := 9000000) -implicitDefEqProofs -dsimp (disch := omega) only [go_sem, g42_0, g42_1, g42_2, g42_3, g42_4, g42_5, g42_6, g42_7, g42_8, a42_8, n42_8, g42_9, g42_10, g42_11, g42_12, g42_13, i42, lt_T, lt_F, le_T, le_F, eq_T, eq_F, and_F, rep_str, rep_bool, List.length_replicate, Nat.reduceEqDiff, Nat.reduceAdd, Nat.reduceMul, Nat.reduceLeDiff, Nat.reduceBEq, Nat.reduceBNe, Int.reduceEq, ↓reduceIte, reduceCtorEq]
  · have MN := specNewDisk_ok n
    rw [NewRes, if_neg h] at MN
    rw [PlayRes, if_neg (fun q => h q.1)]
    refine meets_go (ir := i42) (fn := Try.f42) (rx := [(.cell 4 (some 3)), (.tmp 5), (.tmp 6)]) rfl rfl (by rfl) (by rfl) (by exact Nat.le_of_ble_eq_true rfl) ?_
    simp (maxSteps := 9000000) -implicitDefEqProofs -dsimp (disch := omega) only [go_sem, g42_0, g42_1, g42_2, g42_3, g42_4, g42_5, g42_6, g42_7, g42_8, a42_8, n42_8, g42_9, g42_10, g42_11, g42_12, g42_13, i42, Nat.reduceEqDiff, Nat.reduceAdd, Nat.reduceMul, Nat.reduceLeDiff, Nat.reduceBEq, Nat.reduceBNe, Int.reduceEq, ↓reduceIte, reduceCtorEq]
    refine call_go true MN ?_
    simp (maxSteps := 9000000) -implicitDefEqProofs -dsimp (disch := omega) only [go_sem, g42_0, g42_1, g42_2, g42_3, g42_4, g42_5, g42_6, g42_7, g42_8, a42_8, n42_8, g42_9, g42_10, g42_11, g42_12, g42_13, i42, lt_T, lt_F, le_T, le_F, eq_T, eq_F, and_F, Nat.reduceEqDiff, Nat.reduceAdd, Nat.reduceMul, Nat.reduceLeDiff, Nat.reduceBEq, Nat.reduceBNe, Int.reduceEq, ↓reduceIte, reduceCtorEq]
end Go.Proofs.YtjlodcoeegpkaaaT

/- Functions of the program as contracts: what draws from a code. No condition. -/
set_option maxRecDepth 100000
set_option maxHeartbeats 8000000
set_option linter.unusedSimpArgs false
set_option linter.unusedVariables false
namespace Go.Proofs.YtjlodcoeegpkaaaT
open Go Go.RowKit
/-- a cursor over a code -/
structure Cu where
  code : List Int
  at_ : Int
  seed : Int
def Cu.ok (c : Cu) (b : Int) : Prop := (∀ x ∈ c.code, 0 ≤ x ∧ x ≤ 255) ∧ (c.code.length : Int) ≤ 9223372036854775807 ∧ 0 ≤ c.at_ ∧ c.at_ ≤ b ∧ 0 ≤ c.seed ∧ c.seed < 18446744073709551616
def cuT (c : Cu) : T := .bx true [(.sl false 1 c.code.length (c.code.map (T.int .u8))), .int .i64 c.at_, .int .u64 c.seed]
def seedF (s b : Int) : Int := IntKind.u64.wrap (IntKind.u64.wrap (IntKind.u64.wrap (s * 6364136223846793005) + IntKind.u64.wrap b) + 1442695040888963407)
theorem u64_lo {x : Int} : 0 ≤ IntKind.u64.wrap x ∧ IntKind.u64.wrap x < 18446744073709551616 := by
  constructor <;> simp [IntKind.wrap, IntKind.bits, IntKind.signed] <;> omega
def outF (s : Int) : Int := IntKind.i64.wrap (IntKind.u64.wrap ((BitVec.ofInt IntKind.u64.bits (s.fdiv (2 ^ min (Int.toNat 40) 64)) &&& BitVec.ofInt IntKind.u64.bits 255).toNat : Int))
theorem outF_in {s : Int} : 0 ≤ outF s ∧ outF s ≤ 255 := by
  have h : (BitVec.ofInt IntKind.u64.bits (s.fdiv (2 ^ min (Int.toNat 40) 64)) &&& BitVec.ofInt IntKind.u64.bits 255).toNat ≤ 255 := by
    rw [BitVec.toNat_and]
    exact Nat.le_trans Nat.and_le_right (by decide)
  unfold outF
  generalize (BitVec.ofInt IntKind.u64.bits (s.fdiv (2 ^ min (Int.toNat 40) 64)) &&& BitVec.ofInt IntKind.u64.bits 255).toNat = z at h
  have e : IntKind.u64.wrap (z : Int) = z := by simp [IntKind.wrap, IntKind.bits, IntKind.signed]; omega
  rw [e, wrap_in (by omega)]
  omega
def g95_0 : List Gop := [⟨none, (some 2), (.mov (.k (.one (.int .i64 0))))⟩]
def g95_1 : List Gop := [⟨none, (some 3), (.mov (.k (.one (.int .i64 0))))⟩]
def g95_2 : List Gop := [⟨none, (some 4), (.mov (.t 0))⟩, ⟨none, (some 5), (.nilc (.t 4))⟩, ⟨none, (some 6), (.faddr (.t 5) 1)⟩, ⟨none, (some 7), (.load none (.t 6))⟩, ⟨none, (some 8), (.mov (.t 0))⟩, ⟨none, (some 9), (.nilc (.t 8))⟩, ⟨none, (some 10), (.faddr (.t 9) 0)⟩, ⟨none, (some 11), (.load none (.t 10))⟩, ⟨none, (some 12), (.len (.t 11))⟩, ⟨none, (some 13), (.bin .lss (.t 7) (.t 12))⟩]
def a95_2 : List (List Nat) := [[], [0], [0, 1], [0, 1, 2], [], [4], [4, 5], [4, 5, 6], [4, 5, 6, 7], [0, 1, 2, 3, 4, 5, 6, 7, 8]]
def n95_2 : Nat := 9 -- of 10
def g95_3 : List Gop := [⟨none, (some 14), (.mov (.t 0))⟩, ⟨none, (some 15), (.nilc (.t 14))⟩, ⟨none, (some 16), (.faddr (.t 15) 0)⟩, ⟨none, (some 17), (.load none (.t 16))⟩, ⟨none, (some 18), (.mov (.t 0))⟩, ⟨none, (some 19), (.nilc (.t 18))⟩, ⟨none, (some 20), (.faddr (.t 19) 1)⟩, ⟨none, (some 21), (.load none (.t 20))⟩, ⟨none, (some 22), (.iaddr 1 (.t 17) (.t 21))⟩, ⟨none, (some 23), (.load none (.t 22))⟩, ⟨none, (some 24), (.cvi .i64 (.t 23))⟩, ⟨none, (some 3), (.mov (.t 24))⟩]
def a95_3 : List (List Nat) := [[], [0], [0, 1], [0, 1, 2], [], [4], [4, 5], [4, 5, 6], [0, 1, 2, 3, 4, 5, 6, 7], [0, 1, 2, 3, 4, 5, 6, 7, 8], [0, 1, 2, 3, 4, 5, 6, 7, 8, 9], [0, 1, 2, 3, 4, 5, 6, 7, 8, 9, 10]]
def n95_3 : Nat := 8 -- of 12
def g95_4 : List Gop := [⟨none, (some 25), (.mov (.t 0))⟩, ⟨none, (some 26), (.nilc (.t 25))⟩, ⟨none, (some 27), (.faddr (.t 26) 1)⟩, ⟨none, (some 28), (.load none (.t 27))⟩, ⟨none, (some 29), (.bin .add (.t 28) (.k (.one (.int .i64 1))))⟩, ⟨none, (some 30), (.nilc (.t 25))⟩, ⟨none, (some 31), (.faddr (.t 30) 1)⟩, ⟨none, none, (.store 1 (.t 31) (.t 29))⟩]
def g95_5 : List Gop := [⟨none, (some 32), (.mov (.t 0))⟩, ⟨none, (some 33), (.mov (.t 0))⟩, ⟨none, (some 34), (.nilc (.t 33))⟩, ⟨none, (some 35), (.faddr (.t 34) 2)⟩, ⟨none, (some 36), (.load none (.t 35))⟩, ⟨none, (some 37), (.bin .mul (.t 36) (.k (.one (.int .u64 6364136223846793005))))⟩, ⟨none, (some 38), (.mov (.t 3))⟩, ⟨none, (some 39), (.cvi .u64 (.t 38))⟩, ⟨none, (some 40), (.bin .add (.t 37) (.t 39))⟩, ⟨none, (some 41), (.bin .add (.t 40) (.k (.one (.int .u64 1442695040888963407))))⟩, ⟨none, (some 42), (.nilc (.t 32))⟩, ⟨none, (some 43), (.faddr (.t 42) 2)⟩, ⟨none, none, (.store 1 (.t 43) (.t 41))⟩]
def g95_6 : List Gop := [⟨none, (some 44), (.mov (.t 0))⟩, ⟨none, (some 45), (.nilc (.t 44))⟩, ⟨none, (some 46), (.faddr (.t 45) 1)⟩, ⟨none, (some 47), (.load none (.t 46))⟩, ⟨none, (some 48), (.mov (.t 0))⟩, ⟨none, (some 49), (.nilc (.t 48))⟩, ⟨none, (some 50), (.faddr (.t 49) 0)⟩, ⟨none, (some 51), (.load none (.t 50))⟩, ⟨none, (some 52), (.len (.t 51))⟩, ⟨none, (some 53), (.bin .leq (.t 47) (.t 52))⟩]
def a95_6 : List (List Nat) := [[], [0], [0, 1], [0, 1, 2], [], [4], [4, 5], [4, 5, 6], [4, 5, 6, 7], [0, 1, 2, 3, 4, 5, 6, 7, 8]]
def n95_6 : Nat := 9 -- of 10
def g95_7 : List Gop := [⟨none, (some 54), (.mov (.t 3))⟩, ⟨none, (some 2), (.mov (.t 54))⟩]
def g95_8 : List Gop := [⟨none, (some 55), (.mov (.t 0))⟩, ⟨none, (some 56), (.nilc (.t 55))⟩, ⟨none, (some 57), (.faddr (.t 56) 2)⟩, ⟨none, (some 58), (.load none (.t 57))⟩, ⟨none, (some 59), (.bin .shr (.t 58) (.k (.one (.int .u64 40))))⟩, ⟨none, (some 60), (.bin .and (.t 59) (.k (.one (.int .u64 255))))⟩, ⟨none, (some 61), (.cvi .i64 (.t 60))⟩, ⟨none, (some 2), (.mov (.t 61))⟩]
def i95 : Ir := (.seq (.region g95_0) (.seq (.region g95_1) (.seq (.seq (.draw [[], [0], [1], [2], [], [4], [5], [6], [7], [3, 8]] g95_2) (.cond (.t 13) (.draw [[], [0], [1], [2], [], [4], [5], [6], [3, 7], [8], [9], [10, 0, 1, 2, 3, 4, 5, 6, 7, 8, 9, 10]] g95_3) .skip)) (.seq (.region g95_4) (.seq (.region g95_5) (.seq (.seq (.draw [[], [0], [1], [2], [], [4], [5], [6], [7], [3, 8]] g95_6) (.cond (.t 53) (.seq (.region g95_7) .ret) .skip)) (.seq (.region g95_8) .ret)))))))
theorem next_ok (c : Cu) (b : Int) (hc : c.ok b) (hb : b ≤ 1125899906842624) : ∃ x c', c'.ok (b + 1) ∧ (0 ≤ x ∧ x ≤ 255) ∧ Meets Try.prog 95 [.one (cuT c)] (.w (.one (.int .i64 x))) [.one (cuT c')] := by
  obtain ⟨code, at_, seed⟩ := c
  obtain ⟨h1, h2, h3, h4, h5, h6⟩ := hc
  simp only at h1 h2 h3 h4 h5 h6
  by_cases hlt : at_ < code.length
  · have e1 : (at_.toNat : Int) = at_ := Int.toNat_of_nonneg h3
    have l1 : at_.toNat < code.length := by omega
    obtain ⟨g1, g2⟩ := h1 _ (getD_mem l1)
    refine ⟨code.getD at_.toNat default, ⟨code, at_ + 1, seedF seed (code.getD at_.toNat default)⟩, ⟨h1, h2, by simp only; omega, by simp only; omega, u64_lo.1, u64_lo.2⟩, ⟨g1, g2⟩, ?_⟩
    unfold cuT seedF
    refine meets_go (ir := i95) (fn := Try.f95) (rx := [(.tmp 2)]) rfl rfl (by rfl) (by rfl) (by exact Nat.le_of_ble_eq_true rfl) ?_
    simp (maxSteps := 9000000) -implicitDefEqProofs -dsimp (disch := omega) only [go_sem, g95_0, g95_1, g95_2, a95_2, n95_2, g95_3, a95_3, n95_3, g95_4, g95_5, g95_6, a95_6, n95_6, g95_7, g95_8, i95, Nat.reduceEqDiff, Nat.reduceAdd, Nat.reduceMul, Nat.reduceLeDiff, Nat.reduceBEq, Nat.reduceBNe, Int.reduceEq, ↓reduceIte, reduceCtorEq]
    refine draw_go n95_2 a95_2 (by decide +kernel) ?_
    simp (maxSteps := 9000000) -implicitDefEqProofs -dsimp (disch := omega) only [go_sem, g95_0, g95_1, g95_2, a95_2, n95_2, g95_3, a95_3, n95_3, g95_4, g95_5, g95_6, a95_6, n95_6, g95_7, g95_8, i95, lt_T, lt_F, le_T, le_F, eq_T, eq_F, and_F, Nat.reduceEqDiff, Nat.reduceAdd, Nat.reduceMul, Nat.reduceLeDiff, Nat.reduceBEq, Nat.reduceBNe, Int.reduceEq, ↓reduceIte, reduceCtorEq]
    refine draw_go n95_3 a95_3 (by decide +kernel) ?_
    simp (maxSteps := 9000000) -implicitDefEqProofs -dsimp (disch := omega) only [go_sem, g95_0, g95_1, g95_2, a95_2, n95_2, g95_3, a95_3, n95_3, g95_4, g95_5, g95_6, a95_6, n95_6, g95_7, g95_8, i95, lt_T, lt_F, le_T, le_F, eq_T, eq_F, and_F, Nat.reduceEqDiff, Nat.reduceAdd, Nat.reduceMul, Nat.reduceLeDiff, Nat.reduceBEq, Nat.reduceBNe, Int.reduceEq, ↓reduceIte, reduceCtorEq]
    refine draw_go n95_6 a95_6 (by decide +kernel) ?_
    simp (maxSteps := 9000000) -implicitDefEqProofs -dsimp (disch := omega) only [go_sem, g95_0, g95_1, g95_2, a95_2, n95_2, g95_3, a95_3, n95_3, g95_4, g95_5, g95_6, a95_6, n95_6, g95_7, g95_8, i95, lt_T, lt_F, le_T, le_F, eq_T, eq_F, and_F, Nat.reduceEqDiff, Nat.reduceAdd, Nat.reduceMul, Nat.reduceLeDiff, Nat.reduceBEq, Nat.reduceBNe, Int.reduceEq, ↓reduceIte, reduceCtorEq]
  · refine ⟨outF (seedF seed 0), ⟨code, at_ + 1, seedF seed 0⟩, ⟨h1, h2, by simp only; omega, by simp only; omega, u64_lo.1, u64_lo.2⟩, outF_in, ?_⟩
    unfold cuT outF seedF
    refine meets_go (ir := i95) (fn := Try.f95) (rx := [(.tmp 2)]) rfl rfl (by rfl) (by rfl) (by exact Nat.le_of_ble_eq_true rfl) ?_
    simp (maxSteps := 9000000) -implicitDefEqProofs -dsimp (disch := omega) only [go_sem, g95_0, g95_1, g95_2, a95_2, n95_2, g95_3, a95_3, n95_3, g95_4, g95_5, g95_6, a95_6, n95_6, g95_7, g95_8, i95, Nat.reduceEqDiff, Nat.reduceAdd, Nat.reduceMul, Nat.reduceLeDiff, Nat.reduceBEq, Nat.reduceBNe, Int.reduceEq, ↓reduceIte, reduceCtorEq]
    refine draw_go n95_2 a95_2 (by decide +kernel) ?_
    simp (maxSteps := 9000000) -implicitDefEqProofs -dsimp (disch := omega) only [go_sem, g95_0, g95_1, g95_2, a95_2, n95_2, g95_3, a95_3, n95_3, g95_4, g95_5, g95_6, a95_6, n95_6, g95_7, g95_8, i95, lt_T, lt_F, le_T, le_F, eq_T, eq_F, and_F, Nat.reduceEqDiff, Nat.reduceAdd, Nat.reduceMul, Nat.reduceLeDiff, Nat.reduceBEq, Nat.reduceBNe, Int.reduceEq, ↓reduceIte, reduceCtorEq]
    refine draw_go n95_6 a95_6 (by decide +kernel) ?_
    simp (maxSteps := 9000000) -implicitDefEqProofs -dsimp (disch := omega) only [go_sem, g95_0, g95_1, g95_2, a95_2, n95_2, g95_3, a95_3, n95_3, g95_4, g95_5, g95_6, a95_6, n95_6, g95_7, g95_8, i95, lt_T, lt_F, le_T, le_F, eq_T, eq_F, and_F, Nat.reduceEqDiff, Nat.reduceAdd, Nat.reduceMul, Nat.reduceLeDiff, Nat.reduceBEq, Nat.reduceBNe, Int.reduceEq, ↓reduceIte, reduceCtorEq]
def g81_0 : List Gop := [⟨none, (some 4), (.mov (.k (.one (.int .i64 0))))⟩]
def g81_1 : List Gop := [⟨none, (some 6), (.mov (.t 1))⟩, ⟨none, (some 7), (.bin .leq (.t 6) (.k (.one (.int .i64 1))))⟩]
def g81_2 : List Gop := [⟨none, (some 4), (.mov (.k (.one (.int .i64 0))))⟩]
def g81_3 : List Gop := [⟨none, (some 8), (.mov (.t 0))⟩, ⟨none, (some 9), (.call 95 [(.t 8)])⟩, ⟨none, (some 5), (.mov (.t 9))⟩]
def g81_4 : List Gop := [⟨none, (some 10), (.mov (.t 1))⟩, ⟨none, (some 11), (.bin .gtr (.t 10) (.k (.one (.int .i64 200))))⟩]
def g81_5 : List Gop := [⟨none, (some 12), (.mov (.t 5))⟩, ⟨none, (some 13), (.bin .mul (.t 12) (.k (.one (.int .i64 256))))⟩, ⟨none, (some 14), (.mov (.t 0))⟩, ⟨none, (some 15), (.call 95 [(.t 14)])⟩, ⟨none, (some 16), (.bin .add (.t 13) (.t 15))⟩, ⟨none, (some 5), (.mov (.t 16))⟩]
def g81_6 : List Gop := [⟨none, (some 17), (.mov (.t 5))⟩, ⟨none, (some 18), (.mov (.t 1))⟩, ⟨none, (some 19), (.bin .rem (.t 17) (.t 18))⟩, ⟨none, (some 4), (.mov (.t 19))⟩]
def i81 : Ir := (.seq (.region g81_0) (.seq (.seq (.region g81_1) (.cond (.t 7) (.seq (.region g81_2) .ret) .skip)) (.seq (.region g81_3) (.seq (.seq (.region g81_4) (.cond (.t 11) (.region g81_5) .skip)) (.seq (.region g81_6) .ret)))))
theorem pick_ok (c : Cu) (b n : Int) (hc : c.ok b) (hb : b ≤ 1125899906842624) (hn : 1 ≤ n) (hn2 : n ≤ 200) : ∃ x c', c'.ok (b + 1) ∧ (0 ≤ x ∧ x < n) ∧ Meets Try.prog 81 [.one (cuT c), .one (.int .i64 n)] (.w (.one (.int .i64 x))) [.one (cuT c'), .one .hole] := by
  by_cases h1 : n = 1
  · subst h1
    obtain ⟨q1, q2, q3, q4, q5, q6⟩ := hc
    refine ⟨0, c, ⟨q1, q2, q3, by omega, q5, q6⟩, by omega, ?_⟩
    unfold cuT
    refine meets_go (ir := i81) (fn := Try.f81) (rx := [(.tmp 4)]) rfl rfl (by rfl) (by rfl) (by exact Nat.le_of_ble_eq_true rfl) ?_
    simp (maxSteps := 9000000) -implicitDefEqProofs -dsimp (disch := omega) only [go_sem, g81_0, g81_1, g81_2, g81_3, g81_4, g81_5, g81_6, i81, lt_T, lt_F, le_T, le_F, eq_T, eq_F, and_F, Nat.reduceEqDiff, Nat.reduceAdd, Nat.reduceMul, Nat.reduceLeDiff, Nat.reduceBEq, Nat.reduceBNe, Int.reduceEq, ↓reduceIte, reduceCtorEq]
  · obtain ⟨x, c', k1, k2, M⟩ := next_ok c b hc hb
    have e : 0 ≤ x.tmod n ∧ x.tmod n < n := by
      rw [Int.tmod_eq_emod_of_nonneg k2.1]
      exact ⟨Int.emod_nonneg _ (by omega), Int.emod_lt_of_pos _ (by omega)⟩
    refine ⟨x.tmod n, c', k1, e, ?_⟩
    unfold cuT at *
    refine meets_go (ir := i81) (fn := Try.f81) (rx := [(.tmp 4)]) rfl rfl (by rfl) (by rfl) (by exact Nat.le_of_ble_eq_true rfl) ?_
    simp (maxSteps := 9000000) -implicitDefEqProofs -dsimp (disch := omega) only [go_sem, g81_0, g81_1, g81_2, g81_3, g81_4, g81_5, g81_6, i81, lt_T, lt_F, le_T, le_F, eq_T, eq_F, and_F, Nat.reduceEqDiff, Nat.reduceAdd, Nat.reduceMul, Nat.reduceLeDiff, Nat.reduceBEq, Nat.reduceBNe, Int.reduceEq, ↓reduceIte, reduceCtorEq]
    refine call_go false M ?_
    simp (maxSteps := 9000000) -implicitDefEqProofs -dsimp (disch := omega) only [go_sem, g81_0, g81_1, g81_2, g81_3, g81_4, g81_5, g81_6, i81, lt_T, lt_F, le_T, le_F, eq_T, eq_F, and_F, Nat.reduceEqDiff, Nat.reduceAdd, Nat.reduceMul, Nat.reduceLeDiff, Nat.reduceBEq, Nat.reduceBNe, Int.reduceEq, ↓reduceIte, reduceCtorEq]
def g80_0 : List Gop := [⟨none, (some 4), (.mov (.k (.one (.bool .false))))⟩]
def g80_1 : List Gop := [⟨none, (some 5), (.mov (.t 0))⟩, ⟨none, (some 6), (.mov (.t 1))⟩, ⟨none, (some 7), (.call 81 [(.t 5), (.t 6)])⟩, ⟨none, (some 8), (.bin .eql (.t 7) (.k (.one (.int .i64 0))))⟩, ⟨none, (some 4), (.mov (.t 8))⟩]
def i80 : Ir := (.seq (.region g80_0) (.seq (.region g80_1) .ret))
theorem one_ok (c : Cu) (b n : Int) (hc : c.ok b) (hb : b ≤ 1125899906842624) (hn : 1 ≤ n) (hn2 : n ≤ 200) : ∃ y c', c'.ok (b + 1) ∧ Meets Try.prog 80 [.one (cuT c), .one (.int .i64 n)] (.w (.one (.bool y))) [.one (cuT c'), .one .hole] := by
  obtain ⟨x, c', k1, k2, M⟩ := pick_ok c b n hc hb hn hn2
  refine ⟨decide (x = 0), c', k1, ?_⟩
  unfold cuT at *
  refine meets_go (ir := i80) (fn := Try.f80) (rx := [(.tmp 4)]) rfl rfl (by rfl) (by rfl) (by exact Nat.le_of_ble_eq_true rfl) ?_
  simp (maxSteps := 9000000) -implicitDefEqProofs -dsimp (disch := omega) only [go_sem, g80_0, g80_1, i80, Nat.reduceEqDiff, Nat.reduceAdd, Nat.reduceMul, Nat.reduceLeDiff, Nat.reduceBEq, Nat.reduceBNe, Int.reduceEq, ↓reduceIte, reduceCtorEq]
  refine call_go false M ?_
  simp (maxSteps := 9000000) -implicitDefEqProofs -dsimp (disch := omega) only [go_sem, g80_0, g80_1, i80, Nat.reduceEqDiff, Nat.reduceAdd, Nat.reduceMul, Nat.reduceLeDiff, Nat.reduceBEq, Nat.reduceBNe, Int.reduceEq, ↓reduceIte, reduceCtorEq]
def g96_0 : List Gop := [⟨none, (some 4), (.mov (.k (.one (.str ⟨#[]⟩))))⟩]
def g96_1 : List Gop := [⟨none, (some 5), (.mov (.t 1))⟩, ⟨none, (some 6), (.mov (.t 0))⟩, ⟨none, (some 7), (.mov (.t 1))⟩, ⟨none, (some 8), (.len (.t 7))⟩, ⟨none, (some 9), (.call 81 [(.t 6), (.t 8)])⟩, ⟨none, (some 10), (.iaddr 1 (.t 5) (.t 9))⟩, ⟨none, (some 11), (.load none (.t 10))⟩, ⟨none, (some 4), (.mov (.t 11))⟩]
def i96 : Ir := (.seq (.region g96_0) (.seq (.region g96_1) .ret))
theorem of_ok (c : Cu) (b : Int) (l : List ByteArray) (hc : c.ok b) (hb : b ≤ 1125899906842624) (hn : 1 ≤ l.length) (hn2 : l.length ≤ 200) : ∃ y c', c'.ok (b + 1) ∧ y ∈ l ∧ Meets Try.prog 96 [.one (cuT c), .one (.sl true 1 l.length (l.map T.str))] (.w (.one (.str y))) [.one (cuT c'), .one .hole] := by
  obtain ⟨x, c', k1, k2, M⟩ := pick_ok c b l.length hc hb (by omega) (by omega)
  have e1 : (x.toNat : Int) = x := Int.toNat_of_nonneg k2.1
  have e2 : x.toNat < l.length := by omega
  refine ⟨l.getD x.toNat default, c', k1, getD_mem e2, ?_⟩
  unfold cuT at *
  refine meets_go (ir := i96) (fn := Try.f96) (rx := [(.tmp 4)]) rfl rfl (by rfl) (by rfl) (by exact Nat.le_of_ble_eq_true rfl) ?_
  simp (maxSteps := 9000000) -implicitDefEqProofs -dsimp (disch := omega) only [go_sem, g96_0, g96_1, i96, Nat.reduceEqDiff, Nat.reduceAdd, Nat.reduceMul, Nat.reduceLeDiff, Nat.reduceBEq, Nat.reduceBNe, Int.reduceEq, ↓reduceIte, reduceCtorEq]
  refine call_go false M ?_
  simp (maxSteps := 9000000) -implicitDefEqProofs -dsimp (disch := omega) only [go_sem, g96_0, g96_1, i96, Nat.reduceEqDiff, Nat.reduceAdd, Nat.reduceMul, Nat.reduceLeDiff, Nat.reduceBEq, Nat.reduceBNe, Int.reduceEq, ↓reduceIte, reduceCtorEq]
def g83_0 : List Gop := [⟨none, (some 4), (.mov (.k (.one (.int .i64 0))))⟩]
def g83_1 : List Gop := [⟨none, (some 5), (.mov (.t 1))⟩, ⟨none, (some 6), (.mov (.t 0))⟩, ⟨none, (some 7), (.mov (.t 1))⟩, ⟨none, (some 8), (.len (.t 7))⟩, ⟨none, (some 9), (.call 81 [(.t 6), (.t 8)])⟩, ⟨none, (some 10), (.iaddr 1 (.t 5) (.t 9))⟩, ⟨none, (some 11), (.load none (.t 10))⟩, ⟨none, (some 4), (.mov (.t 11))⟩]
def i83 : Ir := (.seq (.region g83_0) (.seq (.region g83_1) .ret))
theorem among_ok (c : Cu) (b : Int) (l : List Int) (hc : c.ok b) (hb : b ≤ 1125899906842624) (hn : 1 ≤ l.length) (hn2 : l.length ≤ 200) : ∃ y c', c'.ok (b + 1) ∧ y ∈ l ∧ Meets Try.prog 83 [.one (cuT c), .one (.sl true 1 l.length (l.map (T.int .i64)))] (.w (.one (.int .i64 y))) [.one (cuT c'), .one .hole] := by
  obtain ⟨x, c', k1, k2, M⟩ := pick_ok c b l.length hc hb (by omega) (by omega)
  have e1 : (x.toNat : Int) = x := Int.toNat_of_nonneg k2.1
  have e2 : x.toNat < l.length := by omega
  refine ⟨l.getD x.toNat default, c', k1, getD_mem e2, ?_⟩
  unfold cuT at *
  refine meets_go (ir := i83) (fn := Try.f83) (rx := [(.tmp 4)]) rfl rfl (by rfl) (by rfl) (by exact Nat.le_of_ble_eq_true rfl) ?_
  simp (maxSteps := 9000000) -implicitDefEqProofs -dsimp (disch := omega) only [go_sem, g83_0, g83_1, i83, Nat.reduceEqDiff, Nat.reduceAdd, Nat.reduceMul, Nat.reduceLeDiff, Nat.reduceBEq, Nat.reduceBNe, Int.reduceEq, ↓reduceIte, reduceCtorEq]
  refine call_go false M ?_
  simp (maxSteps := 9000000) -implicitDefEqProofs -dsimp (disch := omega) only [go_sem, g83_0, g83_1, i83, Nat.reduceEqDiff, Nat.reduceAdd, Nat.reduceMul, Nat.reduceLeDiff, Nat.reduceBEq, Nat.reduceBNe, Int.reduceEq, ↓reduceIte, reduceCtorEq]
end Go.Proofs.YtjlodcoeegpkaaaT
