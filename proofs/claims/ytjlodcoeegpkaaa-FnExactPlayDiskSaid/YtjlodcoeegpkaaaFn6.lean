/- Functions of the program, each with what it returns and leaves. No condition. -/
import Derived.Test.YtjlodcoeegpkaaaFn5
import Derived.Test.YtjlodcoeegpkaaaFn4
set_option linter.all false
set_option linter.unusedVariables false
set_option linter.unusedSimpArgs false
set_option linter.unusedSectionVars false
set_option linter.unnecessarySimpa false
set_option linter.deprecated false
/- Functions of the program as contracts: a disk played. No condition. -/
set_option maxRecDepth 100000
set_option maxHeartbeats 8000000
set_option linter.unusedSimpArgs false
set_option linter.unusedVariables false
namespace Go.Proofs.YtjlodcoeegpkaaaT
open Go Go.RowKit
theorem rep_str {n : Nat} : (List.replicate n [T.str (⟨#[]⟩ : ByteArray)]).flatten = (List.replicate n e0).map T.str := by
  induction n with
  | zero => rfl
  | succ n ih => simp only [List.replicate_succ, List.flatten_cons, ih, List.map_cons]; rfl
theorem rep_bool {n : Nat} : (List.replicate n [T.bool false]).flatten = (List.replicate n false).map T.bool := by
  induction n with
  | zero => rfl
  | succ n ih => simp only [List.replicate_succ, List.flatten_cons, ih, List.map_cons]; rfl
theorem cut_rs {n : Nat} {x : ByteArray} : cut ((List.replicate n x).map T.str) 0 n = (List.replicate n x).map T.str := cut_all (by simp)
theorem cut_rb {n : Nat} {x : Bool} : cut ((List.replicate n x).map T.bool) 0 n = (List.replicate n x).map T.bool := cut_all (by simp)
/-- a new disk -/
def NewRes (n : Int) : TV := if 1 ≤ n ∧ n ≤ 24 then .tup [.agg [(.sl true 1 (List.replicate n.toNat e0).length ((List.replicate n.toNat e0).map T.str)), (.sl true 1 (List.replicate n.toNat e0).length ((List.replicate n.toNat e0).map T.str)), (.sl true 1 (List.replicate n.toNat false).length ((List.replicate n.toNat false).map T.bool))], .one (.bool true)] else .tup [.agg [.sl true 0 0 [], .sl true 0 0 [], .sl true 0 0 []], .one (.bool false)]
def g13_0 : List Gop := [⟨none, (some 2), (.alloc [.nil, .nil, .nil])⟩, ⟨none, (some 3), (.mov (.k (.one (.bool .false))))⟩]
def g13_1 : List Gop := [⟨none, (some 4), (.mov (.t 0))⟩, ⟨none, (some 5), (.call 58 [(.t 4), (.k (.one (.int .i64 1))), (.k (.one (.int .i64 24)))])⟩, ⟨none, (some 6), (.un .not (.t 5))⟩]
def g13_2 : List Gop := [⟨none, (some 7), (.build [.nil, .nil, .nil] [])⟩, ⟨none, none, (.store 3 (.t 2) (.t 7))⟩, ⟨none, (some 3), (.mov (.k (.one (.bool .false))))⟩]
def g13_3 : List Gop := [⟨none, (some 8), (.mov (.t 0))⟩, ⟨none, (some 9), (.make 1 [(.str ⟨#[]⟩)] 16 (.t 8) (.t 8))⟩, ⟨none, (some 10), (.mov (.t 0))⟩, ⟨none, (some 11), (.make 1 [(.str ⟨#[]⟩)] 16 (.t 10) (.t 10))⟩, ⟨none, (some 12), (.mov (.t 0))⟩, ⟨none, (some 13), (.make 1 [(.bool .false)] 1 (.t 12) (.t 12))⟩, ⟨none, (some 14), (.build [.nil, .nil, .nil] [(0, (1, (.t 9))), (1, (1, (.t 11))), (2, (1, (.t 13)))])⟩, ⟨none, none, (.store 3 (.t 2) (.t 14))⟩, ⟨none, (some 3), (.mov (.k (.one (.bool .true))))⟩]
def a13_3 : List (List Nat) := [[], [0], [], [2], [], [4], [0, 1, 2, 3, 4, 5], [0, 1, 2, 3, 4, 5, 6], [0, 1, 2, 3, 4, 5, 6, 7]]
def n13_3 : Nat := 6 -- of 9
def i13 : Ir := (.seq (.region g13_0) (.seq (.seq (.region g13_1) (.cond (.t 6) (.seq (.region g13_2) .ret) .skip)) (.seq (.draw [[], [0, 0], [], [2, 2], [], [4, 4], [1, 3, 5], [6, 0, 1, 2, 3, 4, 5, 6], [7, 0, 1, 2, 3, 4, 5, 6, 7]] g13_3) .ret)))
def r13 : List Rx := [(.cell 2 (some 3)), (.tmp 3)]
theorem specNewDisk_ok (n : Int) : Meets Try.prog 13 [.one (.int .i64 n)] (NewRes n) [.one .hole] := by
  by_cases h : 1 ≤ n ∧ n ≤ 24
  · obtain ⟨m, rfl⟩ := Int.eq_ofNat_of_zero_le (show 0 ≤ n by omega)
    rw [NewRes, if_pos h]
    refine meets_go (ir := i13) (fn := Try.f13) (rx := [(.cell 2 (some 3)), (.tmp 3)]) rfl rfl (by rfl) (by rfl) (by exact Nat.le_of_ble_eq_true rfl) ?_
    simp (maxSteps := 9000000) -implicitDefEqProofs -dsimp (disch := omega) only [go_sem, g13_0, g13_1, g13_2, g13_3, a13_3, n13_3, i13, Nat.reduceEqDiff, Nat.reduceAdd, Nat.reduceMul, Nat.reduceLeDiff, Nat.reduceBEq, Nat.reduceBNe, Int.reduceEq, ↓reduceIte, reduceCtorEq]
    refine call_go true (l1In_ok m 1 24) ?_
    simp (maxSteps := 9000000) -implicitDefEqProofs -dsimp (disch := omega) only [go_sem, g13_0, g13_1, g13_2, g13_3, a13_3, n13_3, i13, h, Nat.reduceEqDiff, Nat.reduceAdd, Nat.reduceMul, Nat.reduceLeDiff, Nat.reduceBEq, Nat.reduceBNe, Int.reduceEq, ↓reduceIte, reduceCtorEq]
    refine draw_go n13_3 a13_3 (by decide +kernel) ?_
    simp (maxSteps := 9000000) -implicitDefEqProofs -dsimp (disch := omega) only [go_sem, g13_0, g13_1, g13_2, g13_3, a13_3, n13_3, i13, rep_str, rep_bool, List.length_replicate, cut_rs, cut_rb, Nat.reduceEqDiff, Nat.reduceAdd, Nat.reduceMul, Nat.reduceLeDiff, Nat.reduceBEq, Nat.reduceBNe, Int.reduceEq, ↓reduceIte, reduceCtorEq]
  · rw [NewRes, if_neg h]
    refine meets_go (ir := i13) (fn := Try.f13) (rx := [(.cell 2 (some 3)), (.tmp 3)]) rfl rfl (by rfl) (by rfl) (by exact Nat.le_of_ble_eq_true rfl) ?_
    simp (maxSteps := 9000000) -implicitDefEqProofs -dsimp (disch := omega) only [go_sem, g13_0, g13_1, g13_2, g13_3, a13_3, n13_3, i13, Nat.reduceEqDiff, Nat.reduceAdd, Nat.reduceMul, Nat.reduceLeDiff, Nat.reduceBEq, Nat.reduceBNe, Int.reduceEq, ↓reduceIte, reduceCtorEq]
    refine call_go true (l1In_ok n 1 24) ?_
    simp (maxSteps := 9000000) -implicitDefEqProofs -dsimp (disch := omega) only [go_sem, g13_0, g13_1, g13_2, g13_3, a13_3, n13_3, i13, h, Nat.reduceEqDiff, Nat.reduceAdd, Nat.reduceMul, Nat.reduceLeDiff, Nat.reduceBEq, Nat.reduceBNe, Int.reduceEq, ↓reduceIte, reduceCtorEq]
def g14_0 : List Gop := [⟨none, (some 2), (.alloc [.nil, .nil, .nil])⟩, ⟨none, (some 3), (.mov (.k (.one (.bool .false))))⟩]
def g14_1 : List Gop := [⟨none, (some 4), (.mov (.t 0))⟩, ⟨none, (some 5), (.call 59 [(.t 4), (.k (.one (.int .i64 1))), (.k (.one (.int .i64 24)))])⟩, ⟨none, (some 6), (.un .not (.t 5))⟩]
def g14_2 : List Gop := [⟨none, (some 7), (.build [.nil, .nil, .nil] [])⟩, ⟨none, none, (.store 3 (.t 2) (.t 7))⟩, ⟨none, (some 3), (.mov (.k (.one (.bool .false))))⟩]
def g14_3 : List Gop := [⟨none, (some 8), (.mov (.t 0))⟩, ⟨none, (some 9), (.make 1 [(.str ⟨#[]⟩)] 16 (.t 8) (.t 8))⟩, ⟨none, (some 10), (.mov (.t 0))⟩, ⟨none, (some 11), (.make 1 [(.str ⟨#[]⟩)] 16 (.t 10) (.t 10))⟩, ⟨none, (some 12), (.mov (.t 0))⟩, ⟨none, (some 13), (.make 1 [(.bool .false)] 1 (.t 12) (.t 12))⟩, ⟨none, (some 14), (.build [.nil, .nil, .nil] [(0, (1, (.t 9))), (1, (1, (.t 11))), (2, (1, (.t 13)))])⟩, ⟨none, none, (.store 3 (.t 2) (.t 14))⟩, ⟨none, (some 3), (.mov (.k (.one (.bool .true))))⟩]
def a14_3 : List (List Nat) := [[], [0], [], [2], [], [4], [0, 1, 2, 3, 4, 5], [0, 1, 2, 3, 4, 5, 6], [0, 1, 2, 3, 4, 5, 6, 7]]
def n14_3 : Nat := 6 -- of 9
def i14 : Ir := (.seq (.region g14_0) (.seq (.seq (.region g14_1) (.cond (.t 6) (.seq (.region g14_2) .ret) .skip)) (.seq (.draw [[], [0, 0], [], [2, 2], [], [4, 4], [1, 3, 5], [6, 0, 1, 2, 3, 4, 5, 6], [7, 0, 1, 2, 3, 4, 5, 6, 7]] g14_3) .ret)))
def r14 : List Rx := [(.cell 2 (some 3)), (.tmp 3)]
theorem implNewDisk_ok (n : Int) : Meets Try.prog 14 [.one (.int .i64 n)] (NewRes n) [.one .hole] := by
  by_cases h : 1 ≤ n ∧ n ≤ 24
  · obtain ⟨m, rfl⟩ := Int.eq_ofNat_of_zero_le (show 0 ≤ n by omega)
    rw [NewRes, if_pos h]
    refine meets_go (ir := i14) (fn := Try.f14) (rx := [(.cell 2 (some 3)), (.tmp 3)]) rfl rfl (by rfl) (by rfl) (by exact Nat.le_of_ble_eq_true rfl) ?_
    simp (maxSteps := 9000000) -implicitDefEqProofs -dsimp (disch := omega) only [go_sem, g14_0, g14_1, g14_2, g14_3, a14_3, n14_3, i14, Nat.reduceEqDiff, Nat.reduceAdd, Nat.reduceMul, Nat.reduceLeDiff, Nat.reduceBEq, Nat.reduceBNe, Int.reduceEq, ↓reduceIte, reduceCtorEq]
    refine call_go true (within_ok m 1 24) ?_
    simp (maxSteps := 9000000) -implicitDefEqProofs -dsimp (disch := omega) only [go_sem, g14_0, g14_1, g14_2, g14_3, a14_3, n14_3, i14, h, Nat.reduceEqDiff, Nat.reduceAdd, Nat.reduceMul, Nat.reduceLeDiff, Nat.reduceBEq, Nat.reduceBNe, Int.reduceEq, ↓reduceIte, reduceCtorEq]
    refine draw_go n14_3 a14_3 (by decide +kernel) ?_
    simp (maxSteps := 9000000) -implicitDefEqProofs -dsimp (disch := omega) only [go_sem, g14_0, g14_1, g14_2, g14_3, a14_3, n14_3, i14, rep_str, rep_bool, List.length_replicate, cut_rs, cut_rb, Nat.reduceEqDiff, Nat.reduceAdd, Nat.reduceMul, Nat.reduceLeDiff, Nat.reduceBEq, Nat.reduceBNe, Int.reduceEq, ↓reduceIte, reduceCtorEq]
  · rw [NewRes, if_neg h]
    refine meets_go (ir := i14) (fn := Try.f14) (rx := [(.cell 2 (some 3)), (.tmp 3)]) rfl rfl (by rfl) (by rfl) (by exact Nat.le_of_ble_eq_true rfl) ?_
    simp (maxSteps := 9000000) -implicitDefEqProofs -dsimp (disch := omega) only [go_sem, g14_0, g14_1, g14_2, g14_3, a14_3, n14_3, i14, Nat.reduceEqDiff, Nat.reduceAdd, Nat.reduceMul, Nat.reduceLeDiff, Nat.reduceBEq, Nat.reduceBNe, Int.reduceEq, ↓reduceIte, reduceCtorEq]
    refine call_go true (within_ok n 1 24) ?_
    simp (maxSteps := 9000000) -implicitDefEqProofs -dsimp (disch := omega) only [go_sem, g14_0, g14_1, g14_2, g14_3, a14_3, n14_3, i14, h, Nat.reduceEqDiff, Nat.reduceAdd, Nat.reduceMul, Nat.reduceLeDiff, Nat.reduceBEq, Nat.reduceBNe, Int.reduceEq, ↓reduceIte, reduceCtorEq]
/-- a disk after steps -/
noncomputable def playS (n : Nat) (l : List Stp) : Nat → Dk
  | 0 => ⟨List.replicate n e0, List.replicate n e0, List.replicate n false, true⟩
  | i + 1 => stepF (playS n l i).p (playS n l i).h (playS n l i).b (l.getD i default).k (l.getD i default).a (l.getD i default).t (l.getD i default).h
noncomputable def didS (n : Nat) (l : List Stp) (i : Nat) : List Bool := (List.range i).map fun j => (playS n l (j + 1)).ok
theorem didS_s {n : Nat} {l : List Stp} {i : Nat} : didS n l (i + 1) = didS n l i ++ [(playS n l (i + 1)).ok] := by simp [didS, List.range_succ]
theorem didS_0 {n : Nat} {l : List Stp} : didS n l 0 = [] := rfl
theorem didS_len {n : Nat} {l : List Stp} {i : Nat} : (didS n l i).length = i := by simp [didS]
theorem stepF_no {p h : List ByteArray} {b : List Bool} {k a : Int} {text : ByteArray} {kept : List Int} (ho : (stepF p h b k a text kept).ok = false) : stepF p h b k a text kept = ⟨p, h, b, false⟩ := by
  generalize hD : stepF p h b k a text kept = D at ho
  unfold stepF at hD
  repeat' split at hD
  all_goals (subst hD; first | rfl | simp at ho)
theorem stepF_len' (p h : List ByteArray) (b : List Bool) (k a : Int) (text : ByteArray) (kept : List Int) : (stepF p h b k a text kept).p.length = p.length ∧ (stepF p h b k a text kept).h.length = h.length ∧ (stepF p h b k a text kept).b.length = b.length := by
  generalize hD : stepF p h b k a text kept = D
  unfold stepF at hD
  repeat' split at hD
  all_goals (subst hD; simp [crashP, crashH])
/-- a disk as steps leave it -/
def DInv (n : Nat) (d : Dk) : Prop := d.p.length = n ∧ d.h.length = n ∧ d.b.length = n ∧ (∀ x ∈ d.p, x.size ≤ 28) ∧ (∀ x ∈ d.h, x.size ≤ 28)
theorem sz_set {l : List ByteArray} {i : Nat} {y : ByteArray} (h : ∀ x ∈ l, x.size ≤ 28) (hy : y.size ≤ 28) : ∀ x ∈ l.set i y, x.size ≤ 28 := fun x hx => (List.mem_or_eq_of_mem_set hx).elim (h x) (fun e => e ▸ hy)
theorem sz_get {l : List ByteArray} {i : Nat} (h : ∀ x ∈ l, x.size ≤ 28) : (l.getD i default).size ≤ 28 := by
  by_cases hi : i < l.length
  · exact h _ (getD_mem hi)
  · rw [List.getD_eq_getElem?_getD, List.getElem?_eq_none (by omega)]; decide
theorem stepF_inv {n : Nat} {p h : List ByteArray} {b : List Bool} {k a : Int} {text : ByteArray} {kept : List Int} {o : Bool} (hi : DInv n ⟨p, h, b, o⟩) : DInv n (stepF p h b k a text kept) := by
  obtain ⟨l1, l2, l3⟩ := stepF_len' p h b k a text kept
  obtain ⟨h1, h2, h3, h4, h5⟩ := hi
  simp only at h1 h2 h3 h4 h5
  refine ⟨l1.trans h1, l2.trans h2, l3.trans h3, ?_, ?_⟩
  · generalize hD : stepF p h b k a text kept = D
    unfold stepF at hD
    repeat' split at hD
    all_goals subst hD
    all_goals first
      | exact h4
      | exact sz_set h4 (by rw [rotF_size]; exact sz_get h4)
      | exact sz_set h4 (by decide)
      | (intro x hx
         simp only [crashP, List.mem_map] at hx
         obtain ⟨j, _, rfl⟩ := hx
         simp only [crashF]
         split
         · exact sz_get h5
         · exact sz_get h4)
  · generalize hD : stepF p h b k a text kept = D
    unfold stepF at hD
    repeat' split at hD
    all_goals subst hD
    all_goals first
      | exact h5
      | (rename_i c; exact sz_set h5 c.2.2.2)
      | exact sz_set h5 (by decide)
      | (intro x hx
         simp only [crashH, List.mem_map] at hx
         obtain ⟨j, _, rfl⟩ := hx
         decide)
theorem playS_inv {n : Nat} {l : List Stp} : ∀ {i : Nat}, DInv n (playS n l i)
  | 0 => by
    refine ⟨by simp [playS], by simp [playS], by simp [playS], ?_, ?_⟩ <;>
    · intro x hx
      simp only [playS, List.mem_replicate] at hx
      rw [hx.2]; decide
  | i + 1 => stepF_inv (playS_inv (i := i))
/-- a disk played -/
noncomputable def PlayRes (n : Int) (l : List Stp) : TV := if (1 ≤ n ∧ n ≤ 24) ∧ l.length ≤ 80 then .tup [.agg [(.sl true 1 ((playS n.toNat l l.length).p).length (((playS n.toNat l l.length).p).map T.str)), (.sl true 1 ((playS n.toNat l l.length).h).length (((playS n.toNat l l.length).h).map T.str)), (.sl true 1 ((playS n.toNat l l.length).b).length (((playS n.toNat l l.length).b).map T.bool))], .one (.sl true 1 (didS n.toNat l l.length).length ((didS n.toNat l l.length).map T.bool)), .one (.bool true)] else .tup [.agg [.sl true 0 0 [], .sl true 0 0 [], .sl true 0 0 []], .one (.sl true 0 0 []), .one (.bool false)]
def g41_0 : List Gop := [⟨none, (some 4), (.alloc [.nil, .nil, .nil])⟩, ⟨none, (some 5), (.mov (.k (.one .nil)))⟩, ⟨none, (some 6), (.mov (.k (.one (.bool .false))))⟩]
def g41_1 : List Gop := [⟨none, (some 15), (.mov (.t 0))⟩, ⟨none, (some 16), (.call 14 [(.t 15)])⟩, ⟨none, (some 14), (.mov (.t 16))⟩, ⟨none, (some 17), (.ext (.t 14) 0)⟩, ⟨none, (some 18), (.ext (.t 14) 1)⟩, ⟨none, (some 7), (.alloc [.nil, .nil, .nil])⟩, ⟨none, none, (.store 3 (.t 7) (.t 17))⟩, ⟨none, (some 8), (.mov (.t 18))⟩]
def g41_2 : List Gop := [⟨none, (some 19), (.mov (.t 8))⟩, ⟨none, (some 20), (.un .not (.t 19))⟩, ⟨none, (some 21), (.mov (.t 20))⟩, ⟨(some (21, .false)), (some 22), (.mov (.t 1))⟩, ⟨(some (21, .false)), (some 23), (.len (.t 22))⟩, ⟨(some (21, .false)), (some 24), (.bin .gtr (.t 23) (.k (.one (.int .i64 80))))⟩, ⟨none, (some 25), (.pick (.t 21) (.k (.one (.bool .true))) (.t 24))⟩]
def g41_3 : List Gop := [⟨none, (some 26), (.build [.nil, .nil, .nil] [])⟩, ⟨none, none, (.store 3 (.t 4) (.t 26))⟩, ⟨none, (some 5), (.mov (.k (.one .nil)))⟩, ⟨none, (some 6), (.mov (.k (.one (.bool .false))))⟩]
def g41_4 : List Gop := [⟨none, (some 27), (.lit 1 0 [(.bool .false)] [])⟩, ⟨none, (some 9), (.mov (.t 27))⟩]
def g41_5 : List Gop := [⟨none, (some 28), (.mov (.t 1))⟩, ⟨none, (some 29), (.len (.t 28))⟩, ⟨none, (some 30), (.mov (.k (.one (.int .i64 0))))⟩]
def g41_6 : List Gop := [⟨none, (some 31), (.bin .lss (.t 30) (.t 29))⟩]
def g41_7 : List Gop := [⟨none, (some 32), (.iaddr 4 (.t 28) (.t 30))⟩, ⟨none, (some 33), (.load (some 4) (.t 32))⟩, ⟨none, (some 11), (.alloc [(.int .i64 0), (.int .i64 0), (.str ⟨#[]⟩), .nil])⟩, ⟨none, none, (.store 4 (.t 11) (.t 33))⟩]
def g41_8 : List Gop := [⟨none, (some 35), (.load (some 3) (.t 7))⟩, ⟨none, (some 36), (.load (some 4) (.t 11))⟩, ⟨none, (some 37), (.call 85 [(.t 35), (.t 36)])⟩, ⟨none, (some 34), (.mov (.t 37))⟩, ⟨none, (some 38), (.ext (.t 34) 0)⟩, ⟨none, (some 39), (.ext (.t 34) 1)⟩, ⟨none, (some 12), (.alloc [.nil, .nil, .nil])⟩, ⟨none, none, (.store 3 (.t 12) (.t 38))⟩, ⟨none, (some 13), (.mov (.t 39))⟩]
def g41_9 : List Gop := [⟨none, (some 40), (.mov (.t 13))⟩]
def g41_10 : List Gop := [⟨none, (some 41), (.load (some 3) (.t 12))⟩, ⟨none, none, (.store 3 (.t 7) (.t 41))⟩]
def g41_11 : List Gop := [⟨none, (some 42), (.mov (.t 9))⟩, ⟨none, (some 43), (.mov (.t 13))⟩, ⟨none, (some 44), (.lit 1 1 [(.bool .false)] [(0, (.t 43))])⟩, ⟨none, (some 45), (.app 1 1 [(.bool .false)] (.t 42) (.t 44))⟩, ⟨none, (some 9), (.mov (.t 45))⟩]
def g41_12 : List Gop := [⟨none, (some 46), (.bin .add (.t 30) (.k (.one (.int .i64 1))))⟩, ⟨none, (some 30), (.mov (.t 46))⟩]
def g41_13 : List Gop := [⟨none, (some 47), (.load (some 3) (.t 7))⟩, ⟨none, (some 48), (.mov (.t 9))⟩, ⟨none, none, (.store 3 (.t 4) (.t 47))⟩, ⟨none, (some 5), (.mov (.t 48))⟩, ⟨none, (some 6), (.mov (.k (.one (.bool .true))))⟩]
def i41 : Ir := (.seq (.region g41_0) (.seq (.region g41_1) (.seq (.seq (.region g41_2) (.cond (.t 25) (.seq (.region g41_3) .ret) .skip)) (.seq (.region g41_4) (.seq (.seq (.region g41_5) (.block 0 (.loop (.seq (.region g41_6) (.seq (.cond (.t 31) .skip (.exit 0)) (.seq (.block 1 (.seq (.region g41_7) (.seq (.region g41_8) (.seq (.seq (.region g41_9) (.cond (.t 40) (.region g41_10) .skip)) (.region g41_11))))) (.region g41_12))))))) (.seq (.region g41_13) .ret))))))
def r41 : List Rx := [(.cell 4 (some 3)), (.tmp 5), (.tmp 6)]
theorem implPlayDisk_ok (n : Int) (l : List Stp) (hl : l.length ≤ 1048576) (hk : ∀ x ∈ l, x.h.length ≤ 1048576 ∧ x.t.size ≤ 1048576) : Meets Try.prog 41 [.one (.int .i64 n), .one (LS l)] (PlayRes n l) [.one .hole, .one .hole] := by
  unfold LS
  by_cases h : 1 ≤ n ∧ n ≤ 24
  · obtain ⟨m, rfl⟩ := Int.eq_ofNat_of_zero_le (show 0 ≤ n by omega)
    have MN := implNewDisk_ok m
    rw [NewRes, if_pos h] at MN
    by_cases h2 : l.length ≤ 80
    · rw [PlayRes, if_pos ⟨h, h2⟩]
      refine meets_go (ir := i41) (fn := Try.f41) (rx := [(.cell 4 (some 3)), (.tmp 5), (.tmp 6)]) rfl rfl (by rfl) (by rfl) (by exact Nat.le_of_ble_eq_true rfl) ?_
      simp (maxSteps := 9000000) -implicitDefEqProofs -dsimp (disch := omega) only [go_sem, g41_0, g41_1, g41_2, g41_3, g41_4, g41_5, g41_6, g41_7, g41_8, g41_9, g41_10, g41_11, g41_12, g41_13, i41, Nat.reduceEqDiff, Nat.reduceAdd, Nat.reduceMul, Nat.reduceLeDiff, Nat.reduceBEq, Nat.reduceBNe, Int.reduceEq, ↓reduceIte, reduceCtorEq]
      refine call_go true MN ?_
      simp (maxSteps := 9000000) -implicitDefEqProofs -dsimp (disch := omega) only [go_sem, g41_0, g41_1, g41_2, g41_3, g41_4, g41_5, g41_6, g41_7, g41_8, g41_9, g41_10, g41_11, g41_12, g41_13, i41, lt_T, lt_F, le_T, le_F, eq_T, eq_F, and_F, rep_str, rep_bool, List.length_replicate, Nat.reduceEqDiff, Nat.reduceAdd, Nat.reduceMul, Nat.reduceLeDiff, Nat.reduceBEq, Nat.reduceBNe, Int.reduceEq, ↓reduceIte, reduceCtorEq]
      have p0 : (playS m l 0).p = List.replicate m e0 := rfl
      have p1 : (playS m l 0).h = List.replicate m e0 := rfl
      have p2 : (playS m l 0).b = List.replicate m false := rfl
      refine loop_n l.length (fun i => ⟨[(30, .w (.one (.int .i64 (i : Nat)))), (29, .w (.one (.int .i64 l.length))), (28, .w (.one (.hs 0 [] 0 4 l.length))), (9, .w (.one (.hs 9 [] 0 1 i))), (7, .w (.one (.hp 5 [] 0))), (4, .w (.one (.hp 1 [] 0)))],
        [(9, .sl true 1 i ((didS m l i).map T.bool)), (5, .bx true [.sl true 1 m ((playS m l i).p.map T.str), .sl true 1 m ((playS m l i).h.map T.str), .sl true 1 m ((playS m l i).b.map T.bool)]), (1, .bx true [.sl true 0 0 [], .sl true 0 0 [], .sl true 0 0 []]), (0, .sl false 4 l.length (stR l))], [.one (.int .i64 m), .one (.hs 0 [] 0 4 l.length)]⟩) (fun i => True) ?_ trivial ?_
      · exact (imp_adopt 9 9 1 rfl rfl).trans (imp_sub (by simp (maxSteps := 9000000) -implicitDefEqProofs -dsimp (disch := omega) only [go_sem, g41_0, g41_1, g41_2, g41_3, g41_4, g41_5, g41_6, g41_7, g41_8, g41_9, g41_10, g41_11, g41_12, g41_13, i41, cut_rs, cut_rb, p0, p1, p2, didS_0, Nat.reduceEqDiff, Nat.reduceAdd, Nat.reduceMul, Nat.reduceLeDiff, Nat.reduceBEq, Nat.reduceBNe, Int.reduceEq, ↓reduceIte, reduceCtorEq]) (by simp (maxSteps := 9000000) -implicitDefEqProofs -dsimp (disch := omega) only [go_sem, g41_0, g41_1, g41_2, g41_3, g41_4, g41_5, g41_6, g41_7, g41_8, g41_9, g41_10, g41_11, g41_12, g41_13, i41, cut_rs, cut_rb, p0, p1, p2, didS_0, Nat.reduceEqDiff, Nat.reduceAdd, Nat.reduceMul, Nat.reduceLeDiff, Nat.reduceBEq, Nat.reduceBNe, Int.reduceEq, ↓reduceIte, reduceCtorEq]) rfl)
      · intro i hi hJ
        simp (maxSteps := 9000000) -implicitDefEqProofs -dsimp (disch := omega) only [go_sem, g41_0, g41_1, g41_2, g41_3, g41_4, g41_5, g41_6, g41_7, g41_8, g41_9, g41_10, g41_11, g41_12, g41_13, i41, Nat.reduceEqDiff, Nat.reduceAdd, Nat.reduceMul, Nat.reduceLeDiff, Nat.reduceBEq, Nat.reduceBNe, Int.reduceEq, ↓reduceIte, reduceCtorEq]
        refine brP_i (fun h3 => ?_) (fun h3 => ?_)
        · have hlt : i < l.length := by omega
          have hki := hk _ (getD_mem hlt)
          obtain ⟨i1, i2, i3, i4, i5⟩ := playS_inv (n := m) (l := l) (i := i)
          have st := stepped_ok (playS m l i).p (playS m l i).h (playS m l i).b (l.getD i default).k (l.getD i default).a (l.getD i default).t (l.getD i default).h (by omega) (by omega) (by omega) (fun e => by rw [e] at i3; simp only [List.length_nil] at i3; omega) hki.1 hki.2 (fun x hx => by have := i4 x hx; omega)
          have eS : playS m l (i + 1) = stepF (playS m l i).p (playS m l i).h (playS m l i).b (l.getD i default).k (l.getD i default).a (l.getD i default).t (l.getD i default).h := rfl
          have eD := didS_s (n := m) (l := l) (i := i)
          unfold Stepped at st; rw [← eS] at st
          have cp : cut ((playS m l i).p.map T.str) 0 m = (playS m l i).p.map T.str := cut_all (by simp [i1])
          have ch : cut ((playS m l i).h.map T.str) 0 m = (playS m l i).h.map T.str := cut_all (by simp [i2])
          have cb : cut ((playS m l i).b.map T.bool) 0 m = (playS m l i).b.map T.bool := cut_all (by simp [i3])
          have cd : cut ((didS m l i).map T.bool) 0 i = (didS m l i).map T.bool := cut_all (by simp [didS_len])
          have r1 : (didS m l (i + 1)).length = i + 1 := didS_len
          obtain ⟨j1, j2, j3, j4, j5⟩ := playS_inv (n := m) (l := l) (i := i + 1)
          cases hok : (playS m l (i + 1)).ok with
          | true =>
            rcases st with ⟨p', h', b', hM, hD⟩ | ⟨hno, hM⟩
            · have hD' := hD hok
              have k1 : p' = (playS m l (i + 1)).p := by rw [hD']
              have k2 : h' = (playS m l (i + 1)).h := by rw [hD']
              have k3 : b' = (playS m l (i + 1)).b := by rw [hD']
              rw [i1, i2, i3, hok, k1, k2, k3, j1, j2, j3] at hM
              rw [hok] at eD
              have cp' : cut ((playS m l (i + 1)).p.map T.str) 0 m = (playS m l (i + 1)).p.map T.str := cut_all (by simp [j1])
              have ch' : cut ((playS m l (i + 1)).h.map T.str) 0 m = (playS m l (i + 1)).h.map T.str := cut_all (by simp [j2])
              have cb' : cut ((playS m l (i + 1)).b.map T.bool) 0 m = (playS m l (i + 1)).b.map T.bool := cut_all (by simp [j3])
              simp (maxSteps := 9000000) -implicitDefEqProofs -dsimp (disch := omega) only [go_sem, g41_0, g41_1, g41_2, g41_3, g41_4, g41_5, g41_6, g41_7, g41_8, g41_9, g41_10, g41_11, g41_12, g41_13, i41, stR_0 hlt, stR_1 hlt, stR_2 hlt, stR_3 hlt, Nat.reduceEqDiff, Nat.reduceAdd, Nat.reduceMul, Nat.reduceLeDiff, Nat.reduceBEq, Nat.reduceBNe, Int.reduceEq, ↓reduceIte, reduceCtorEq]
              refine call_go true hM ?_
              simp (maxSteps := 9000000) -implicitDefEqProofs -dsimp (disch := omega) only [go_sem, g41_0, g41_1, g41_2, g41_3, g41_4, g41_5, g41_6, g41_7, g41_8, g41_9, g41_10, g41_11, g41_12, g41_13, i41, stR_3 hlt, cp, ch, cb, cp', ch', cb', cd, Nat.reduceEqDiff, Nat.reduceAdd, Nat.reduceMul, Nat.reduceLeDiff, Nat.reduceBEq, Nat.reduceBNe, Int.reduceEq, ↓reduceIte, reduceCtorEq]
              exact ⟨hlt, (imp_ren 16 9 rfl rfl).trans (imp_sub (by simp (maxSteps := 9000000) -implicitDefEqProofs -dsimp (disch := omega) only [go_sem, g41_0, g41_1, g41_2, g41_3, g41_4, g41_5, g41_6, g41_7, g41_8, g41_9, g41_10, g41_11, g41_12, g41_13, i41, eD, Nat.reduceEqDiff, Nat.reduceAdd, Nat.reduceMul, Nat.reduceLeDiff, Nat.reduceBEq, Nat.reduceBNe, Int.reduceEq, ↓reduceIte, reduceCtorEq]) (by simp (maxSteps := 9000000) -implicitDefEqProofs -dsimp (disch := omega) only [go_sem, g41_0, g41_1, g41_2, g41_3, g41_4, g41_5, g41_6, g41_7, g41_8, g41_9, g41_10, g41_11, g41_12, g41_13, i41, eD, Nat.reduceEqDiff, Nat.reduceAdd, Nat.reduceMul, Nat.reduceLeDiff, Nat.reduceBEq, Nat.reduceBNe, Int.reduceEq, ↓reduceIte, reduceCtorEq]) rfl)⟩
            · rw [hok] at hno; simp at hno
          | false =>
            have hn : playS m l (i + 1) = ⟨(playS m l i).p, (playS m l i).h, (playS m l i).b, false⟩ := by rw [eS] at hok ⊢; exact stepF_no hok
            have n1 : (playS m l (i + 1)).p = (playS m l i).p := by rw [hn]
            have n2 : (playS m l (i + 1)).h = (playS m l i).h := by rw [hn]
            have n3 : (playS m l (i + 1)).b = (playS m l i).b := by rw [hn]
            rw [hok] at eD
            rcases st with ⟨p', h', b', hM, hD⟩ | ⟨hno, hM⟩
            · rw [i1, i2, i3, hok] at hM
              simp (maxSteps := 9000000) -implicitDefEqProofs -dsimp (disch := omega) only [go_sem, g41_0, g41_1, g41_2, g41_3, g41_4, g41_5, g41_6, g41_7, g41_8, g41_9, g41_10, g41_11, g41_12, g41_13, i41, stR_0 hlt, stR_1 hlt, stR_2 hlt, stR_3 hlt, Nat.reduceEqDiff, Nat.reduceAdd, Nat.reduceMul, Nat.reduceLeDiff, Nat.reduceBEq, Nat.reduceBNe, Int.reduceEq, ↓reduceIte, reduceCtorEq]
              refine call_go true hM ?_
              simp (maxSteps := 9000000) -implicitDefEqProofs -dsimp (disch := omega) only [go_sem, g41_0, g41_1, g41_2, g41_3, g41_4, g41_5, g41_6, g41_7, g41_8, g41_9, g41_10, g41_11, g41_12, g41_13, i41, stR_3 hlt, cp, ch, cb, cd, Nat.reduceEqDiff, Nat.reduceAdd, Nat.reduceMul, Nat.reduceLeDiff, Nat.reduceBEq, Nat.reduceBNe, Int.reduceEq, ↓reduceIte, reduceCtorEq]
              exact ⟨hlt, (imp_ren 16 9 rfl rfl).trans (imp_sub (by simp (maxSteps := 9000000) -implicitDefEqProofs -dsimp (disch := omega) only [go_sem, g41_0, g41_1, g41_2, g41_3, g41_4, g41_5, g41_6, g41_7, g41_8, g41_9, g41_10, g41_11, g41_12, g41_13, i41, eD, n1, n2, n3, Nat.reduceEqDiff, Nat.reduceAdd, Nat.reduceMul, Nat.reduceLeDiff, Nat.reduceBEq, Nat.reduceBNe, Int.reduceEq, ↓reduceIte, reduceCtorEq]) (by simp (maxSteps := 9000000) -implicitDefEqProofs -dsimp (disch := omega) only [go_sem, g41_0, g41_1, g41_2, g41_3, g41_4, g41_5, g41_6, g41_7, g41_8, g41_9, g41_10, g41_11, g41_12, g41_13, i41, eD, n1, n2, n3, Nat.reduceEqDiff, Nat.reduceAdd, Nat.reduceMul, Nat.reduceLeDiff, Nat.reduceBEq, Nat.reduceBNe, Int.reduceEq, ↓reduceIte, reduceCtorEq]) rfl)⟩
            · rw [i1, i2, i3] at hM
              simp (maxSteps := 9000000) -implicitDefEqProofs -dsimp (disch := omega) only [go_sem, g41_0, g41_1, g41_2, g41_3, g41_4, g41_5, g41_6, g41_7, g41_8, g41_9, g41_10, g41_11, g41_12, g41_13, i41, stR_0 hlt, stR_1 hlt, stR_2 hlt, stR_3 hlt, Nat.reduceEqDiff, Nat.reduceAdd, Nat.reduceMul, Nat.reduceLeDiff, Nat.reduceBEq, Nat.reduceBNe, Int.reduceEq, ↓reduceIte, reduceCtorEq]
              refine call_go true hM ?_
              simp (maxSteps := 9000000) -implicitDefEqProofs -dsimp (disch := omega) only [go_sem, g41_0, g41_1, g41_2, g41_3, g41_4, g41_5, g41_6, g41_7, g41_8, g41_9, g41_10, g41_11, g41_12, g41_13, i41, stR_3 hlt, cp, ch, cb, cd, Nat.reduceEqDiff, Nat.reduceAdd, Nat.reduceMul, Nat.reduceLeDiff, Nat.reduceBEq, Nat.reduceBNe, Int.reduceEq, ↓reduceIte, reduceCtorEq]
              exact ⟨hlt, (imp_ren 13 9 rfl rfl).trans (imp_sub (by simp (maxSteps := 9000000) -implicitDefEqProofs -dsimp (disch := omega) only [go_sem, g41_0, g41_1, g41_2, g41_3, g41_4, g41_5, g41_6, g41_7, g41_8, g41_9, g41_10, g41_11, g41_12, g41_13, i41, eD, n1, n2, n3, Nat.reduceEqDiff, Nat.reduceAdd, Nat.reduceMul, Nat.reduceLeDiff, Nat.reduceBEq, Nat.reduceBNe, Int.reduceEq, ↓reduceIte, reduceCtorEq]) (by simp (maxSteps := 9000000) -implicitDefEqProofs -dsimp (disch := omega) only [go_sem, g41_0, g41_1, g41_2, g41_3, g41_4, g41_5, g41_6, g41_7, g41_8, g41_9, g41_10, g41_11, g41_12, g41_13, i41, eD, n1, n2, n3, Nat.reduceEqDiff, Nat.reduceAdd, Nat.reduceMul, Nat.reduceLeDiff, Nat.reduceBEq, Nat.reduceBNe, Int.reduceEq, ↓reduceIte, reduceCtorEq]) rfl)⟩
        · obtain rfl : i = l.length := by omega
          obtain ⟨i1, i2, i3, i4, i5⟩ := playS_inv (n := m) (l := l) (i := l.length)
          have r1 : (didS m l l.length).length = l.length := didS_len
          have cp : cut ((playS m l l.length).p.map T.str) 0 m = (playS m l l.length).p.map T.str := cut_all (by simp [i1])
          have ch : cut ((playS m l l.length).h.map T.str) 0 m = (playS m l l.length).h.map T.str := cut_all (by simp [i2])
          have cb : cut ((playS m l l.length).b.map T.bool) 0 m = (playS m l l.length).b.map T.bool := cut_all (by simp [i3])
          have cd : cut ((didS m l l.length).map T.bool) 0 l.length = (didS m l l.length).map T.bool := cut_all (by simp [didS_len])
          simp (maxSteps := 9000000) -implicitDefEqProofs -dsimp (disch := omega) only [go_sem, g41_0, g41_1, g41_2, g41_3, g41_4, g41_5, g41_6, g41_7, g41_8, g41_9, g41_10, g41_11, g41_12, g41_13, i41, cp, ch, cb, cd, i1, i2, i3, r1, toNat_nat, Nat.reduceEqDiff, Nat.reduceAdd, Nat.reduceMul, Nat.reduceLeDiff, Nat.reduceBEq, Nat.reduceBNe, Int.reduceEq, ↓reduceIte, reduceCtorEq]
    · rw [PlayRes, if_neg (fun q => h2 q.2)]
      refine meets_go (ir := i41) (fn := Try.f41) (rx := [(.cell 4 (some 3)), (.tmp 5), (.tmp 6)]) rfl rfl (by rfl) (by rfl) (by exact Nat.le_of_ble_eq_true rfl) ?_
      simp (maxSteps := 9000000) -implicitDefEqProofs -dsimp (disch := omega) only [go_sem, g41_0, g41_1, g41_2, g41_3, g41_4, g41_5, g41_6, g41_7, g41_8, g41_9, g41_10, g41_11, g41_12, g41_13, i41, Nat.reduceEqDiff, Nat.reduceAdd, Nat.reduceMul, Nat.reduceLeDiff, Nat.reduceBEq, Nat.reduceBNe, Int.reduceEq, ↓reduceIte, reduceCtorEq]
      refine call_go true MN ?_
      simp (maxSteps := 9000000) -implicitDefEqProofs -dsimp (disch := omega) only [go_sem, g41_0, g41_1, g41_2, g41_3, g41_4, g41_5, g41_6, g41_7, g41_8, g41_9, g41_10, g41_11, g41_12, g41_13, i41, lt_T, lt_F, le_T, le_F, eq_T, eq_F, and_F, rep_str, rep_bool, List.length_replicate, Nat.reduceEqDiff, Nat.reduceAdd, Nat.reduceMul, Nat.reduceLeDiff, Nat.reduceBEq, Nat.reduceBNe, Int.reduceEq, ↓reduceIte, reduceCtorEq]
  · have MN := implNewDisk_ok n
    rw [NewRes, if_neg h] at MN
    rw [PlayRes, if_neg (fun q => h q.1)]
    refine meets_go (ir := i41) (fn := Try.f41) (rx := [(.cell 4 (some 3)), (.tmp 5), (.tmp 6)]) rfl rfl (by rfl) (by rfl) (by exact Nat.le_of_ble_eq_true rfl) ?_
    simp (maxSteps := 9000000) -implicitDefEqProofs -dsimp (disch := omega) only [go_sem, g41_0, g41_1, g41_2, g41_3, g41_4, g41_5, g41_6, g41_7, g41_8, g41_9, g41_10, g41_11, g41_12, g41_13, i41, Nat.reduceEqDiff, Nat.reduceAdd, Nat.reduceMul, Nat.reduceLeDiff, Nat.reduceBEq, Nat.reduceBNe, Int.reduceEq, ↓reduceIte, reduceCtorEq]
    refine call_go true MN ?_
    simp (maxSteps := 9000000) -implicitDefEqProofs -dsimp (disch := omega) only [go_sem, g41_0, g41_1, g41_2, g41_3, g41_4, g41_5, g41_6, g41_7, g41_8, g41_9, g41_10, g41_11, g41_12, g41_13, i41, lt_T, lt_F, le_T, le_F, eq_T, eq_F, and_F, Nat.reduceEqDiff, Nat.reduceAdd, Nat.reduceMul, Nat.reduceLeDiff, Nat.reduceBEq, Nat.reduceBNe, Int.reduceEq, ↓reduceIte, reduceCtorEq]
def g42_0 : List Gop := [⟨none, (some 4), (.alloc [.nil, .nil, .nil])⟩, ⟨none, (some 5), (.mov (.k (.one .nil)))⟩, ⟨none, (some 6), (.mov (.k (.one (.bool .false))))⟩]
def g42_1 : List Gop := [⟨none, (some 15), (.mov (.t 0))⟩, ⟨none, (some 16), (.call 13 [(.t 15)])⟩, ⟨none, (some 14), (.mov (.t 16))⟩, ⟨none, (some 17), (.ext (.t 14) 0)⟩, ⟨none, (some 18), (.ext (.t 14) 1)⟩, ⟨none, (some 7), (.alloc [.nil, .nil, .nil])⟩, ⟨none, none, (.store 3 (.t 7) (.t 17))⟩, ⟨none, (some 8), (.mov (.t 18))⟩]
def g42_2 : List Gop := [⟨none, (some 19), (.mov (.t 8))⟩, ⟨none, (some 20), (.un .not (.t 19))⟩, ⟨none, (some 21), (.mov (.t 20))⟩, ⟨(some (21, .false)), (some 22), (.mov (.t 1))⟩, ⟨(some (21, .false)), (some 23), (.len (.t 22))⟩, ⟨(some (21, .false)), (some 24), (.bin .gtr (.t 23) (.k (.one (.int .i64 80))))⟩, ⟨none, (some 25), (.pick (.t 21) (.k (.one (.bool .true))) (.t 24))⟩]
def g42_3 : List Gop := [⟨none, (some 26), (.build [.nil, .nil, .nil] [])⟩, ⟨none, none, (.store 3 (.t 4) (.t 26))⟩, ⟨none, (some 5), (.mov (.k (.one .nil)))⟩, ⟨none, (some 6), (.mov (.k (.one (.bool .false))))⟩]
def g42_4 : List Gop := [⟨none, (some 9), (.mov (.k (.one .nil)))⟩]
def g42_5 : List Gop := [⟨none, (some 27), (.mov (.t 1))⟩, ⟨none, (some 28), (.len (.t 27))⟩, ⟨none, (some 29), (.mov (.k (.one (.int .i64 0))))⟩]
def g42_6 : List Gop := [⟨none, (some 30), (.bin .lss (.t 29) (.t 28))⟩]
def g42_7 : List Gop := [⟨none, (some 31), (.iaddr 4 (.t 27) (.t 29))⟩, ⟨none, (some 32), (.load (some 4) (.t 31))⟩, ⟨none, (some 11), (.alloc [(.int .i64 0), (.int .i64 0), (.str ⟨#[]⟩), .nil])⟩, ⟨none, none, (.store 4 (.t 11) (.t 32))⟩]
def g42_8 : List Gop := [⟨none, (some 34), (.load (some 3) (.t 7))⟩, ⟨none, (some 35), (.call 76 [(.t 34)])⟩, ⟨none, (some 36), (.load (some 4) (.t 11))⟩, ⟨none, (some 37), (.call 86 [(.t 35), (.t 36)])⟩, ⟨none, (some 33), (.mov (.t 37))⟩, ⟨none, (some 38), (.ext (.t 33) 0)⟩, ⟨none, (some 39), (.ext (.t 33) 1)⟩, ⟨none, (some 12), (.alloc [.nil, .nil, .nil])⟩, ⟨none, none, (.store 3 (.t 12) (.t 38))⟩, ⟨none, (some 13), (.mov (.t 39))⟩]
def a42_8 : List (List Nat) := [[], [0], [], [0, 1, 2], [0, 1, 2, 3], [0, 1, 2, 3, 4], [0, 1, 2, 3, 4], [], [0, 1, 2, 3, 4, 5, 7], [0, 1, 2, 3, 4, 5, 6, 7, 8]]
def n42_8 : Nat := 9 -- of 10
def g42_9 : List Gop := [⟨none, (some 40), (.mov (.t 13))⟩]
def g42_10 : List Gop := [⟨none, (some 41), (.load (some 3) (.t 12))⟩, ⟨none, none, (.store 3 (.t 7) (.t 41))⟩]
def g42_11 : List Gop := [⟨none, (some 42), (.mov (.t 9))⟩, ⟨none, (some 43), (.mov (.t 13))⟩, ⟨none, (some 44), (.lit 1 1 [(.bool .false)] [(0, (.t 43))])⟩, ⟨none, (some 45), (.app 1 1 [(.bool .false)] (.t 42) (.t 44))⟩, ⟨none, (some 9), (.mov (.t 45))⟩]
def g42_12 : List Gop := [⟨none, (some 46), (.bin .add (.t 29) (.k (.one (.int .i64 1))))⟩, ⟨none, (some 29), (.mov (.t 46))⟩]
def g42_13 : List Gop := [⟨none, (some 47), (.load (some 3) (.t 7))⟩, ⟨none, (some 48), (.call 76 [(.t 47)])⟩, ⟨none, (some 49), (.mov (.t 9))⟩, ⟨none, none, (.store 3 (.t 4) (.t 48))⟩, ⟨none, (some 5), (.mov (.t 49))⟩, ⟨none, (some 6), (.mov (.k (.one (.bool .true))))⟩]
def i42 : Ir := (.seq (.region g42_0) (.seq (.region g42_1) (.seq (.seq (.region g42_2) (.cond (.t 25) (.seq (.region g42_3) .ret) .skip)) (.seq (.region g42_4) (.seq (.seq (.region g42_5) (.block 0 (.loop (.seq (.region g42_6) (.seq (.cond (.t 30) .skip (.exit 0)) (.seq (.block 1 (.seq (.region g42_7) (.seq (.draw [[], [0], [], [1, 2, 1], [3], [4], [4], [], [7, 5, 3, 0, 1, 2, 3, 4, 5, 7], [6, 8, 0, 1, 2, 3, 4, 5, 6, 7, 8]] g42_8) (.seq (.seq (.region g42_9) (.cond (.t 40) (.region g42_10) .skip)) (.region g42_11))))) (.region g42_12))))))) (.seq (.region g42_13) .ret))))))
def r42 : List Rx := [(.cell 4 (some 3)), (.tmp 5), (.tmp 6)]
theorem specPlayDisk_ok (n : Int) (l : List Stp) (hl : l.length ≤ 1048576) (hk : ∀ x ∈ l, x.h.length ≤ 1048576 ∧ x.t.size ≤ 1048576) : Meets Try.prog 42 [.one (.int .i64 n), .one (LS l)] (PlayRes n l) [.one .hole, .one .hole] := by
  unfold LS
  by_cases h : 1 ≤ n ∧ n ≤ 24
  · obtain ⟨m, rfl⟩ := Int.eq_ofNat_of_zero_le (show 0 ≤ n by omega)
    have MN := specNewDisk_ok m
    rw [NewRes, if_pos h] at MN
    by_cases h2 : l.length ≤ 80
    · rw [PlayRes, if_pos ⟨h, h2⟩]
      refine meets_go (ir := i42) (fn := Try.f42) (rx := [(.cell 4 (some 3)), (.tmp 5), (.tmp 6)]) rfl rfl (by rfl) (by rfl) (by exact Nat.le_of_ble_eq_true rfl) ?_
      simp (maxSteps := 9000000) -implicitDefEqProofs -dsimp (disch := omega) only [go_sem, g42_0, g42_1, g42_2, g42_3, g42_4, g42_5, g42_6, g42_7, g42_8, a42_8, n42_8, g42_9, g42_10, g42_11, g42_12, g42_13, i42, Nat.reduceEqDiff, Nat.reduceAdd, Nat.reduceMul, Nat.reduceLeDiff, Nat.reduceBEq, Nat.reduceBNe, Int.reduceEq, ↓reduceIte, reduceCtorEq]
      refine call_go true MN ?_
      simp (maxSteps := 9000000) -implicitDefEqProofs -dsimp (disch := omega) only [go_sem, g42_0, g42_1, g42_2, g42_3, g42_4, g42_5, g42_6, g42_7, g42_8, a42_8, n42_8, g42_9, g42_10, g42_11, g42_12, g42_13, i42, lt_T, lt_F, le_T, le_F, eq_T, eq_F, and_F, rep_str, rep_bool, List.length_replicate, Nat.reduceEqDiff, Nat.reduceAdd, Nat.reduceMul, Nat.reduceLeDiff, Nat.reduceBEq, Nat.reduceBNe, Int.reduceEq, ↓reduceIte, reduceCtorEq]
      have p0 : (playS m l 0).p = List.replicate m e0 := rfl
      have p1 : (playS m l 0).h = List.replicate m e0 := rfl
      have p2 : (playS m l 0).b = List.replicate m false := rfl
      refine loop_n l.length (fun i => ⟨[(29, .w (.one (.int .i64 (i : Nat)))), (28, .w (.one (.int .i64 l.length))), (27, .w (.one (.hs 0 [] 0 4 l.length))), (9, .w (.one (.hs 9 [] 0 1 i))), (7, .w (.one (.hp 5 [] 0))), (4, .w (.one (.hp 1 [] 0)))],
        [(9, .sl true 1 i ((didS m l i).map T.bool)), (5, .bx true [.sl true 1 m ((playS m l i).p.map T.str), .sl true 1 m ((playS m l i).h.map T.str), .sl true 1 m ((playS m l i).b.map T.bool)]), (1, .bx true [.sl true 0 0 [], .sl true 0 0 [], .sl true 0 0 []]), (0, .sl false 4 l.length (stR l))], [.one (.int .i64 m), .one (.hs 0 [] 0 4 l.length)]⟩) (fun i => True) ?_ trivial ?_
      · exact (imp_adopt 9 9 1 rfl rfl).trans (imp_sub (by simp (maxSteps := 9000000) -implicitDefEqProofs -dsimp (disch := omega) only [go_sem, g42_0, g42_1, g42_2, g42_3, g42_4, g42_5, g42_6, g42_7, g42_8, a42_8, n42_8, g42_9, g42_10, g42_11, g42_12, g42_13, i42, cut_rs, cut_rb, p0, p1, p2, didS_0, Nat.reduceEqDiff, Nat.reduceAdd, Nat.reduceMul, Nat.reduceLeDiff, Nat.reduceBEq, Nat.reduceBNe, Int.reduceEq, ↓reduceIte, reduceCtorEq]) (by simp (maxSteps := 9000000) -implicitDefEqProofs -dsimp (disch := omega) only [go_sem, g42_0, g42_1, g42_2, g42_3, g42_4, g42_5, g42_6, g42_7, g42_8, a42_8, n42_8, g42_9, g42_10, g42_11, g42_12, g42_13, i42, cut_rs, cut_rb, p0, p1, p2, didS_0, Nat.reduceEqDiff, Nat.reduceAdd, Nat.reduceMul, Nat.reduceLeDiff, Nat.reduceBEq, Nat.reduceBNe, Int.reduceEq, ↓reduceIte, reduceCtorEq]) rfl)
      · intro i hi hJ
        simp (maxSteps := 9000000) -implicitDefEqProofs -dsimp (disch := omega) only [go_sem, g42_0, g42_1, g42_2, g42_3, g42_4, g42_5, g42_6, g42_7, g42_8, a42_8, n42_8, g42_9, g42_10, g42_11, g42_12, g42_13, i42, Nat.reduceEqDiff, Nat.reduceAdd, Nat.reduceMul, Nat.reduceLeDiff, Nat.reduceBEq, Nat.reduceBNe, Int.reduceEq, ↓reduceIte, reduceCtorEq]
        refine brP_i (fun h3 => ?_) (fun h3 => ?_)
        · have hlt : i < l.length := by omega
          have hki := hk _ (getD_mem hlt)
          obtain ⟨i1, i2, i3, i4, i5⟩ := playS_inv (n := m) (l := l) (i := i)
          have eS : playS m l (i + 1) = stepF (playS m l i).p (playS m l i).h (playS m l i).b (l.getD i default).k (l.getD i default).a (l.getD i default).t (l.getD i default).h := rfl
          have eD := didS_s (n := m) (l := l) (i := i)
          have cp : cut ((playS m l i).p.map T.str) 0 m = (playS m l i).p.map T.str := cut_all (by simp [i1])
          have ch : cut ((playS m l i).h.map T.str) 0 m = (playS m l i).h.map T.str := cut_all (by simp [i2])
          have cb : cut ((playS m l i).b.map T.bool) 0 m = (playS m l i).b.map T.bool := cut_all (by simp [i3])
          have cd : cut ((didS m l i).map T.bool) 0 i = (didS m l i).map T.bool := cut_all (by simp [didS_len])
          have r1 : (didS m l (i + 1)).length = i + 1 := didS_len
          obtain ⟨j1, j2, j3, j4, j5⟩ := playS_inv (n := m) (l := l) (i := i + 1)
          have cp' : cut ((playS m l (i + 1)).p.map T.str) 0 m = (playS m l (i + 1)).p.map T.str := cut_all (by simp [j1])
          have ch' : cut ((playS m l (i + 1)).h.map T.str) 0 m = (playS m l (i + 1)).h.map T.str := cut_all (by simp [j2])
          have cb' : cut ((playS m l (i + 1)).b.map T.bool) 0 m = (playS m l (i + 1)).b.map T.bool := cut_all (by simp [j3])
          have MO := l7Own_ok (playS m l i).p (playS m l i).h (playS m l i).b (by omega) (by omega) (by omega)
          have MS := l7Step_ok (playS m l i).p (playS m l i).h (playS m l i).b (l.getD i default).k (l.getD i default).a (l.getD i default).t (l.getD i default).h (by omega) (by omega) (by omega) hki.1 hki.2 (fun x hx => by have := i4 x hx; omega)
          rw [← eS, j1, j2, j3, i1, i2, i3] at MS
          rw [i1, i2, i3] at MO
          simp (maxSteps := 9000000) -implicitDefEqProofs -dsimp (disch := omega) only [go_sem, g42_0, g42_1, g42_2, g42_3, g42_4, g42_5, g42_6, g42_7, g42_8, a42_8, n42_8, g42_9, g42_10, g42_11, g42_12, g42_13, i42, stR_0 hlt, stR_1 hlt, stR_2 hlt, stR_3 hlt, Nat.reduceEqDiff, Nat.reduceAdd, Nat.reduceMul, Nat.reduceLeDiff, Nat.reduceBEq, Nat.reduceBNe, Int.reduceEq, ↓reduceIte, reduceCtorEq]
          refine drawm_go n42_8 a42_8 [(3, .framed []), (8, .framed [])] (by decide +kernel) ?_
          simp (maxSteps := 9000000) -implicitDefEqProofs -dsimp (disch := omega) only [go_sem, g42_0, g42_1, g42_2, g42_3, g42_4, g42_5, g42_6, g42_7, g42_8, a42_8, n42_8, g42_9, g42_10, g42_11, g42_12, g42_13, i42, cp, ch, cb, Nat.reduceEqDiff, Nat.reduceAdd, Nat.reduceMul, Nat.reduceLeDiff, Nat.reduceBEq, Nat.reduceBNe, Int.reduceEq, ↓reduceIte, reduceCtorEq]
          refine calla_go true MO ?_
          simp (maxSteps := 9000000) -implicitDefEqProofs -dsimp (disch := omega) only [go_sem, g42_0, g42_1, g42_2, g42_3, g42_4, g42_5, g42_6, g42_7, g42_8, a42_8, n42_8, g42_9, g42_10, g42_11, g42_12, g42_13, i42, cp, ch, cb, Nat.reduceEqDiff, Nat.reduceAdd, Nat.reduceMul, Nat.reduceLeDiff, Nat.reduceBEq, Nat.reduceBNe, Int.reduceEq, ↓reduceIte, reduceCtorEq]
          refine call_go true MS ?_
          cases hok : (playS m l (i + 1)).ok with
          | true =>
            rw [hok] at eD
            simp (maxSteps := 9000000) -implicitDefEqProofs -dsimp (disch := omega) only [go_sem, g42_0, g42_1, g42_2, g42_3, g42_4, g42_5, g42_6, g42_7, g42_8, a42_8, n42_8, g42_9, g42_10, g42_11, g42_12, g42_13, i42, stR_3 hlt, cp, ch, cb, cp', ch', cb', cd, hok, Nat.reduceEqDiff, Nat.reduceAdd, Nat.reduceMul, Nat.reduceLeDiff, Nat.reduceBEq, Nat.reduceBNe, Int.reduceEq, ↓reduceIte, reduceCtorEq]
            exact ⟨hlt, (imp_ren 19 9 rfl rfl).trans (imp_sub (by simp (maxSteps := 9000000) -implicitDefEqProofs -dsimp (disch := omega) only [go_sem, g42_0, g42_1, g42_2, g42_3, g42_4, g42_5, g42_6, g42_7, g42_8, a42_8, n42_8, g42_9, g42_10, g42_11, g42_12, g42_13, i42, eD, Nat.reduceEqDiff, Nat.reduceAdd, Nat.reduceMul, Nat.reduceLeDiff, Nat.reduceBEq, Nat.reduceBNe, Int.reduceEq, ↓reduceIte, reduceCtorEq]) (by simp (maxSteps := 9000000) -implicitDefEqProofs -dsimp (disch := omega) only [go_sem, g42_0, g42_1, g42_2, g42_3, g42_4, g42_5, g42_6, g42_7, g42_8, a42_8, n42_8, g42_9, g42_10, g42_11, g42_12, g42_13, i42, eD, Nat.reduceEqDiff, Nat.reduceAdd, Nat.reduceMul, Nat.reduceLeDiff, Nat.reduceBEq, Nat.reduceBNe, Int.reduceEq, ↓reduceIte, reduceCtorEq]) rfl)⟩
          | false =>
            have hn : playS m l (i + 1) = ⟨(playS m l i).p, (playS m l i).h, (playS m l i).b, false⟩ := by rw [eS] at hok ⊢; exact stepF_no hok
            have n1 : (playS m l (i + 1)).p = (playS m l i).p := by rw [hn]
            have n2 : (playS m l (i + 1)).h = (playS m l i).h := by rw [hn]
            have n3 : (playS m l (i + 1)).b = (playS m l i).b := by rw [hn]
            rw [hok] at eD
            simp (maxSteps := 9000000) -implicitDefEqProofs -dsimp (disch := omega) only [go_sem, g42_0, g42_1, g42_2, g42_3, g42_4, g42_5, g42_6, g42_7, g42_8, a42_8, n42_8, g42_9, g42_10, g42_11, g42_12, g42_13, i42, stR_3 hlt, cp, ch, cb, cp', ch', cb', cd, hok, Nat.reduceEqDiff, Nat.reduceAdd, Nat.reduceMul, Nat.reduceLeDiff, Nat.reduceBEq, Nat.reduceBNe, Int.reduceEq, ↓reduceIte, reduceCtorEq]
            exact ⟨hlt, (imp_ren 19 9 rfl rfl).trans (imp_sub (by simp (maxSteps := 9000000) -implicitDefEqProofs -dsimp (disch := omega) only [go_sem, g42_0, g42_1, g42_2, g42_3, g42_4, g42_5, g42_6, g42_7, g42_8, a42_8, n42_8, g42_9, g42_10, g42_11, g42_12, g42_13, i42, eD, n1, n2, n3, Nat.reduceEqDiff, Nat.reduceAdd, Nat.reduceMul, Nat.reduceLeDiff, Nat.reduceBEq, Nat.reduceBNe, Int.reduceEq, ↓reduceIte, reduceCtorEq]) (by simp (maxSteps := 9000000) -implicitDefEqProofs -dsimp (disch := omega) only [go_sem, g42_0, g42_1, g42_2, g42_3, g42_4, g42_5, g42_6, g42_7, g42_8, a42_8, n42_8, g42_9, g42_10, g42_11, g42_12, g42_13, i42, eD, n1, n2, n3, Nat.reduceEqDiff, Nat.reduceAdd, Nat.reduceMul, Nat.reduceLeDiff, Nat.reduceBEq, Nat.reduceBNe, Int.reduceEq, ↓reduceIte, reduceCtorEq]) rfl)⟩
        · obtain rfl : i = l.length := by omega
          obtain ⟨i1, i2, i3, i4, i5⟩ := playS_inv (n := m) (l := l) (i := l.length)
          have MO := l7Own_ok (playS m l l.length).p (playS m l l.length).h (playS m l l.length).b (by omega) (by omega) (by omega)
          rw [i1, i2, i3] at MO
          have r1 : (didS m l l.length).length = l.length := didS_len
          have cp : cut ((playS m l l.length).p.map T.str) 0 m = (playS m l l.length).p.map T.str := cut_all (by simp [i1])
          have ch : cut ((playS m l l.length).h.map T.str) 0 m = (playS m l l.length).h.map T.str := cut_all (by simp [i2])
          have cb : cut ((playS m l l.length).b.map T.bool) 0 m = (playS m l l.length).b.map T.bool := cut_all (by simp [i3])
          have cd : cut ((didS m l l.length).map T.bool) 0 l.length = (didS m l l.length).map T.bool := cut_all (by simp [didS_len])
          simp (maxSteps := 9000000) -implicitDefEqProofs -dsimp (disch := omega) only [go_sem, g42_0, g42_1, g42_2, g42_3, g42_4, g42_5, g42_6, g42_7, g42_8, a42_8, n42_8, g42_9, g42_10, g42_11, g42_12, g42_13, i42, cp, ch, cb, cd, i1, i2, i3, r1, toNat_nat, Nat.reduceEqDiff, Nat.reduceAdd, Nat.reduceMul, Nat.reduceLeDiff, Nat.reduceBEq, Nat.reduceBNe, Int.reduceEq, ↓reduceIte, reduceCtorEq]
          refine call_go true MO ?_
          simp (maxSteps := 9000000) -implicitDefEqProofs -dsimp (disch := omega) only [go_sem, g42_0, g42_1, g42_2, g42_3, g42_4, g42_5, g42_6, g42_7, g42_8, a42_8, n42_8, g42_9, g42_10, g42_11, g42_12, g42_13, i42, cp, ch, cb, cd, i1, i2, i3, r1, toNat_nat, Nat.reduceEqDiff, Nat.reduceAdd, Nat.reduceMul, Nat.reduceLeDiff, Nat.reduceBEq, Nat.reduceBNe, Int.reduceEq, ↓reduceIte, reduceCtorEq]
    · rw [PlayRes, if_neg (fun q => h2 q.2)]
      refine meets_go (ir := i42) (fn := Try.f42) (rx := [(.cell 4 (some 3)), (.tmp 5), (.tmp 6)]) rfl rfl (by rfl) (by rfl) (by exact Nat.le_of_ble_eq_true rfl) ?_
      simp (maxSteps := 9000000) -implicitDefEqProofs -dsimp (disch := omega) only [go_sem, g42_0, g42_1, g42_2, g42_3, g42_4, g42_5, g42_6, g42_7, g42_8, a42_8, n42_8, g42_9, g42_10, g42_11, g42_12, g42_13, i42, Nat.reduceEqDiff, Nat.reduceAdd, Nat.reduceMul, Nat.reduceLeDiff, Nat.reduceBEq, Nat.reduceBNe, Int.reduceEq, ↓reduceIte, reduceCtorEq]
      refine call_go true MN ?_
      simp (maxSteps := 9000000) -implicitDefEqProofs -dsimp (disch := omega) only [go_sem, g42_0, g42_1, g42_2, g42_3, g42_4, g42_5, g42_6, g42_7, g42_8, a42_8, n42_8, g42_9, g42_10, g42_11, g42_12, g42_13, i42, lt_T, lt_F, le_T, le_F, eq_T, eq_F, and_F, rep_str, rep_bool, List.length_replicate, Nat.reduceEqDiff, Nat.reduceAdd, Nat.reduceMul, Nat.reduceLeDiff, Nat.reduceBEq, Nat.reduceBNe, Int.reduceEq, ↓reduceIte, reduceCtorEq]
  · have MN := specNewDisk_ok n
    rw [NewRes, if_neg h] at MN
    rw [PlayRes, if_neg (fun q => h q.1)]
    refine meets_go (ir := i42) (fn := Try.f42) (rx := [(.cell 4 (some 3)), (.tmp 5), (.tmp 6)]) rfl rfl (by rfl) (by rfl) (by exact Nat.le_of_ble_eq_true rfl) ?_
    simp (maxSteps := 9000000) -implicitDefEqProofs -dsimp (disch := omega) only [go_sem, g42_0, g42_1, g42_2, g42_3, g42_4, g42_5, g42_6, g42_7, g42_8, a42_8, n42_8, g42_9, g42_10, g42_11, g42_12, g42_13, i42, Nat.reduceEqDiff, Nat.reduceAdd, Nat.reduceMul, Nat.reduceLeDiff, Nat.reduceBEq, Nat.reduceBNe, Int.reduceEq, ↓reduceIte, reduceCtorEq]
    refine call_go true MN ?_
    simp (maxSteps := 9000000) -implicitDefEqProofs -dsimp (disch := omega) only [go_sem, g42_0, g42_1, g42_2, g42_3, g42_4, g42_5, g42_6, g42_7, g42_8, a42_8, n42_8, g42_9, g42_10, g42_11, g42_12, g42_13, i42, lt_T, lt_F, le_T, le_F, eq_T, eq_F, and_F, Nat.reduceEqDiff, Nat.reduceAdd, Nat.reduceMul, Nat.reduceLeDiff, Nat.reduceBEq, Nat.reduceBNe, Int.reduceEq, ↓reduceIte, reduceCtorEq]
end Go.Proofs.YtjlodcoeegpkaaaT

/- Functions of the program as contracts: the law of a played disk. No condition. -/
set_option maxRecDepth 100000
set_option maxHeartbeats 8000000
set_option linter.unusedSimpArgs false
set_option linter.unusedVariables false
namespace Go.Proofs.YtjlodcoeegpkaaaT
open Go Go.RowKit
theorem mkS_0' {k : Int} : mkS k 0 = [] := rfl
theorem mkB_0' {k : Int} : mkB k 0 = [] := rfl
theorem stO_ro {l : List Stp} : (stO l).map toRo = stR l := by
  unfold stO stR
  rw [rows4_ro (fun _ => by simp) (fun _ => by simp) (fun _ => by simp)]
  congr 1
  funext x
  simp
theorem stO_noRo {l : List Stp} : noRoL (stO l) = true := rows4_noRo fun x => ⟨by simp [noRo], by simp [noRo], by simp [noRo], by simp [noRo, noRoL_int]⟩
theorem mark_eq {k : Int} {n : Nat} : (List.range n).map (fun j : Nat => decide ((k + (j : Int)).tmod 3 = 0)) = mkB k n := rfl
def g11_0 : List Gop := [⟨none, (some 4), (.mov (.k (.one (.bool .false))))⟩]
def g11_1 : List Gop := [⟨none, (some 5), (.mov (.k (.one (.int .i64 1048576))))⟩]
def g11_2 : List Gop := [⟨none, (some 19), (.mov (.t 1))⟩, ⟨none, (some 20), (.mov (.t 5))⟩, ⟨none, (some 21), (.call 47 [(.t 19), (.t 20)])⟩, ⟨none, (some 5), (.mov (.t 21))⟩]
def g11_3 : List Gop := [⟨none, (some 22), (.mov (.t 5))⟩, ⟨none, (some 23), (.bin .lss (.t 22) (.k (.one (.int .i64 0))))⟩]
def g11_4 : List Gop := [⟨none, (some 4), (.mov (.k (.one (.bool .true))))⟩]
def g11_5 : List Gop := [⟨none, (some 25), (.mov (.t 0))⟩, ⟨none, (some 26), (.mov (.t 1))⟩, ⟨none, (some 27), (.call 48 [(.t 26)])⟩, ⟨none, (some 28), (.call 42 [(.t 25), (.t 27)])⟩, ⟨none, (some 24), (.mov (.t 28))⟩, ⟨none, (some 29), (.ext (.t 24) 0)⟩, ⟨none, (some 30), (.ext (.t 24) 1)⟩, ⟨none, (some 31), (.ext (.t 24) 2)⟩, ⟨none, (some 6), (.alloc [.nil, .nil, .nil])⟩, ⟨none, none, (.store 3 (.t 6) (.t 29))⟩, ⟨none, (some 7), (.mov (.t 30))⟩, ⟨none, (some 8), (.mov (.t 31))⟩]
def g11_6 : List Gop := [⟨none, (some 32), (.mov (.t 1))⟩, ⟨none, (some 33), (.call 48 [(.t 32)])⟩, ⟨none, (some 9), (.mov (.t 33))⟩]
def g11_7 : List Gop := [⟨none, (some 35), (.mov (.t 0))⟩, ⟨none, (some 36), (.mov (.t 9))⟩, ⟨none, (some 37), (.call 41 [(.t 35), (.t 36)])⟩, ⟨none, (some 34), (.mov (.t 37))⟩, ⟨none, (some 38), (.ext (.t 34) 0)⟩, ⟨none, (some 39), (.ext (.t 34) 1)⟩, ⟨none, (some 40), (.ext (.t 34) 2)⟩, ⟨none, (some 10), (.alloc [.nil, .nil, .nil])⟩, ⟨none, none, (.store 3 (.t 10) (.t 38))⟩, ⟨none, (some 11), (.mov (.t 39))⟩, ⟨none, (some 12), (.mov (.t 40))⟩]
def g11_8 : List Gop := [⟨none, (some 41), (.load (some 3) (.t 10))⟩, ⟨none, (some 42), (.load (some 3) (.t 6))⟩, ⟨none, (some 43), (.call 15 [(.t 41), (.t 42)])⟩, ⟨none, (some 44), (.un .not (.t 43))⟩, ⟨none, (some 45), (.mov (.t 44))⟩, ⟨(some (45, .false)), (some 46), (.mov (.t 11))⟩, ⟨(some (45, .false)), (some 47), (.mov (.t 7))⟩, ⟨(some (45, .false)), (some 48), (.call 49 [(.t 46), (.t 47)])⟩, ⟨(some (45, .false)), (some 49), (.un .not (.t 48))⟩, ⟨none, (some 50), (.pick (.t 45) (.k (.one (.bool .true))) (.t 49))⟩, ⟨none, (some 51), (.mov (.t 50))⟩, ⟨(some (51, .false)), (some 52), (.mov (.t 12))⟩, ⟨(some (51, .false)), (some 53), (.mov (.t 8))⟩, ⟨(some (51, .false)), (some 54), (.beq .true (.t 52) (.t 53))⟩, ⟨none, (some 55), (.pick (.t 51) (.k (.one (.bool .true))) (.t 54))⟩]
def g11_9 : List Gop := [⟨none, (some 4), (.mov (.k (.one (.bool .false))))⟩]
def g11_10 : List Gop := [⟨none, (some 56), (.mov (.t 9))⟩, ⟨none, (some 57), (.mov (.t 1))⟩, ⟨none, (some 58), (.call 48 [(.t 57)])⟩, ⟨none, (some 59), (.call 50 [(.t 56), (.t 58)])⟩, ⟨none, (some 60), (.un .not (.t 59))⟩]
def g11_11 : List Gop := [⟨none, (some 4), (.mov (.k (.one (.bool .false))))⟩]
def g11_12 : List Gop := [⟨none, (some 13), (.mov (.k (.one (.int .i64 1))))⟩]
def g11_13 : List Gop := [⟨none, (some 61), (.mov (.t 9))⟩, ⟨none, (some 62), (.mov (.t 13))⟩, ⟨none, (some 63), (.call 51 [(.t 61), (.t 62)])⟩, ⟨none, (some 13), (.mov (.t 63))⟩]
def g11_14 : List Gop := [⟨none, (some 64), (.mov (.t 13))⟩, ⟨none, (some 65), (.bin .lss (.t 64) (.k (.one (.int .i64 0))))⟩, ⟨none, (some 66), (.mov (.t 65))⟩, ⟨(some (66, .false)), (some 67), (.load (some 3) (.t 10))⟩, ⟨(some (66, .false)), (some 68), (.load (some 3) (.t 6))⟩, ⟨(some (66, .false)), (some 69), (.call 15 [(.t 67), (.t 68)])⟩, ⟨(some (66, .false)), (some 70), (.un .not (.t 69))⟩, ⟨none, (some 71), (.pick (.t 66) (.k (.one (.bool .true))) (.t 70))⟩, ⟨none, (some 72), (.mov (.t 71))⟩, ⟨(some (72, .false)), (some 73), (.mov (.t 11))⟩, ⟨(some (72, .false)), (some 74), (.mov (.t 7))⟩, ⟨(some (72, .false)), (some 75), (.call 49 [(.t 73), (.t 74)])⟩, ⟨(some (72, .false)), (some 76), (.un .not (.t 75))⟩, ⟨none, (some 77), (.pick (.t 72) (.k (.one (.bool .true))) (.t 76))⟩, ⟨none, (some 78), (.mov (.t 77))⟩, ⟨(some (78, .false)), (some 79), (.mov (.t 12))⟩, ⟨(some (78, .false)), (some 80), (.mov (.t 8))⟩, ⟨(some (78, .false)), (some 81), (.beq .true (.t 79) (.t 80))⟩, ⟨none, (some 82), (.pick (.t 78) (.k (.one (.bool .true))) (.t 81))⟩]
def g11_15 : List Gop := [⟨none, (some 4), (.mov (.k (.one (.bool .false))))⟩]
def g11_16 : List Gop := [⟨none, (some 14), (.mov (.k (.one (.int .i64 1))))⟩]
def g11_17 : List Gop := [⟨none, (some 83), (.load (some 3) (.t 10))⟩, ⟨none, (some 84), (.mov (.t 14))⟩, ⟨none, (some 85), (.call 16 [(.t 83), (.t 84)])⟩, ⟨none, (some 14), (.mov (.t 85))⟩]
def g11_18 : List Gop := [⟨none, (some 86), (.mov (.t 11))⟩, ⟨none, (some 87), (.mov (.t 14))⟩, ⟨none, (some 88), (.call 52 [(.t 86), (.t 87)])⟩, ⟨none, (some 14), (.mov (.t 88))⟩]
def g11_19 : List Gop := [⟨none, (some 15), (.mov (.k (.one (.int .i64 1))))⟩]
def g11_20 : List Gop := [⟨none, (some 89), (.load (some 3) (.t 10))⟩, ⟨none, (some 90), (.mov (.t 15))⟩, ⟨none, (some 91), (.call 17 [(.t 89), (.t 90)])⟩, ⟨none, (some 15), (.mov (.t 91))⟩]
def g11_21 : List Gop := [⟨none, (some 92), (.mov (.t 15))⟩, ⟨none, (some 93), (.bin .lss (.t 92) (.k (.one (.int .i64 0))))⟩]
def g11_22 : List Gop := [⟨none, (some 4), (.mov (.k (.one (.bool .false))))⟩]
def g11_23 : List Gop := [⟨none, (some 94), (.mov (.t 11))⟩, ⟨none, (some 95), (.mov (.t 15))⟩, ⟨none, (some 96), (.call 53 [(.t 94), (.t 95)])⟩, ⟨none, (some 15), (.mov (.t 96))⟩]
def g11_24 : List Gop := [⟨none, (some 97), (.mov (.t 15))⟩, ⟨none, (some 98), (.bin .lss (.t 97) (.k (.one (.int .i64 0))))⟩]
def g11_25 : List Gop := [⟨none, (some 4), (.mov (.k (.one (.bool .false))))⟩]
def g11_26 : List Gop := [⟨none, (some 99), (.mov (.t 15))⟩, ⟨none, (some 100), (.mov (.t 14))⟩, ⟨none, (some 101), (.bin .neq (.t 99) (.t 100))⟩]
def g11_27 : List Gop := [⟨none, (some 4), (.mov (.k (.one (.bool .false))))⟩]
def g11_28 : List Gop := [⟨none, (some 103), (.mov (.t 0))⟩, ⟨none, (some 104), (.mov (.t 1))⟩, ⟨none, (some 105), (.call 48 [(.t 104)])⟩, ⟨none, (some 106), (.call 41 [(.t 103), (.t 105)])⟩, ⟨none, (some 102), (.mov (.t 106))⟩, ⟨none, (some 107), (.ext (.t 102) 0)⟩, ⟨none, (some 108), (.ext (.t 102) 1)⟩, ⟨none, (some 109), (.ext (.t 102) 2)⟩, ⟨none, (some 16), (.alloc [.nil, .nil, .nil])⟩, ⟨none, none, (.store 3 (.t 16) (.t 107))⟩, ⟨none, (some 17), (.mov (.t 108))⟩, ⟨none, (some 18), (.mov (.t 109))⟩]
def g11_29 : List Gop := [⟨none, (some 110), (.load (some 3) (.t 16))⟩, ⟨none, (some 111), (.load (some 3) (.t 6))⟩, ⟨none, (some 112), (.call 15 [(.t 110), (.t 111)])⟩, ⟨none, (some 113), (.un .not (.t 112))⟩, ⟨none, (some 114), (.mov (.t 113))⟩, ⟨(some (114, .false)), (some 115), (.mov (.t 17))⟩, ⟨(some (114, .false)), (some 116), (.mov (.t 7))⟩, ⟨(some (114, .false)), (some 117), (.call 49 [(.t 115), (.t 116)])⟩, ⟨(some (114, .false)), (some 118), (.un .not (.t 117))⟩, ⟨none, (some 119), (.pick (.t 114) (.k (.one (.bool .true))) (.t 118))⟩, ⟨none, (some 120), (.mov (.t 119))⟩, ⟨(some (120, .false)), (some 121), (.mov (.t 18))⟩, ⟨(some (120, .false)), (some 122), (.mov (.t 8))⟩, ⟨(some (120, .false)), (some 123), (.beq .true (.t 121) (.t 122))⟩, ⟨none, (some 124), (.pick (.t 120) (.k (.one (.bool .true))) (.t 123))⟩]
def g11_30 : List Gop := [⟨none, (some 4), (.mov (.k (.one (.bool .false))))⟩]
def g11_31 : List Gop := [⟨none, (some 15), (.mov (.k (.one (.int .i64 1))))⟩]
def g11_32 : List Gop := [⟨none, (some 125), (.load (some 3) (.t 10))⟩, ⟨none, (some 126), (.mov (.t 15))⟩, ⟨none, (some 127), (.call 17 [(.t 125), (.t 126)])⟩, ⟨none, (some 15), (.mov (.t 127))⟩]
def g11_33 : List Gop := [⟨none, (some 128), (.mov (.t 15))⟩, ⟨none, (some 129), (.bin .lss (.t 128) (.k (.one (.int .i64 0))))⟩]
def g11_34 : List Gop := [⟨none, (some 4), (.mov (.k (.one (.bool .false))))⟩]
def g11_35 : List Gop := [⟨none, (some 130), (.mov (.t 11))⟩, ⟨none, (some 131), (.mov (.t 15))⟩, ⟨none, (some 132), (.call 53 [(.t 130), (.t 131)])⟩, ⟨none, (some 15), (.mov (.t 132))⟩]
def g11_36 : List Gop := [⟨none, (some 133), (.mov (.t 15))⟩, ⟨none, (some 134), (.bin .lss (.t 133) (.k (.one (.int .i64 0))))⟩]
def g11_37 : List Gop := [⟨none, (some 4), (.mov (.k (.one (.bool .false))))⟩]
def g11_38 : List Gop := [⟨none, (some 135), (.mov (.t 15))⟩, ⟨none, (some 136), (.mov (.t 14))⟩, ⟨none, (some 137), (.bin .neq (.t 135) (.t 136))⟩]
def g11_39 : List Gop := [⟨none, (some 4), (.mov (.k (.one (.bool .false))))⟩]
def g11_40 : List Gop := [⟨none, (some 4), (.mov (.k (.one (.bool .true))))⟩]
def i11 : Ir := (.seq (.region g11_0) (.seq (.region g11_1) (.seq (.region g11_2) (.seq (.seq (.region g11_3) (.cond (.t 23) (.seq (.region g11_4) .ret) .skip)) (.seq (.region g11_5) (.seq (.region g11_6) (.seq (.region g11_7) (.seq (.seq (.region g11_8) (.cond (.t 55) (.seq (.region g11_9) .ret) .skip)) (.seq (.seq (.region g11_10) (.cond (.t 60) (.seq (.region g11_11) .ret) .skip)) (.seq (.region g11_12) (.seq (.region g11_13) (.seq (.seq (.region g11_14) (.cond (.t 82) (.seq (.region g11_15) .ret) .skip)) (.seq (.region g11_16) (.seq (.region g11_17) (.seq (.region g11_18) (.seq (.region g11_19) (.seq (.region g11_20) (.seq (.seq (.region g11_21) (.cond (.t 93) (.seq (.region g11_22) .ret) .skip)) (.seq (.region g11_23) (.seq (.seq (.region g11_24) (.cond (.t 98) (.seq (.region g11_25) .ret) .skip)) (.seq (.seq (.region g11_26) (.cond (.t 101) (.seq (.region g11_27) .ret) .skip)) (.seq (.region g11_28) (.seq (.seq (.region g11_29) (.cond (.t 124) (.seq (.region g11_30) .ret) .skip)) (.seq (.region g11_31) (.seq (.region g11_32) (.seq (.seq (.region g11_33) (.cond (.t 129) (.seq (.region g11_34) .ret) .skip)) (.seq (.region g11_35) (.seq (.seq (.region g11_36) (.cond (.t 134) (.seq (.region g11_37) .ret) .skip)) (.seq (.seq (.region g11_38) (.cond (.t 137) (.seq (.region g11_39) .ret) .skip)) (.seq (.region g11_40) .ret))))))))))))))))))))))))))))))
def r11 : List Rx := [(.tmp 4)]
theorem lawPlayDisk_ok (n : Int) (l : List Stp) (hl : l.length ≤ 9223372036854775807) (hsz : ∀ x ∈ l, x.t.size ≤ 9223372036854775807 ∧ x.h.length ≤ 9223372036854775807) :
    Meets Try.prog 11 [.one (.int .i64 n), .one (LS l)] (.w (.one (.bool true))) [.one .hole, .one .hole] := by
  have t1 := stt_nonneg (l := l)
  have nn : ∀ x : Int, x < 0 → szf x = -1 := fun x hx => if_pos hx
  have np : ∀ x : Int, 0 ≤ x → szf x = x := fun x hx => if_neg (by omega)
  have M1 := szDiskStepS_ok l 1048576 (by omega) (by omega) hl hsz
  by_cases q1 : 1048576 - l.length - stt l < 0
  · rw [nn _ q1] at M1
    unfold LS at M1 ⊢
    refine meets_go (ir := i11) (fn := Try.f11) (rx := [(.tmp 4)]) rfl rfl (by rfl) (by rfl) (by exact Nat.le_of_ble_eq_true rfl) ?_
    simp (maxSteps := 9000000) -implicitDefEqProofs -dsimp (disch := omega) only [go_sem, g11_0, g11_1, g11_2, g11_3, g11_4, g11_5, g11_6, g11_7, g11_8, g11_9, g11_10, g11_11, g11_12, g11_13, g11_14, g11_15, g11_16, g11_17, g11_18, g11_19, g11_20, g11_21, g11_22, g11_23, g11_24, g11_25, g11_26, g11_27, g11_28, g11_29, g11_30, g11_31, g11_32, g11_33, g11_34, g11_35, g11_36, g11_37, g11_38, g11_39, g11_40, i11, Nat.reduceEqDiff, Nat.reduceAdd, Nat.reduceMul, Nat.reduceLeDiff, Nat.reduceBEq, Nat.reduceBNe, Int.reduceEq, ↓reduceIte, reduceCtorEq]
    refine call_go true M1 ?_
    simp (maxSteps := 9000000) -implicitDefEqProofs -dsimp (disch := omega) only [go_sem, g11_0, g11_1, g11_2, g11_3, g11_4, g11_5, g11_6, g11_7, g11_8, g11_9, g11_10, g11_11, g11_12, g11_13, g11_14, g11_15, g11_16, g11_17, g11_18, g11_19, g11_20, g11_21, g11_22, g11_23, g11_24, g11_25, g11_26, g11_27, g11_28, g11_29, g11_30, g11_31, g11_32, g11_33, g11_34, g11_35, g11_36, g11_37, g11_38, g11_39, g11_40, i11, lt_T, lt_F, le_T, le_F, eq_T, eq_F, and_F, stR_cut, Nat.reduceEqDiff, Nat.reduceAdd, Nat.reduceMul, Nat.reduceLeDiff, Nat.reduceBEq, Nat.reduceBNe, Int.reduceEq, ↓reduceIte, reduceCtorEq]
  rw [np _ (by omega)] at M1
  have hk : ∀ x ∈ l, x.h.length ≤ 1048576 ∧ x.t.size ≤ 1048576 := fun x hx => by have := mem_stt hx; omega
  have MT := toDiskStepS_ok l (by omega) (fun x hx => (hk x hx).1)
  have ME := eqDiskStepS_ok l (by omega) (fun x hx => (hk x hx).1)
  have MM := markDiskStepS_ok l 1 (by omega) (by omega) (by omega) (by omega)
  have lo := mkk_lo (l := l) (k := 1) (j := l.length)
  have MR1 := specPlayDisk_ok n l (by omega) hk
  have MR2 := implPlayDisk_ok n l (by omega) hk
  have co := stO_cut (l := l)
  have cr := stR_cut (l := l)
  have ro := stO_ro (l := l)
  have nr := stO_noRo (l := l)
  unfold LS OL at *
  by_cases hg : (1 ≤ n ∧ n ≤ 24) ∧ l.length ≤ 80
  · rw [PlayRes, if_pos hg] at MR1 MR2
    obtain ⟨i1, i2, i3, i4, i5⟩ := playS_inv (n := n.toNat) (l := l) (i := l.length)
    have r1 : (didS n.toNat l l.length).length = l.length := didS_len
    generalize playS n.toNat l l.length = D at *
    generalize didS n.toNat l l.length = B at *
    refine meets_go (ir := i11) (fn := Try.f11) (rx := [(.tmp 4)]) rfl rfl (by rfl) (by rfl) (by exact Nat.le_of_ble_eq_true rfl) ?_
    simp (maxSteps := 9000000) -implicitDefEqProofs -dsimp (disch := omega) only [go_sem, g11_0, g11_1, g11_2, g11_3, g11_4, g11_5, g11_6, g11_7, g11_8, g11_9, g11_10, g11_11, g11_12, g11_13, g11_14, g11_15, g11_16, g11_17, g11_18, g11_19, g11_20, g11_21, g11_22, g11_23, g11_24, g11_25, g11_26, g11_27, g11_28, g11_29, g11_30, g11_31, g11_32, g11_33, g11_34, g11_35, g11_36, g11_37, g11_38, g11_39, g11_40, i11, Nat.reduceEqDiff, Nat.reduceAdd, Nat.reduceMul, Nat.reduceLeDiff, Nat.reduceBEq, Nat.reduceBNe, Int.reduceEq, ↓reduceIte, reduceCtorEq]
    refine call_go true M1 ?_
    simp (maxSteps := 9000000) -implicitDefEqProofs -dsimp (disch := omega) only [go_sem, g11_0, g11_1, g11_2, g11_3, g11_4, g11_5, g11_6, g11_7, g11_8, g11_9, g11_10, g11_11, g11_12, g11_13, g11_14, g11_15, g11_16, g11_17, g11_18, g11_19, g11_20, g11_21, g11_22, g11_23, g11_24, g11_25, g11_26, g11_27, g11_28, g11_29, g11_30, g11_31, g11_32, g11_33, g11_34, g11_35, g11_36, g11_37, g11_38, g11_39, g11_40, i11, lt_T, lt_F, le_T, le_F, eq_T, eq_F, and_F, stR_cut, Nat.reduceEqDiff, Nat.reduceAdd, Nat.reduceMul, Nat.reduceLeDiff, Nat.reduceBEq, Nat.reduceBNe, Int.reduceEq, ↓reduceIte, reduceCtorEq]
    refine call_go true MT ?_
    simp (maxSteps := 9000000) -implicitDefEqProofs -dsimp (disch := omega) only [go_sem, g11_0, g11_1, g11_2, g11_3, g11_4, g11_5, g11_6, g11_7, g11_8, g11_9, g11_10, g11_11, g11_12, g11_13, g11_14, g11_15, g11_16, g11_17, g11_18, g11_19, g11_20, g11_21, g11_22, g11_23, g11_24, g11_25, g11_26, g11_27, g11_28, g11_29, g11_30, g11_31, g11_32, g11_33, g11_34, g11_35, g11_36, g11_37, g11_38, g11_39, g11_40, i11, lt_T, lt_F, le_T, le_F, eq_T, eq_F, and_F, co, cr, ro, nr, Nat.reduceEqDiff, Nat.reduceAdd, Nat.reduceMul, Nat.reduceLeDiff, Nat.reduceBEq, Nat.reduceBNe, Int.reduceEq, ↓reduceIte, reduceCtorEq]
    refine call_go true MR1 ?_
    simp (maxSteps := 9000000) -implicitDefEqProofs -dsimp (disch := omega) only [go_sem, g11_0, g11_1, g11_2, g11_3, g11_4, g11_5, g11_6, g11_7, g11_8, g11_9, g11_10, g11_11, g11_12, g11_13, g11_14, g11_15, g11_16, g11_17, g11_18, g11_19, g11_20, g11_21, g11_22, g11_23, g11_24, g11_25, g11_26, g11_27, g11_28, g11_29, g11_30, g11_31, g11_32, g11_33, g11_34, g11_35, g11_36, g11_37, g11_38, g11_39, g11_40, i11, lt_T, lt_F, le_T, le_F, eq_T, eq_F, and_F, co, cr, ro, nr, Nat.reduceEqDiff, Nat.reduceAdd, Nat.reduceMul, Nat.reduceLeDiff, Nat.reduceBEq, Nat.reduceBNe, Int.reduceEq, ↓reduceIte, reduceCtorEq]
    refine call_go true MT ?_
    simp (maxSteps := 9000000) -implicitDefEqProofs -dsimp (disch := omega) only [go_sem, g11_0, g11_1, g11_2, g11_3, g11_4, g11_5, g11_6, g11_7, g11_8, g11_9, g11_10, g11_11, g11_12, g11_13, g11_14, g11_15, g11_16, g11_17, g11_18, g11_19, g11_20, g11_21, g11_22, g11_23, g11_24, g11_25, g11_26, g11_27, g11_28, g11_29, g11_30, g11_31, g11_32, g11_33, g11_34, g11_35, g11_36, g11_37, g11_38, g11_39, g11_40, i11, lt_T, lt_F, le_T, le_F, eq_T, eq_F, and_F, co, cr, ro, nr, Nat.reduceEqDiff, Nat.reduceAdd, Nat.reduceMul, Nat.reduceLeDiff, Nat.reduceBEq, Nat.reduceBNe, Int.reduceEq, ↓reduceIte, reduceCtorEq]
    refine call_go true MR2 ?_
    simp (maxSteps := 9000000) -implicitDefEqProofs -dsimp (disch := omega) only [go_sem, g11_0, g11_1, g11_2, g11_3, g11_4, g11_5, g11_6, g11_7, g11_8, g11_9, g11_10, g11_11, g11_12, g11_13, g11_14, g11_15, g11_16, g11_17, g11_18, g11_19, g11_20, g11_21, g11_22, g11_23, g11_24, g11_25, g11_26, g11_27, g11_28, g11_29, g11_30, g11_31, g11_32, g11_33, g11_34, g11_35, g11_36, g11_37, g11_38, g11_39, g11_40, i11, lt_T, lt_F, le_T, le_F, eq_T, eq_F, and_F, co, cr, ro, nr, Nat.reduceEqDiff, Nat.reduceAdd, Nat.reduceMul, Nat.reduceLeDiff, Nat.reduceBEq, Nat.reduceBNe, Int.reduceEq, ↓reduceIte, reduceCtorEq]
    refine call_go true (eqDisk_ok D.p D.h D.b D.p D.h D.b (by omega) (by omega) (by omega)) ?_
    simp (maxSteps := 9000000) -implicitDefEqProofs -dsimp (disch := omega) only [go_sem, g11_0, g11_1, g11_2, g11_3, g11_4, g11_5, g11_6, g11_7, g11_8, g11_9, g11_10, g11_11, g11_12, g11_13, g11_14, g11_15, g11_16, g11_17, g11_18, g11_19, g11_20, g11_21, g11_22, g11_23, g11_24, g11_25, g11_26, g11_27, g11_28, g11_29, g11_30, g11_31, g11_32, g11_33, g11_34, g11_35, g11_36, g11_37, g11_38, g11_39, g11_40, i11, Nat.reduceEqDiff, Nat.reduceAdd, Nat.reduceMul, Nat.reduceLeDiff, Nat.reduceBEq, Nat.reduceBNe, Int.reduceEq, ↓reduceIte, reduceCtorEq]
    refine call_go true (eqBoolS_ok B B (by omega)) ?_
    simp (maxSteps := 9000000) -implicitDefEqProofs -dsimp (disch := omega) only [go_sem, g11_0, g11_1, g11_2, g11_3, g11_4, g11_5, g11_6, g11_7, g11_8, g11_9, g11_10, g11_11, g11_12, g11_13, g11_14, g11_15, g11_16, g11_17, g11_18, g11_19, g11_20, g11_21, g11_22, g11_23, g11_24, g11_25, g11_26, g11_27, g11_28, g11_29, g11_30, g11_31, g11_32, g11_33, g11_34, g11_35, g11_36, g11_37, g11_38, g11_39, g11_40, i11, Nat.reduceEqDiff, Nat.reduceAdd, Nat.reduceMul, Nat.reduceLeDiff, Nat.reduceBEq, Nat.reduceBNe, Int.reduceEq, ↓reduceIte, reduceCtorEq]
    refine call_go true MT ?_
    simp (maxSteps := 9000000) -implicitDefEqProofs -dsimp (disch := omega) only [go_sem, g11_0, g11_1, g11_2, g11_3, g11_4, g11_5, g11_6, g11_7, g11_8, g11_9, g11_10, g11_11, g11_12, g11_13, g11_14, g11_15, g11_16, g11_17, g11_18, g11_19, g11_20, g11_21, g11_22, g11_23, g11_24, g11_25, g11_26, g11_27, g11_28, g11_29, g11_30, g11_31, g11_32, g11_33, g11_34, g11_35, g11_36, g11_37, g11_38, g11_39, g11_40, i11, lt_T, lt_F, le_T, le_F, eq_T, eq_F, and_F, co, cr, ro, nr, Nat.reduceEqDiff, Nat.reduceAdd, Nat.reduceMul, Nat.reduceLeDiff, Nat.reduceBEq, Nat.reduceBNe, Int.reduceEq, ↓reduceIte, reduceCtorEq]
    refine call_go true ME ?_
    simp (maxSteps := 9000000) -implicitDefEqProofs -dsimp (disch := omega) only [go_sem, g11_0, g11_1, g11_2, g11_3, g11_4, g11_5, g11_6, g11_7, g11_8, g11_9, g11_10, g11_11, g11_12, g11_13, g11_14, g11_15, g11_16, g11_17, g11_18, g11_19, g11_20, g11_21, g11_22, g11_23, g11_24, g11_25, g11_26, g11_27, g11_28, g11_29, g11_30, g11_31, g11_32, g11_33, g11_34, g11_35, g11_36, g11_37, g11_38, g11_39, g11_40, i11, lt_T, lt_F, le_T, le_F, eq_T, eq_F, and_F, co, cr, ro, nr, Nat.reduceEqDiff, Nat.reduceAdd, Nat.reduceMul, Nat.reduceLeDiff, Nat.reduceBEq, Nat.reduceBNe, Int.reduceEq, ↓reduceIte, reduceCtorEq]
    refine call_go true MM ?_
    simp (maxSteps := 9000000) -implicitDefEqProofs -dsimp (disch := omega) only [go_sem, g11_0, g11_1, g11_2, g11_3, g11_4, g11_5, g11_6, g11_7, g11_8, g11_9, g11_10, g11_11, g11_12, g11_13, g11_14, g11_15, g11_16, g11_17, g11_18, g11_19, g11_20, g11_21, g11_22, g11_23, g11_24, g11_25, g11_26, g11_27, g11_28, g11_29, g11_30, g11_31, g11_32, g11_33, g11_34, g11_35, g11_36, g11_37, g11_38, g11_39, g11_40, i11, lt_T, lt_F, le_T, le_F, eq_T, eq_F, and_F, co, cr, ro, nr, Nat.reduceEqDiff, Nat.reduceAdd, Nat.reduceMul, Nat.reduceLeDiff, Nat.reduceBEq, Nat.reduceBNe, Int.reduceEq, ↓reduceIte, reduceCtorEq]
    refine call_go true (eqDisk_ok D.p D.h D.b D.p D.h D.b (by omega) (by omega) (by omega)) ?_
    simp (maxSteps := 9000000) -implicitDefEqProofs -dsimp (disch := omega) only [go_sem, g11_0, g11_1, g11_2, g11_3, g11_4, g11_5, g11_6, g11_7, g11_8, g11_9, g11_10, g11_11, g11_12, g11_13, g11_14, g11_15, g11_16, g11_17, g11_18, g11_19, g11_20, g11_21, g11_22, g11_23, g11_24, g11_25, g11_26, g11_27, g11_28, g11_29, g11_30, g11_31, g11_32, g11_33, g11_34, g11_35, g11_36, g11_37, g11_38, g11_39, g11_40, i11, Nat.reduceEqDiff, Nat.reduceAdd, Nat.reduceMul, Nat.reduceLeDiff, Nat.reduceBEq, Nat.reduceBNe, Int.reduceEq, ↓reduceIte, reduceCtorEq]
    refine call_go true (eqBoolS_ok B B (by omega)) ?_
    simp (maxSteps := 9000000) -implicitDefEqProofs -dsimp (disch := omega) only [go_sem, g11_0, g11_1, g11_2, g11_3, g11_4, g11_5, g11_6, g11_7, g11_8, g11_9, g11_10, g11_11, g11_12, g11_13, g11_14, g11_15, g11_16, g11_17, g11_18, g11_19, g11_20, g11_21, g11_22, g11_23, g11_24, g11_25, g11_26, g11_27, g11_28, g11_29, g11_30, g11_31, g11_32, g11_33, g11_34, g11_35, g11_36, g11_37, g11_38, g11_39, g11_40, i11, Nat.reduceEqDiff, Nat.reduceAdd, Nat.reduceMul, Nat.reduceLeDiff, Nat.reduceBEq, Nat.reduceBNe, Int.reduceEq, ↓reduceIte, reduceCtorEq]
    have c1 : cut ((mkS 1 D.p.length).map T.str) 0 D.p.length = (mkS 1 D.p.length).map T.str := cut_all (by simp [mkS])
    have c2 : cut ((mkS (1 + D.p.length) D.h.length).map T.str) 0 D.h.length = (mkS (1 + D.p.length) D.h.length).map T.str := cut_all (by simp [mkS])
    have c3 : cut ((mkB (1 + D.p.length + D.h.length) D.b.length).map T.bool) 0 D.b.length = (mkB (1 + D.p.length + D.h.length) D.b.length).map T.bool := cut_all (by simp [mkB])
    refine call_go true (markDisk_ok D.p D.h D.b 1 (by omega) (by omega) (by omega) (by omega) (by omega)) ?_
    simp (maxSteps := 9000000) -implicitDefEqProofs -dsimp (disch := omega) only [go_sem, g11_0, g11_1, g11_2, g11_3, g11_4, g11_5, g11_6, g11_7, g11_8, g11_9, g11_10, g11_11, g11_12, g11_13, g11_14, g11_15, g11_16, g11_17, g11_18, g11_19, g11_20, g11_21, g11_22, g11_23, g11_24, g11_25, g11_26, g11_27, g11_28, g11_29, g11_30, g11_31, g11_32, g11_33, g11_34, g11_35, g11_36, g11_37, g11_38, g11_39, g11_40, i11, Nat.reduceEqDiff, Nat.reduceAdd, Nat.reduceMul, Nat.reduceLeDiff, Nat.reduceBEq, Nat.reduceBNe, Int.reduceEq, ↓reduceIte, reduceCtorEq]
    refine call_go true (markBoolS_ok B (1 + D.p.length + D.h.length + D.b.length) (by omega) (by omega) (by omega)) ?_
    simp (maxSteps := 9000000) -implicitDefEqProofs -dsimp (disch := omega) only [go_sem, g11_0, g11_1, g11_2, g11_3, g11_4, g11_5, g11_6, g11_7, g11_8, g11_9, g11_10, g11_11, g11_12, g11_13, g11_14, g11_15, g11_16, g11_17, g11_18, g11_19, g11_20, g11_21, g11_22, g11_23, g11_24, g11_25, g11_26, g11_27, g11_28, g11_29, g11_30, g11_31, g11_32, g11_33, g11_34, g11_35, g11_36, g11_37, g11_38, g11_39, g11_40, i11, beq_self_eq_true, Int.add_zero, Nat.reduceEqDiff, Nat.reduceAdd, Nat.reduceMul, Nat.reduceLeDiff, Nat.reduceBEq, Nat.reduceBNe, Int.reduceEq, ↓reduceIte, reduceCtorEq]
    refine call_go true (heldDisk_ok D.p.length D.h.length D.b.length 1 (by omega) (by omega) (by omega) (by omega) (by omega)) ?_
    simp (maxSteps := 9000000) -implicitDefEqProofs -dsimp (disch := omega) only [go_sem, g11_0, g11_1, g11_2, g11_3, g11_4, g11_5, g11_6, g11_7, g11_8, g11_9, g11_10, g11_11, g11_12, g11_13, g11_14, g11_15, g11_16, g11_17, g11_18, g11_19, g11_20, g11_21, g11_22, g11_23, g11_24, g11_25, g11_26, g11_27, g11_28, g11_29, g11_30, g11_31, g11_32, g11_33, g11_34, g11_35, g11_36, g11_37, g11_38, g11_39, g11_40, i11, lt_T, lt_F, le_T, le_F, eq_T, eq_F, and_F, c1, c2, c3, Nat.reduceEqDiff, Nat.reduceAdd, Nat.reduceMul, Nat.reduceLeDiff, Nat.reduceBEq, Nat.reduceBNe, Int.reduceEq, ↓reduceIte, reduceCtorEq]
    refine call_go true (heldBoolS_ok B.length (1 + D.p.length + D.h.length + D.b.length) (by omega) (by omega) (by omega)) ?_
    simp (maxSteps := 9000000) -implicitDefEqProofs -dsimp (disch := omega) only [go_sem, g11_0, g11_1, g11_2, g11_3, g11_4, g11_5, g11_6, g11_7, g11_8, g11_9, g11_10, g11_11, g11_12, g11_13, g11_14, g11_15, g11_16, g11_17, g11_18, g11_19, g11_20, g11_21, g11_22, g11_23, g11_24, g11_25, g11_26, g11_27, g11_28, g11_29, g11_30, g11_31, g11_32, g11_33, g11_34, g11_35, g11_36, g11_37, g11_38, g11_39, g11_40, i11, lt_T, lt_F, le_T, le_F, eq_T, eq_F, and_F, c1, c2, c3, cut_mr, Nat.reduceEqDiff, Nat.reduceAdd, Nat.reduceMul, Nat.reduceLeDiff, Nat.reduceBEq, Nat.reduceBNe, Int.reduceEq, ↓reduceIte, reduceCtorEq]
    refine call_go true MT ?_
    simp (maxSteps := 9000000) -implicitDefEqProofs -dsimp (disch := omega) only [go_sem, g11_0, g11_1, g11_2, g11_3, g11_4, g11_5, g11_6, g11_7, g11_8, g11_9, g11_10, g11_11, g11_12, g11_13, g11_14, g11_15, g11_16, g11_17, g11_18, g11_19, g11_20, g11_21, g11_22, g11_23, g11_24, g11_25, g11_26, g11_27, g11_28, g11_29, g11_30, g11_31, g11_32, g11_33, g11_34, g11_35, g11_36, g11_37, g11_38, g11_39, g11_40, i11, lt_T, lt_F, le_T, le_F, eq_T, eq_F, and_F, co, cr, ro, nr, Nat.reduceEqDiff, Nat.reduceAdd, Nat.reduceMul, Nat.reduceLeDiff, Nat.reduceBEq, Nat.reduceBNe, Int.reduceEq, ↓reduceIte, reduceCtorEq]
    refine call_go true MR2 ?_
    simp (maxSteps := 9000000) -implicitDefEqProofs -dsimp (disch := omega) only [go_sem, g11_0, g11_1, g11_2, g11_3, g11_4, g11_5, g11_6, g11_7, g11_8, g11_9, g11_10, g11_11, g11_12, g11_13, g11_14, g11_15, g11_16, g11_17, g11_18, g11_19, g11_20, g11_21, g11_22, g11_23, g11_24, g11_25, g11_26, g11_27, g11_28, g11_29, g11_30, g11_31, g11_32, g11_33, g11_34, g11_35, g11_36, g11_37, g11_38, g11_39, g11_40, i11, lt_T, lt_F, le_T, le_F, eq_T, eq_F, and_F, co, cr, ro, nr, Nat.reduceEqDiff, Nat.reduceAdd, Nat.reduceMul, Nat.reduceLeDiff, Nat.reduceBEq, Nat.reduceBNe, Int.reduceEq, ↓reduceIte, reduceCtorEq]
    refine call_go true (eqDisk_ok D.p D.h D.b D.p D.h D.b (by omega) (by omega) (by omega)) ?_
    simp (maxSteps := 9000000) -implicitDefEqProofs -dsimp (disch := omega) only [go_sem, g11_0, g11_1, g11_2, g11_3, g11_4, g11_5, g11_6, g11_7, g11_8, g11_9, g11_10, g11_11, g11_12, g11_13, g11_14, g11_15, g11_16, g11_17, g11_18, g11_19, g11_20, g11_21, g11_22, g11_23, g11_24, g11_25, g11_26, g11_27, g11_28, g11_29, g11_30, g11_31, g11_32, g11_33, g11_34, g11_35, g11_36, g11_37, g11_38, g11_39, g11_40, i11, Nat.reduceEqDiff, Nat.reduceAdd, Nat.reduceMul, Nat.reduceLeDiff, Nat.reduceBEq, Nat.reduceBNe, Int.reduceEq, ↓reduceIte, reduceCtorEq]
    refine call_go true (eqBoolS_ok B B (by omega)) ?_
    simp (maxSteps := 9000000) -implicitDefEqProofs -dsimp (disch := omega) only [go_sem, g11_0, g11_1, g11_2, g11_3, g11_4, g11_5, g11_6, g11_7, g11_8, g11_9, g11_10, g11_11, g11_12, g11_13, g11_14, g11_15, g11_16, g11_17, g11_18, g11_19, g11_20, g11_21, g11_22, g11_23, g11_24, g11_25, g11_26, g11_27, g11_28, g11_29, g11_30, g11_31, g11_32, g11_33, g11_34, g11_35, g11_36, g11_37, g11_38, g11_39, g11_40, i11, Nat.reduceEqDiff, Nat.reduceAdd, Nat.reduceMul, Nat.reduceLeDiff, Nat.reduceBEq, Nat.reduceBNe, Int.reduceEq, ↓reduceIte, reduceCtorEq]
    refine call_go true (heldDisk_ok D.p.length D.h.length D.b.length 1 (by omega) (by omega) (by omega) (by omega) (by omega)) ?_
    simp (maxSteps := 9000000) -implicitDefEqProofs -dsimp (disch := omega) only [go_sem, g11_0, g11_1, g11_2, g11_3, g11_4, g11_5, g11_6, g11_7, g11_8, g11_9, g11_10, g11_11, g11_12, g11_13, g11_14, g11_15, g11_16, g11_17, g11_18, g11_19, g11_20, g11_21, g11_22, g11_23, g11_24, g11_25, g11_26, g11_27, g11_28, g11_29, g11_30, g11_31, g11_32, g11_33, g11_34, g11_35, g11_36, g11_37, g11_38, g11_39, g11_40, i11, lt_T, lt_F, le_T, le_F, eq_T, eq_F, and_F, c1, c2, c3, Nat.reduceEqDiff, Nat.reduceAdd, Nat.reduceMul, Nat.reduceLeDiff, Nat.reduceBEq, Nat.reduceBNe, Int.reduceEq, ↓reduceIte, reduceCtorEq]
    refine call_go true (heldBoolS_ok B.length (1 + D.p.length + D.h.length + D.b.length) (by omega) (by omega) (by omega)) ?_
    simp (maxSteps := 9000000) -implicitDefEqProofs -dsimp (disch := omega) only [go_sem, g11_0, g11_1, g11_2, g11_3, g11_4, g11_5, g11_6, g11_7, g11_8, g11_9, g11_10, g11_11, g11_12, g11_13, g11_14, g11_15, g11_16, g11_17, g11_18, g11_19, g11_20, g11_21, g11_22, g11_23, g11_24, g11_25, g11_26, g11_27, g11_28, g11_29, g11_30, g11_31, g11_32, g11_33, g11_34, g11_35, g11_36, g11_37, g11_38, g11_39, g11_40, i11, lt_T, lt_F, le_T, le_F, eq_T, eq_F, and_F, c1, c2, c3, cut_mr, Nat.reduceEqDiff, Nat.reduceAdd, Nat.reduceMul, Nat.reduceLeDiff, Nat.reduceBEq, Nat.reduceBNe, Int.reduceEq, ↓reduceIte, reduceCtorEq]
  · rw [PlayRes, if_neg hg] at MR1 MR2
    refine meets_go (ir := i11) (fn := Try.f11) (rx := [(.tmp 4)]) rfl rfl (by rfl) (by rfl) (by exact Nat.le_of_ble_eq_true rfl) ?_
    simp (maxSteps := 9000000) -implicitDefEqProofs -dsimp (disch := omega) only [go_sem, g11_0, g11_1, g11_2, g11_3, g11_4, g11_5, g11_6, g11_7, g11_8, g11_9, g11_10, g11_11, g11_12, g11_13, g11_14, g11_15, g11_16, g11_17, g11_18, g11_19, g11_20, g11_21, g11_22, g11_23, g11_24, g11_25, g11_26, g11_27, g11_28, g11_29, g11_30, g11_31, g11_32, g11_33, g11_34, g11_35, g11_36, g11_37, g11_38, g11_39, g11_40, i11, Nat.reduceEqDiff, Nat.reduceAdd, Nat.reduceMul, Nat.reduceLeDiff, Nat.reduceBEq, Nat.reduceBNe, Int.reduceEq, ↓reduceIte, reduceCtorEq]
    refine call_go true M1 ?_
    simp (maxSteps := 9000000) -implicitDefEqProofs -dsimp (disch := omega) only [go_sem, g11_0, g11_1, g11_2, g11_3, g11_4, g11_5, g11_6, g11_7, g11_8, g11_9, g11_10, g11_11, g11_12, g11_13, g11_14, g11_15, g11_16, g11_17, g11_18, g11_19, g11_20, g11_21, g11_22, g11_23, g11_24, g11_25, g11_26, g11_27, g11_28, g11_29, g11_30, g11_31, g11_32, g11_33, g11_34, g11_35, g11_36, g11_37, g11_38, g11_39, g11_40, i11, lt_T, lt_F, le_T, le_F, eq_T, eq_F, and_F, stR_cut, Nat.reduceEqDiff, Nat.reduceAdd, Nat.reduceMul, Nat.reduceLeDiff, Nat.reduceBEq, Nat.reduceBNe, Int.reduceEq, ↓reduceIte, reduceCtorEq]
    refine call_go true MT ?_
    simp (maxSteps := 9000000) -implicitDefEqProofs -dsimp (disch := omega) only [go_sem, g11_0, g11_1, g11_2, g11_3, g11_4, g11_5, g11_6, g11_7, g11_8, g11_9, g11_10, g11_11, g11_12, g11_13, g11_14, g11_15, g11_16, g11_17, g11_18, g11_19, g11_20, g11_21, g11_22, g11_23, g11_24, g11_25, g11_26, g11_27, g11_28, g11_29, g11_30, g11_31, g11_32, g11_33, g11_34, g11_35, g11_36, g11_37, g11_38, g11_39, g11_40, i11, lt_T, lt_F, le_T, le_F, eq_T, eq_F, and_F, co, cr, ro, nr, Nat.reduceEqDiff, Nat.reduceAdd, Nat.reduceMul, Nat.reduceLeDiff, Nat.reduceBEq, Nat.reduceBNe, Int.reduceEq, ↓reduceIte, reduceCtorEq]
    refine call_go true MR1 ?_
    simp (maxSteps := 9000000) -implicitDefEqProofs -dsimp (disch := omega) only [go_sem, g11_0, g11_1, g11_2, g11_3, g11_4, g11_5, g11_6, g11_7, g11_8, g11_9, g11_10, g11_11, g11_12, g11_13, g11_14, g11_15, g11_16, g11_17, g11_18, g11_19, g11_20, g11_21, g11_22, g11_23, g11_24, g11_25, g11_26, g11_27, g11_28, g11_29, g11_30, g11_31, g11_32, g11_33, g11_34, g11_35, g11_36, g11_37, g11_38, g11_39, g11_40, i11, lt_T, lt_F, le_T, le_F, eq_T, eq_F, and_F, co, cr, ro, nr, Nat.reduceEqDiff, Nat.reduceAdd, Nat.reduceMul, Nat.reduceLeDiff, Nat.reduceBEq, Nat.reduceBNe, Int.reduceEq, ↓reduceIte, reduceCtorEq]
    refine call_go true MT ?_
    simp (maxSteps := 9000000) -implicitDefEqProofs -dsimp (disch := omega) only [go_sem, g11_0, g11_1, g11_2, g11_3, g11_4, g11_5, g11_6, g11_7, g11_8, g11_9, g11_10, g11_11, g11_12, g11_13, g11_14, g11_15, g11_16, g11_17, g11_18, g11_19, g11_20, g11_21, g11_22, g11_23, g11_24, g11_25, g11_26, g11_27, g11_28, g11_29, g11_30, g11_31, g11_32, g11_33, g11_34, g11_35, g11_36, g11_37, g11_38, g11_39, g11_40, i11, lt_T, lt_F, le_T, le_F, eq_T, eq_F, and_F, co, cr, ro, nr, Nat.reduceEqDiff, Nat.reduceAdd, Nat.reduceMul, Nat.reduceLeDiff, Nat.reduceBEq, Nat.reduceBNe, Int.reduceEq, ↓reduceIte, reduceCtorEq]
    refine call_go true MR2 ?_
    simp (maxSteps := 9000000) -implicitDefEqProofs -dsimp (disch := omega) only [go_sem, g11_0, g11_1, g11_2, g11_3, g11_4, g11_5, g11_6, g11_7, g11_8, g11_9, g11_10, g11_11, g11_12, g11_13, g11_14, g11_15, g11_16, g11_17, g11_18, g11_19, g11_20, g11_21, g11_22, g11_23, g11_24, g11_25, g11_26, g11_27, g11_28, g11_29, g11_30, g11_31, g11_32, g11_33, g11_34, g11_35, g11_36, g11_37, g11_38, g11_39, g11_40, i11, lt_T, lt_F, le_T, le_F, eq_T, eq_F, and_F, co, cr, ro, nr, Nat.reduceEqDiff, Nat.reduceAdd, Nat.reduceMul, Nat.reduceLeDiff, Nat.reduceBEq, Nat.reduceBNe, Int.reduceEq, ↓reduceIte, reduceCtorEq]
    refine call_go true (eqDisk_ok [] [] [] [] [] [] (by simp) (by simp) (by simp)) ?_
    simp (maxSteps := 9000000) -implicitDefEqProofs -dsimp (disch := omega) only [go_sem, g11_0, g11_1, g11_2, g11_3, g11_4, g11_5, g11_6, g11_7, g11_8, g11_9, g11_10, g11_11, g11_12, g11_13, g11_14, g11_15, g11_16, g11_17, g11_18, g11_19, g11_20, g11_21, g11_22, g11_23, g11_24, g11_25, g11_26, g11_27, g11_28, g11_29, g11_30, g11_31, g11_32, g11_33, g11_34, g11_35, g11_36, g11_37, g11_38, g11_39, g11_40, i11, Nat.reduceEqDiff, Nat.reduceAdd, Nat.reduceMul, Nat.reduceLeDiff, Nat.reduceBEq, Nat.reduceBNe, Int.reduceEq, ↓reduceIte, reduceCtorEq]
    refine call_go true (eqBoolS_ok [] [] (by simp)) ?_
    simp (maxSteps := 9000000) -implicitDefEqProofs -dsimp (disch := omega) only [go_sem, g11_0, g11_1, g11_2, g11_3, g11_4, g11_5, g11_6, g11_7, g11_8, g11_9, g11_10, g11_11, g11_12, g11_13, g11_14, g11_15, g11_16, g11_17, g11_18, g11_19, g11_20, g11_21, g11_22, g11_23, g11_24, g11_25, g11_26, g11_27, g11_28, g11_29, g11_30, g11_31, g11_32, g11_33, g11_34, g11_35, g11_36, g11_37, g11_38, g11_39, g11_40, i11, Nat.reduceEqDiff, Nat.reduceAdd, Nat.reduceMul, Nat.reduceLeDiff, Nat.reduceBEq, Nat.reduceBNe, Int.reduceEq, ↓reduceIte, reduceCtorEq]
    refine call_go true MT ?_
    simp (maxSteps := 9000000) -implicitDefEqProofs -dsimp (disch := omega) only [go_sem, g11_0, g11_1, g11_2, g11_3, g11_4, g11_5, g11_6, g11_7, g11_8, g11_9, g11_10, g11_11, g11_12, g11_13, g11_14, g11_15, g11_16, g11_17, g11_18, g11_19, g11_20, g11_21, g11_22, g11_23, g11_24, g11_25, g11_26, g11_27, g11_28, g11_29, g11_30, g11_31, g11_32, g11_33, g11_34, g11_35, g11_36, g11_37, g11_38, g11_39, g11_40, i11, lt_T, lt_F, le_T, le_F, eq_T, eq_F, and_F, co, cr, ro, nr, Nat.reduceEqDiff, Nat.reduceAdd, Nat.reduceMul, Nat.reduceLeDiff, Nat.reduceBEq, Nat.reduceBNe, Int.reduceEq, ↓reduceIte, reduceCtorEq]
    refine call_go true ME ?_
    simp (maxSteps := 9000000) -implicitDefEqProofs -dsimp (disch := omega) only [go_sem, g11_0, g11_1, g11_2, g11_3, g11_4, g11_5, g11_6, g11_7, g11_8, g11_9, g11_10, g11_11, g11_12, g11_13, g11_14, g11_15, g11_16, g11_17, g11_18, g11_19, g11_20, g11_21, g11_22, g11_23, g11_24, g11_25, g11_26, g11_27, g11_28, g11_29, g11_30, g11_31, g11_32, g11_33, g11_34, g11_35, g11_36, g11_37, g11_38, g11_39, g11_40, i11, lt_T, lt_F, le_T, le_F, eq_T, eq_F, and_F, co, cr, ro, nr, Nat.reduceEqDiff, Nat.reduceAdd, Nat.reduceMul, Nat.reduceLeDiff, Nat.reduceBEq, Nat.reduceBNe, Int.reduceEq, ↓reduceIte, reduceCtorEq]
    refine call_go true MM ?_
    simp (maxSteps := 9000000) -implicitDefEqProofs -dsimp (disch := omega) only [go_sem, g11_0, g11_1, g11_2, g11_3, g11_4, g11_5, g11_6, g11_7, g11_8, g11_9, g11_10, g11_11, g11_12, g11_13, g11_14, g11_15, g11_16, g11_17, g11_18, g11_19, g11_20, g11_21, g11_22, g11_23, g11_24, g11_25, g11_26, g11_27, g11_28, g11_29, g11_30, g11_31, g11_32, g11_33, g11_34, g11_35, g11_36, g11_37, g11_38, g11_39, g11_40, i11, lt_T, lt_F, le_T, le_F, eq_T, eq_F, and_F, co, cr, ro, nr, Nat.reduceEqDiff, Nat.reduceAdd, Nat.reduceMul, Nat.reduceLeDiff, Nat.reduceBEq, Nat.reduceBNe, Int.reduceEq, ↓reduceIte, reduceCtorEq]
    refine call_go true (eqDisk_ok [] [] [] [] [] [] (by simp) (by simp) (by simp)) ?_
    simp (maxSteps := 9000000) -implicitDefEqProofs -dsimp (disch := omega) only [go_sem, g11_0, g11_1, g11_2, g11_3, g11_4, g11_5, g11_6, g11_7, g11_8, g11_9, g11_10, g11_11, g11_12, g11_13, g11_14, g11_15, g11_16, g11_17, g11_18, g11_19, g11_20, g11_21, g11_22, g11_23, g11_24, g11_25, g11_26, g11_27, g11_28, g11_29, g11_30, g11_31, g11_32, g11_33, g11_34, g11_35, g11_36, g11_37, g11_38, g11_39, g11_40, i11, Nat.reduceEqDiff, Nat.reduceAdd, Nat.reduceMul, Nat.reduceLeDiff, Nat.reduceBEq, Nat.reduceBNe, Int.reduceEq, ↓reduceIte, reduceCtorEq]
    refine call_go true (eqBoolS_ok [] [] (by simp)) ?_
    simp (maxSteps := 9000000) -implicitDefEqProofs -dsimp (disch := omega) only [go_sem, g11_0, g11_1, g11_2, g11_3, g11_4, g11_5, g11_6, g11_7, g11_8, g11_9, g11_10, g11_11, g11_12, g11_13, g11_14, g11_15, g11_16, g11_17, g11_18, g11_19, g11_20, g11_21, g11_22, g11_23, g11_24, g11_25, g11_26, g11_27, g11_28, g11_29, g11_30, g11_31, g11_32, g11_33, g11_34, g11_35, g11_36, g11_37, g11_38, g11_39, g11_40, i11, Nat.reduceEqDiff, Nat.reduceAdd, Nat.reduceMul, Nat.reduceLeDiff, Nat.reduceBEq, Nat.reduceBNe, Int.reduceEq, ↓reduceIte, reduceCtorEq]
    refine call_go true (markDisk_ok [] [] [] 1 (by simp) (by simp) (by simp) (by simp) (by simp)) ?_
    simp (maxSteps := 9000000) -implicitDefEqProofs -dsimp (disch := omega) only [go_sem, g11_0, g11_1, g11_2, g11_3, g11_4, g11_5, g11_6, g11_7, g11_8, g11_9, g11_10, g11_11, g11_12, g11_13, g11_14, g11_15, g11_16, g11_17, g11_18, g11_19, g11_20, g11_21, g11_22, g11_23, g11_24, g11_25, g11_26, g11_27, g11_28, g11_29, g11_30, g11_31, g11_32, g11_33, g11_34, g11_35, g11_36, g11_37, g11_38, g11_39, g11_40, i11, Int.natCast_zero, Int.add_zero, Nat.reduceEqDiff, Nat.reduceAdd, Nat.reduceMul, Nat.reduceLeDiff, Nat.reduceBEq, Nat.reduceBNe, Int.reduceEq, ↓reduceIte, reduceCtorEq]
    refine call_go true (markBoolS_ok [] 1 (by simp) (by simp) (by simp)) ?_
    simp (maxSteps := 9000000) -implicitDefEqProofs -dsimp (disch := omega) only [go_sem, g11_0, g11_1, g11_2, g11_3, g11_4, g11_5, g11_6, g11_7, g11_8, g11_9, g11_10, g11_11, g11_12, g11_13, g11_14, g11_15, g11_16, g11_17, g11_18, g11_19, g11_20, g11_21, g11_22, g11_23, g11_24, g11_25, g11_26, g11_27, g11_28, g11_29, g11_30, g11_31, g11_32, g11_33, g11_34, g11_35, g11_36, g11_37, g11_38, g11_39, g11_40, i11, beq_self_eq_true, Int.add_zero, Nat.reduceEqDiff, Nat.reduceAdd, Nat.reduceMul, Nat.reduceLeDiff, Nat.reduceBEq, Nat.reduceBNe, Int.reduceEq, ↓reduceIte, reduceCtorEq]
    refine call_go true (heldDisk_ok 0 0 0 1 (by omega) (by omega) (by omega) (by omega) (by omega)) ?_
    simp (maxSteps := 9000000) -implicitDefEqProofs -dsimp (disch := omega) only [go_sem, g11_0, g11_1, g11_2, g11_3, g11_4, g11_5, g11_6, g11_7, g11_8, g11_9, g11_10, g11_11, g11_12, g11_13, g11_14, g11_15, g11_16, g11_17, g11_18, g11_19, g11_20, g11_21, g11_22, g11_23, g11_24, g11_25, g11_26, g11_27, g11_28, g11_29, g11_30, g11_31, g11_32, g11_33, g11_34, g11_35, g11_36, g11_37, g11_38, g11_39, g11_40, i11, lt_T, lt_F, le_T, le_F, eq_T, eq_F, and_F, mkS_0', mkB_0', Int.natCast_zero, Int.add_zero, Nat.reduceEqDiff, Nat.reduceAdd, Nat.reduceMul, Nat.reduceLeDiff, Nat.reduceBEq, Nat.reduceBNe, Int.reduceEq, ↓reduceIte, reduceCtorEq]
    refine call_go true (heldBoolS_ok 0 1 (by omega) (by omega) (by omega)) ?_
    simp (maxSteps := 9000000) -implicitDefEqProofs -dsimp (disch := omega) only [go_sem, g11_0, g11_1, g11_2, g11_3, g11_4, g11_5, g11_6, g11_7, g11_8, g11_9, g11_10, g11_11, g11_12, g11_13, g11_14, g11_15, g11_16, g11_17, g11_18, g11_19, g11_20, g11_21, g11_22, g11_23, g11_24, g11_25, g11_26, g11_27, g11_28, g11_29, g11_30, g11_31, g11_32, g11_33, g11_34, g11_35, g11_36, g11_37, g11_38, g11_39, g11_40, i11, lt_T, lt_F, le_T, le_F, eq_T, eq_F, and_F, List.range_zero, Int.natCast_zero, Int.add_zero, Nat.reduceEqDiff, Nat.reduceAdd, Nat.reduceMul, Nat.reduceLeDiff, Nat.reduceBEq, Nat.reduceBNe, Int.reduceEq, ↓reduceIte, reduceCtorEq]
    refine call_go true MT ?_
    simp (maxSteps := 9000000) -implicitDefEqProofs -dsimp (disch := omega) only [go_sem, g11_0, g11_1, g11_2, g11_3, g11_4, g11_5, g11_6, g11_7, g11_8, g11_9, g11_10, g11_11, g11_12, g11_13, g11_14, g11_15, g11_16, g11_17, g11_18, g11_19, g11_20, g11_21, g11_22, g11_23, g11_24, g11_25, g11_26, g11_27, g11_28, g11_29, g11_30, g11_31, g11_32, g11_33, g11_34, g11_35, g11_36, g11_37, g11_38, g11_39, g11_40, i11, lt_T, lt_F, le_T, le_F, eq_T, eq_F, and_F, co, cr, ro, nr, Nat.reduceEqDiff, Nat.reduceAdd, Nat.reduceMul, Nat.reduceLeDiff, Nat.reduceBEq, Nat.reduceBNe, Int.reduceEq, ↓reduceIte, reduceCtorEq]
    refine call_go true MR2 ?_
    simp (maxSteps := 9000000) -implicitDefEqProofs -dsimp (disch := omega) only [go_sem, g11_0, g11_1, g11_2, g11_3, g11_4, g11_5, g11_6, g11_7, g11_8, g11_9, g11_10, g11_11, g11_12, g11_13, g11_14, g11_15, g11_16, g11_17, g11_18, g11_19, g11_20, g11_21, g11_22, g11_23, g11_24, g11_25, g11_26, g11_27, g11_28, g11_29, g11_30, g11_31, g11_32, g11_33, g11_34, g11_35, g11_36, g11_37, g11_38, g11_39, g11_40, i11, lt_T, lt_F, le_T, le_F, eq_T, eq_F, and_F, co, cr, ro, nr, Nat.reduceEqDiff, Nat.reduceAdd, Nat.reduceMul, Nat.reduceLeDiff, Nat.reduceBEq, Nat.reduceBNe, Int.reduceEq, ↓reduceIte, reduceCtorEq]
    refine call_go true (eqDisk_ok [] [] [] [] [] [] (by simp) (by simp) (by simp)) ?_
    simp (maxSteps := 9000000) -implicitDefEqProofs -dsimp (disch := omega) only [go_sem, g11_0, g11_1, g11_2, g11_3, g11_4, g11_5, g11_6, g11_7, g11_8, g11_9, g11_10, g11_11, g11_12, g11_13, g11_14, g11_15, g11_16, g11_17, g11_18, g11_19, g11_20, g11_21, g11_22, g11_23, g11_24, g11_25, g11_26, g11_27, g11_28, g11_29, g11_30, g11_31, g11_32, g11_33, g11_34, g11_35, g11_36, g11_37, g11_38, g11_39, g11_40, i11, Nat.reduceEqDiff, Nat.reduceAdd, Nat.reduceMul, Nat.reduceLeDiff, Nat.reduceBEq, Nat.reduceBNe, Int.reduceEq, ↓reduceIte, reduceCtorEq]
    refine call_go true (eqBoolS_ok [] [] (by simp)) ?_
    simp (maxSteps := 9000000) -implicitDefEqProofs -dsimp (disch := omega) only [go_sem, g11_0, g11_1, g11_2, g11_3, g11_4, g11_5, g11_6, g11_7, g11_8, g11_9, g11_10, g11_11, g11_12, g11_13, g11_14, g11_15, g11_16, g11_17, g11_18, g11_19, g11_20, g11_21, g11_22, g11_23, g11_24, g11_25, g11_26, g11_27, g11_28, g11_29, g11_30, g11_31, g11_32, g11_33, g11_34, g11_35, g11_36, g11_37, g11_38, g11_39, g11_40, i11, Nat.reduceEqDiff, Nat.reduceAdd, Nat.reduceMul, Nat.reduceLeDiff, Nat.reduceBEq, Nat.reduceBNe, Int.reduceEq, ↓reduceIte, reduceCtorEq]
    refine call_go true (heldDisk_ok 0 0 0 1 (by omega) (by omega) (by omega) (by omega) (by omega)) ?_
    simp (maxSteps := 9000000) -implicitDefEqProofs -dsimp (disch := omega) only [go_sem, g11_0, g11_1, g11_2, g11_3, g11_4, g11_5, g11_6, g11_7, g11_8, g11_9, g11_10, g11_11, g11_12, g11_13, g11_14, g11_15, g11_16, g11_17, g11_18, g11_19, g11_20, g11_21, g11_22, g11_23, g11_24, g11_25, g11_26, g11_27, g11_28, g11_29, g11_30, g11_31, g11_32, g11_33, g11_34, g11_35, g11_36, g11_37, g11_38, g11_39, g11_40, i11, lt_T, lt_F, le_T, le_F, eq_T, eq_F, and_F, mkS_0', mkB_0', Int.natCast_zero, Int.add_zero, Nat.reduceEqDiff, Nat.reduceAdd, Nat.reduceMul, Nat.reduceLeDiff, Nat.reduceBEq, Nat.reduceBNe, Int.reduceEq, ↓reduceIte, reduceCtorEq]
    refine call_go true (heldBoolS_ok 0 1 (by omega) (by omega) (by omega)) ?_
    simp (maxSteps := 9000000) -implicitDefEqProofs -dsimp (disch := omega) only [go_sem, g11_0, g11_1, g11_2, g11_3, g11_4, g11_5, g11_6, g11_7, g11_8, g11_9, g11_10, g11_11, g11_12, g11_13, g11_14, g11_15, g11_16, g11_17, g11_18, g11_19, g11_20, g11_21, g11_22, g11_23, g11_24, g11_25, g11_26, g11_27, g11_28, g11_29, g11_30, g11_31, g11_32, g11_33, g11_34, g11_35, g11_36, g11_37, g11_38, g11_39, g11_40, i11, lt_T, lt_F, le_T, le_F, eq_T, eq_F, and_F, List.range_zero, Int.natCast_zero, Int.add_zero, Nat.reduceEqDiff, Nat.reduceAdd, Nat.reduceMul, Nat.reduceLeDiff, Nat.reduceBEq, Nat.reduceBNe, Int.reduceEq, ↓reduceIte, reduceCtorEq]
theorem told_Steps : Told Try.prog 68 (fun l : List Stp => [LS l]) (fun l => l.length ≤ maxLen ∧ ∀ x ∈ l, x.t.size ≤ maxLen ∧ x.h.length ≤ maxLen) :=
  told_iso (told_slice (k := 4) told_DiskStep (by kernel_rfl) (fun _ => rfl) (by decide) Try.underlying68) fun l h => ⟨l.map fun y => ⟨y.1, y.2.1, y.2.2.1, y.2.2.2⟩, by
    simp only [LS, List.length_map, stR, rows4_map]; rfl, by rw [List.length_map]; exact h.1, fun x hx => by
    obtain ⟨y, hy, rfl⟩ := List.mem_map.1 hx
    exact h.2 y hy⟩
end Go.Proofs.YtjlodcoeegpkaaaT
