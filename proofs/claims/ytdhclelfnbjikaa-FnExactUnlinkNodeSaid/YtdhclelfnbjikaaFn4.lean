/- Functions of the program, each with what it returns and leaves. No condition. -/
import Derived.Test.YtdhclelfnbjikaaFn3
import Derived.Test.YtdhclelfnbjikaaFn1
set_option linter.all false
set_option linter.unusedVariables false
set_option linter.unusedSimpArgs false
set_option linter.unusedSectionVars false
set_option linter.unnecessarySimpa false
set_option linter.deprecated false
/- Functions of the program as contracts: what is let go. No condition. -/
set_option maxRecDepth 100000
set_option maxHeartbeats 8000000
set_option linter.unusedSimpArgs false
set_option linter.unusedVariables false
namespace Go.Proofs.YtdhclelfnbjikaaT
open Go Go.RowKit
/-- nodes and counts, and what is gone -/
structure Ls where
  n : List Nd
  c : List Int
  go : List Int
def decF (c : List Int) (k : Nat) : List Int := c.set k (c.getD k default - 1)
def lessF : Nat → Ls → Nat → Ls
  | 0, s, _ => s
  | f + 1, s, k => if 0 < (decF s.c k).getD k default then ⟨s.n, decF s.c k, s.go⟩
    else (s.n.getD k default).h.foldl (fun s y => lessF f s y.toNat) ⟨s.n.set k ⟨[], true⟩, decF s.c k, s.go ++ [(k : Int)]⟩
structure LInv (N : Nat) (b : Int) (s : Ls) : Prop where
  ln : s.n.length = N
  lc : s.c.length = N
  w : ∀ i, i < N → ∀ y ∈ (s.n.getD i default).h, 0 ≤ y ∧ y < i
  lo : ∀ j, j < N → b + ntt s.n ≤ s.c.getD j default
  hi : ∀ j, j < N → s.c.getD j default ≤ 1048576
  gl : s.go.length + ntt s.n + b ≤ 0
theorem getD_set {α : Type} [Inhabited α] {l : List α} {k j : Nat} {x : α} : (l.set k x).getD j default = if k = j ∧ j < l.length then x else l.getD j default := by
  simp only [List.getD_eq_getElem?_getD, List.getElem?_set]
  by_cases h : k = j
  · subst h
    by_cases h2 : k < l.length
    · simp [h2]
    · simp [h2]
  · simp [h]
theorem ntt_set {l : List Nd} {k : Nat} (h : k < l.length) : ntt (l.set k ⟨[], true⟩) = ntt l - (l.getD k default).h.length := by
  induction l generalizing k with
  | nil => simp at h
  | cons x l ih =>
    cases k with
    | zero => simp only [List.set_cons_zero, ntt, List.map_cons, List.sum_cons, List.length_nil, List.getD_cons_zero]; omega
    | succ k =>
      have := ih (k := k) (by simpa using h)
      simp only [ntt] at this
      simp only [List.set_cons_succ, ntt, List.map_cons, List.sum_cons, List.getD_cons_succ, this]; omega
theorem decF_len {c : List Int} {k : Nat} : (decF c k).length = c.length := by simp [decF]
theorem LInv.mono {N : Nat} {b b' : Int} {s : Ls} (h : LInv N b s) (hb : b' ≤ b) : LInv N b' s :=
  ⟨h.ln, h.lc, h.w, fun j hj => by have := h.lo j hj; omega, h.hi, by have := h.gl; omega⟩
theorem LInv.dec {N : Nat} {b : Int} {s : Ls} {k : Nat} (h : LInv N (b + 1) s) (hk : k < N) : LInv N b ⟨s.n, decF s.c k, s.go⟩ :=
  ⟨h.ln, by rw [decF_len]; exact h.lc, h.w, fun j hj => by
    have h1 := h.lo j hj
    simp only [decF, getD_set]
    split
    · rename_i e; rw [e.1]; omega
    · omega, fun j hj => by
    have h1 := h.hi j hj
    simp only [decF, getD_set]
    split
    · rename_i e; rw [e.1]; omega
    · omega, by
    have := h.gl
    show (s.go.length : Int) + ntt s.n + b ≤ 0
    omega⟩
theorem LInv.gone {N : Nat} {b : Int} {s : Ls} {k : Nat} (h : LInv N (b + 1) s) (hk : k < N) : LInv N (b + (s.n.getD k default).h.length) ⟨s.n.set k ⟨[], true⟩, decF s.c k, s.go ++ [(k : Int)]⟩ := by
  have h2 := h.dec hk
  have hn : ntt (s.n.set k ⟨[], true⟩) = ntt s.n - (s.n.getD k default).h.length := ntt_set (by rw [h.ln]; exact hk)
  refine ⟨by rw [List.length_set]; exact h.ln, h2.lc, fun i hi y hy => ?_, fun j hj => ?_, h2.hi, ?_⟩
  · rw [getD_set] at hy
    split at hy
    · simp at hy
    · exact h.w i hi y hy
  · have := h2.lo j hj
    simp only at this ⊢
    rw [hn]; omega
  · have := h.gl
    simp only at this ⊢
    rw [hn, List.length_append, List.length_singleton]; omega
theorem less_fold {N f : Nat} (ih : ∀ (s : Ls) (k : Nat) (b : Int), k < N → LInv N (b + 1) s → LInv N b (lessF f s k)) : ∀ (l : List Int) (s : Ls) (b : Int), (∀ y ∈ l, y.toNat < N) → LInv N (b + l.length) s → LInv N b (l.foldl (fun s y => lessF f s y.toNat) s)
  | [], s, b, hl, h => by simpa using h
  | y :: l, s, b, hl, h => by
    rw [List.foldl_cons]
    refine less_fold ih l _ b (fun z hz => hl z (List.mem_cons_of_mem _ hz)) (ih _ _ _ (hl y List.mem_cons_self) ?_)
    refine h.mono ?_
    simp only [List.length_cons]; omega
theorem lessF_inv : ∀ (f : Nat) {N : Nat} (s : Ls) (k : Nat) (b : Int), k < N → LInv N (b + 1) s → LInv N b (lessF f s k)
  | 0, N, s, k, b, hk, h => h.mono (by omega)
  | f + 1, N, s, k, b, hk, h => by
    rw [lessF]
    split
    · exact h.dec hk
    · refine less_fold (lessF_inv f) _ _ b (fun y hy => ?_) (h.gone hk)
      have := h.w k hk y hy
      omega
def g74_0 : List Gop := [⟨none, (some 3), (.box (.t 0))⟩, ⟨none, (some 6), (.mov (.k (.one .nil)))⟩]
def g74_1 : List Gop := [⟨none, (some 10), (.faddr (.t 3) 2)⟩, ⟨none, (some 11), (.load none (.t 10))⟩, ⟨none, (some 12), (.mov (.t 1))⟩, ⟨none, (some 13), (.iaddr 1 (.t 11) (.t 12))⟩, ⟨none, (some 14), (.load none (.t 13))⟩, ⟨none, (some 15), (.bin .sub (.t 14) (.k (.one (.int .i64 1))))⟩, ⟨none, (some 16), (.iaddr 1 (.t 11) (.t 12))⟩, ⟨none, none, (.store 1 (.t 16) (.t 15))⟩]
def g74_2 : List Gop := [⟨none, (some 17), (.faddr (.t 3) 2)⟩, ⟨none, (some 18), (.load none (.t 17))⟩, ⟨none, (some 19), (.mov (.t 1))⟩, ⟨none, (some 20), (.iaddr 1 (.t 18) (.t 19))⟩, ⟨none, (some 21), (.load none (.t 20))⟩, ⟨none, (some 22), (.bin .gtr (.t 21) (.k (.one (.int .i64 0))))⟩]
def g74_3 : List Gop := [⟨none, (some 23), (.mov (.t 2))⟩, ⟨none, (some 6), (.mov (.t 23))⟩]
def g74_4 : List Gop := [⟨none, (some 24), (.faddr (.t 3) 0)⟩, ⟨none, (some 25), (.load none (.t 24))⟩, ⟨none, (some 26), (.mov (.t 1))⟩, ⟨none, (some 27), (.iaddr 2 (.t 25) (.t 26))⟩, ⟨none, (some 28), (.faddr (.t 27) 0)⟩, ⟨none, (some 29), (.load none (.t 28))⟩, ⟨none, (some 7), (.mov (.t 29))⟩]
def g74_5 : List Gop := [⟨none, (some 30), (.faddr (.t 3) 0)⟩, ⟨none, (some 31), (.load none (.t 30))⟩, ⟨none, (some 32), (.mov (.t 1))⟩, ⟨none, (some 33), (.build [.nil, (.bool .false)] [(1, (1, (.k (.one (.bool .true)))))])⟩, ⟨none, (some 34), (.iaddr 2 (.t 31) (.t 32))⟩, ⟨none, none, (.store 2 (.t 34) (.t 33))⟩]
def g74_6 : List Gop := [⟨none, (some 35), (.mov (.t 2))⟩, ⟨none, (some 36), (.mov (.t 1))⟩, ⟨none, (some 37), (.lit 1 1 [(.int .i64 0)] [(0, (.t 36))])⟩, ⟨none, (some 38), (.app 1 8 [(.int .i64 0)] (.t 35) (.t 37))⟩, ⟨none, (some 2), (.mov (.t 38))⟩]
def g74_7 : List Gop := [⟨none, (some 39), (.mov (.t 7))⟩, ⟨none, (some 40), (.len (.t 39))⟩, ⟨none, (some 41), (.mov (.k (.one (.int .i64 0))))⟩]
def g74_8 : List Gop := [⟨none, (some 42), (.bin .lss (.t 41) (.t 40))⟩]
def g74_9 : List Gop := [⟨none, (some 43), (.iaddr 1 (.t 39) (.t 41))⟩, ⟨none, (some 44), (.load none (.t 43))⟩, ⟨none, (some 9), (.mov (.t 44))⟩]
def g74_10 : List Gop := [⟨none, (some 45), (.load (some 3) (.t 3))⟩, ⟨none, (some 46), (.mov (.t 9))⟩, ⟨none, (some 47), (.mov (.t 2))⟩, ⟨none, (some 48), (.call 74 [(.t 45), (.t 46), (.t 47)])⟩, ⟨none, (some 2), (.mov (.t 48))⟩]
def g74_11 : List Gop := [⟨none, (some 49), (.bin .add (.t 41) (.k (.one (.int .i64 1))))⟩, ⟨none, (some 41), (.mov (.t 49))⟩]
def g74_12 : List Gop := [⟨none, (some 50), (.mov (.t 2))⟩, ⟨none, (some 6), (.mov (.t 50))⟩]
def i74 : Ir := (.seq (.region g74_0) (.seq (.region g74_1) (.seq (.seq (.region g74_2) (.cond (.t 22) (.seq (.region g74_3) .ret) .skip)) (.seq (.region g74_4) (.seq (.region g74_5) (.seq (.region g74_6) (.seq (.seq (.region g74_7) (.block 0 (.loop (.seq (.region g74_8) (.seq (.cond (.t 42) .skip (.exit 0)) (.seq (.block 1 (.seq (.region g74_9) (.region g74_10))) (.region g74_11))))))) (.seq (.region g74_12) .ret))))))))
def iLess : Ir := (.seq (.region g74_0) (.seq (.region g74_1) (.seq (.seq (.region g74_2) (.cond (.t 22) (.seq (.region g74_3) .ret) .skip)) (.seq (.region g74_4) (.mark (.seq (.region g74_5) (.seq (.region g74_6) (.seq (.seq (.region g74_7) (.block 0 (.loop (.seq (.region g74_8) (.seq (.cond (.t 42) .skip (.exit 0)) (.seq (.block 1 (.seq (.region g74_9) (.region g74_10))) (.region g74_11))))))) (.seq (.region g74_12) .ret)))))))))
theorem l10Less_ok : ∀ (f : Nat) {N : Nat} (s : Ls) (r : List Int) (k : Nat) (b : Int), k < N → k < f → N ≤ 1048576 → -1048576 ≤ b → r.length ≤ 1048576 → LInv N (b + 1) s →
    Meets Try.prog 74 [.agg [.sl true 2 N (ndO s.n), (.sl true 1 r.length (r.map (T.int .i64))), .sl true 1 N (s.c.map (T.int .i64))], .one (.int .i64 k), .one (.sl true 1 s.go.length (s.go.map (T.int .i64)))] (.w (.one (.sl true 1 ((lessF f s k).go).length (((lessF f s k).go).map (T.int .i64))))) [.agg [.sl true 2 N (ndO (lessF f s k).n), (.sl true 1 r.length (r.map (T.int .i64))), .sl true 1 N ((lessF f s k).c.map (T.int .i64))], .one .hole, .one .hole]
  | 0, N, s, r, k, b, hk, hf, hN, hb, hr, I => by omega
  | f + 1, N, s, r, k, b, hk, hf, hN, hb, hr, I => by
    have ln := I.ln
    have lc := I.lc
    have lo := I.lo k hk
    have hi := I.hi k hk
    have nn := ntt_nonneg (l := s.n)
    have hkn : k < s.n.length := by omega
    have hkc : k < s.c.length := by omega
    have q1 : cut (ndO s.n) 0 (N * 2) = ndO s.n := rows2_cut ln
    have q2 : cut (s.c.map (T.int .i64)) 0 N = s.c.map (T.int .i64) := cut_all (by simp [lc])
    have hd : (decF s.c k).getD k default = s.c.getD k default - 1 := by simp only [decF, getD_set]; rw [if_pos (by exact ⟨trivial, hkc⟩)]
    have hdc : s.c.set k (s.c.getD k default - 1) = decF s.c k := rfl
    have hdl : (decF s.c k).length = N := by rw [decF_len]; exact lc
    have q3 : cut ((decF s.c k).map (T.int .i64)) 0 N = (decF s.c k).map (T.int .i64) := cut_all (by simp [hdl])
    have gl := I.gl
    have n0 := ndO_0 hkn
    have n1 := ndO_1 hkn
    by_cases h0 : 0 < s.c.getD k default - 1
    · have hL : lessF (f + 1) s k = ⟨s.n, decF s.c k, s.go⟩ := by rw [lessF, if_pos (by omega)]
      rw [hL]
      refine meets_go (ir := iLess) (fn := Try.f74) (rx := [(.tmp 6)]) rfl rfl (by rfl) (by rfl) (by exact Nat.le_of_ble_eq_true rfl) ?_
      simp (maxSteps := 9000000) -implicitDefEqProofs -dsimp (disch := omega) only [go_sem, g74_0, g74_1, g74_2, g74_3, g74_4, g74_5, g74_6, g74_7, g74_8, g74_9, g74_10, g74_11, g74_12, i74, lt_T, lt_F, le_T, le_F, eq_T, eq_F, and_F, iLess, q1, q2, hdc, hd, h0, q3, Nat.reduceEqDiff, Nat.reduceAdd, Nat.reduceMul, Nat.reduceLeDiff, Nat.reduceBEq, Nat.reduceBNe, Int.reduceEq, ↓reduceIte, reduceCtorEq]
    · have hL : lessF (f + 1) s k = (s.n.getD k default).h.foldl (fun s y => lessF f s y.toNat) ⟨s.n.set k ⟨[], true⟩, decF s.c k, s.go ++ [(k : Int)]⟩ := by rw [lessF, if_neg (by omega)]
      rw [hL]
      refine meets_go (ir := iLess) (fn := Try.f74) (rx := [(.tmp 6)]) rfl rfl (by rfl) (by rfl) (by exact Nat.le_of_ble_eq_true rfl) ?_
      simp (maxSteps := 9000000) -implicitDefEqProofs -dsimp (disch := omega) only [go_sem, g74_0, g74_1, g74_2, g74_3, g74_4, g74_5, g74_6, g74_7, g74_8, g74_9, g74_10, g74_11, g74_12, i74, lt_T, lt_F, le_T, le_F, eq_T, eq_F, and_F, iLess, q1, q2, hdc, hd, h0, q3, n0, n1, Nat.reduceEqDiff, Nat.reduceAdd, Nat.reduceMul, Nat.reduceLeDiff, Nat.reduceBEq, Nat.reduceBNe, Int.reduceEq, ↓reduceIte, reduceCtorEq]
      have hsl := mem_ntt (getD_mem hkn)
      generalize hH : (s.n.getD k default).h = hs at *
      refine mark_imp ⟨[(7, .w (.one (.hs 5 [] 0 1 hs.length))), (1, .w (.one (.int .i64 (k : Nat)))), (2, .w (.one (.hs 3 [] 0 1 s.go.length))), (3, .w (.one (.hp 4 [] 0)))], [(5, (.sl true 1 hs.length (hs.map (T.int .i64)))), (4, .bx true [.sl true 2 N ((ndO s.n).set (k * 2) .hole), (.sl true 1 r.length (r.map (T.int .i64))), .sl true 1 N ((decF s.c k).map (T.int .i64))]), (3, (.sl true 1 s.go.length (s.go.map (T.int .i64))))], [.agg [.hs 4 [0] 0 2 N, .hs 4 [1] 0 1 r.length, .hs 4 [2] 0 1 N], .one (.int .i64 (k : Nat)), .one (.hs 3 [] 0 1 s.go.length)]⟩ ((imp_out 4 [0] (k * 2) 5 (st := 1) (n := hs.length) (cs := hs.map (T.int .i64)) (t2 := .bx true [.sl true 2 N ((ndO s.n).set (k * 2) .hole), (.sl true 1 r.length (r.map (T.int .i64))), .sl true 1 N ((decF s.c k).map (T.int .i64))]) rfl (by simp (maxSteps := 9000000) -implicitDefEqProofs -dsimp (disch := omega) only [go_sem, g74_0, g74_1, g74_2, g74_3, g74_4, g74_5, g74_6, g74_7, g74_8, g74_9, g74_10, g74_11, g74_12, i74, n0, Nat.reduceEqDiff, Nat.reduceAdd, Nat.reduceMul, Nat.reduceLeDiff, Nat.reduceBEq, Nat.reduceBNe, Int.reduceEq, ↓reduceIte, reduceCtorEq]) (by simp (maxSteps := 9000000) -implicitDefEqProofs -dsimp (disch := omega) only [go_sem, g74_0, g74_1, g74_2, g74_3, g74_4, g74_5, g74_6, g74_7, g74_8, g74_9, g74_10, g74_11, g74_12, i74, n0, Nat.reduceEqDiff, Nat.reduceAdd, Nat.reduceMul, Nat.reduceLeDiff, Nat.reduceBEq, Nat.reduceBNe, Int.reduceEq, ↓reduceIte, reduceCtorEq]) rfl).trans (imp_sub (by simp (maxSteps := 9000000) -implicitDefEqProofs -dsimp (disch := omega) only [go_sem, g74_0, g74_1, g74_2, g74_3, g74_4, g74_5, g74_6, g74_7, g74_8, g74_9, g74_10, g74_11, g74_12, i74, Nat.reduceEqDiff, Nat.reduceAdd, Nat.reduceMul, Nat.reduceLeDiff, Nat.reduceBEq, Nat.reduceBNe, Int.reduceEq, ↓reduceIte, reduceCtorEq]) (by simp (maxSteps := 9000000) -implicitDefEqProofs -dsimp (disch := omega) only [go_sem, g74_0, g74_1, g74_2, g74_3, g74_4, g74_5, g74_6, g74_7, g74_8, g74_9, g74_10, g74_11, g74_12, i74, Nat.reduceEqDiff, Nat.reduceAdd, Nat.reduceMul, Nat.reduceLeDiff, Nat.reduceBEq, Nat.reduceBNe, Int.reduceEq, ↓reduceIte, reduceCtorEq]) rfl)) ?_
      have qn : (ndO s.n).length = N * 2 := by rw [show (ndO s.n).length = s.n.length * 2 from rows2_len, ln]
      have e1 : ((ndO s.n).set (k * 2) T.hole)[k * 2]? = some .hole := by rw [List.getElem?_set_self (by omega)]
      have e2 : (((ndO s.n).set (k * 2) T.hole).set (k * 2) (.sl true 0 0 []))[k * 2 + 1]? = some (.bool (s.n.getD k default).g) := by rw [List.getElem?_set_ne (by omega), List.getElem?_set_ne (by omega), n1]
      simp (maxSteps := 9000000) -implicitDefEqProofs -dsimp (disch := omega) only [go_sem, g74_0, g74_1, g74_2, g74_3, g74_4, g74_5, g74_6, g74_7, g74_8, g74_9, g74_10, g74_11, g74_12, i74, lt_T, lt_F, le_T, le_F, eq_T, eq_F, and_F, e1, e2, Nat.reduceEqDiff, Nat.reduceAdd, Nat.reduceMul, Nat.reduceLeDiff, Nat.reduceBEq, Nat.reduceBNe, Int.reduceEq, ↓reduceIte, reduceCtorEq]
      have eA : (((((ndO s.n).set (k * 2) T.hole).set (k * 2) (.sl true 0 0 [])).set (k * 2 + 1) (.bool true)).set (k * 2) (.sl true 1 0 [])) = ndO (s.n.set k ⟨[], true⟩) := by
        have := ndO_set ⟨[], true⟩ hkn
        simp only [List.length_nil, List.map_nil] at this
        rw [← this, List.set_set, List.set_comm _ _ (by omega), List.set_set]
      have e3 : ((((ndO s.n).set (k * 2) T.hole).set (k * 2) (.sl true 0 0 [])).set (k * 2 + 1) (.bool true))[k * 2]? = some (.sl true 0 0 []) := by rw [List.getElem?_set_ne (by omega), List.getElem?_set_self (by rw [List.length_set]; omega)]
      have I2 := I.gone hk
      rw [hH] at I2
      generalize hx : (fun t : Nat => (hs.take t).foldl (fun s y => lessF f s y.toNat) ⟨s.n.set k ⟨[], true⟩, decF s.c k, s.go ++ [(k : Int)]⟩) = X
      have hx0 : X 0 = ⟨s.n.set k ⟨[], true⟩, decF s.c k, s.go ++ [(k : Int)]⟩ := by rw [← hx]; rfl
      have hxs : ∀ t, t < hs.length → X (t + 1) = lessF f (X t) (hs.getD t default).toNat := fun t ht => by
        rw [← hx]
        simp only
        rw [List.take_add_one, List.foldl_append, List.getElem?_eq_getElem ht]
        simp [List.getD_eq_getElem?_getD, ht]
      have hxe : X hs.length = hs.foldl (fun s y => lessF f s y.toNat) ⟨s.n.set k ⟨[], true⟩, decF s.c k, s.go ++ [(k : Int)]⟩ := by rw [← hx]; simp only [List.take_length]
      rw [← hxe]
      refine loop_n hs.length (fun t => ⟨[(41, .w (.one (.int .i64 (t : Nat)))), (40, .w (.one (.int .i64 hs.length))), (39, .w (.one (.hs 5 [] 0 1 hs.length))), (2, .w (.one (.hs 3 [] 0 1 (X t).go.length))), (3, .w (.one (.hp 4 [] 0)))], [(3, (.sl true 1 ((X t).go).length (((X t).go).map (T.int .i64)))), (5, (.sl true 1 hs.length (hs.map (T.int .i64)))), (4, .bx true [.sl true 2 N (ndO (X t).n), (.sl true 1 r.length (r.map (T.int .i64))), .sl true 1 N ((X t).c.map (T.int .i64))])], [.agg [.hs 4 [0] 0 2 N, .hs 4 [1] 0 1 r.length, .hs 4 [2] 0 1 N], .one (.int .i64 (k : Nat)), .one .un]⟩) (fun t => LInv N (b + (hs.length - t)) (X t)) ?_ ?_ ?_
      · refine (imp_fix 4 [0] (k * 2) 1 (t2 := .bx true [.sl true 2 N (ndO (s.n.set k ⟨[], true⟩)), (.sl true 1 r.length (r.map (T.int .i64))), .sl true 1 N ((decF s.c k).map (T.int .i64))]) rfl (by simp (maxSteps := 9000000) -implicitDefEqProofs -dsimp (disch := omega) only [go_sem, g74_0, g74_1, g74_2, g74_3, g74_4, g74_5, g74_6, g74_7, g74_8, g74_9, g74_10, g74_11, g74_12, i74, e3, Nat.reduceEqDiff, Nat.reduceAdd, Nat.reduceMul, Nat.reduceLeDiff, Nat.reduceBEq, Nat.reduceBNe, Int.reduceEq, ↓reduceIte, reduceCtorEq]) (by simp (maxSteps := 9000000) -implicitDefEqProofs -dsimp (disch := omega) only [go_sem, g74_0, g74_1, g74_2, g74_3, g74_4, g74_5, g74_6, g74_7, g74_8, g74_9, g74_10, g74_11, g74_12, i74, e3, eA, Nat.reduceEqDiff, Nat.reduceAdd, Nat.reduceMul, Nat.reduceLeDiff, Nat.reduceBEq, Nat.reduceBNe, Int.reduceEq, ↓reduceIte, reduceCtorEq])).trans ((imp_ren 7 3 rfl rfl).trans ?_)
        rw [hx0]
        exact (imp_sub (by simp (maxSteps := 9000000) -implicitDefEqProofs -dsimp (disch := omega) only [go_sem, g74_0, g74_1, g74_2, g74_3, g74_4, g74_5, g74_6, g74_7, g74_8, g74_9, g74_10, g74_11, g74_12, i74, List.map_append, Nat.reduceEqDiff, Nat.reduceAdd, Nat.reduceMul, Nat.reduceLeDiff, Nat.reduceBEq, Nat.reduceBNe, Int.reduceEq, ↓reduceIte, reduceCtorEq]) (by simp (maxSteps := 9000000) -implicitDefEqProofs -dsimp (disch := omega) only [go_sem, g74_0, g74_1, g74_2, g74_3, g74_4, g74_5, g74_6, g74_7, g74_8, g74_9, g74_10, g74_11, g74_12, i74, List.map_append, Nat.reduceEqDiff, Nat.reduceAdd, Nat.reduceMul, Nat.reduceLeDiff, Nat.reduceBEq, Nat.reduceBNe, Int.reduceEq, ↓reduceIte, reduceCtorEq]) rfl)
      · rw [hx0]; simpa using I2
      · intro t ht J
        simp (maxSteps := 9000000) -implicitDefEqProofs -dsimp (disch := omega) only [go_sem, g74_0, g74_1, g74_2, g74_3, g74_4, g74_5, g74_6, g74_7, g74_8, g74_9, g74_10, g74_11, g74_12, i74, Nat.reduceEqDiff, Nat.reduceAdd, Nat.reduceMul, Nat.reduceLeDiff, Nat.reduceBEq, Nat.reduceBNe, Int.reduceEq, ↓reduceIte, reduceCtorEq]
        refine brP_i (fun h1 => ?_) (fun h1 => ?_)
        · have ht2 : t < hs.length := by omega
          have hw := I.w k hk (hs.getD t default) (by rw [hH]; exact getD_mem ht2)
          have hxt := hxs t ht2
          have a4 : ((hs.getD t default).toNat : Int) = hs.getD t default := Int.toNat_of_nonneg hw.1
          have M := l10Less_ok f (N := N) (X t) r (hs.getD t default).toNat (b + (hs.length - t - 1)) (by omega) (by omega) hN (by omega) hr (by rw [show b + ((hs.length : Int) - t - 1) + 1 = b + (hs.length - t) by omega]; exact J)
          have J2 := lessF_inv f (N := N) (X t) (hs.getD t default).toNat (b + (hs.length - t - 1)) (by omega) (by rw [show b + ((hs.length : Int) - t - 1) + 1 = b + (hs.length - t) by omega]; exact J)
          rw [← hxt] at M J2
          rw [a4] at M
          have p1 : cut (ndO (X t).n) 0 (N * 2) = ndO (X t).n := rows2_cut J.ln
          have p2 : cut ((X t).c.map (T.int .i64)) 0 N = (X t).c.map (T.int .i64) := cut_all (by simp [J.lc])
          have p3 : noRoL (ndO (X (t + 1)).n) = true := ndO_noRo
          have p4 : cut (ndO (X (t + 1)).n) 0 (N * 2) = ndO (X (t + 1)).n := rows2_cut J2.ln
          have p5 : cut ((X (t + 1)).c.map (T.int .i64)) 0 N = (X (t + 1)).c.map (T.int .i64) := cut_all (by simp [J2.lc])
          have p6 : (ndO (X t).n).length = N * 2 := by rw [show (ndO (X t).n).length = (X t).n.length * 2 from rows2_len, J.ln]
          have p7 : (ndO (X (t + 1)).n).length = N * 2 := by rw [show (ndO (X (t + 1)).n).length = (X (t + 1)).n.length * 2 from rows2_len, J2.ln]
          simp (maxSteps := 9000000) -implicitDefEqProofs -dsimp (disch := omega) only [go_sem, g74_0, g74_1, g74_2, g74_3, g74_4, g74_5, g74_6, g74_7, g74_8, g74_9, g74_10, g74_11, g74_12, i74, Nat.reduceEqDiff, Nat.reduceAdd, Nat.reduceMul, Nat.reduceLeDiff, Nat.reduceBEq, Nat.reduceBNe, Int.reduceEq, ↓reduceIte, reduceCtorEq]
          refine callk_go [(4, [0]), (4, [1]), (4, [2])] true M ?_
          simp (maxSteps := 9000000) -implicitDefEqProofs -dsimp (disch := omega) only [go_sem, g74_0, g74_1, g74_2, g74_3, g74_4, g74_5, g74_6, g74_7, g74_8, g74_9, g74_10, g74_11, g74_12, i74, p1, p2, p3, p4, p5, J.lc, J2.lc, Nat.reduceEqDiff, Nat.reduceAdd, Nat.reduceMul, Nat.reduceLeDiff, Nat.reduceBEq, Nat.reduceBNe, Int.reduceEq, ↓reduceIte, reduceCtorEq]
          refine ⟨⟨ht2, ?_⟩, (imp_ren 6 3 rfl rfl).trans (imp_sub (by simp (maxSteps := 9000000) -implicitDefEqProofs -dsimp (disch := omega) only [go_sem, g74_0, g74_1, g74_2, g74_3, g74_4, g74_5, g74_6, g74_7, g74_8, g74_9, g74_10, g74_11, g74_12, i74, p1, p2, p3, p4, p5, Nat.reduceEqDiff, Nat.reduceAdd, Nat.reduceMul, Nat.reduceLeDiff, Nat.reduceBEq, Nat.reduceBNe, Int.reduceEq, ↓reduceIte, reduceCtorEq]) (by simp (maxSteps := 9000000) -implicitDefEqProofs -dsimp (disch := omega) only [go_sem, g74_0, g74_1, g74_2, g74_3, g74_4, g74_5, g74_6, g74_7, g74_8, g74_9, g74_10, g74_11, g74_12, i74, p1, p2, p3, p4, p5, Nat.reduceEqDiff, Nat.reduceAdd, Nat.reduceMul, Nat.reduceLeDiff, Nat.reduceBEq, Nat.reduceBNe, Int.reduceEq, ↓reduceIte, reduceCtorEq]) rfl)⟩
          rw [show b + ((hs.length : Int) - (t + 1)) = b + (hs.length - t - 1) by omega]
          exact J2
        · obtain rfl : t = hs.length := by omega
          have p1 : cut (ndO (X hs.length).n) 0 (N * 2) = ndO (X hs.length).n := rows2_cut J.ln
          have p2 : cut ((X hs.length).c.map (T.int .i64)) 0 N = (X hs.length).c.map (T.int .i64) := cut_all (by simp [J.lc])
          simp (maxSteps := 9000000) -implicitDefEqProofs -dsimp (disch := omega) only [go_sem, g74_0, g74_1, g74_2, g74_3, g74_4, g74_5, g74_6, g74_7, g74_8, g74_9, g74_10, g74_11, g74_12, i74, p1, p2, Nat.reduceEqDiff, Nat.reduceAdd, Nat.reduceMul, Nat.reduceLeDiff, Nat.reduceBEq, Nat.reduceBNe, Int.reduceEq, ↓reduceIte, reduceCtorEq]
def g77_0 : List Gop := [⟨none, (some 3), (.box (.t 0))⟩, ⟨none, (some 6), (.mov (.k (.one .nil)))⟩]
def g77_1 : List Gop := [⟨none, (some 10), (.faddr (.t 3) 2)⟩, ⟨none, (some 11), (.load none (.t 10))⟩, ⟨none, (some 12), (.mov (.t 1))⟩, ⟨none, (some 13), (.iaddr 1 (.t 11) (.t 12))⟩, ⟨none, (some 14), (.load none (.t 13))⟩, ⟨none, (some 15), (.bin .sub (.t 14) (.k (.one (.int .i64 1))))⟩, ⟨none, (some 16), (.iaddr 1 (.t 11) (.t 12))⟩, ⟨none, none, (.store 1 (.t 16) (.t 15))⟩]
def g77_2 : List Gop := [⟨none, (some 17), (.faddr (.t 3) 2)⟩, ⟨none, (some 18), (.load none (.t 17))⟩, ⟨none, (some 19), (.mov (.t 1))⟩, ⟨none, (some 20), (.iaddr 1 (.t 18) (.t 19))⟩, ⟨none, (some 21), (.load none (.t 20))⟩, ⟨none, (some 22), (.bin .gtr (.t 21) (.k (.one (.int .i64 0))))⟩]
def g77_3 : List Gop := [⟨none, (some 23), (.mov (.t 2))⟩, ⟨none, (some 6), (.mov (.t 23))⟩]
def g77_4 : List Gop := [⟨none, (some 24), (.faddr (.t 3) 0)⟩, ⟨none, (some 25), (.load none (.t 24))⟩, ⟨none, (some 26), (.mov (.t 1))⟩, ⟨none, (some 27), (.iaddr 2 (.t 25) (.t 26))⟩, ⟨none, (some 28), (.faddr (.t 27) 0)⟩, ⟨none, (some 29), (.load none (.t 28))⟩, ⟨none, (some 7), (.mov (.t 29))⟩]
def g77_5 : List Gop := [⟨none, (some 30), (.faddr (.t 3) 0)⟩, ⟨none, (some 31), (.load none (.t 30))⟩, ⟨none, (some 32), (.mov (.t 1))⟩, ⟨none, (some 33), (.build [.nil, (.bool .false)] [(1, (1, (.k (.one (.bool .true)))))])⟩, ⟨none, (some 34), (.iaddr 2 (.t 31) (.t 32))⟩, ⟨none, none, (.store 2 (.t 34) (.t 33))⟩]
def g77_6 : List Gop := [⟨none, (some 35), (.mov (.t 2))⟩, ⟨none, (some 36), (.mov (.t 1))⟩, ⟨none, (some 37), (.lit 1 1 [(.int .i64 0)] [(0, (.t 36))])⟩, ⟨none, (some 38), (.app 1 8 [(.int .i64 0)] (.t 35) (.t 37))⟩, ⟨none, (some 2), (.mov (.t 38))⟩]
def g77_7 : List Gop := [⟨none, (some 39), (.mov (.t 7))⟩, ⟨none, (some 40), (.len (.t 39))⟩, ⟨none, (some 41), (.mov (.k (.one (.int .i64 0))))⟩]
def g77_8 : List Gop := [⟨none, (some 42), (.bin .lss (.t 41) (.t 40))⟩]
def g77_9 : List Gop := [⟨none, (some 43), (.iaddr 1 (.t 39) (.t 41))⟩, ⟨none, (some 44), (.load none (.t 43))⟩, ⟨none, (some 9), (.mov (.t 44))⟩]
def g77_10 : List Gop := [⟨none, (some 45), (.load (some 3) (.t 3))⟩, ⟨none, (some 46), (.mov (.t 9))⟩, ⟨none, (some 47), (.mov (.t 2))⟩, ⟨none, (some 48), (.call 77 [(.t 45), (.t 46), (.t 47)])⟩, ⟨none, (some 2), (.mov (.t 48))⟩]
def g77_11 : List Gop := [⟨none, (some 49), (.bin .add (.t 41) (.k (.one (.int .i64 1))))⟩, ⟨none, (some 41), (.mov (.t 49))⟩]
def g77_12 : List Gop := [⟨none, (some 50), (.mov (.t 2))⟩, ⟨none, (some 6), (.mov (.t 50))⟩]
def i77 : Ir := (.seq (.region g77_0) (.seq (.region g77_1) (.seq (.seq (.region g77_2) (.cond (.t 22) (.seq (.region g77_3) .ret) .skip)) (.seq (.region g77_4) (.seq (.region g77_5) (.seq (.region g77_6) (.seq (.seq (.region g77_7) (.block 0 (.loop (.seq (.region g77_8) (.seq (.cond (.t 42) .skip (.exit 0)) (.seq (.block 1 (.seq (.region g77_9) (.region g77_10))) (.region g77_11))))))) (.seq (.region g77_12) .ret))))))))
def iRel : Ir := (.seq (.region g77_0) (.seq (.region g77_1) (.seq (.seq (.region g77_2) (.cond (.t 22) (.seq (.region g77_3) .ret) .skip)) (.seq (.region g77_4) (.mark (.seq (.region g77_5) (.seq (.region g77_6) (.seq (.seq (.region g77_7) (.block 0 (.loop (.seq (.region g77_8) (.seq (.cond (.t 42) .skip (.exit 0)) (.seq (.block 1 (.seq (.region g77_9) (.region g77_10))) (.region g77_11))))))) (.seq (.region g77_12) .ret)))))))))
theorem release_ok : ∀ (f : Nat) {N : Nat} (s : Ls) (r : List Int) (k : Nat) (b : Int), k < N → k < f → N ≤ 1048576 → -1048576 ≤ b → r.length ≤ 1048576 → LInv N (b + 1) s →
    Meets Try.prog 77 [.agg [.sl true 2 N (ndO s.n), (.sl true 1 r.length (r.map (T.int .i64))), .sl true 1 N (s.c.map (T.int .i64))], .one (.int .i64 k), .one (.sl true 1 s.go.length (s.go.map (T.int .i64)))] (.w (.one (.sl true 1 ((lessF f s k).go).length (((lessF f s k).go).map (T.int .i64))))) [.agg [.sl true 2 N (ndO (lessF f s k).n), (.sl true 1 r.length (r.map (T.int .i64))), .sl true 1 N ((lessF f s k).c.map (T.int .i64))], .one .hole, .one .hole]
  | 0, N, s, r, k, b, hk, hf, hN, hb, hr, I => by omega
  | f + 1, N, s, r, k, b, hk, hf, hN, hb, hr, I => by
    have ln := I.ln
    have lc := I.lc
    have lo := I.lo k hk
    have hi := I.hi k hk
    have nn := ntt_nonneg (l := s.n)
    have hkn : k < s.n.length := by omega
    have hkc : k < s.c.length := by omega
    have q1 : cut (ndO s.n) 0 (N * 2) = ndO s.n := rows2_cut ln
    have q2 : cut (s.c.map (T.int .i64)) 0 N = s.c.map (T.int .i64) := cut_all (by simp [lc])
    have hd : (decF s.c k).getD k default = s.c.getD k default - 1 := by simp only [decF, getD_set]; rw [if_pos (by exact ⟨trivial, hkc⟩)]
    have hdc : s.c.set k (s.c.getD k default - 1) = decF s.c k := rfl
    have hdl : (decF s.c k).length = N := by rw [decF_len]; exact lc
    have q3 : cut ((decF s.c k).map (T.int .i64)) 0 N = (decF s.c k).map (T.int .i64) := cut_all (by simp [hdl])
    have gl := I.gl
    have n0 := ndO_0 hkn
    have n1 := ndO_1 hkn
    by_cases h0 : 0 < s.c.getD k default - 1
    · have hL : lessF (f + 1) s k = ⟨s.n, decF s.c k, s.go⟩ := by rw [lessF, if_pos (by omega)]
      rw [hL]
      refine meets_go (ir := iRel) (fn := Try.f77) (rx := [(.tmp 6)]) rfl rfl (by rfl) (by rfl) (by exact Nat.le_of_ble_eq_true rfl) ?_
      simp (maxSteps := 9000000) -implicitDefEqProofs -dsimp (disch := omega) only [go_sem, g77_0, g77_1, g77_2, g77_3, g77_4, g77_5, g77_6, g77_7, g77_8, g77_9, g77_10, g77_11, g77_12, i77, lt_T, lt_F, le_T, le_F, eq_T, eq_F, and_F, iRel, q1, q2, hdc, hd, h0, q3, Nat.reduceEqDiff, Nat.reduceAdd, Nat.reduceMul, Nat.reduceLeDiff, Nat.reduceBEq, Nat.reduceBNe, Int.reduceEq, ↓reduceIte, reduceCtorEq]
    · have hL : lessF (f + 1) s k = (s.n.getD k default).h.foldl (fun s y => lessF f s y.toNat) ⟨s.n.set k ⟨[], true⟩, decF s.c k, s.go ++ [(k : Int)]⟩ := by rw [lessF, if_neg (by omega)]
      rw [hL]
      refine meets_go (ir := iRel) (fn := Try.f77) (rx := [(.tmp 6)]) rfl rfl (by rfl) (by rfl) (by exact Nat.le_of_ble_eq_true rfl) ?_
      simp (maxSteps := 9000000) -implicitDefEqProofs -dsimp (disch := omega) only [go_sem, g77_0, g77_1, g77_2, g77_3, g77_4, g77_5, g77_6, g77_7, g77_8, g77_9, g77_10, g77_11, g77_12, i77, lt_T, lt_F, le_T, le_F, eq_T, eq_F, and_F, iRel, q1, q2, hdc, hd, h0, q3, n0, n1, Nat.reduceEqDiff, Nat.reduceAdd, Nat.reduceMul, Nat.reduceLeDiff, Nat.reduceBEq, Nat.reduceBNe, Int.reduceEq, ↓reduceIte, reduceCtorEq]
      have hsl := mem_ntt (getD_mem hkn)
      generalize hH : (s.n.getD k default).h = hs at *
      refine mark_imp ⟨[(7, .w (.one (.hs 5 [] 0 1 hs.length))), (1, .w (.one (.int .i64 (k : Nat)))), (2, .w (.one (.hs 3 [] 0 1 s.go.length))), (3, .w (.one (.hp 4 [] 0)))], [(5, (.sl true 1 hs.length (hs.map (T.int .i64)))), (4, .bx true [.sl true 2 N ((ndO s.n).set (k * 2) .hole), (.sl true 1 r.length (r.map (T.int .i64))), .sl true 1 N ((decF s.c k).map (T.int .i64))]), (3, (.sl true 1 s.go.length (s.go.map (T.int .i64))))], [.agg [.hs 4 [0] 0 2 N, .hs 4 [1] 0 1 r.length, .hs 4 [2] 0 1 N], .one (.int .i64 (k : Nat)), .one (.hs 3 [] 0 1 s.go.length)]⟩ ((imp_out 4 [0] (k * 2) 5 (st := 1) (n := hs.length) (cs := hs.map (T.int .i64)) (t2 := .bx true [.sl true 2 N ((ndO s.n).set (k * 2) .hole), (.sl true 1 r.length (r.map (T.int .i64))), .sl true 1 N ((decF s.c k).map (T.int .i64))]) rfl (by simp (maxSteps := 9000000) -implicitDefEqProofs -dsimp (disch := omega) only [go_sem, g77_0, g77_1, g77_2, g77_3, g77_4, g77_5, g77_6, g77_7, g77_8, g77_9, g77_10, g77_11, g77_12, i77, n0, Nat.reduceEqDiff, Nat.reduceAdd, Nat.reduceMul, Nat.reduceLeDiff, Nat.reduceBEq, Nat.reduceBNe, Int.reduceEq, ↓reduceIte, reduceCtorEq]) (by simp (maxSteps := 9000000) -implicitDefEqProofs -dsimp (disch := omega) only [go_sem, g77_0, g77_1, g77_2, g77_3, g77_4, g77_5, g77_6, g77_7, g77_8, g77_9, g77_10, g77_11, g77_12, i77, n0, Nat.reduceEqDiff, Nat.reduceAdd, Nat.reduceMul, Nat.reduceLeDiff, Nat.reduceBEq, Nat.reduceBNe, Int.reduceEq, ↓reduceIte, reduceCtorEq]) rfl).trans (imp_sub (by simp (maxSteps := 9000000) -implicitDefEqProofs -dsimp (disch := omega) only [go_sem, g77_0, g77_1, g77_2, g77_3, g77_4, g77_5, g77_6, g77_7, g77_8, g77_9, g77_10, g77_11, g77_12, i77, Nat.reduceEqDiff, Nat.reduceAdd, Nat.reduceMul, Nat.reduceLeDiff, Nat.reduceBEq, Nat.reduceBNe, Int.reduceEq, ↓reduceIte, reduceCtorEq]) (by simp (maxSteps := 9000000) -implicitDefEqProofs -dsimp (disch := omega) only [go_sem, g77_0, g77_1, g77_2, g77_3, g77_4, g77_5, g77_6, g77_7, g77_8, g77_9, g77_10, g77_11, g77_12, i77, Nat.reduceEqDiff, Nat.reduceAdd, Nat.reduceMul, Nat.reduceLeDiff, Nat.reduceBEq, Nat.reduceBNe, Int.reduceEq, ↓reduceIte, reduceCtorEq]) rfl)) ?_
      have qn : (ndO s.n).length = N * 2 := by rw [show (ndO s.n).length = s.n.length * 2 from rows2_len, ln]
      have e1 : ((ndO s.n).set (k * 2) T.hole)[k * 2]? = some .hole := by rw [List.getElem?_set_self (by omega)]
      have e2 : (((ndO s.n).set (k * 2) T.hole).set (k * 2) (.sl true 0 0 []))[k * 2 + 1]? = some (.bool (s.n.getD k default).g) := by rw [List.getElem?_set_ne (by omega), List.getElem?_set_ne (by omega), n1]
      simp (maxSteps := 9000000) -implicitDefEqProofs -dsimp (disch := omega) only [go_sem, g77_0, g77_1, g77_2, g77_3, g77_4, g77_5, g77_6, g77_7, g77_8, g77_9, g77_10, g77_11, g77_12, i77, lt_T, lt_F, le_T, le_F, eq_T, eq_F, and_F, e1, e2, Nat.reduceEqDiff, Nat.reduceAdd, Nat.reduceMul, Nat.reduceLeDiff, Nat.reduceBEq, Nat.reduceBNe, Int.reduceEq, ↓reduceIte, reduceCtorEq]
      have eA : (((((ndO s.n).set (k * 2) T.hole).set (k * 2) (.sl true 0 0 [])).set (k * 2 + 1) (.bool true)).set (k * 2) (.sl true 1 0 [])) = ndO (s.n.set k ⟨[], true⟩) := by
        have := ndO_set ⟨[], true⟩ hkn
        simp only [List.length_nil, List.map_nil] at this
        rw [← this, List.set_set, List.set_comm _ _ (by omega), List.set_set]
      have e3 : ((((ndO s.n).set (k * 2) T.hole).set (k * 2) (.sl true 0 0 [])).set (k * 2 + 1) (.bool true))[k * 2]? = some (.sl true 0 0 []) := by rw [List.getElem?_set_ne (by omega), List.getElem?_set_self (by rw [List.length_set]; omega)]
      have I2 := I.gone hk
      rw [hH] at I2
      generalize hx : (fun t : Nat => (hs.take t).foldl (fun s y => lessF f s y.toNat) ⟨s.n.set k ⟨[], true⟩, decF s.c k, s.go ++ [(k : Int)]⟩) = X
      have hx0 : X 0 = ⟨s.n.set k ⟨[], true⟩, decF s.c k, s.go ++ [(k : Int)]⟩ := by rw [← hx]; rfl
      have hxs : ∀ t, t < hs.length → X (t + 1) = lessF f (X t) (hs.getD t default).toNat := fun t ht => by
        rw [← hx]
        simp only
        rw [List.take_add_one, List.foldl_append, List.getElem?_eq_getElem ht]
        simp [List.getD_eq_getElem?_getD, ht]
      have hxe : X hs.length = hs.foldl (fun s y => lessF f s y.toNat) ⟨s.n.set k ⟨[], true⟩, decF s.c k, s.go ++ [(k : Int)]⟩ := by rw [← hx]; simp only [List.take_length]
      rw [← hxe]
      refine loop_n hs.length (fun t => ⟨[(41, .w (.one (.int .i64 (t : Nat)))), (40, .w (.one (.int .i64 hs.length))), (39, .w (.one (.hs 5 [] 0 1 hs.length))), (2, .w (.one (.hs 3 [] 0 1 (X t).go.length))), (3, .w (.one (.hp 4 [] 0)))], [(3, (.sl true 1 ((X t).go).length (((X t).go).map (T.int .i64)))), (5, (.sl true 1 hs.length (hs.map (T.int .i64)))), (4, .bx true [.sl true 2 N (ndO (X t).n), (.sl true 1 r.length (r.map (T.int .i64))), .sl true 1 N ((X t).c.map (T.int .i64))])], [.agg [.hs 4 [0] 0 2 N, .hs 4 [1] 0 1 r.length, .hs 4 [2] 0 1 N], .one (.int .i64 (k : Nat)), .one .un]⟩) (fun t => LInv N (b + (hs.length - t)) (X t)) ?_ ?_ ?_
      · refine (imp_fix 4 [0] (k * 2) 1 (t2 := .bx true [.sl true 2 N (ndO (s.n.set k ⟨[], true⟩)), (.sl true 1 r.length (r.map (T.int .i64))), .sl true 1 N ((decF s.c k).map (T.int .i64))]) rfl (by simp (maxSteps := 9000000) -implicitDefEqProofs -dsimp (disch := omega) only [go_sem, g77_0, g77_1, g77_2, g77_3, g77_4, g77_5, g77_6, g77_7, g77_8, g77_9, g77_10, g77_11, g77_12, i77, e3, Nat.reduceEqDiff, Nat.reduceAdd, Nat.reduceMul, Nat.reduceLeDiff, Nat.reduceBEq, Nat.reduceBNe, Int.reduceEq, ↓reduceIte, reduceCtorEq]) (by simp (maxSteps := 9000000) -implicitDefEqProofs -dsimp (disch := omega) only [go_sem, g77_0, g77_1, g77_2, g77_3, g77_4, g77_5, g77_6, g77_7, g77_8, g77_9, g77_10, g77_11, g77_12, i77, e3, eA, Nat.reduceEqDiff, Nat.reduceAdd, Nat.reduceMul, Nat.reduceLeDiff, Nat.reduceBEq, Nat.reduceBNe, Int.reduceEq, ↓reduceIte, reduceCtorEq])).trans ((imp_ren 7 3 rfl rfl).trans ?_)
        rw [hx0]
        exact (imp_sub (by simp (maxSteps := 9000000) -implicitDefEqProofs -dsimp (disch := omega) only [go_sem, g77_0, g77_1, g77_2, g77_3, g77_4, g77_5, g77_6, g77_7, g77_8, g77_9, g77_10, g77_11, g77_12, i77, List.map_append, Nat.reduceEqDiff, Nat.reduceAdd, Nat.reduceMul, Nat.reduceLeDiff, Nat.reduceBEq, Nat.reduceBNe, Int.reduceEq, ↓reduceIte, reduceCtorEq]) (by simp (maxSteps := 9000000) -implicitDefEqProofs -dsimp (disch := omega) only [go_sem, g77_0, g77_1, g77_2, g77_3, g77_4, g77_5, g77_6, g77_7, g77_8, g77_9, g77_10, g77_11, g77_12, i77, List.map_append, Nat.reduceEqDiff, Nat.reduceAdd, Nat.reduceMul, Nat.reduceLeDiff, Nat.reduceBEq, Nat.reduceBNe, Int.reduceEq, ↓reduceIte, reduceCtorEq]) rfl)
      · rw [hx0]; simpa using I2
      · intro t ht J
        simp (maxSteps := 9000000) -implicitDefEqProofs -dsimp (disch := omega) only [go_sem, g77_0, g77_1, g77_2, g77_3, g77_4, g77_5, g77_6, g77_7, g77_8, g77_9, g77_10, g77_11, g77_12, i77, Nat.reduceEqDiff, Nat.reduceAdd, Nat.reduceMul, Nat.reduceLeDiff, Nat.reduceBEq, Nat.reduceBNe, Int.reduceEq, ↓reduceIte, reduceCtorEq]
        refine brP_i (fun h1 => ?_) (fun h1 => ?_)
        · have ht2 : t < hs.length := by omega
          have hw := I.w k hk (hs.getD t default) (by rw [hH]; exact getD_mem ht2)
          have hxt := hxs t ht2
          have a4 : ((hs.getD t default).toNat : Int) = hs.getD t default := Int.toNat_of_nonneg hw.1
          have M := release_ok f (N := N) (X t) r (hs.getD t default).toNat (b + (hs.length - t - 1)) (by omega) (by omega) hN (by omega) hr (by rw [show b + ((hs.length : Int) - t - 1) + 1 = b + (hs.length - t) by omega]; exact J)
          have J2 := lessF_inv f (N := N) (X t) (hs.getD t default).toNat (b + (hs.length - t - 1)) (by omega) (by rw [show b + ((hs.length : Int) - t - 1) + 1 = b + (hs.length - t) by omega]; exact J)
          rw [← hxt] at M J2
          rw [a4] at M
          have p1 : cut (ndO (X t).n) 0 (N * 2) = ndO (X t).n := rows2_cut J.ln
          have p2 : cut ((X t).c.map (T.int .i64)) 0 N = (X t).c.map (T.int .i64) := cut_all (by simp [J.lc])
          have p3 : noRoL (ndO (X (t + 1)).n) = true := ndO_noRo
          have p4 : cut (ndO (X (t + 1)).n) 0 (N * 2) = ndO (X (t + 1)).n := rows2_cut J2.ln
          have p5 : cut ((X (t + 1)).c.map (T.int .i64)) 0 N = (X (t + 1)).c.map (T.int .i64) := cut_all (by simp [J2.lc])
          have p6 : (ndO (X t).n).length = N * 2 := by rw [show (ndO (X t).n).length = (X t).n.length * 2 from rows2_len, J.ln]
          have p7 : (ndO (X (t + 1)).n).length = N * 2 := by rw [show (ndO (X (t + 1)).n).length = (X (t + 1)).n.length * 2 from rows2_len, J2.ln]
          simp (maxSteps := 9000000) -implicitDefEqProofs -dsimp (disch := omega) only [go_sem, g77_0, g77_1, g77_2, g77_3, g77_4, g77_5, g77_6, g77_7, g77_8, g77_9, g77_10, g77_11, g77_12, i77, Nat.reduceEqDiff, Nat.reduceAdd, Nat.reduceMul, Nat.reduceLeDiff, Nat.reduceBEq, Nat.reduceBNe, Int.reduceEq, ↓reduceIte, reduceCtorEq]
          refine callk_go [(4, [0]), (4, [1]), (4, [2])] true M ?_
          simp (maxSteps := 9000000) -implicitDefEqProofs -dsimp (disch := omega) only [go_sem, g77_0, g77_1, g77_2, g77_3, g77_4, g77_5, g77_6, g77_7, g77_8, g77_9, g77_10, g77_11, g77_12, i77, p1, p2, p3, p4, p5, J.lc, J2.lc, Nat.reduceEqDiff, Nat.reduceAdd, Nat.reduceMul, Nat.reduceLeDiff, Nat.reduceBEq, Nat.reduceBNe, Int.reduceEq, ↓reduceIte, reduceCtorEq]
          refine ⟨⟨ht2, ?_⟩, (imp_ren 6 3 rfl rfl).trans (imp_sub (by simp (maxSteps := 9000000) -implicitDefEqProofs -dsimp (disch := omega) only [go_sem, g77_0, g77_1, g77_2, g77_3, g77_4, g77_5, g77_6, g77_7, g77_8, g77_9, g77_10, g77_11, g77_12, i77, p1, p2, p3, p4, p5, Nat.reduceEqDiff, Nat.reduceAdd, Nat.reduceMul, Nat.reduceLeDiff, Nat.reduceBEq, Nat.reduceBNe, Int.reduceEq, ↓reduceIte, reduceCtorEq]) (by simp (maxSteps := 9000000) -implicitDefEqProofs -dsimp (disch := omega) only [go_sem, g77_0, g77_1, g77_2, g77_3, g77_4, g77_5, g77_6, g77_7, g77_8, g77_9, g77_10, g77_11, g77_12, i77, p1, p2, p3, p4, p5, Nat.reduceEqDiff, Nat.reduceAdd, Nat.reduceMul, Nat.reduceLeDiff, Nat.reduceBEq, Nat.reduceBNe, Int.reduceEq, ↓reduceIte, reduceCtorEq]) rfl)⟩
          rw [show b + ((hs.length : Int) - (t + 1)) = b + (hs.length - t - 1) by omega]
          exact J2
        · obtain rfl : t = hs.length := by omega
          have p1 : cut (ndO (X hs.length).n) 0 (N * 2) = ndO (X hs.length).n := rows2_cut J.ln
          have p2 : cut ((X hs.length).c.map (T.int .i64)) 0 N = (X hs.length).c.map (T.int .i64) := cut_all (by simp [J.lc])
          simp (maxSteps := 9000000) -implicitDefEqProofs -dsimp (disch := omega) only [go_sem, g77_0, g77_1, g77_2, g77_3, g77_4, g77_5, g77_6, g77_7, g77_8, g77_9, g77_10, g77_11, g77_12, i77, p1, p2, Nat.reduceEqDiff, Nat.reduceAdd, Nat.reduceMul, Nat.reduceLeDiff, Nat.reduceBEq, Nat.reduceBNe, Int.reduceEq, ↓reduceIte, reduceCtorEq]
end Go.Proofs.YtdhclelfnbjikaaT

/- Functions of the program as contracts: a hold is let go. No condition. -/
set_option maxRecDepth 100000
set_option maxHeartbeats 8000000
set_option linter.unusedSimpArgs false
set_option linter.unusedVariables false
namespace Go.Proofs.YtdhclelfnbjikaaT
open Go Go.RowKit
def UnOk (g : Gr) (a b : Int) : Prop := ThereG g a ∧ 0 ≤ b ∧ b < (g.n.getD a.toNat default).h.length
noncomputable instance (g : Gr) (a b : Int) : Decidable (UnOk g a b) := Classical.propDecidable _
/-- the nodes without the hold -/
def cutN (g : Gr) (a b : Nat) : List Nd := g.n.set a ⟨delF (g.n.getD a default).h b, (g.n.getD a default).g⟩
def unF (g : Gr) (a b : Nat) : Ls := lessF (g.n.length + 1) ⟨cutN g a b, g.c, []⟩ ((g.n.getD a default).h.getD b default).toNat
theorem bd_cntN {n : List Nd} : ∀ {b : List Int} {k : Nat}, Bd b k → (∀ x ∈ n, x.h.length ≤ 6) → Bd (cntN b n) (k + 6 * n.length) := by
  induction n with
  | nil => intro b k h _; exact h
  | cons x n ih =>
    intro b k h hx
    have h1 := hx x List.mem_cons_self
    have := ih (b := x.h.foldl incF b) (k := k + 6) (bd_mono (bd_fold h) (by omega)) (fun y hy => hx y (List.mem_cons_of_mem _ hy))
    simp only [cntN, List.foldl_cons, List.length_cons] at this ⊢
    exact bd_mono this (by omega)
theorem bd_counts {n : List Nd} {r : List Int} (h : NodesOk n r) : Bd (countsF n r) 100 := by
  have h6 : ∀ x ∈ n, x.h.length ≤ 6 := fun x hx => by
    obtain ⟨j, hj, rfl⟩ := mem_getD hx
    exact (h.1 j hj).2.1
  have h1 : Bd (cntR n.length r) (0 + r.length) := bd_fold bd_rep
  have := bd_cntN h1 h6
  have h3 := h.2.2.1
  have h4 := h.2.2.2
  exact bd_mono this (by omega)
theorem ntt_6 {l : List Nd} (h : ∀ x ∈ l, x.h.length ≤ 6) : ntt l ≤ 6 * l.length := by
  induction l with
  | nil => simp [ntt]
  | cons x l ih =>
    have h1 := h x List.mem_cons_self
    have := ih fun y hy => h y (List.mem_cons_of_mem _ hy)
    simp only [ntt, List.map_cons, List.sum_cons, List.length_cons] at *
    omega
theorem set_same {α : Type} {l : List α} {i : Nat} {x : α} (h : l[i]? = some x) : l = l.set i x := by
  apply List.ext_getElem?
  intro j
  rw [List.getElem?_set]
  split
  · rename_i e; subst e
    have := (List.getElem?_eq_some_iff.1 h).1
    rw [if_pos this, h]
  · rfl
theorem delF_mem {l : List Int} {i : Nat} {y : Int} (h : y ∈ delF l i) : y ∈ l := by
  rcases List.mem_append.1 h with h | h
  · exact List.mem_of_mem_take h
  · exact List.mem_of_mem_drop h
theorem cut_inv {g : Gr} {a b : Nat} (hG : GoodG g) (hb : b < (g.n.getD a default).h.length) (ha : a < g.n.length) : LInv g.n.length (-100 + 1) ⟨cutN g a b, g.c, []⟩ := by
  obtain ⟨hN, hC, hz⟩ := hG
  have hB := bd_counts hN
  rw [← hC] at hB
  have cl : g.c.length = g.n.length := by rw [hC, countsF_len]
  have h6 : ∀ x ∈ g.n, x.h.length ≤ 6 := fun x hx => by
    obtain ⟨j, hj, rfl⟩ := mem_getD hx
    exact (hN.1 j hj).2.1
  have hn := ntt_6 (l := cutN g a b) (fun x hx => by
    rcases List.mem_or_eq_of_mem_set hx with hx | rfl
    · exact h6 x hx
    · have := h6 _ (getD_mem ha)
      simp only
      rw [delF_len hb]; omega)
  have h14 := hN.2.2.1
  have hcl : (cutN g a b).length = g.n.length := by simp [cutN]
  rw [hcl] at hn
  refine ⟨hcl, cl, fun i hi y hy => ?_, fun j hj => ?_, fun j hj => ?_, ?_⟩
  · simp only [cutN, getD_set] at hy
    split at hy
    · rename_i e
      obtain ⟨rfl, _⟩ := e
      have := (hN.1 a hi).1 y (delF_mem hy)
      exact ⟨this.1, this.2.1⟩
    · have := (hN.1 i hi).1 y hy
      exact ⟨this.1, this.2.1⟩
  · have := (bd_get (k := j) hB).1
    simp only; omega
  · have := (bd_get (k := j) hB).2
    simp only; omega
  · simp only [List.length_nil]; omega
noncomputable def UnRes (g : Gr) (a b : Int) : TV := if UnOk g a b then .tup [.agg [.sl true 2 g.n.length (ndO (unF g a.toNat b.toNat).n), (.sl true 1 g.r.length (g.r.map (T.int .i64))), .sl true 1 g.n.length ((unF g a.toNat b.toNat).c.map (T.int .i64))], .one (.sl true 1 ((unF g a.toNat b.toNat).go).length (((unF g a.toNat b.toNat).go).map (T.int .i64))), .one (.bool true)]
  else .tup [.agg [.sl true 0 0 [], .sl true 0 0 [], .sl true 0 0 []], .one (.sl true 0 0 []), .one (.bool false)]
def g43_0 : List Gop := [⟨none, (some 3), (.box (.t 0))⟩, ⟨none, (some 6), (.alloc [.nil, .nil, .nil])⟩, ⟨none, (some 7), (.mov (.k (.one .nil)))⟩, ⟨none, (some 8), (.mov (.k (.one (.bool .false))))⟩]
def g43_1 : List Gop := [⟨none, (some 12), (.load (some 3) (.t 3))⟩, ⟨none, (some 13), (.mov (.t 1))⟩, ⟨none, (some 14), (.call 70 [(.t 12), (.t 13)])⟩, ⟨none, (some 15), (.un .not (.t 14))⟩, ⟨none, (some 16), (.mov (.t 15))⟩, ⟨(some (16, .false)), (some 17), (.mov (.t 2))⟩, ⟨(some (16, .false)), (some 18), (.bin .lss (.t 17) (.k (.one (.int .i64 0))))⟩, ⟨none, (some 19), (.pick (.t 16) (.k (.one (.bool .true))) (.t 18))⟩, ⟨none, (some 20), (.mov (.t 19))⟩, ⟨(some (20, .false)), (some 21), (.mov (.t 2))⟩, ⟨(some (20, .false)), (some 22), (.faddr (.t 3) 0)⟩, ⟨(some (20, .false)), (some 23), (.load none (.t 22))⟩, ⟨(some (20, .false)), (some 24), (.mov (.t 1))⟩, ⟨(some (20, .false)), (some 25), (.iaddr 2 (.t 23) (.t 24))⟩, ⟨(some (20, .false)), (some 26), (.faddr (.t 25) 0)⟩, ⟨(some (20, .false)), (some 27), (.load none (.t 26))⟩, ⟨(some (20, .false)), (some 28), (.len (.t 27))⟩, ⟨(some (20, .false)), (some 29), (.bin .geq (.t 21) (.t 28))⟩, ⟨none, (some 30), (.pick (.t 20) (.k (.one (.bool .true))) (.t 29))⟩]
def g43_2 : List Gop := [⟨none, (some 31), (.build [.nil, .nil, .nil] [])⟩, ⟨none, none, (.store 3 (.t 6) (.t 31))⟩, ⟨none, (some 7), (.mov (.k (.one .nil)))⟩, ⟨none, (some 8), (.mov (.k (.one (.bool .false))))⟩]
def g43_3 : List Gop := [⟨none, (some 32), (.load (some 3) (.t 3))⟩, ⟨none, (some 33), (.call 65 [(.t 32)])⟩, ⟨none, (some 9), (.alloc [.nil, .nil, .nil])⟩, ⟨none, none, (.store 3 (.t 9) (.t 33))⟩]
def g43_4 : List Gop := [⟨none, (some 34), (.faddr (.t 9) 0)⟩, ⟨none, (some 35), (.load none (.t 34))⟩, ⟨none, (some 36), (.mov (.t 1))⟩, ⟨none, (some 37), (.iaddr 2 (.t 35) (.t 36))⟩, ⟨none, (some 38), (.faddr (.t 37) 0)⟩, ⟨none, (some 39), (.load none (.t 38))⟩, ⟨none, (some 40), (.mov (.t 2))⟩, ⟨none, (some 41), (.iaddr 1 (.t 39) (.t 40))⟩, ⟨none, (some 42), (.load none (.t 41))⟩, ⟨none, (some 10), (.mov (.t 42))⟩]
def g43_5 : List Gop := [⟨none, (some 43), (.faddr (.t 9) 0)⟩, ⟨none, (some 44), (.load none (.t 43))⟩, ⟨none, (some 45), (.mov (.t 1))⟩, ⟨none, (some 46), (.faddr (.t 9) 0)⟩, ⟨none, (some 47), (.load none (.t 46))⟩, ⟨none, (some 48), (.mov (.t 1))⟩, ⟨none, (some 49), (.iaddr 2 (.t 47) (.t 48))⟩, ⟨none, (some 50), (.faddr (.t 49) 0)⟩, ⟨none, (some 51), (.load none (.t 50))⟩, ⟨none, (some 52), (.mov (.t 2))⟩, ⟨none, (some 53), (.call 73 [(.t 51), (.t 52)])⟩, ⟨none, (some 54), (.iaddr 2 (.t 44) (.t 45))⟩, ⟨none, (some 55), (.faddr (.t 54) 0)⟩, ⟨none, none, (.store 1 (.t 55) (.t 53))⟩]
def a43_5 : List (List Nat) := [[], [0], [], [], [3], [], [3, 4, 5], [3, 4, 5, 6], [3, 4, 5, 6, 7], [], [3, 4, 5, 6, 7, 8, 9], [0, 1, 2, 3, 4, 5, 6, 7, 8, 9, 10], [0, 1, 2, 3, 4, 5, 6, 7, 8, 9, 10, 11], [0, 1, 2, 3, 4, 5, 6, 7, 8, 9, 10, 11, 12]]
def n43_5 : Nat := 11 -- of 14
def g43_6 : List Gop := [⟨none, (some 56), (.load (some 3) (.t 9))⟩, ⟨none, (some 57), (.mov (.t 10))⟩, ⟨none, (some 58), (.call 74 [(.t 56), (.t 57), (.k (.one .nil))])⟩, ⟨none, (some 11), (.mov (.t 58))⟩]
def g43_7 : List Gop := [⟨none, (some 59), (.load (some 3) (.t 9))⟩, ⟨none, (some 60), (.call 65 [(.t 59)])⟩, ⟨none, (some 61), (.mov (.t 11))⟩, ⟨none, none, (.store 3 (.t 6) (.t 60))⟩, ⟨none, (some 7), (.mov (.t 61))⟩, ⟨none, (some 8), (.mov (.k (.one (.bool .true))))⟩]
def i43 : Ir := (.seq (.region g43_0) (.seq (.seq (.region g43_1) (.cond (.t 30) (.seq (.region g43_2) .ret) .skip)) (.seq (.region g43_3) (.seq (.region g43_4) (.seq (.draw [[], [0], [], [], [3], [], [4, 5], [6], [7], [], [8, 9], [1, 2, 0, 1, 2, 3, 4, 5, 6, 7, 8, 9, 10], [11, 0, 1, 2, 3, 4, 5, 6, 7, 8, 9, 10], [12, 10, 10, 0, 1, 2, 3, 4, 5, 6, 7, 8, 9, 10]] g43_5) (.seq (.region g43_6) (.seq (.region g43_7) .ret)))))))
theorem specUnlink_ok (g : Gr) (a b : Int) (s : Small g) : Meets Try.prog 43 [.agg [.sl false 2 g.n.length (ndR g.n), (.sl false 1 g.r.length (g.r.map (T.int .i64))), (.sl false 1 g.c.length (g.c.map (T.int .i64)))], .one (.int .i64 a), .one (.int .i64 b)] (UnRes g a b) [.agg [.hole, .hole, .hole], .one .hole, .one .hole] := by
  have q1 := ndO_cut (l := g.n)
  have q2 := ndR_cut (l := g.n)
  have q3 := ndO_noRo (l := g.n)
  have M1 := l10There_ok g a s.n s.h s.r s.c
  by_cases hT : ThereG g a
  · rw [decide_eq_true hT] at M1
    have ha := hT.2.1
    have ha2 := hT.2.2.1
    have a3 : a.toNat < g.n.length := by omega
    have a4 : (a.toNat : Int) = a := Int.toNat_of_nonneg ha
    by_cases h1 : b < 0
    · rw [UnRes, if_neg (fun w : UnOk g a b => by have := w.2.1; omega)]
      refine meets_go (ir := i43) (fn := Try.f43) (rx := [(.cell 6 (some 3)), (.tmp 7), (.tmp 8)]) rfl rfl (by rfl) (by rfl) (by exact Nat.le_of_ble_eq_true rfl) ?_
      simp (maxSteps := 9000000) -implicitDefEqProofs -dsimp (disch := omega) only [go_sem, g43_0, g43_1, g43_2, g43_3, g43_4, g43_5, a43_5, n43_5, g43_6, g43_7, i43, q2, Nat.reduceEqDiff, Nat.reduceAdd, Nat.reduceMul, Nat.reduceLeDiff, Nat.reduceBEq, Nat.reduceBNe, Int.reduceEq, ↓reduceIte, reduceCtorEq]
      refine call_go true M1 ?_
      simp (maxSteps := 9000000) -implicitDefEqProofs -dsimp (disch := omega) only [go_sem, g43_0, g43_1, g43_2, g43_3, g43_4, g43_5, a43_5, n43_5, g43_6, g43_7, i43, lt_T, lt_F, le_T, le_F, eq_T, eq_F, and_F, q2, h1, Nat.reduceEqDiff, Nat.reduceAdd, Nat.reduceMul, Nat.reduceLeDiff, Nat.reduceBEq, Nat.reduceBNe, Int.reduceEq, ↓reduceIte, reduceCtorEq]
    · by_cases h2 : ((g.n.getD a.toNat default).h.length : Int) ≤ b
      · rw [UnRes, if_neg (fun w : UnOk g a b => by have := w.2.2; omega)]
        refine meets_go (ir := i43) (fn := Try.f43) (rx := [(.cell 6 (some 3)), (.tmp 7), (.tmp 8)]) rfl rfl (by rfl) (by rfl) (by exact Nat.le_of_ble_eq_true rfl) ?_
        simp (maxSteps := 9000000) -implicitDefEqProofs -dsimp (disch := omega) only [go_sem, g43_0, g43_1, g43_2, g43_3, g43_4, g43_5, a43_5, n43_5, g43_6, g43_7, i43, q2, Nat.reduceEqDiff, Nat.reduceAdd, Nat.reduceMul, Nat.reduceLeDiff, Nat.reduceBEq, Nat.reduceBNe, Int.reduceEq, ↓reduceIte, reduceCtorEq]
        refine call_go true M1 ?_
        simp (maxSteps := 9000000) -implicitDefEqProofs -dsimp (disch := omega) only [go_sem, g43_0, g43_1, g43_2, g43_3, g43_4, g43_5, a43_5, n43_5, g43_6, g43_7, i43, lt_T, lt_F, le_T, le_F, eq_T, eq_F, and_F, q2, h1, h2, ndR_0 a3, ndR_1 a3, Nat.reduceEqDiff, Nat.reduceAdd, Nat.reduceMul, Nat.reduceLeDiff, Nat.reduceBEq, Nat.reduceBNe, Int.reduceEq, ↓reduceIte, reduceCtorEq]
      · rw [UnRes, if_pos (show UnOk g a b from ⟨hT, by omega, by omega⟩)]
        refine meets_go (ir := i43) (fn := Try.f43) (rx := [(.cell 6 (some 3)), (.tmp 7), (.tmp 8)]) rfl rfl (by rfl) (by rfl) (by exact Nat.le_of_ble_eq_true rfl) ?_
        simp (maxSteps := 9000000) -implicitDefEqProofs -dsimp (disch := omega) only [go_sem, g43_0, g43_1, g43_2, g43_3, g43_4, g43_5, a43_5, n43_5, g43_6, g43_7, i43, q2, Nat.reduceEqDiff, Nat.reduceAdd, Nat.reduceMul, Nat.reduceLeDiff, Nat.reduceBEq, Nat.reduceBNe, Int.reduceEq, ↓reduceIte, reduceCtorEq]
        refine call_go true M1 ?_
        simp (maxSteps := 9000000) -implicitDefEqProofs -dsimp (disch := omega) only [go_sem, g43_0, g43_1, g43_2, g43_3, g43_4, g43_5, a43_5, n43_5, g43_6, g43_7, i43, lt_T, lt_F, le_T, le_F, eq_T, eq_F, and_F, q2, h1, h2, ndR_0 a3, ndR_1 a3, Nat.reduceEqDiff, Nat.reduceAdd, Nat.reduceMul, Nat.reduceLeDiff, Nat.reduceBEq, Nat.reduceBNe, Int.reduceEq, ↓reduceIte, reduceCtorEq]
        refine call_go true (l10Own_ok g s) ?_
        have b4 : (b.toNat : Int) = b := Int.toNat_of_nonneg (by omega)
        have b3 : b.toNat < (g.n.getD a.toNat default).h.length := by omega
        have hcut := cut_inv hT.1 b3 a3
        have hx := (hT.1.1.1 _ a3).1 _ (getD_mem b3)
        have M2 := l10Without_ok (g.n.getD a.toNat default).h b.toNat b3 (s.h _ (getD_mem a3))
        have M3 := l10Less_ok (g.n.length + 1) ⟨cutN g a.toNat b.toNat, g.c, []⟩ g.r ((g.n.getD a.toNat default).h.getD b.toNat default).toNat (-100) (by have := hx.2.1; omega) (by have := hx.2.1; omega) s.n (by omega) s.r hcut
        have J3 := lessF_inv (g.n.length + 1) ⟨cutN g a.toNat b.toNat, g.c, []⟩ ((g.n.getD a.toNat default).h.getD b.toNat default).toNat (-100) (by have := hx.2.1; omega) hcut
        have hU : lessF (g.n.length + 1) ⟨cutN g a.toNat b.toNat, g.c, []⟩ ((g.n.getD a.toNat default).h.getD b.toNat default).toNat = unF g a.toNat b.toNat := rfl
        rw [hU] at M3 J3
        rw [Int.toNat_of_nonneg hx.1] at M3
        rw [b4] at M2
        have n0 := ndO_0 a3
        have n1 := ndO_1 a3
        have hs6 := s.h _ (getD_mem a3)
        have cl : g.c.length = g.n.length := by rw [hT.1.2.1, countsF_len]
        have eC : (ndO g.n).set (a.toNat * 2) (.sl true 1 (delF (g.n.getD a.toNat default).h b.toNat).length ((delF (g.n.getD a.toNat default).h b.toNat).map (T.int .i64))) = ndO (cutN g a.toNat b.toNat) := by
          have := ndO_set ⟨delF (g.n.getD a.toNat default).h b.toNat, (g.n.getD a.toNat default).g⟩ a3
          simp only at this
          rw [cutN, ← this, List.set_comm _ _ (by omega)]
          exact congrArg (fun z => List.set z _ _) (set_same n1)
        generalize hH : (g.n.getD a.toNat default).h = hs at *
        generalize hDl : delF hs b.toNat = hs2 at *
        generalize hUn : unF g a.toNat b.toNat = U at *
        generalize hCu : cutN g a.toNat b.toNat = cn at *
        have p1 : cut (ndO cn) 0 (g.n.length * 2) = ndO cn := rows2_cut hcut.ln
        have p3 : noRoL (ndO U.n) = true := ndO_noRo
        have p4 : cut (ndO U.n) 0 (g.n.length * 2) = ndO U.n := rows2_cut J3.ln
        have p5 : cut (U.c.map (T.int .i64)) 0 g.n.length = U.c.map (T.int .i64) := cut_all (by simp [J3.lc])
        have p6 : cut (g.c.map (T.int .i64)) 0 g.n.length = g.c.map (T.int .i64) := cut_all (by simp [cl])
        simp only [List.length_nil, List.map_nil] at M3
        simp (maxSteps := 9000000) -implicitDefEqProofs -dsimp (disch := omega) only [go_sem, g43_0, g43_1, g43_2, g43_3, g43_4, g43_5, a43_5, n43_5, g43_6, g43_7, i43, lt_T, lt_F, le_T, le_F, eq_T, eq_F, and_F, q1, q2, q3, n0, n1, cl, Nat.reduceEqDiff, Nat.reduceAdd, Nat.reduceMul, Nat.reduceLeDiff, Nat.reduceBEq, Nat.reduceBNe, Int.reduceEq, ↓reduceIte, reduceCtorEq]
        refine draw_go n43_5 a43_5 (by decide +kernel) ?_
        simp (maxSteps := 9000000) -implicitDefEqProofs -dsimp (disch := omega) only [go_sem, g43_0, g43_1, g43_2, g43_3, g43_4, g43_5, a43_5, n43_5, g43_6, g43_7, i43, lt_T, lt_F, le_T, le_F, eq_T, eq_F, and_F, q1, q2, q3, n0, n1, cl, Nat.reduceEqDiff, Nat.reduceAdd, Nat.reduceMul, Nat.reduceLeDiff, Nat.reduceBEq, Nat.reduceBNe, Int.reduceEq, ↓reduceIte, reduceCtorEq]
        refine calla_go true M2 ?_
        simp (maxSteps := 9000000) -implicitDefEqProofs -dsimp (disch := omega) only [go_sem, g43_0, g43_1, g43_2, g43_3, g43_4, g43_5, a43_5, n43_5, g43_6, g43_7, i43, lt_T, lt_F, le_T, le_F, eq_T, eq_F, and_F, q1, q2, q3, n0, n1, cl, eC, beq_self_eq_true, Nat.reduceEqDiff, Nat.reduceAdd, Nat.reduceMul, Nat.reduceLeDiff, Nat.reduceBEq, Nat.reduceBNe, Int.reduceEq, ↓reduceIte, reduceCtorEq]
        refine callk_go [(8, [0]), (8, [1]), (8, [2])] true M3 ?_
        have p8 : (ndO U.n).length = g.n.length * 2 := by rw [show (ndO U.n).length = U.n.length * 2 from rows2_len, J3.ln]
        have p9 : (ndO cn).length = g.n.length * 2 := by rw [show (ndO cn).length = cn.length * 2 from rows2_len]; exact congrArg (· * 2) hcut.ln
        have M4 := l10Own_ok ⟨U.n, g.r, U.c⟩ ⟨by simp only [J3.ln]; exact s.n, fun x hx => by have h1 : (x.h.length : Int) ≤ ntt U.n := mem_ntt hx; have := J3.gl; omega, s.r, by simp only [J3.lc]; exact s.n⟩
        simp only [J3.ln, J3.lc] at M4
        have p10 : (ndO U.n).map toRo = ndR U.n := ndO_ro
        simp (maxSteps := 9000000) -implicitDefEqProofs -dsimp (disch := omega) only [go_sem, g43_0, g43_1, g43_2, g43_3, g43_4, g43_5, a43_5, n43_5, g43_6, g43_7, i43, lt_T, lt_F, le_T, le_F, eq_T, eq_F, and_F, p1, p3, p4, p5, p6, p8, p9, cl, J3.lc, beq_self_eq_true, Nat.reduceEqDiff, Nat.reduceAdd, Nat.reduceMul, Nat.reduceLeDiff, Nat.reduceBEq, Nat.reduceBNe, Int.reduceEq, ↓reduceIte, reduceCtorEq]
        refine call_go true M4 ?_
        simp (maxSteps := 9000000) -implicitDefEqProofs -dsimp (disch := omega) only [go_sem, g43_0, g43_1, g43_2, g43_3, g43_4, g43_5, a43_5, n43_5, g43_6, g43_7, i43, lt_T, lt_F, le_T, le_F, eq_T, eq_F, and_F, p1, p3, p4, p5, p6, p8, p9, p10, cl, J3.lc, beq_self_eq_true, Nat.reduceEqDiff, Nat.reduceAdd, Nat.reduceMul, Nat.reduceLeDiff, Nat.reduceBEq, Nat.reduceBNe, Int.reduceEq, ↓reduceIte, reduceCtorEq]
  · rw [decide_eq_false hT] at M1
    rw [UnRes, if_neg (fun w : UnOk g a b => hT w.1)]
    refine meets_go (ir := i43) (fn := Try.f43) (rx := [(.cell 6 (some 3)), (.tmp 7), (.tmp 8)]) rfl rfl (by rfl) (by rfl) (by exact Nat.le_of_ble_eq_true rfl) ?_
    simp (maxSteps := 9000000) -implicitDefEqProofs -dsimp (disch := omega) only [go_sem, g43_0, g43_1, g43_2, g43_3, g43_4, g43_5, a43_5, n43_5, g43_6, g43_7, i43, q2, Nat.reduceEqDiff, Nat.reduceAdd, Nat.reduceMul, Nat.reduceLeDiff, Nat.reduceBEq, Nat.reduceBNe, Int.reduceEq, ↓reduceIte, reduceCtorEq]
    refine call_go true M1 ?_
    simp (maxSteps := 9000000) -implicitDefEqProofs -dsimp (disch := omega) only [go_sem, g43_0, g43_1, g43_2, g43_3, g43_4, g43_5, a43_5, n43_5, g43_6, g43_7, i43, lt_T, lt_F, le_T, le_F, eq_T, eq_F, and_F, q2, Nat.reduceEqDiff, Nat.reduceAdd, Nat.reduceMul, Nat.reduceLeDiff, Nat.reduceBEq, Nat.reduceBNe, Int.reduceEq, ↓reduceIte, reduceCtorEq]
end Go.Proofs.YtdhclelfnbjikaaT

/- Functions of the program as contracts: a hold is let go, by the program. No condition. -/
set_option maxRecDepth 100000
set_option maxHeartbeats 8000000
set_option linter.unusedSimpArgs false
set_option linter.unusedVariables false
namespace Go.Proofs.YtdhclelfnbjikaaT
open Go Go.RowKit
theorem theres_1 {g : Gr} {a : Int} : TheresG g [a] ↔ ThereG g a := by simp [TheresG, ThereG]
def g44_0 : List Gop := [⟨none, (some 3), (.box (.t 0))⟩, ⟨none, (some 6), (.alloc [.nil, .nil, .nil])⟩, ⟨none, (some 7), (.mov (.k (.one .nil)))⟩, ⟨none, (some 8), (.mov (.k (.one (.bool .false))))⟩]
def g44_1 : List Gop := [⟨none, (some 10), (.load (some 3) (.t 3))⟩, ⟨none, (some 11), (.mov (.t 1))⟩, ⟨none, (some 12), (.lit 1 1 [(.int .i64 0)] [(0, (.t 11))])⟩, ⟨none, (some 13), (.call 71 [(.t 10), (.t 12)])⟩, ⟨none, (some 14), (.un .not (.t 13))⟩, ⟨none, (some 15), (.mov (.t 14))⟩, ⟨(some (15, .false)), (some 16), (.mov (.t 2))⟩, ⟨(some (15, .false)), (some 17), (.faddr (.t 3) 0)⟩, ⟨(some (15, .false)), (some 18), (.load none (.t 17))⟩, ⟨(some (15, .false)), (some 19), (.mov (.t 1))⟩, ⟨(some (15, .false)), (some 20), (.iaddr 2 (.t 18) (.t 19))⟩, ⟨(some (15, .false)), (some 21), (.faddr (.t 20) 0)⟩, ⟨(some (15, .false)), (some 22), (.load none (.t 21))⟩, ⟨(some (15, .false)), (some 23), (.len (.t 22))⟩, ⟨(some (15, .false)), (some 24), (.bin .sub (.t 23) (.k (.one (.int .i64 1))))⟩, ⟨(some (15, .false)), (some 25), (.call 75 [(.t 16), (.k (.one (.int .i64 0))), (.t 24)])⟩, ⟨(some (15, .false)), (some 26), (.un .not (.t 25))⟩, ⟨none, (some 27), (.pick (.t 15) (.k (.one (.bool .true))) (.t 26))⟩]
def g44_2 : List Gop := [⟨none, (some 28), (.build [.nil, .nil, .nil] [])⟩, ⟨none, none, (.store 3 (.t 6) (.t 28))⟩, ⟨none, (some 7), (.mov (.k (.one .nil)))⟩, ⟨none, (some 8), (.mov (.k (.one (.bool .false))))⟩]
def g44_3 : List Gop := [⟨none, (some 29), (.load (some 3) (.t 3))⟩, ⟨none, (some 30), (.call 66 [(.t 29)])⟩, ⟨none, (some 9), (.alloc [.nil, .nil, .nil])⟩, ⟨none, none, (.store 3 (.t 9) (.t 30))⟩]
def g44_4 : List Gop := [⟨none, (some 31), (.faddr (.t 9) 0)⟩, ⟨none, (some 32), (.load none (.t 31))⟩, ⟨none, (some 33), (.mov (.t 1))⟩, ⟨none, (some 34), (.faddr (.t 9) 0)⟩, ⟨none, (some 35), (.load none (.t 34))⟩, ⟨none, (some 36), (.mov (.t 1))⟩, ⟨none, (some 37), (.iaddr 2 (.t 35) (.t 36))⟩, ⟨none, (some 38), (.faddr (.t 37) 0)⟩, ⟨none, (some 39), (.load none (.t 38))⟩, ⟨none, (some 40), (.mov (.t 2))⟩, ⟨none, (some 41), (.mov (.t 2))⟩, ⟨none, (some 42), (.bin .add (.t 41) (.k (.one (.int .i64 1))))⟩, ⟨none, (some 43), (.call 76 [(.t 39), (.t 40), (.t 42)])⟩, ⟨none, (some 44), (.iaddr 2 (.t 32) (.t 33))⟩, ⟨none, (some 45), (.faddr (.t 44) 0)⟩, ⟨none, none, (.store 1 (.t 45) (.t 43))⟩]
def a44_4 : List (List Nat) := [[], [0], [], [], [3], [], [3, 4, 5], [3, 4, 5, 6], [3, 4, 5, 6, 7], [], [], [10], [3, 4, 5, 6, 7, 8, 9, 10, 11], [0, 1, 2, 3, 4, 5, 6, 7, 8, 9, 10, 11, 12], [0, 1, 2, 3, 4, 5, 6, 7, 8, 9, 10, 11, 12, 13], [0, 1, 2, 3, 4, 5, 6, 7, 8, 9, 10, 11, 12, 13, 14]]
def n44_4 : Nat := 13 -- of 16
def g44_5 : List Gop := [⟨none, (some 46), (.load (some 3) (.t 9))⟩, ⟨none, (some 47), (.load (some 3) (.t 9))⟩, ⟨none, (some 48), (.faddr (.t 3) 0)⟩, ⟨none, (some 49), (.load none (.t 48))⟩, ⟨none, (some 50), (.mov (.t 1))⟩, ⟨none, (some 51), (.iaddr 2 (.t 49) (.t 50))⟩, ⟨none, (some 52), (.faddr (.t 51) 0)⟩, ⟨none, (some 53), (.load none (.t 52))⟩, ⟨none, (some 54), (.mov (.t 2))⟩, ⟨none, (some 55), (.iaddr 1 (.t 53) (.t 54))⟩, ⟨none, (some 56), (.load none (.t 55))⟩, ⟨none, (some 57), (.call 77 [(.t 47), (.t 56), (.k (.one .nil))])⟩, ⟨none, none, (.store 3 (.t 6) (.t 46))⟩, ⟨none, (some 7), (.mov (.t 57))⟩, ⟨none, (some 8), (.mov (.k (.one (.bool .true))))⟩]
def a44_5 : List (List Nat) := [[], [], [], [2], [], [2, 3, 4], [2, 3, 4, 5], [2, 3, 4, 5, 6], [], [2, 3, 4, 5, 6, 7, 8], [2, 3, 4, 5, 6, 7, 8, 9], [1, 2, 3, 4, 5, 6, 7, 8, 9, 10], [0, 1, 2, 3, 4, 5, 6, 7, 8, 9, 10, 11], [0, 1, 2, 3, 4, 5, 6, 7, 8, 9, 10, 11, 12], [0, 1, 2, 3, 4, 5, 6, 7, 8, 9, 10, 11, 12, 13]]
def n44_5 : Nat := 12 -- of 15
def i44 : Ir := (.seq (.region g44_0) (.seq (.seq (.region g44_1) (.cond (.t 27) (.seq (.region g44_2) .ret) .skip)) (.seq (.region g44_3) (.seq (.draw [[], [0], [], [], [3], [], [4, 5], [6], [7], [], [], [10], [8, 9, 11], [1, 2, 0, 1, 2, 3, 4, 5, 6, 7, 8, 9, 10, 11, 12], [13, 0, 1, 2, 3, 4, 5, 6, 7, 8, 9, 10, 11, 12], [14, 12, 12, 0, 1, 2, 3, 4, 5, 6, 7, 8, 9, 10, 11, 12]] g44_4) (.seq (.draw [[], [], [], [2], [], [3, 4], [5], [6], [], [7, 8], [9], [1, 10], [0, 11, 0], [11, 12, 0, 1, 2, 3, 4, 5, 6, 7, 8, 9, 10, 11, 12], [13, 0, 1, 2, 3, 4, 5, 6, 7, 8, 9, 10, 11, 12, 13]] g44_5) .ret)))))
theorem implUnlink_ok (g : Gr) (a b : Int) (s : Small g) : Meets Try.prog 44 [.agg [.sl false 2 g.n.length (ndR g.n), (.sl false 1 g.r.length (g.r.map (T.int .i64))), (.sl false 1 g.c.length (g.c.map (T.int .i64)))], .one (.int .i64 a), .one (.int .i64 b)] (UnRes g a b) [.agg [.hole, .hole, .hole], .one .hole, .one .hole] := by
  have q1 := ndO_cut (l := g.n)
  have q2 := ndR_cut (l := g.n)
  have q3 := ndO_noRo (l := g.n)
  have M1 := isThere_ok g [a] (by simp) s.n s.h s.r s.c
  simp only [List.length_cons, List.length_nil, List.map_cons, List.map_nil, Nat.zero_add] at M1
  by_cases hT : ThereG g a
  · rw [decide_eq_true (theres_1.2 hT)] at M1
    have ha := hT.2.1
    have ha2 := hT.2.2.1
    have a3 : a.toNat < g.n.length := by omega
    have a4 : (a.toNat : Int) = a := Int.toNat_of_nonneg ha
    have hs6 := s.h _ (getD_mem a3)
    have MW := within_ok b 0 (((g.n.getD a.toNat default).h.length : Int) - 1)
    by_cases h1 : 0 ≤ b ∧ b ≤ ((g.n.getD a.toNat default).h.length : Int) - 1
    · rw [decide_eq_true h1] at MW
      rw [UnRes, if_pos (show UnOk g a b from ⟨hT, by omega, by omega⟩)]
      refine meets_go (ir := i44) (fn := Try.f44) (rx := [(.cell 6 (some 3)), (.tmp 7), (.tmp 8)]) rfl rfl (by rfl) (by rfl) (by exact Nat.le_of_ble_eq_true rfl) ?_
      simp (maxSteps := 9000000) -implicitDefEqProofs -dsimp (disch := omega) only [go_sem, g44_0, g44_1, g44_2, g44_3, g44_4, a44_4, n44_4, g44_5, a44_5, n44_5, i44, q2, Nat.reduceEqDiff, Nat.reduceAdd, Nat.reduceMul, Nat.reduceLeDiff, Nat.reduceBEq, Nat.reduceBNe, Int.reduceEq, ↓reduceIte, reduceCtorEq]
      refine call_go true M1 ?_
      simp (maxSteps := 9000000) -implicitDefEqProofs -dsimp (disch := omega) only [go_sem, g44_0, g44_1, g44_2, g44_3, g44_4, a44_4, n44_4, g44_5, a44_5, n44_5, i44, lt_T, lt_F, le_T, le_F, eq_T, eq_F, and_F, q2, ndR_0 a3, ndR_1 a3, Nat.reduceEqDiff, Nat.reduceAdd, Nat.reduceMul, Nat.reduceLeDiff, Nat.reduceBEq, Nat.reduceBNe, Int.reduceEq, ↓reduceIte, reduceCtorEq]
      refine call_go true MW ?_
      simp (maxSteps := 9000000) -implicitDefEqProofs -dsimp (disch := omega) only [go_sem, g44_0, g44_1, g44_2, g44_3, g44_4, a44_4, n44_4, g44_5, a44_5, n44_5, i44, lt_T, lt_F, le_T, le_F, eq_T, eq_F, and_F, q2, ndR_0 a3, ndR_1 a3, Nat.reduceEqDiff, Nat.reduceAdd, Nat.reduceMul, Nat.reduceLeDiff, Nat.reduceBEq, Nat.reduceBNe, Int.reduceEq, ↓reduceIte, reduceCtorEq]
      refine call_go true (ownGraph_ok g s) ?_
      have b4 : (b.toNat : Int) = b := Int.toNat_of_nonneg (by omega)
      have b3 : b.toNat < (g.n.getD a.toNat default).h.length := by omega
      have hcut := cut_inv hT.1 b3 a3
      have hx := (hT.1.1.1 _ a3).1 _ (getD_mem b3)
      have M2 := delInt_ok (g.n.getD a.toNat default).h b.toNat b3 (s.h _ (getD_mem a3))
      have M3 := release_ok (g.n.length + 1) ⟨cutN g a.toNat b.toNat, g.c, []⟩ g.r ((g.n.getD a.toNat default).h.getD b.toNat default).toNat (-100) (by have := hx.2.1; omega) (by have := hx.2.1; omega) s.n (by omega) s.r hcut
      have J3 := lessF_inv (g.n.length + 1) ⟨cutN g a.toNat b.toNat, g.c, []⟩ ((g.n.getD a.toNat default).h.getD b.toNat default).toNat (-100) (by have := hx.2.1; omega) hcut
      have hU : lessF (g.n.length + 1) ⟨cutN g a.toNat b.toNat, g.c, []⟩ ((g.n.getD a.toNat default).h.getD b.toNat default).toNat = unF g a.toNat b.toNat := rfl
      rw [hU] at M3 J3
      rw [Int.toNat_of_nonneg hx.1] at M3
      rw [b4] at M2
      have n0 := ndO_0 a3
      have n1 := ndO_1 a3
      have hs6 := s.h _ (getD_mem a3)
      have cl : g.c.length = g.n.length := by rw [hT.1.2.1, countsF_len]
      have eC : (ndO g.n).set (a.toNat * 2) (.sl true 1 (delF (g.n.getD a.toNat default).h b.toNat).length ((delF (g.n.getD a.toNat default).h b.toNat).map (T.int .i64))) = ndO (cutN g a.toNat b.toNat) := by
        have := ndO_set ⟨delF (g.n.getD a.toNat default).h b.toNat, (g.n.getD a.toNat default).g⟩ a3
        simp only at this
        rw [cutN, ← this, List.set_comm _ _ (by omega)]
        exact congrArg (fun z => List.set z _ _) (set_same n1)
      generalize hH : (g.n.getD a.toNat default).h = hs at *
      generalize hDl : delF hs b.toNat = hs2 at *
      generalize hUn : unF g a.toNat b.toNat = U at *
      generalize hCu : cutN g a.toNat b.toNat = cn at *
      have p1 : cut (ndO cn) 0 (g.n.length * 2) = ndO cn := rows2_cut hcut.ln
      have p3 : noRoL (ndO U.n) = true := ndO_noRo
      have p4 : cut (ndO U.n) 0 (g.n.length * 2) = ndO U.n := rows2_cut J3.ln
      have p5 : cut (U.c.map (T.int .i64)) 0 g.n.length = U.c.map (T.int .i64) := cut_all (by simp [J3.lc])
      have p6 : cut (g.c.map (T.int .i64)) 0 g.n.length = g.c.map (T.int .i64) := cut_all (by simp [cl])
      have n2 := ndR_0 a3
      rw [hH] at n2
      simp only [List.length_nil, List.map_nil] at M3
      simp (maxSteps := 9000000) -implicitDefEqProofs -dsimp (disch := omega) only [go_sem, g44_0, g44_1, g44_2, g44_3, g44_4, a44_4, n44_4, g44_5, a44_5, n44_5, i44, lt_T, lt_F, le_T, le_F, eq_T, eq_F, and_F, q1, q2, q3, n0, n1, cl, Nat.reduceEqDiff, Nat.reduceAdd, Nat.reduceMul, Nat.reduceLeDiff, Nat.reduceBEq, Nat.reduceBNe, Int.reduceEq, ↓reduceIte, reduceCtorEq]
      have qn : (ndO g.n).length = g.n.length * 2 := rows2_len
      have e1 : ((ndO g.n).set (a.toNat * 2) T.hole)[a.toNat * 2]? = some .hole := by rw [List.getElem?_set_self (by omega)]
      have eC2 : ((ndO g.n).set (a.toNat * 2) T.hole).set (a.toNat * 2) (.sl true 1 hs2.length (hs2.map (T.int .i64))) = ndO cn := by rw [List.set_set, eC]
      refine drawm_go n44_4 a44_4 [(12, .many [] [0, 1])] (by decide +kernel) ?_
      simp (maxSteps := 9000000) -implicitDefEqProofs -dsimp (disch := omega) only [go_sem, g44_0, g44_1, g44_2, g44_3, g44_4, a44_4, n44_4, g44_5, a44_5, n44_5, i44, lt_T, lt_F, le_T, le_F, eq_T, eq_F, and_F, q1, q2, q3, n0, n1, cl, Nat.reduceEqDiff, Nat.reduceAdd, Nat.reduceMul, Nat.reduceLeDiff, Nat.reduceBEq, Nat.reduceBNe, Int.reduceEq, ↓reduceIte, reduceCtorEq]
      refine call_go true M2 ?_
      simp (maxSteps := 9000000) -implicitDefEqProofs -dsimp (disch := omega) only [go_sem, g44_0, g44_1, g44_2, g44_3, g44_4, a44_4, n44_4, g44_5, a44_5, n44_5, i44, lt_T, lt_F, le_T, le_F, eq_T, eq_F, and_F, q1, q2, q3, n0, n1, cl, beq_self_eq_true, Nat.reduceEqDiff, Nat.reduceAdd, Nat.reduceMul, Nat.reduceLeDiff, Nat.reduceBEq, Nat.reduceBNe, Int.reduceEq, ↓reduceIte, reduceCtorEq]
      refine call_go true M2 ?_
      simp (maxSteps := 9000000) -implicitDefEqProofs -dsimp (disch := omega) only [go_sem, g44_0, g44_1, g44_2, g44_3, g44_4, a44_4, n44_4, g44_5, a44_5, n44_5, i44, lt_T, lt_F, le_T, le_F, eq_T, eq_F, and_F, q1, q2, q3, n0, n1, cl, beq_self_eq_true, Nat.reduceEqDiff, Nat.reduceAdd, Nat.reduceMul, Nat.reduceLeDiff, Nat.reduceBEq, Nat.reduceBNe, Int.reduceEq, ↓reduceIte, reduceCtorEq]
      refine call_go true M2 ?_
      simp (maxSteps := 9000000) -implicitDefEqProofs -dsimp (disch := omega) only [go_sem, g44_0, g44_1, g44_2, g44_3, g44_4, a44_4, n44_4, g44_5, a44_5, n44_5, i44, lt_T, lt_F, le_T, le_F, eq_T, eq_F, and_F, q1, q2, q3, n0, n1, cl, beq_self_eq_true, Nat.reduceEqDiff, Nat.reduceAdd, Nat.reduceMul, Nat.reduceLeDiff, Nat.reduceBEq, Nat.reduceBNe, Int.reduceEq, ↓reduceIte, reduceCtorEq]
      refine call_go true M2 ?_
      simp (maxSteps := 9000000) -implicitDefEqProofs -dsimp (disch := omega) only [go_sem, g44_0, g44_1, g44_2, g44_3, g44_4, a44_4, n44_4, g44_5, a44_5, n44_5, i44, lt_T, lt_F, le_T, le_F, eq_T, eq_F, and_F, q1, q2, q3, n0, n1, cl, beq_self_eq_true, Nat.reduceEqDiff, Nat.reduceAdd, Nat.reduceMul, Nat.reduceLeDiff, Nat.reduceBEq, Nat.reduceBNe, Int.reduceEq, ↓reduceIte, reduceCtorEq]
      refine call_go true M2 ?_
      simp (maxSteps := 9000000) -implicitDefEqProofs -dsimp (disch := omega) only [go_sem, g44_0, g44_1, g44_2, g44_3, g44_4, a44_4, n44_4, g44_5, a44_5, n44_5, i44, lt_T, lt_F, le_T, le_F, eq_T, eq_F, and_F, q1, q2, q3, n0, n1, cl, beq_self_eq_true, e1, eC2, Nat.reduceEqDiff, Nat.reduceAdd, Nat.reduceMul, Nat.reduceLeDiff, Nat.reduceBEq, Nat.reduceBNe, Int.reduceEq, ↓reduceIte, reduceCtorEq]
      have p8 : (ndO U.n).length = g.n.length * 2 := by rw [show (ndO U.n).length = U.n.length * 2 from rows2_len, J3.ln]
      have p9 : (ndO cn).length = g.n.length * 2 := by rw [show (ndO cn).length = cn.length * 2 from rows2_len]; exact congrArg (· * 2) hcut.ln
      refine drawm_go n44_5 a44_5 [(11, .many [] [0])] (by decide +kernel) ?_
      simp (maxSteps := 9000000) -implicitDefEqProofs -dsimp (disch := omega) only [go_sem, g44_0, g44_1, g44_2, g44_3, g44_4, a44_4, n44_4, g44_5, a44_5, n44_5, i44, lt_T, lt_F, le_T, le_F, eq_T, eq_F, and_F, q1, q2, q3, n2, cl, Nat.reduceEqDiff, Nat.reduceAdd, Nat.reduceMul, Nat.reduceLeDiff, Nat.reduceBEq, Nat.reduceBNe, Int.reduceEq, ↓reduceIte, reduceCtorEq]
      refine callke_go [(0, []), (1, []), (2, []), (9, [0]), (9, [1]), (9, [2])] [] true M3 ?_
      simp (maxSteps := 9000000) -implicitDefEqProofs -dsimp (disch := omega) only [go_sem, g44_0, g44_1, g44_2, g44_3, g44_4, a44_4, n44_4, g44_5, a44_5, n44_5, i44, lt_T, lt_F, le_T, le_F, eq_T, eq_F, and_F, p1, p3, p4, p5, p6, p8, p9, cl, J3.lc, beq_self_eq_true, Nat.reduceEqDiff, Nat.reduceAdd, Nat.reduceMul, Nat.reduceLeDiff, Nat.reduceBEq, Nat.reduceBNe, Int.reduceEq, ↓reduceIte, reduceCtorEq]
      refine callke_go [(0, []), (1, []), (2, []), (9, [0]), (9, [1]), (9, [2])] [46] true M3 ?_
      simp (maxSteps := 9000000) -implicitDefEqProofs -dsimp (disch := omega) only [go_sem, g44_0, g44_1, g44_2, g44_3, g44_4, a44_4, n44_4, g44_5, a44_5, n44_5, i44, lt_T, lt_F, le_T, le_F, eq_T, eq_F, and_F, p1, p3, p4, p5, p6, p8, p9, cl, J3.lc, beq_self_eq_true, Nat.reduceEqDiff, Nat.reduceAdd, Nat.reduceMul, Nat.reduceLeDiff, Nat.reduceBEq, Nat.reduceBNe, Int.reduceEq, ↓reduceIte, reduceCtorEq]
      refine callke_go [(0, []), (1, []), (2, []), (9, [0]), (9, [1]), (9, [2])] [] true M3 ?_
      simp (maxSteps := 9000000) -implicitDefEqProofs -dsimp (disch := omega) only [go_sem, g44_0, g44_1, g44_2, g44_3, g44_4, a44_4, n44_4, g44_5, a44_5, n44_5, i44, lt_T, lt_F, le_T, le_F, eq_T, eq_F, and_F, p1, p3, p4, p5, p6, p8, p9, cl, J3.lc, beq_self_eq_true, Nat.reduceEqDiff, Nat.reduceAdd, Nat.reduceMul, Nat.reduceLeDiff, Nat.reduceBEq, Nat.reduceBNe, Int.reduceEq, ↓reduceIte, reduceCtorEq]
    · rw [decide_eq_false h1] at MW
      rw [UnRes, if_neg (fun w : UnOk g a b => h1 ⟨w.2.1, by have := w.2.2; omega⟩)]
      refine meets_go (ir := i44) (fn := Try.f44) (rx := [(.cell 6 (some 3)), (.tmp 7), (.tmp 8)]) rfl rfl (by rfl) (by rfl) (by exact Nat.le_of_ble_eq_true rfl) ?_
      simp (maxSteps := 9000000) -implicitDefEqProofs -dsimp (disch := omega) only [go_sem, g44_0, g44_1, g44_2, g44_3, g44_4, a44_4, n44_4, g44_5, a44_5, n44_5, i44, q2, Nat.reduceEqDiff, Nat.reduceAdd, Nat.reduceMul, Nat.reduceLeDiff, Nat.reduceBEq, Nat.reduceBNe, Int.reduceEq, ↓reduceIte, reduceCtorEq]
      refine call_go true M1 ?_
      simp (maxSteps := 9000000) -implicitDefEqProofs -dsimp (disch := omega) only [go_sem, g44_0, g44_1, g44_2, g44_3, g44_4, a44_4, n44_4, g44_5, a44_5, n44_5, i44, lt_T, lt_F, le_T, le_F, eq_T, eq_F, and_F, q2, ndR_0 a3, ndR_1 a3, Nat.reduceEqDiff, Nat.reduceAdd, Nat.reduceMul, Nat.reduceLeDiff, Nat.reduceBEq, Nat.reduceBNe, Int.reduceEq, ↓reduceIte, reduceCtorEq]
      refine call_go true MW ?_
      simp (maxSteps := 9000000) -implicitDefEqProofs -dsimp (disch := omega) only [go_sem, g44_0, g44_1, g44_2, g44_3, g44_4, a44_4, n44_4, g44_5, a44_5, n44_5, i44, lt_T, lt_F, le_T, le_F, eq_T, eq_F, and_F, q2, ndR_0 a3, ndR_1 a3, Nat.reduceEqDiff, Nat.reduceAdd, Nat.reduceMul, Nat.reduceLeDiff, Nat.reduceBEq, Nat.reduceBNe, Int.reduceEq, ↓reduceIte, reduceCtorEq]
  · rw [decide_eq_false (fun w => hT (theres_1.1 w))] at M1
    rw [UnRes, if_neg (fun w : UnOk g a b => hT w.1)]
    refine meets_go (ir := i44) (fn := Try.f44) (rx := [(.cell 6 (some 3)), (.tmp 7), (.tmp 8)]) rfl rfl (by rfl) (by rfl) (by exact Nat.le_of_ble_eq_true rfl) ?_
    simp (maxSteps := 9000000) -implicitDefEqProofs -dsimp (disch := omega) only [go_sem, g44_0, g44_1, g44_2, g44_3, g44_4, a44_4, n44_4, g44_5, a44_5, n44_5, i44, q2, Nat.reduceEqDiff, Nat.reduceAdd, Nat.reduceMul, Nat.reduceLeDiff, Nat.reduceBEq, Nat.reduceBNe, Int.reduceEq, ↓reduceIte, reduceCtorEq]
    refine call_go true M1 ?_
    simp (maxSteps := 9000000) -implicitDefEqProofs -dsimp (disch := omega) only [go_sem, g44_0, g44_1, g44_2, g44_3, g44_4, a44_4, n44_4, g44_5, a44_5, n44_5, i44, lt_T, lt_F, le_T, le_F, eq_T, eq_F, and_F, q2, Nat.reduceEqDiff, Nat.reduceAdd, Nat.reduceMul, Nat.reduceLeDiff, Nat.reduceBEq, Nat.reduceBNe, Int.reduceEq, ↓reduceIte, reduceCtorEq]
end Go.Proofs.YtdhclelfnbjikaaT

/- Functions of the program as contracts: what the laws of graphs mark and count. No condition. -/
set_option maxRecDepth 100000
set_option maxHeartbeats 8000000
set_option linter.unusedSimpArgs false
set_option linter.unusedVariables false
namespace Go.Proofs.YtdhclelfnbjikaaT
open Go
def mkI (k : Int) (n : Nat) : List Int := (List.range n).map (fun j : Nat => k + (j : Int))
theorem cut_mr {α : Type} {f : α → T} {g : Nat → α} {n : Nat} : cut (List.map f (List.map g (List.range n))) 0 n = List.map f (List.map g (List.range n)) := cut_all (by simp)
/-- where the marks of the node j begin -/
def mkk (l : List Nd) (k : Int) (j : Nat) : Int := k + ntt (l.take j) + j
def mkG (l : List Nd) (k : Int) (j : Nat) : Nd := ⟨mkI (mkk l k j) (l.getD j default).h.length, decide ((mkk l k j + (l.getD j default).h.length).tmod 3 = 0)⟩
def mkN (l : List Nd) (k : Int) : List Nd := (List.range l.length).map (mkG l k)
theorem mkk_0 {l : List Nd} {k : Int} : mkk l k 0 = k := by simp [mkk, ntt]
theorem mkk_s {l : List Nd} {k : Int} {j : Nat} (h : j < l.length) : mkk l k (j + 1) = mkk l k j + (l.getD j default).h.length + 1 := by
  simp only [mkk, ntt_take h]; omega
theorem mkk_lo {l : List Nd} {k : Int} {j : Nat} : k ≤ mkk l k j := by have := ntt_nonneg (l := l.take j); simp only [mkk]; omega
theorem mkk_hi {l : List Nd} {k : Int} {j : Nat} (h : j ≤ l.length) : mkk l k j ≤ k + ntt l + l.length := by have := ntt_le (l := l) (i := j); simp only [mkk]; omega
theorem mkk_end {l : List Nd} {k : Int} : mkk l k l.length = k + ntt l + l.length := by simp only [mkk, List.take_length]
theorem mkI_len {k : Int} {n : Nat} : (mkI k n).length = n := by simp [mkI]
theorem mkN_len {l : List Nd} {k : Int} : (mkN l k).length = l.length := by simp [mkN]
def g21_0 : List Gop := [⟨none, (some 4), (.mov (.k (.one (.int .i64 0))))⟩]
def g21_1 : List Gop := [⟨none, (some 5), (.mov (.k (.one (.int .i64 0))))⟩]
def g21_2 : List Gop := [⟨none, (some 6), (.mov (.t 5))⟩, ⟨none, (some 7), (.mov (.t 0))⟩, ⟨none, (some 8), (.len (.t 7))⟩, ⟨none, (some 9), (.bin .lss (.t 6) (.t 8))⟩]
def g21_3 : List Gop := [⟨none, (some 12), (.mov (.t 0))⟩, ⟨none, (some 13), (.mov (.t 5))⟩, ⟨none, (some 14), (.iaddr 2 (.t 12) (.t 13))⟩, ⟨none, (some 15), (.faddr (.t 14) 0)⟩, ⟨none, (some 16), (.load none (.t 15))⟩, ⟨none, (some 17), (.mov (.t 1))⟩, ⟨none, (some 18), (.call 22 [(.t 16), (.t 17)])⟩, ⟨none, (some 1), (.mov (.t 18))⟩]
def g21_4 : List Gop := [⟨none, (some 19), (.mov (.t 0))⟩, ⟨none, (some 20), (.mov (.t 5))⟩, ⟨none, (some 21), (.mov (.t 1))⟩, ⟨none, (some 22), (.bin .rem (.t 21) (.k (.one (.int .i64 3))))⟩, ⟨none, (some 23), (.bin .eql (.t 22) (.k (.one (.int .i64 0))))⟩, ⟨none, (some 24), (.iaddr 2 (.t 19) (.t 20))⟩, ⟨none, (some 25), (.faddr (.t 24) 1)⟩, ⟨none, none, (.store 1 (.t 25) (.t 23))⟩]
def g21_5 : List Gop := [⟨none, (some 26), (.mov (.t 1))⟩, ⟨none, (some 27), (.bin .add (.t 26) (.k (.one (.int .i64 1))))⟩, ⟨none, (some 1), (.mov (.t 27))⟩]
def g21_6 : List Gop := [⟨none, (some 10), (.mov (.t 5))⟩, ⟨none, (some 11), (.bin .add (.t 10) (.k (.one (.int .i64 1))))⟩, ⟨none, (some 5), (.mov (.t 11))⟩]
def g21_7 : List Gop := [⟨none, (some 28), (.mov (.t 1))⟩, ⟨none, (some 4), (.mov (.t 28))⟩]
def i21 : Ir := (.seq (.region g21_0) (.seq (.seq (.region g21_1) (.block 0 (.loop (.seq (.seq (.region g21_2) (.cond (.t 9) .skip (.exit 0))) (.seq (.block 1 (.seq (.region g21_3) (.seq (.region g21_4) (.region g21_5)))) (.region g21_6)))))) (.seq (.region g21_7) .ret)))
theorem markNodeS_ok (l : List Nd) (k : Int) (h0 : 0 < k) (hk : k ≤ 100000000) (ha : l.length ≤ 1048576) (hs : ntt l ≤ 1048576) : Meets Try.prog 21 [.one (.sl true 2 l.length (ndO l)), .one (.int .i64 k)] (.w (.one (.int .i64 (k + ntt l + l.length)))) [.one (.sl true 2 l.length (ndO (mkN l k))), .one .hole] := by
  refine meets_go (ir := i21) (fn := Try.f21) (rx := [(.tmp 4)]) rfl rfl (by rfl) (by rfl) (by exact Nat.le_of_ble_eq_true rfl) ?_
  simp (maxSteps := 9000000) -implicitDefEqProofs -dsimp (disch := omega) only [go_sem, g21_0, g21_1, g21_2, g21_3, g21_4, g21_5, g21_6, g21_7, i21, Nat.reduceEqDiff, Nat.reduceAdd, Nat.reduceMul, Nat.reduceLeDiff, Nat.reduceBEq, Nat.reduceBNe, Int.reduceEq, ↓reduceIte, reduceCtorEq]
  refine loop_n l.length (fun i => ⟨[(5, .w (.one (.int .i64 (i : Nat)))), (1, .w (.one (.int .i64 (mkk l k i)))), (0, .w (.one (.hs 0 [] 0 2 l.length)))], [(0, .sl true 2 l.length (ndO (mixL (mkG l k) l i)))], [.one (.hs 0 [] 0 2 l.length), .one (.int .i64 k)]⟩) (fun i => True) ?_ trivial ?_
  · exact (imp_sub (by simp (maxSteps := 9000000) -implicitDefEqProofs -dsimp (disch := omega) only [go_sem, g21_0, g21_1, g21_2, g21_3, g21_4, g21_5, g21_6, g21_7, i21, mixL_0, mkk_0, Nat.reduceEqDiff, Nat.reduceAdd, Nat.reduceMul, Nat.reduceLeDiff, Nat.reduceBEq, Nat.reduceBNe, Int.reduceEq, ↓reduceIte, reduceCtorEq]) (by simp (maxSteps := 9000000) -implicitDefEqProofs -dsimp (disch := omega) only [go_sem, g21_0, g21_1, g21_2, g21_3, g21_4, g21_5, g21_6, g21_7, i21, mixL_0, mkk_0, Nat.reduceEqDiff, Nat.reduceAdd, Nat.reduceMul, Nat.reduceLeDiff, Nat.reduceBEq, Nat.reduceBNe, Int.reduceEq, ↓reduceIte, reduceCtorEq]) rfl)
  · intro i hi hJ
    simp (maxSteps := 9000000) -implicitDefEqProofs -dsimp (disch := omega) only [go_sem, g21_0, g21_1, g21_2, g21_3, g21_4, g21_5, g21_6, g21_7, i21, Nat.reduceEqDiff, Nat.reduceAdd, Nat.reduceMul, Nat.reduceLeDiff, Nat.reduceBEq, Nat.reduceBNe, Int.reduceEq, ↓reduceIte, reduceCtorEq]
    refine brP_i (fun h2 => ?_) (fun h2 => ?_)
    · have hlt : i < l.length := by omega
      have q1 : i < (mixL (mkG l k) l i).length := by rw [mixL_len]; exact hlt
      have g1 := mixL_get (g := mkG l k) hlt
      have lo := mkk_lo (l := l) (k := k) (j := i)
      have hh := mkk_hi (l := l) (k := k) (j := i) hi
      have hm := mem_ntt (getD_mem hlt)
      have b0 := ndO_0 q1
      have b1 := ndO_1 q1
      rw [g1] at b0 b1
      simp (maxSteps := 9000000) -implicitDefEqProofs -dsimp (disch := omega) only [go_sem, g21_0, g21_1, g21_2, g21_3, g21_4, g21_5, g21_6, g21_7, i21, b0, b1, Nat.reduceEqDiff, Nat.reduceAdd, Nat.reduceMul, Nat.reduceLeDiff, Nat.reduceBEq, Nat.reduceBNe, Int.reduceEq, ↓reduceIte, reduceCtorEq]
      refine callk_go [(0, [])] true (markIntS_ok (l.getD i default).h (mkk l k i) (by omega) (by omega) (by omega)) ?_
      have hlen : i * 2 < (ndO (mixL (mkG l k) l i)).length := (List.getElem?_eq_some_iff.1 b0).1
      have b2 : ((ndO (mixL (mkG l k) l i)).set (i * 2) T.hole)[i * 2]? = some T.hole := List.getElem?_set_self hlen
      have b3 : ((ndO (mixL (mkG l k) l i)).set (i * 2) (.sl true 1 (mkI (mkk l k i) (l.getD i default).h.length).length ((mkI (mkk l k i) (l.getD i default).h.length).map (T.int .i64))))[i * 2 + 1]? = some (.bool (l.getD i default).g) := by rw [List.getElem?_set_ne (by omega)]; exact b1
      have e5 := ndO_set (mkG l k i) q1
      simp only [mkG] at e5
      rw [show (mixL (mkG l k) l i).set i ⟨mkI (mkk l k i) (l.getD i default).h.length, decide ((mkk l k i + (l.getD i default).h.length).tmod 3 = 0)⟩ = mixL (mkG l k) l (i + 1) from mixL_set hlt] at e5
      have hms := mkk_s (k := k) hlt
      rw [mkI_len] at b3 e5
      simp only [mkI] at b3 e5
      simp (maxSteps := 9000000) -implicitDefEqProofs -dsimp (disch := omega) only [go_sem, g21_0, g21_1, g21_2, g21_3, g21_4, g21_5, g21_6, g21_7, i21, b0, b1, b2, List.set_set, b3, Nat.reduceEqDiff, Nat.reduceAdd, Nat.reduceMul, Nat.reduceLeDiff, Nat.reduceBEq, Nat.reduceBNe, Int.reduceEq, ↓reduceIte, reduceCtorEq]
      exact ⟨hlt, (imp_sub (by simp (maxSteps := 9000000) -implicitDefEqProofs -dsimp (disch := omega) only [go_sem, g21_0, g21_1, g21_2, g21_3, g21_4, g21_5, g21_6, g21_7, i21, e5, hms, Nat.reduceEqDiff, Nat.reduceAdd, Nat.reduceMul, Nat.reduceLeDiff, Nat.reduceBEq, Nat.reduceBNe, Int.reduceEq, ↓reduceIte, reduceCtorEq]) (by simp (maxSteps := 9000000) -implicitDefEqProofs -dsimp (disch := omega) only [go_sem, g21_0, g21_1, g21_2, g21_3, g21_4, g21_5, g21_6, g21_7, i21, e5, hms, Nat.reduceEqDiff, Nat.reduceAdd, Nat.reduceMul, Nat.reduceLeDiff, Nat.reduceBEq, Nat.reduceBNe, Int.reduceEq, ↓reduceIte, reduceCtorEq]) rfl)⟩
    · obtain rfl : i = l.length := by omega
      have c := ndO_cut (l := mkN l k)
      rw [mkN_len] at c
      simp (maxSteps := 9000000) -implicitDefEqProofs -dsimp (disch := omega) only [go_sem, g21_0, g21_1, g21_2, g21_3, g21_4, g21_5, g21_6, g21_7, i21, mixL_end, mkk_end, show List.map (mkG l k) (List.range l.length) = mkN l k from rfl, c, Nat.reduceEqDiff, Nat.reduceAdd, Nat.reduceMul, Nat.reduceLeDiff, Nat.reduceBEq, Nat.reduceBNe, Int.reduceEq, ↓reduceIte, reduceCtorEq]
def g67_0 : List Gop := [⟨none, (some 4), (.mov (.k (.one (.int .i64 0))))⟩]
def g67_1 : List Gop := [⟨none, (some 5), (.mov (.k (.one (.int .i64 0))))⟩]
def g67_2 : List Gop := [⟨none, (some 6), (.mov (.t 5))⟩, ⟨none, (some 7), (.mov (.t 0))⟩, ⟨none, (some 8), (.len (.t 7))⟩, ⟨none, (some 9), (.bin .lss (.t 6) (.t 8))⟩]
def g67_3 : List Gop := [⟨none, (some 12), (.mov (.t 0))⟩, ⟨none, (some 13), (.mov (.t 5))⟩, ⟨none, (some 14), (.iaddr 2 (.t 12) (.t 13))⟩, ⟨none, (some 15), (.faddr (.t 14) 0)⟩, ⟨none, (some 16), (.load none (.t 15))⟩, ⟨none, (some 17), (.mov (.t 1))⟩, ⟨none, (some 18), (.call 23 [(.t 16), (.t 17)])⟩, ⟨none, (some 1), (.mov (.t 18))⟩]
def g67_4 : List Gop := [⟨none, (some 19), (.mov (.t 1))⟩, ⟨none, (some 20), (.bin .lss (.t 19) (.k (.one (.int .i64 0))))⟩]
def g67_5 : List Gop := [⟨none, (some 4), (.mov (.k (.one (.int .i64 (-1)))))⟩]
def g67_6 : List Gop := [⟨none, (some 21), (.mov (.t 0))⟩, ⟨none, (some 22), (.mov (.t 5))⟩, ⟨none, (some 23), (.iaddr 2 (.t 21) (.t 22))⟩, ⟨none, (some 24), (.faddr (.t 23) 1)⟩, ⟨none, (some 25), (.load none (.t 24))⟩, ⟨none, (some 26), (.mov (.t 1))⟩, ⟨none, (some 27), (.bin .rem (.t 26) (.k (.one (.int .i64 3))))⟩, ⟨none, (some 28), (.bin .eql (.t 27) (.k (.one (.int .i64 0))))⟩, ⟨none, (some 29), (.beq .true (.t 25) (.t 28))⟩]
def g67_7 : List Gop := [⟨none, (some 4), (.mov (.k (.one (.int .i64 (-1)))))⟩]
def g67_8 : List Gop := [⟨none, (some 30), (.mov (.t 1))⟩, ⟨none, (some 31), (.bin .add (.t 30) (.k (.one (.int .i64 1))))⟩, ⟨none, (some 1), (.mov (.t 31))⟩]
def g67_9 : List Gop := [⟨none, (some 10), (.mov (.t 5))⟩, ⟨none, (some 11), (.bin .add (.t 10) (.k (.one (.int .i64 1))))⟩, ⟨none, (some 5), (.mov (.t 11))⟩]
def g67_10 : List Gop := [⟨none, (some 32), (.mov (.t 1))⟩, ⟨none, (some 4), (.mov (.t 32))⟩]
def i67 : Ir := (.seq (.region g67_0) (.seq (.seq (.region g67_1) (.block 0 (.loop (.seq (.seq (.region g67_2) (.cond (.t 9) .skip (.exit 0))) (.seq (.block 1 (.seq (.region g67_3) (.seq (.seq (.region g67_4) (.cond (.t 20) (.seq (.region g67_5) .ret) .skip)) (.seq (.seq (.region g67_6) (.cond (.t 29) (.seq (.region g67_7) .ret) .skip)) (.region g67_8))))) (.region g67_9)))))) (.seq (.region g67_10) .ret)))
theorem heldNodeS_ok (l : List Nd) (k : Int) (h0 : 0 < k) (hk : k ≤ 100000000) (ha : l.length ≤ 1048576) (hs : ntt l ≤ 1048576) : Meets Try.prog 67 [.one (.sl false 2 l.length (ndR (mkN l k))), .one (.int .i64 k)] (.w (.one (.int .i64 (k + ntt l + l.length)))) [.one .hole, .one .hole] := by
  refine meets_go (ir := i67) (fn := Try.f67) (rx := [(.tmp 4)]) rfl rfl (by rfl) (by rfl) (by exact Nat.le_of_ble_eq_true rfl) ?_
  simp (maxSteps := 9000000) -implicitDefEqProofs -dsimp (disch := omega) only [go_sem, g67_0, g67_1, g67_2, g67_3, g67_4, g67_5, g67_6, g67_7, g67_8, g67_9, g67_10, i67, Nat.reduceEqDiff, Nat.reduceAdd, Nat.reduceMul, Nat.reduceLeDiff, Nat.reduceBEq, Nat.reduceBNe, Int.reduceEq, ↓reduceIte, reduceCtorEq]
  refine loop_n l.length (fun i => ⟨[(5, .w (.one (.int .i64 (i : Nat)))), (1, .w (.one (.int .i64 (mkk l k i)))), (0, .w (.one (.hs 0 [] 0 2 l.length)))], [(0, .sl false 2 l.length (ndR (mkN l k)))], [.one (.hs 0 [] 0 2 l.length), .one (.int .i64 k)]⟩) (fun i => True) ?_ trivial ?_
  · exact (imp_sub (by simp (maxSteps := 9000000) -implicitDefEqProofs -dsimp (disch := omega) only [go_sem, g67_0, g67_1, g67_2, g67_3, g67_4, g67_5, g67_6, g67_7, g67_8, g67_9, g67_10, i67, mkk_0, Nat.reduceEqDiff, Nat.reduceAdd, Nat.reduceMul, Nat.reduceLeDiff, Nat.reduceBEq, Nat.reduceBNe, Int.reduceEq, ↓reduceIte, reduceCtorEq]) (by simp (maxSteps := 9000000) -implicitDefEqProofs -dsimp (disch := omega) only [go_sem, g67_0, g67_1, g67_2, g67_3, g67_4, g67_5, g67_6, g67_7, g67_8, g67_9, g67_10, i67, mkk_0, Nat.reduceEqDiff, Nat.reduceAdd, Nat.reduceMul, Nat.reduceLeDiff, Nat.reduceBEq, Nat.reduceBNe, Int.reduceEq, ↓reduceIte, reduceCtorEq]) rfl)
  · intro i hi hJ
    simp (maxSteps := 9000000) -implicitDefEqProofs -dsimp (disch := omega) only [go_sem, g67_0, g67_1, g67_2, g67_3, g67_4, g67_5, g67_6, g67_7, g67_8, g67_9, g67_10, i67, Nat.reduceEqDiff, Nat.reduceAdd, Nat.reduceMul, Nat.reduceLeDiff, Nat.reduceBEq, Nat.reduceBNe, Int.reduceEq, ↓reduceIte, reduceCtorEq]
    refine brP_i (fun h2 => ?_) (fun h2 => ?_)
    · have hlt : i < l.length := by omega
      have q1 : i < (mkN l k).length := by rw [mkN_len]; exact hlt
      have g1 : (mkN l k).getD i default = mkG l k i := range_getD hlt
      have lo := mkk_lo (l := l) (k := k) (j := i)
      have hh := mkk_hi (l := l) (k := k) (j := i) hi
      have hm := mem_ntt (getD_mem hlt)
      have b0 := ndR_0 q1
      have b1 := ndR_1 q1
      rw [g1] at b0 b1
      simp only [mkG, mkI_len] at b0 b1
      have hms := mkk_s (k := k) hlt
      simp (maxSteps := 9000000) -implicitDefEqProofs -dsimp (disch := omega) only [go_sem, g67_0, g67_1, g67_2, g67_3, g67_4, g67_5, g67_6, g67_7, g67_8, g67_9, g67_10, i67, b0, b1, Nat.reduceEqDiff, Nat.reduceAdd, Nat.reduceMul, Nat.reduceLeDiff, Nat.reduceBEq, Nat.reduceBNe, Int.reduceEq, ↓reduceIte, reduceCtorEq]
      refine call_go true (heldIntS_ok (l.getD i default).h.length (mkk l k i) (by omega) (by omega) (by omega)) ?_
      simp (maxSteps := 9000000) -implicitDefEqProofs -dsimp (disch := omega) only [go_sem, g67_0, g67_1, g67_2, g67_3, g67_4, g67_5, g67_6, g67_7, g67_8, g67_9, g67_10, i67, lt_T, lt_F, le_T, le_F, eq_T, eq_F, and_F, b0, b1, mkI, cut_mr, bne_self_eq_false, Nat.reduceEqDiff, Nat.reduceAdd, Nat.reduceMul, Nat.reduceLeDiff, Nat.reduceBEq, Nat.reduceBNe, Int.reduceEq, ↓reduceIte, reduceCtorEq]
      exact ⟨hlt, (imp_sub (by simp (maxSteps := 9000000) -implicitDefEqProofs -dsimp (disch := omega) only [go_sem, g67_0, g67_1, g67_2, g67_3, g67_4, g67_5, g67_6, g67_7, g67_8, g67_9, g67_10, i67, hms, Nat.reduceEqDiff, Nat.reduceAdd, Nat.reduceMul, Nat.reduceLeDiff, Nat.reduceBEq, Nat.reduceBNe, Int.reduceEq, ↓reduceIte, reduceCtorEq]) (by simp (maxSteps := 9000000) -implicitDefEqProofs -dsimp (disch := omega) only [go_sem, g67_0, g67_1, g67_2, g67_3, g67_4, g67_5, g67_6, g67_7, g67_8, g67_9, g67_10, i67, hms, Nat.reduceEqDiff, Nat.reduceAdd, Nat.reduceMul, Nat.reduceLeDiff, Nat.reduceBEq, Nat.reduceBNe, Int.reduceEq, ↓reduceIte, reduceCtorEq]) rfl)⟩
    · obtain rfl : i = l.length := by omega
      simp (maxSteps := 9000000) -implicitDefEqProofs -dsimp (disch := omega) only [go_sem, g67_0, g67_1, g67_2, g67_3, g67_4, g67_5, g67_6, g67_7, g67_8, g67_9, g67_10, i67, mkk_end, Nat.reduceEqDiff, Nat.reduceAdd, Nat.reduceMul, Nat.reduceLeDiff, Nat.reduceBEq, Nat.reduceBNe, Int.reduceEq, ↓reduceIte, reduceCtorEq]
def g31_0 : List Gop := [⟨none, (some 2), (.box (.t 0))⟩, ⟨none, (some 4), (.mov (.k (.one (.int .i64 0))))⟩]
def g31_1 : List Gop := [⟨none, (some 5), (.faddr (.t 2) 0)⟩, ⟨none, (some 6), (.load none (.t 5))⟩, ⟨none, (some 7), (.mov (.t 1))⟩, ⟨none, (some 8), (.call 21 [(.t 6), (.t 7)])⟩, ⟨none, (some 1), (.mov (.t 8))⟩]
def g31_2 : List Gop := [⟨none, (some 9), (.faddr (.t 2) 1)⟩, ⟨none, (some 10), (.load none (.t 9))⟩, ⟨none, (some 11), (.mov (.t 1))⟩, ⟨none, (some 12), (.call 22 [(.t 10), (.t 11)])⟩, ⟨none, (some 1), (.mov (.t 12))⟩]
def g31_3 : List Gop := [⟨none, (some 13), (.faddr (.t 2) 2)⟩, ⟨none, (some 14), (.load none (.t 13))⟩, ⟨none, (some 15), (.mov (.t 1))⟩, ⟨none, (some 16), (.call 22 [(.t 14), (.t 15)])⟩, ⟨none, (some 1), (.mov (.t 16))⟩]
def g31_4 : List Gop := [⟨none, (some 17), (.mov (.t 1))⟩, ⟨none, (some 4), (.mov (.t 17))⟩]
def i31 : Ir := (.seq (.region g31_0) (.seq (.region g31_1) (.seq (.region g31_2) (.seq (.region g31_3) (.seq (.region g31_4) .ret)))))
theorem markGraph_ok (g : Gr) (k : Int) (h0 : 0 < k) (hk : k ≤ 1000000) (h1 : g.n.length ≤ 1048576) (hs : ntt g.n ≤ 1048576) (h2 : g.r.length ≤ 1048576) (h3 : g.c.length ≤ 1048576) : Meets Try.prog 31 [.agg [.sl true 2 g.n.length (ndO g.n), (.sl true 1 g.r.length (g.r.map (T.int .i64))), (.sl true 1 g.c.length (g.c.map (T.int .i64)))], .one (.int .i64 k)] (.w (.one (.int .i64 (k + ntt g.n + g.n.length + g.r.length + g.c.length)))) [.agg [.sl true 2 g.n.length (ndO (mkN g.n k)), .sl true 1 g.r.length ((mkI (k + ntt g.n + g.n.length) g.r.length).map (T.int .i64)), .sl true 1 g.c.length ((mkI (k + ntt g.n + g.n.length + g.r.length) g.c.length).map (T.int .i64))], .one .hole] := by
  have t0 := ntt_nonneg (l := g.n)
  have q1 := ndO_cut (l := g.n)
  have q3 := ndO_cut (l := mkN g.n k)
  rw [mkN_len] at q3
  have q4 := ndO_noRo (l := mkN g.n k)
  have q5 : (ndO (mkN g.n k)).length = g.n.length * 2 := by rw [show (ndO (mkN g.n k)).length = (mkN g.n k).length * 2 from rows2_len, mkN_len]
  have q6 : (ndO g.n).length = g.n.length * 2 := rows2_len
  refine meets_go (ir := i31) (fn := Try.f31) (rx := [(.tmp 4)]) rfl rfl (by rfl) (by rfl) (by exact Nat.le_of_ble_eq_true rfl) ?_
  simp (maxSteps := 9000000) -implicitDefEqProofs -dsimp (disch := omega) only [go_sem, g31_0, g31_1, g31_2, g31_3, g31_4, i31, q1, q4, q5, q6, Nat.reduceEqDiff, Nat.reduceAdd, Nat.reduceMul, Nat.reduceLeDiff, Nat.reduceBEq, Nat.reduceBNe, Int.reduceEq, ↓reduceIte, reduceCtorEq]
  refine callk_go [(3, [0]), (3, [1]), (3, [2])] true (markNodeS_ok g.n k h0 (by omega) h1 hs) ?_
  simp (maxSteps := 9000000) -implicitDefEqProofs -dsimp (disch := omega) only [go_sem, g31_0, g31_1, g31_2, g31_3, g31_4, i31, q1, q4, q5, q6, Nat.reduceEqDiff, Nat.reduceAdd, Nat.reduceMul, Nat.reduceLeDiff, Nat.reduceBEq, Nat.reduceBNe, Int.reduceEq, ↓reduceIte, reduceCtorEq]
  refine callk_go [(3, [0]), (3, [1]), (3, [2])] true (markIntS_ok g.r (k + ntt g.n + g.n.length) (by omega) (by omega) h2) ?_
  simp (maxSteps := 9000000) -implicitDefEqProofs -dsimp (disch := omega) only [go_sem, g31_0, g31_1, g31_2, g31_3, g31_4, i31, q1, q4, q5, q6, Nat.reduceEqDiff, Nat.reduceAdd, Nat.reduceMul, Nat.reduceLeDiff, Nat.reduceBEq, Nat.reduceBNe, Int.reduceEq, ↓reduceIte, reduceCtorEq]
  refine callk_go [(3, [0]), (3, [1]), (3, [2])] true (markIntS_ok g.c (k + ntt g.n + g.n.length + g.r.length) (by omega) (by omega) h3) ?_
  simp (maxSteps := 9000000) -implicitDefEqProofs -dsimp (disch := omega) only [go_sem, g31_0, g31_1, g31_2, g31_3, g31_4, i31, q1, q4, q5, q6, q3, mkI, cut_mr, Nat.reduceEqDiff, Nat.reduceAdd, Nat.reduceMul, Nat.reduceLeDiff, Nat.reduceBEq, Nat.reduceBNe, Int.reduceEq, ↓reduceIte, reduceCtorEq]
def g32_0 : List Gop := [⟨none, (some 2), (.box (.t 0))⟩, ⟨none, (some 4), (.mov (.k (.one (.int .i64 0))))⟩]
def g32_1 : List Gop := [⟨none, (some 5), (.faddr (.t 2) 0)⟩, ⟨none, (some 6), (.load none (.t 5))⟩, ⟨none, (some 7), (.mov (.t 1))⟩, ⟨none, (some 8), (.call 67 [(.t 6), (.t 7)])⟩, ⟨none, (some 1), (.mov (.t 8))⟩]
def g32_2 : List Gop := [⟨none, (some 9), (.mov (.t 1))⟩, ⟨none, (some 10), (.bin .lss (.t 9) (.k (.one (.int .i64 0))))⟩]
def g32_3 : List Gop := [⟨none, (some 4), (.mov (.k (.one (.int .i64 (-1)))))⟩]
def g32_4 : List Gop := [⟨none, (some 11), (.faddr (.t 2) 1)⟩, ⟨none, (some 12), (.load none (.t 11))⟩, ⟨none, (some 13), (.mov (.t 1))⟩, ⟨none, (some 14), (.call 23 [(.t 12), (.t 13)])⟩, ⟨none, (some 1), (.mov (.t 14))⟩]
def g32_5 : List Gop := [⟨none, (some 15), (.mov (.t 1))⟩, ⟨none, (some 16), (.bin .lss (.t 15) (.k (.one (.int .i64 0))))⟩]
def g32_6 : List Gop := [⟨none, (some 4), (.mov (.k (.one (.int .i64 (-1)))))⟩]
def g32_7 : List Gop := [⟨none, (some 17), (.faddr (.t 2) 2)⟩, ⟨none, (some 18), (.load none (.t 17))⟩, ⟨none, (some 19), (.mov (.t 1))⟩, ⟨none, (some 20), (.call 23 [(.t 18), (.t 19)])⟩, ⟨none, (some 1), (.mov (.t 20))⟩]
def g32_8 : List Gop := [⟨none, (some 21), (.mov (.t 1))⟩, ⟨none, (some 22), (.bin .lss (.t 21) (.k (.one (.int .i64 0))))⟩]
def g32_9 : List Gop := [⟨none, (some 4), (.mov (.k (.one (.int .i64 (-1)))))⟩]
def g32_10 : List Gop := [⟨none, (some 23), (.mov (.t 1))⟩, ⟨none, (some 4), (.mov (.t 23))⟩]
def i32 : Ir := (.seq (.region g32_0) (.seq (.region g32_1) (.seq (.seq (.region g32_2) (.cond (.t 10) (.seq (.region g32_3) .ret) .skip)) (.seq (.region g32_4) (.seq (.seq (.region g32_5) (.cond (.t 16) (.seq (.region g32_6) .ret) .skip)) (.seq (.region g32_7) (.seq (.seq (.region g32_8) (.cond (.t 22) (.seq (.region g32_9) .ret) .skip)) (.seq (.region g32_10) .ret))))))))
theorem heldGraph_ok (g : Gr) (k : Int) (h0 : 0 < k) (hk : k ≤ 1000000) (h1 : g.n.length ≤ 1048576) (hs : ntt g.n ≤ 1048576) (h2 : g.r.length ≤ 1048576) (h3 : g.c.length ≤ 1048576) : Meets Try.prog 32 [.agg [.sl false 2 g.n.length (ndR (mkN g.n k)), .sl false 1 g.r.length ((mkI (k + ntt g.n + g.n.length) g.r.length).map (T.int .i64)), .sl false 1 g.c.length ((mkI (k + ntt g.n + g.n.length + g.r.length) g.c.length).map (T.int .i64))], .one (.int .i64 k)] (.w (.one (.int .i64 (k + ntt g.n + g.n.length + g.r.length + g.c.length)))) [.agg [.hole, .hole, .hole], .one .hole] := by
  have t0 := ntt_nonneg (l := g.n)
  have q3 := ndR_cut (l := mkN g.n k)
  rw [mkN_len] at q3
  refine meets_go (ir := i32) (fn := Try.f32) (rx := [(.tmp 4)]) rfl rfl (by rfl) (by rfl) (by exact Nat.le_of_ble_eq_true rfl) ?_
  simp (maxSteps := 9000000) -implicitDefEqProofs -dsimp (disch := omega) only [go_sem, g32_0, g32_1, g32_2, g32_3, g32_4, g32_5, g32_6, g32_7, g32_8, g32_9, g32_10, i32, q3, mkI, cut_mr, Nat.reduceEqDiff, Nat.reduceAdd, Nat.reduceMul, Nat.reduceLeDiff, Nat.reduceBEq, Nat.reduceBNe, Int.reduceEq, ↓reduceIte, reduceCtorEq]
  refine call_go true (heldNodeS_ok g.n k h0 (by omega) h1 hs) ?_
  simp (maxSteps := 9000000) -implicitDefEqProofs -dsimp (disch := omega) only [go_sem, g32_0, g32_1, g32_2, g32_3, g32_4, g32_5, g32_6, g32_7, g32_8, g32_9, g32_10, i32, lt_T, lt_F, le_T, le_F, eq_T, eq_F, and_F, q3, mkI, cut_mr, Nat.reduceEqDiff, Nat.reduceAdd, Nat.reduceMul, Nat.reduceLeDiff, Nat.reduceBEq, Nat.reduceBNe, Int.reduceEq, ↓reduceIte, reduceCtorEq]
  refine call_go true (heldIntS_ok g.r.length (k + ntt g.n + g.n.length) (by omega) (by omega) h2) ?_
  simp (maxSteps := 9000000) -implicitDefEqProofs -dsimp (disch := omega) only [go_sem, g32_0, g32_1, g32_2, g32_3, g32_4, g32_5, g32_6, g32_7, g32_8, g32_9, g32_10, i32, lt_T, lt_F, le_T, le_F, eq_T, eq_F, and_F, q3, mkI, cut_mr, Nat.reduceEqDiff, Nat.reduceAdd, Nat.reduceMul, Nat.reduceLeDiff, Nat.reduceBEq, Nat.reduceBNe, Int.reduceEq, ↓reduceIte, reduceCtorEq]
  refine call_go true (heldIntS_ok g.c.length (k + ntt g.n + g.n.length + g.r.length) (by omega) (by omega) h3) ?_
  simp (maxSteps := 9000000) -implicitDefEqProofs -dsimp (disch := omega) only [go_sem, g32_0, g32_1, g32_2, g32_3, g32_4, g32_5, g32_6, g32_7, g32_8, g32_9, g32_10, i32, lt_T, lt_F, le_T, le_F, eq_T, eq_F, and_F, q3, mkI, cut_mr, Nat.reduceEqDiff, Nat.reduceAdd, Nat.reduceMul, Nat.reduceLeDiff, Nat.reduceBEq, Nat.reduceBNe, Int.reduceEq, ↓reduceIte, reduceCtorEq]
end Go.Proofs.YtdhclelfnbjikaaT
