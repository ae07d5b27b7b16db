/- Functions of the program, each with what it returns and leaves. No condition. -/
import Derived.Test.YtdhclelfnbjikaaFn2
import Derived.Test.YtdhclelfnbjikaaFn1
import Derived.Test.YtdhclelfnbjikaaTree8
import Derived.Test.YtdhclelfnbjikaaProg
import Derived.KernelRfl
set_option linter.all false
set_option linter.unusedVariables false
set_option linter.unusedSimpArgs false
set_option linter.unusedSectionVars false
set_option linter.unnecessarySimpa false
set_option linter.deprecated false
/- Functions of the program as contracts: what is let go. No condition. -/
set_option maxRecDepth 100000
set_option maxHeartbeats 8000000
set_option linter.unusedSimpArgs false
set_option linter.unusedVariables false
namespace Go.Proofs.YtdhclelfnbjikaaT
open Go Go.RowKit
/-- nodes and counts, and what is gone -/
structure Ls where
  n : List Nd
  c : List Int
  go : List Int
def decF (c : List Int) (k : Nat) : List Int := c.set k (c.getD k default - 1)
def lessF : Nat → Ls → Nat → Ls
  | 0, s, _ => s
  | f + 1, s, k => if 0 < (decF s.c k).getD k default then ⟨s.n, decF s.c k, s.go⟩
    else (s.n.getD k default).h.foldl (fun s y => lessF f s y.toNat) ⟨s.n.set k ⟨[], true⟩, decF s.c k, s.go ++ [(k : Int)]⟩
structure LInv (N : Nat) (b : Int) (s : Ls) : Prop where
  ln : s.n.length = N
  lc : s.c.length = N
  w : ∀ i, i < N → ∀ y ∈ (s.n.getD i default).h, 0 ≤ y ∧ y < i
  lo : ∀ j, j < N → b + ntt s.n ≤ s.c.getD j default
  hi : ∀ j, j < N → s.c.getD j default ≤ 1048576
  gl : s.go.length + ntt s.n + b ≤ 0
theorem getD_set {α : Type} [Inhabited α] {l : List α} {k j : Nat} {x : α} : (l.set k x).getD j default = if k = j ∧ j < l.length then x else l.getD j default := by
  simp only [List.getD_eq_getElem?_getD, List.getElem?_set]
  by_cases h : k = j
  · subst h
    by_cases h2 : k < l.length
    · simp [h2]
    · simp [h2]
  · simp [h]
theorem ntt_set {l : List Nd} {k : Nat} (h : k < l.length) : ntt (l.set k ⟨[], true⟩) = ntt l - (l.getD k default).h.length := by
  induction l generalizing k with
  | nil => simp at h
  | cons x l ih =>
    cases k with
    | zero => simp only [List.set_cons_zero, ntt, List.map_cons, List.sum_cons, List.length_nil, List.getD_cons_zero]; omega
    | succ k =>
      have := ih (k := k) (by simpa using h)
      simp only [ntt] at this
      simp only [List.set_cons_succ, ntt, List.map_cons, List.sum_cons, List.getD_cons_succ, this]; omega
theorem decF_len {c : List Int} {k : Nat} : (decF c k).length = c.length := by simp [decF]
theorem LInv.mono {N : Nat} {b b' : Int} {s : Ls} (h : LInv N b s) (hb : b' ≤ b) : LInv N b' s :=
  ⟨h.ln, h.lc, h.w, fun j hj => by have := h.lo j hj; omega, h.hi, by have := h.gl; omega⟩
theorem LInv.dec {N : Nat} {b : Int} {s : Ls} {k : Nat} (h : LInv N (b + 1) s) (hk : k < N) : LInv N b ⟨s.n, decF s.c k, s.go⟩ :=
  ⟨h.ln, by rw [decF_len]; exact h.lc, h.w, fun j hj => by
    have h1 := h.lo j hj
    simp only [decF, getD_set]
    split
    · rename_i e; rw [e.1]; omega
    · omega, fun j hj => by
    have h1 := h.hi j hj
    simp only [decF, getD_set]
    split
    · rename_i e; rw [e.1]; omega
    · omega, by
    have := h.gl
    show (s.go.length : Int) + ntt s.n + b ≤ 0
    omega⟩
theorem LInv.gone {N : Nat} {b : Int} {s : Ls} {k : Nat} (h : LInv N (b + 1) s) (hk : k < N) : LInv N (b + (s.n.getD k default).h.length) ⟨s.n.set k ⟨[], true⟩, decF s.c k, s.go ++ [(k : Int)]⟩ := by
  have h2 := h.dec hk
  have hn : ntt (s.n.set k ⟨[], true⟩) = ntt s.n - (s.n.getD k default).h.length := ntt_set (by rw [h.ln]; exact hk)
  refine ⟨by rw [List.length_set]; exact h.ln, h2.lc, fun i hi y hy => ?_, fun j hj => ?_, h2.hi, ?_⟩
  · rw [getD_set] at hy
    split at hy
    · simp at hy
    · exact h.w i hi y hy
  · have := h2.lo j hj
    simp only at this ⊢
    rw [hn]; omega
  · have := h.gl
    simp only at this ⊢
    rw [hn, List.length_append, List.length_singleton]; omega
theorem less_fold {N f : Nat} (ih : ∀ (s : Ls) (k : Nat) (b : Int), k < N → LInv N (b + 1) s → LInv N b (lessF f s k)) : ∀ (l : List Int) (s : Ls) (b : Int), (∀ y ∈ l, y.toNat < N) → LInv N (b + l.length) s → LInv N b (l.foldl (fun s y => lessF f s y.toNat) s)
  | [], s, b, hl, h => by simpa using h
  | y :: l, s, b, hl, h => by
    rw [List.foldl_cons]
    refine less_fold ih l _ b (fun z hz => hl z (List.mem_cons_of_mem _ hz)) (ih _ _ _ (hl y List.mem_cons_self) ?_)
    refine h.mono ?_
    simp only [List.length_cons]; omega
theorem lessF_inv : ∀ (f : Nat) {N : Nat} (s : Ls) (k : Nat) (b : Int), k < N → LInv N (b + 1) s → LInv N b (lessF f s k)
  | 0, N, s, k, b, hk, h => h.mono (by omega)
  | f + 1, N, s, k, b, hk, h => by
    rw [lessF]
    split
    · exact h.dec hk
    · refine less_fold (lessF_inv f) _ _ b (fun y hy => ?_) (h.gone hk)
      have := h.w k hk y hy
      omega
def g74_0 : List Gop := [⟨none, (some 3), (.box (.t 0))⟩, ⟨none, (some 6), (.mov (.k (.one .nil)))⟩]
def g74_1 : List Gop := [⟨none, (some 10), (.faddr (.t 3) 2)⟩, ⟨none, (some 11), (.load none (.t 10))⟩, ⟨none, (some 12), (.mov (.t 1))⟩, ⟨none, (some 13), (.iaddr 1 (.t 11) (.t 12))⟩, ⟨none, (some 14), (.load none (.t 13))⟩, ⟨none, (some 15), (.bin .sub (.t 14) (.k (.one (.int .i64 1))))⟩, ⟨none, (some 16), (.iaddr 1 (.t 11) (.t 12))⟩, ⟨none, none, (.store 1 (.t 16) (.t 15))⟩]
def g74_2 : List Gop := [⟨none, (some 17), (.faddr (.t 3) 2)⟩, ⟨none, (some 18), (.load none (.t 17))⟩, ⟨none, (some 19), (.mov (.t 1))⟩, ⟨none, (some 20), (.iaddr 1 (.t 18) (.t 19))⟩, ⟨none, (some 21), (.load none (.t 20))⟩, ⟨none, (some 22), (.bin .gtr (.t 21) (.k (.one (.int .i64 0))))⟩]
def g74_3 : List Gop := [⟨none, (some 23), (.mov (.t 2))⟩, ⟨none, (some 6), (.mov (.t 23))⟩]
def g74_4 : List Gop := [⟨none, (some 24), (.faddr (.t 3) 0)⟩, ⟨none, (some 25), (.load none (.t 24))⟩, ⟨none, (some 26), (.mov (.t 1))⟩, ⟨none, (some 27), (.iaddr 2 (.t 25) (.t 26))⟩, ⟨none, (some 28), (.faddr (.t 27) 0)⟩, ⟨none, (some 29), (.load none (.t 28))⟩, ⟨none, (some 7), (.mov (.t 29))⟩]
def g74_5 : List Gop := [⟨none, (some 30), (.faddr (.t 3) 0)⟩, ⟨none, (some 31), (.load none (.t 30))⟩, ⟨none, (some 32), (.mov (.t 1))⟩, ⟨none, (some 33), (.build [.nil, (.bool .false)] [(1, (1, (.k (.one (.bool .true)))))])⟩, ⟨none, (some 34), (.iaddr 2 (.t 31) (.t 32))⟩, ⟨none, none, (.store 2 (.t 34) (.t 33))⟩]
def g74_6 : List Gop := [⟨none, (some 35), (.mov (.t 2))⟩, ⟨none, (some 36), (.mov (.t 1))⟩, ⟨none, (some 37), (.lit 1 1 [(.int .i64 0)] [(0, (.t 36))])⟩, ⟨none, (some 38), (.app 1 8 [(.int .i64 0)] (.t 35) (.t 37))⟩, ⟨none, (some 2), (.mov (.t 38))⟩]
def g74_7 : List Gop := [⟨none, (some 39), (.mov (.t 7))⟩, ⟨none, (some 40), (.len (.t 39))⟩, ⟨none, (some 41), (.mov (.k (.one (.int .i64 0))))⟩]
def g74_8 : List Gop := [⟨none, (some 42), (.bin .lss (.t 41) (.t 40))⟩]
def g74_9 : List Gop := [⟨none, (some 43), (.iaddr 1 (.t 39) (.t 41))⟩, ⟨none, (some 44), (.load none (.t 43))⟩, ⟨none, (some 9), (.mov (.t 44))⟩]
def g74_10 : List Gop := [⟨none, (some 45), (.load (some 3) (.t 3))⟩, ⟨none, (some 46), (.mov (.t 9))⟩, ⟨none, (some 47), (.mov (.t 2))⟩, ⟨none, (some 48), (.call 74 [(.t 45), (.t 46), (.t 47)])⟩, ⟨none, (some 2), (.mov (.t 48))⟩]
def g74_11 : List Gop := [⟨none, (some 49), (.bin .add (.t 41) (.k (.one (.int .i64 1))))⟩, ⟨none, (some 41), (.mov (.t 49))⟩]
def g74_12 : List Gop := [⟨none, (some 50), (.mov (.t 2))⟩, ⟨none, (some 6), (.mov (.t 50))⟩]
def i74 : Ir := (.seq (.region g74_0) (.seq (.region g74_1) (.seq (.seq (.region g74_2) (.cond (.t 22) (.seq (.region g74_3) .ret) .skip)) (.seq (.region g74_4) (.seq (.region g74_5) (.seq (.region g74_6) (.seq (.seq (.region g74_7) (.block 0 (.loop (.seq (.region g74_8) (.seq (.cond (.t 42) .skip (.exit 0)) (.seq (.block 1 (.seq (.region g74_9) (.region g74_10))) (.region g74_11))))))) (.seq (.region g74_12) .ret))))))))
def iLess : Ir := (.seq (.region g74_0) (.seq (.region g74_1) (.seq (.seq (.region g74_2) (.cond (.t 22) (.seq (.region g74_3) .ret) .skip)) (.seq (.region g74_4) (.mark (.seq (.region g74_5) (.seq (.region g74_6) (.seq (.seq (.region g74_7) (.block 0 (.loop (.seq (.region g74_8) (.seq (.cond (.t 42) .skip (.exit 0)) (.seq (.block 1 (.seq (.region g74_9) (.region g74_10))) (.region g74_11))))))) (.seq (.region g74_12) .ret)))))))))
theorem l10Less_ok : ∀ (f : Nat) {N : Nat} (s : Ls) (r : List Int) (k : Nat) (b : Int), k < N → k < f → N ≤ 1048576 → -1048576 ≤ b → r.length ≤ 1048576 → LInv N (b + 1) s →
    Meets Try.prog 74 [.agg [.sl true 2 N (ndO s.n), (.sl true 1 r.length (r.map (T.int .i64))), .sl true 1 N (s.c.map (T.int .i64))], .one (.int .i64 k), .one (.sl true 1 s.go.length (s.go.map (T.int .i64)))] (.w (.one (.sl true 1 ((lessF f s k).go).length (((lessF f s k).go).map (T.int .i64))))) [.agg [.sl true 2 N (ndO (lessF f s k).n), (.sl true 1 r.length (r.map (T.int .i64))), .sl true 1 N ((lessF f s k).c.map (T.int .i64))], .one .hole, .one .hole]
  | 0, N, s, r, k, b, hk, hf, hN, hb, hr, I => by omega
  | f + 1, N, s, r, k, b, hk, hf, hN, hb, hr, I => by
    have ln := I.ln
    have lc := I.lc
    have lo := I.lo k hk
    have hi := I.hi k hk
    have nn := ntt_nonneg (l := s.n)
    have hkn : k < s.n.length := by omega
    have hkc : k < s.c.length := by omega
    have q1 : cut (ndO s.n) 0 (N * 2) = ndO s.n := rows2_cut ln
    have q2 : cut (s.c.map (T.int .i64)) 0 N = s.c.map (T.int .i64) := cut_all (by simp [lc])
    have hd : (decF s.c k).getD k default = s.c.getD k default - 1 := by simp only [decF, getD_set]; rw [if_pos (by exact ⟨trivial, hkc⟩)]
    have hdc : s.c.set k (s.c.getD k default - 1) = decF s.c k := rfl
    have hdl : (decF s.c k).length = N := by rw [decF_len]; exact lc
    have q3 : cut ((decF s.c k).map (T.int .i64)) 0 N = (decF s.c k).map (T.int .i64) := cut_all (by simp [hdl])
    have gl := I.gl
    have n0 := ndO_0 hkn
    have n1 := ndO_1 hkn
    by_cases h0 : 0 < s.c.getD k default - 1
    · have hL : lessF (f + 1) s k = ⟨s.n, decF s.c k, s.go⟩ := by rw [lessF, if_pos (by omega)]
      rw [hL]
      refine meets_go (ir := iLess) (fn := Try.f74) (rx := [(.tmp 6)]) rfl rfl (by rfl) (by rfl) (by exact Nat.le_of_ble_eq_true rfl) ?_
      simp (maxSteps := 9000000) -implicitDefEqProofs -dsimp (disch := omega) only [go_sem, g74_0, g74_1, g74_2, g74_3, g74_4, g74_5, g74_6, g74_7, g74_8, g74_9, g74_10, g74_11, g74_12, i74, lt_T, lt_F, le_T, le_F, eq_T, eq_F, and_F, iLess, q1, q2, hdc, hd, h0, q3, Nat.reduceEqDiff, Nat.reduceAdd, Nat.reduceMul, Nat.reduceLeDiff, Nat.reduceBEq, Nat.reduceBNe, Int.reduceEq, ↓reduceIte, reduceCtorEq]
    · have hL : lessF (f + 1) s k = (s.n.getD k default).h.foldl (fun s y => lessF f s y.toNat) ⟨s.n.set k ⟨[], true⟩, decF s.c k, s.go ++ [(k : Int)]⟩ := by rw [lessF, if_neg (by omega)]
      rw [hL]
      refine meets_go (ir := iLess) (fn := Try.f74) (rx := [(.tmp 6)]) rfl rfl (by rfl) (by rfl) (by exact Nat.le_of_ble_eq_true rfl) ?_
      simp (maxSteps := 9000000) -implicitDefEqProofs -dsimp (disch := omega) only [go_sem, g74_0, g74_1, g74_2, g74_3, g74_4, g74_5, g74_6, g74_7, g74_8, g74_9, g74_10, g74_11, g74_12, i74, lt_T, lt_F, le_T, le_F, eq_T, eq_F, and_F, iLess, q1, q2, hdc, hd, h0, q3, n0, n1, Nat.reduceEqDiff, Nat.reduceAdd, Nat.reduceMul, Nat.reduceLeDiff, Nat.reduceBEq, Nat.reduceBNe, Int.reduceEq, ↓reduceIte, reduceCtorEq]
      have hsl := mem_ntt (getD_mem hkn)
      generalize hH : (s.n.getD k default).h = hs at *
      refine mark_imp ⟨[(7, .w (.one (.hs 5 [] 0 1 hs.length))), (1, .w (.one (.int .i64 (k : Nat)))), (2, .w (.one (.hs 3 [] 0 1 s.go.length))), (3, .w (.one (.hp 4 [] 0)))], [(5, (.sl true 1 hs.length (hs.map (T.int .i64)))), (4, .bx true [.sl true 2 N ((ndO s.n).set (k * 2) .hole), (.sl true 1 r.length (r.map (T.int .i64))), .sl true 1 N ((decF s.c k).map (T.int .i64))]), (3, (.sl true 1 s.go.length (s.go.map (T.int .i64))))], [.agg [.hs 4 [0] 0 2 N, .hs 4 [1] 0 1 r.length, .hs 4 [2] 0 1 N], .one (.int .i64 (k : Nat)), .one (.hs 3 [] 0 1 s.go.length)]⟩ ((imp_out 4 [0] (k * 2) 5 (st := 1) (n := hs.length) (cs := hs.map (T.int .i64)) (t2 := .bx true [.sl true 2 N ((ndO s.n).set (k * 2) .hole), (.sl true 1 r.length (r.map (T.int .i64))), .sl true 1 N ((decF s.c k).map (T.int .i64))]) rfl (by simp (maxSteps := 9000000) -implicitDefEqProofs -dsimp (disch := omega) only [go_sem, n0, Nat.reduceEqDiff, Nat.reduceAdd, Nat.reduceMul, Nat.reduceLeDiff, Nat.reduceBEq, Nat.reduceBNe, Int.reduceEq, ↓reduceIte, reduceCtorEq]) (by simp (maxSteps := 9000000) -implicitDefEqProofs -dsimp (disch := omega) only [go_sem, n0, Nat.reduceEqDiff, Nat.reduceAdd, Nat.reduceMul, Nat.reduceLeDiff, Nat.reduceBEq, Nat.reduceBNe, Int.reduceEq, ↓reduceIte, reduceCtorEq]) rfl).trans (imp_sub (by simp (maxSteps := 9000000) -implicitDefEqProofs -dsimp (disch := omega) only [go_sem, Nat.reduceEqDiff, Nat.reduceAdd, Nat.reduceMul, Nat.reduceLeDiff, Nat.reduceBEq, Nat.reduceBNe, Int.reduceEq, ↓reduceIte, reduceCtorEq]) (by simp (maxSteps := 9000000) -implicitDefEqProofs -dsimp (disch := omega) only [go_sem, Nat.reduceEqDiff, Nat.reduceAdd, Nat.reduceMul, Nat.reduceLeDiff, Nat.reduceBEq, Nat.reduceBNe, Int.reduceEq, ↓reduceIte, reduceCtorEq]) rfl)) ?_
      have qn : (ndO s.n).length = N * 2 := by rw [show (ndO s.n).length = s.n.length * 2 from rows2_len, ln]
      have e1 : ((ndO s.n).set (k * 2) T.hole)[k * 2]? = some .hole := by rw [List.getElem?_set_self (by omega)]
      have e2 : (((ndO s.n).set (k * 2) T.hole).set (k * 2) (.sl true 0 0 []))[k * 2 + 1]? = some (.bool (s.n.getD k default).g) := by rw [List.getElem?_set_ne (by omega), List.getElem?_set_ne (by omega), n1]
      simp (maxSteps := 9000000) -implicitDefEqProofs -dsimp (disch := omega) only [go_sem, lt_T, lt_F, le_T, le_F, eq_T, eq_F, and_F, e1, e2, Nat.reduceEqDiff, Nat.reduceAdd, Nat.reduceMul, Nat.reduceLeDiff, Nat.reduceBEq, Nat.reduceBNe, Int.reduceEq, ↓reduceIte, reduceCtorEq]
      have eA : (((((ndO s.n).set (k * 2) T.hole).set (k * 2) (.sl true 0 0 [])).set (k * 2 + 1) (.bool true)).set (k * 2) (.sl true 1 0 [])) = ndO (s.n.set k ⟨[], true⟩) := by
        have := ndO_set ⟨[], true⟩ hkn
        simp only [List.length_nil, List.map_nil] at this
        rw [← this, List.set_set, List.set_comm _ _ (by omega), List.set_set]
      have e3 : ((((ndO s.n).set (k * 2) T.hole).set (k * 2) (.sl true 0 0 [])).set (k * 2 + 1) (.bool true))[k * 2]? = some (.sl true 0 0 []) := by rw [List.getElem?_set_ne (by omega), List.getElem?_set_self (by rw [List.length_set]; omega)]
      have I2 := I.gone hk
      rw [hH] at I2
      generalize hx : (fun t : Nat => (hs.take t).foldl (fun s y => lessF f s y.toNat) ⟨s.n.set k ⟨[], true⟩, decF s.c k, s.go ++ [(k : Int)]⟩) = X
      have hx0 : X 0 = ⟨s.n.set k ⟨[], true⟩, decF s.c k, s.go ++ [(k : Int)]⟩ := by rw [← hx]; rfl
      have hxs : ∀ t, t < hs.length → X (t + 1) = lessF f (X t) (hs.getD t default).toNat := fun t ht => by
        rw [← hx]
        simp only
        rw [List.take_add_one, List.foldl_append, List.getElem?_eq_getElem ht]
        simp [List.getD_eq_getElem?_getD, ht]
      have hxe : X hs.length = hs.foldl (fun s y => lessF f s y.toNat) ⟨s.n.set k ⟨[], true⟩, decF s.c k, s.go ++ [(k : Int)]⟩ := by rw [← hx]; simp only [List.take_length]
      rw [← hxe]
      refine loop_n hs.length (fun t => ⟨[(41, .w (.one (.int .i64 (t : Nat)))), (40, .w (.one (.int .i64 hs.length))), (39, .w (.one (.hs 5 [] 0 1 hs.length))), (2, .w (.one (.hs 3 [] 0 1 (X t).go.length))), (3, .w (.one (.hp 4 [] 0)))], [(3, (.sl true 1 ((X t).go).length (((X t).go).map (T.int .i64)))), (5, (.sl true 1 hs.length (hs.map (T.int .i64)))), (4, .bx true [.sl true 2 N (ndO (X t).n), (.sl true 1 r.length (r.map (T.int .i64))), .sl true 1 N ((X t).c.map (T.int .i64))])], [.agg [.hs 4 [0] 0 2 N, .hs 4 [1] 0 1 r.length, .hs 4 [2] 0 1 N], .one (.int .i64 (k : Nat)), .one .un]⟩) (fun t => LInv N (b + (hs.length - t)) (X t)) ?_ ?_ ?_
      · refine (imp_fix 4 [0] (k * 2) 1 (t2 := .bx true [.sl true 2 N (ndO (s.n.set k ⟨[], true⟩)), (.sl true 1 r.length (r.map (T.int .i64))), .sl true 1 N ((decF s.c k).map (T.int .i64))]) rfl (by simp (maxSteps := 9000000) -implicitDefEqProofs -dsimp (disch := omega) only [go_sem, e3, Nat.reduceEqDiff, Nat.reduceAdd, Nat.reduceMul, Nat.reduceLeDiff, Nat.reduceBEq, Nat.reduceBNe, Int.reduceEq, ↓reduceIte, reduceCtorEq]) (by simp (maxSteps := 9000000) -implicitDefEqProofs -dsimp (disch := omega) only [go_sem, e3, eA, Nat.reduceEqDiff, Nat.reduceAdd, Nat.reduceMul, Nat.reduceLeDiff, Nat.reduceBEq, Nat.reduceBNe, Int.reduceEq, ↓reduceIte, reduceCtorEq])).trans ((imp_ren 7 3 rfl rfl).trans ?_)
        rw [hx0]
        exact (imp_sub (by simp (maxSteps := 9000000) -implicitDefEqProofs -dsimp (disch := omega) only [go_sem, List.map_append, Nat.reduceEqDiff, Nat.reduceAdd, Nat.reduceMul, Nat.reduceLeDiff, Nat.reduceBEq, Nat.reduceBNe, Int.reduceEq, ↓reduceIte, reduceCtorEq]) (by simp (maxSteps := 9000000) -implicitDefEqProofs -dsimp (disch := omega) only [go_sem, List.map_append, Nat.reduceEqDiff, Nat.reduceAdd, Nat.reduceMul, Nat.reduceLeDiff, Nat.reduceBEq, Nat.reduceBNe, Int.reduceEq, ↓reduceIte, reduceCtorEq]) rfl)
      · rw [hx0]; simpa using I2
      · intro t ht J
        simp (maxSteps := 9000000) -implicitDefEqProofs -dsimp (disch := omega) only [go_sem, Nat.reduceEqDiff, Nat.reduceAdd, Nat.reduceMul, Nat.reduceLeDiff, Nat.reduceBEq, Nat.reduceBNe, Int.reduceEq, ↓reduceIte, reduceCtorEq]
        refine brP_i (fun h1 => ?_) (fun h1 => ?_)
        · have ht2 : t < hs.length := by omega
          have hw := I.w k hk (hs.getD t default) (by rw [hH]; exact getD_mem ht2)
          have hxt := hxs t ht2
          have a4 : ((hs.getD t default).toNat : Int) = hs.getD t default := Int.toNat_of_nonneg hw.1
          have M := l10Less_ok f (N := N) (X t) r (hs.getD t default).toNat (b + (hs.length - t - 1)) (by omega) (by omega) hN (by omega) hr (by rw [show b + ((hs.length : Int) - t - 1) + 1 = b + (hs.length - t) by omega]; exact J)
          have J2 := lessF_inv f (N := N) (X t) (hs.getD t default).toNat (b + (hs.length - t - 1)) (by omega) (by rw [show b + ((hs.length : Int) - t - 1) + 1 = b + (hs.length - t) by omega]; exact J)
          rw [← hxt] at M J2
          rw [a4] at M
          have p1 : cut (ndO (X t).n) 0 (N * 2) = ndO (X t).n := rows2_cut J.ln
          have p2 : cut ((X t).c.map (T.int .i64)) 0 N = (X t).c.map (T.int .i64) := cut_all (by simp [J.lc])
          have p3 : noRoL (ndO (X (t + 1)).n) = true := ndO_noRo
          have p4 : cut (ndO (X (t + 1)).n) 0 (N * 2) = ndO (X (t + 1)).n := rows2_cut J2.ln
          have p5 : cut ((X (t + 1)).c.map (T.int .i64)) 0 N = (X (t + 1)).c.map (T.int .i64) := cut_all (by simp [J2.lc])
          have p6 : (ndO (X t).n).length = N * 2 := by rw [show (ndO (X t).n).length = (X t).n.length * 2 from rows2_len, J.ln]
          have p7 : (ndO (X (t + 1)).n).length = N * 2 := by rw [show (ndO (X (t + 1)).n).length = (X (t + 1)).n.length * 2 from rows2_len, J2.ln]
          simp (maxSteps := 9000000) -implicitDefEqProofs -dsimp (disch := omega) only [go_sem, Nat.reduceEqDiff, Nat.reduceAdd, Nat.reduceMul, Nat.reduceLeDiff, Nat.reduceBEq, Nat.reduceBNe, Int.reduceEq, ↓reduceIte, reduceCtorEq]
          refine callk_go [(4, [0]), (4, [1]), (4, [2])] true M ?_
          simp (maxSteps := 9000000) -implicitDefEqProofs -dsimp (disch := omega) only [go_sem, p1, p2, p3, p4, p5, J.lc, J2.lc, Nat.reduceEqDiff, Nat.reduceAdd, Nat.reduceMul, Nat.reduceLeDiff, Nat.reduceBEq, Nat.reduceBNe, Int.reduceEq, ↓reduceIte, reduceCtorEq]
          refine ⟨⟨ht2, ?_⟩, (imp_ren 6 3 rfl rfl).trans (imp_sub (by simp (maxSteps := 9000000) -implicitDefEqProofs -dsimp (disch := omega) only [go_sem, p1, p2, p3, p4, p5, Nat.reduceEqDiff, Nat.reduceAdd, Nat.reduceMul, Nat.reduceLeDiff, Nat.reduceBEq, Nat.reduceBNe, Int.reduceEq, ↓reduceIte, reduceCtorEq]) (by simp (maxSteps := 9000000) -implicitDefEqProofs -dsimp (disch := omega) only [go_sem, p1, p2, p3, p4, p5, Nat.reduceEqDiff, Nat.reduceAdd, Nat.reduceMul, Nat.reduceLeDiff, Nat.reduceBEq, Nat.reduceBNe, Int.reduceEq, ↓reduceIte, reduceCtorEq]) rfl)⟩
          rw [show b + ((hs.length : Int) - (t + 1)) = b + (hs.length - t - 1) by omega]
          exact J2
        · obtain rfl : t = hs.length := by omega
          have p1 : cut (ndO (X hs.length).n) 0 (N * 2) = ndO (X hs.length).n := rows2_cut J.ln
          have p2 : cut ((X hs.length).c.map (T.int .i64)) 0 N = (X hs.length).c.map (T.int .i64) := cut_all (by simp [J.lc])
          simp (maxSteps := 9000000) -implicitDefEqProofs -dsimp (disch := omega) only [go_sem, p1, p2, Nat.reduceEqDiff, Nat.reduceAdd, Nat.reduceMul, Nat.reduceLeDiff, Nat.reduceBEq, Nat.reduceBNe, Int.reduceEq, ↓reduceIte, reduceCtorEq]
def g77_0 : List Gop := [⟨none, (some 3), (.box (.t 0))⟩, ⟨none, (some 6), (.mov (.k (.one .nil)))⟩]
def g77_1 : List Gop := [⟨none, (some 10), (.faddr (.t 3) 2)⟩, ⟨none, (some 11), (.load none (.t 10))⟩, ⟨none, (some 12), (.mov (.t 1))⟩, ⟨none, (some 13), (.iaddr 1 (.t 11) (.t 12))⟩, ⟨none, (some 14), (.load none (.t 13))⟩, ⟨none, (some 15), (.bin .sub (.t 14) (.k (.one (.int .i64 1))))⟩, ⟨none, (some 16), (.iaddr 1 (.t 11) (.t 12))⟩, ⟨none, none, (.store 1 (.t 16) (.t 15))⟩]
def g77_2 : List Gop := [⟨none, (some 17), (.faddr (.t 3) 2)⟩, ⟨none, (some 18), (.load none (.t 17))⟩, ⟨none, (some 19), (.mov (.t 1))⟩, ⟨none, (some 20), (.iaddr 1 (.t 18) (.t 19))⟩, ⟨none, (some 21), (.load none (.t 20))⟩, ⟨none, (some 22), (.bin .gtr (.t 21) (.k (.one (.int .i64 0))))⟩]
def g77_3 : List Gop := [⟨none, (some 23), (.mov (.t 2))⟩, ⟨none, (some 6), (.mov (.t 23))⟩]
def g77_4 : List Gop := [⟨none, (some 24), (.faddr (.t 3) 0)⟩, ⟨none, (some 25), (.load none (.t 24))⟩, ⟨none, (some 26), (.mov (.t 1))⟩, ⟨none, (some 27), (.iaddr 2 (.t 25) (.t 26))⟩, ⟨none, (some 28), (.faddr (.t 27) 0)⟩, ⟨none, (some 29), (.load none (.t 28))⟩, ⟨none, (some 7), (.mov (.t 29))⟩]
def g77_5 : List Gop := [⟨none, (some 30), (.faddr (.t 3) 0)⟩, ⟨none, (some 31), (.load none (.t 30))⟩, ⟨none, (some 32), (.mov (.t 1))⟩, ⟨none, (some 33), (.build [.nil, (.bool .false)] [(1, (1, (.k (.one (.bool .true)))))])⟩, ⟨none, (some 34), (.iaddr 2 (.t 31) (.t 32))⟩, ⟨none, none, (.store 2 (.t 34) (.t 33))⟩]
def g77_6 : List Gop := [⟨none, (some 35), (.mov (.t 2))⟩, ⟨none, (some 36), (.mov (.t 1))⟩, ⟨none, (some 37), (.lit 1 1 [(.int .i64 0)] [(0, (.t 36))])⟩, ⟨none, (some 38), (.app 1 8 [(.int .i64 0)] (.t 35) (.t 37))⟩, ⟨none, (some 2), (.mov (.t 38))⟩]
def g77_7 : List Gop := [⟨none, (some 39), (.mov (.t 7))⟩, ⟨none, (some 40), (.len (.t 39))⟩, ⟨none, (some 41), (.mov (.k (.one (.int .i64 0))))⟩]
def g77_8 : List Gop := [⟨none, (some 42), (.bin .lss (.t 41) (.t 40))⟩]
def g77_9 : List Gop := [⟨none, (some 43), (.iaddr 1 (.t 39) (.t 41))⟩, ⟨none, (some 44), (.load none (.t 43))⟩, ⟨none, (some 9), (.mov (.t 44))⟩]
def g77_10 : List Gop := [⟨none, (some 45), (.load (some 3) (.t 3))⟩, ⟨none, (some 46), (.mov (.t 9))⟩, ⟨none, (some 47), (.mov (.t 2))⟩, ⟨none, (some 48), (.call 77 [(.t 45), (.t 46), (.t 47)])⟩, ⟨none, (some 2), (.mov (.t 48))⟩]
def g77_11 : List Gop := [⟨none, (some 49), (.bin .add (.t 41) (.k (.one (.int .i64 1))))⟩, ⟨none, (some 41), (.mov (.t 49))⟩]
def g77_12 : List Gop := [⟨none, (some 50), (.mov (.t 2))⟩, ⟨none, (some 6), (.mov (.t 50))⟩]
def i77 : Ir := (.seq (.region g77_0) (.seq (.region g77_1) (.seq (.seq (.region g77_2) (.cond (.t 22) (.seq (.region g77_3) .ret) .skip)) (.seq (.region g77_4) (.seq (.region g77_5) (.seq (.region g77_6) (.seq (.seq (.region g77_7) (.block 0 (.loop (.seq (.region g77_8) (.seq (.cond (.t 42) .skip (.exit 0)) (.seq (.block 1 (.seq (.region g77_9) (.region g77_10))) (.region g77_11))))))) (.seq (.region g77_12) .ret))))))))
def iRel : Ir := (.seq (.region g77_0) (.seq (.region g77_1) (.seq (.seq (.region g77_2) (.cond (.t 22) (.seq (.region g77_3) .ret) .skip)) (.seq (.region g77_4) (.mark (.seq (.region g77_5) (.seq (.region g77_6) (.seq (.seq (.region g77_7) (.block 0 (.loop (.seq (.region g77_8) (.seq (.cond (.t 42) .skip (.exit 0)) (.seq (.block 1 (.seq (.region g77_9) (.region g77_10))) (.region g77_11))))))) (.seq (.region g77_12) .ret)))))))))
theorem release_ok : ∀ (f : Nat) {N : Nat} (s : Ls) (r : List Int) (k : Nat) (b : Int), k < N → k < f → N ≤ 1048576 → -1048576 ≤ b → r.length ≤ 1048576 → LInv N (b + 1) s →
    Meets Try.prog 77 [.agg [.sl true 2 N (ndO s.n), (.sl true 1 r.length (r.map (T.int .i64))), .sl true 1 N (s.c.map (T.int .i64))], .one (.int .i64 k), .one (.sl true 1 s.go.length (s.go.map (T.int .i64)))] (.w (.one (.sl true 1 ((lessF f s k).go).length (((lessF f s k).go).map (T.int .i64))))) [.agg [.sl true 2 N (ndO (lessF f s k).n), (.sl true 1 r.length (r.map (T.int .i64))), .sl true 1 N ((lessF f s k).c.map (T.int .i64))], .one .hole, .one .hole]
  | 0, N, s, r, k, b, hk, hf, hN, hb, hr, I => by omega
  | f + 1, N, s, r, k, b, hk, hf, hN, hb, hr, I => by
    have ln := I.ln
    have lc := I.lc
    have lo := I.lo k hk
    have hi := I.hi k hk
    have nn := ntt_nonneg (l := s.n)
    have hkn : k < s.n.length := by omega
    have hkc : k < s.c.length := by omega
    have q1 : cut (ndO s.n) 0 (N * 2) = ndO s.n := rows2_cut ln
    have q2 : cut (s.c.map (T.int .i64)) 0 N = s.c.map (T.int .i64) := cut_all (by simp [lc])
    have hd : (decF s.c k).getD k default = s.c.getD k default - 1 := by simp only [decF, getD_set]; rw [if_pos (by exact ⟨trivial, hkc⟩)]
    have hdc : s.c.set k (s.c.getD k default - 1) = decF s.c k := rfl
    have hdl : (decF s.c k).length = N := by rw [decF_len]; exact lc
    have q3 : cut ((decF s.c k).map (T.int .i64)) 0 N = (decF s.c k).map (T.int .i64) := cut_all (by simp [hdl])
    have gl := I.gl
    have n0 := ndO_0 hkn
    have n1 := ndO_1 hkn
    by_cases h0 : 0 < s.c.getD k default - 1
    · have hL : lessF (f + 1) s k = ⟨s.n, decF s.c k, s.go⟩ := by rw [lessF, if_pos (by omega)]
      rw [hL]
      refine meets_go (ir := iRel) (fn := Try.f77) (rx := [(.tmp 6)]) rfl rfl (by rfl) (by rfl) (by exact Nat.le_of_ble_eq_true rfl) ?_
      simp (maxSteps := 9000000) -implicitDefEqProofs -dsimp (disch := omega) only [go_sem, g77_0, g77_1, g77_2, g77_3, g77_4, g77_5, g77_6, g77_7, g77_8, g77_9, g77_10, g77_11, g77_12, i77, lt_T, lt_F, le_T, le_F, eq_T, eq_F, and_F, iRel, q1, q2, hdc, hd, h0, q3, Nat.reduceEqDiff, Nat.reduceAdd, Nat.reduceMul, Nat.reduceLeDiff, Nat.reduceBEq, Nat.reduceBNe, Int.reduceEq, ↓reduceIte, reduceCtorEq]
    · have hL : lessF (f + 1) s k = (s.n.getD k default).h.foldl (fun s y => lessF f s y.toNat) ⟨s.n.set k ⟨[], true⟩, decF s.c k, s.go ++ [(k : Int)]⟩ := by rw [lessF, if_neg (by omega)]
      rw [hL]
      refine meets_go (ir := iRel) (fn := Try.f77) (rx := [(.tmp 6)]) rfl rfl (by rfl) (by rfl) (by exact Nat.le_of_ble_eq_true rfl) ?_
      simp (maxSteps := 9000000) -implicitDefEqProofs -dsimp (disch := omega) only [go_sem, g77_0, g77_1, g77_2, g77_3, g77_4, g77_5, g77_6, g77_7, g77_8, g77_9, g77_10, g77_11, g77_12, i77, lt_T, lt_F, le_T, le_F, eq_T, eq_F, and_F, iRel, q1, q2, hdc, hd, h0, q3, n0, n1, Nat.reduceEqDiff, Nat.reduceAdd, Nat.reduceMul, Nat.reduceLeDiff, Nat.reduceBEq, Nat.reduceBNe, Int.reduceEq, ↓reduceIte, reduceCtorEq]
      have hsl := mem_ntt (getD_mem hkn)
      generalize hH : (s.n.getD k default).h = hs at *
      refine mark_imp ⟨[(7, .w (.one (.hs 5 [] 0 1 hs.length))), (1, .w (.one (.int .i64 (k : Nat)))), (2, .w (.one (.hs 3 [] 0 1 s.go.length))), (3, .w (.one (.hp 4 [] 0)))], [(5, (.sl true 1 hs.length (hs.map (T.int .i64)))), (4, .bx true [.sl true 2 N ((ndO s.n).set (k * 2) .hole), (.sl true 1 r.length (r.map (T.int .i64))), .sl true 1 N ((decF s.c k).map (T.int .i64))]), (3, (.sl true 1 s.go.length (s.go.map (T.int .i64))))], [.agg [.hs 4 [0] 0 2 N, .hs 4 [1] 0 1 r.length, .hs 4 [2] 0 1 N], .one (.int .i64 (k : Nat)), .one (.hs 3 [] 0 1 s.go.length)]⟩ ((imp_out 4 [0] (k * 2) 5 (st := 1) (n := hs.length) (cs := hs.map (T.int .i64)) (t2 := .bx true [.sl true 2 N ((ndO s.n).set (k * 2) .hole), (.sl true 1 r.length (r.map (T.int .i64))), .sl true 1 N ((decF s.c k).map (T.int .i64))]) rfl (by simp (maxSteps := 9000000) -implicitDefEqProofs -dsimp (disch := omega) only [go_sem, n0, Nat.reduceEqDiff, Nat.reduceAdd, Nat.reduceMul, Nat.reduceLeDiff, Nat.reduceBEq, Nat.reduceBNe, Int.reduceEq, ↓reduceIte, reduceCtorEq]) (by simp (maxSteps := 9000000) -implicitDefEqProofs -dsimp (disch := omega) only [go_sem, n0, Nat.reduceEqDiff, Nat.reduceAdd, Nat.reduceMul, Nat.reduceLeDiff, Nat.reduceBEq, Nat.reduceBNe, Int.reduceEq, ↓reduceIte, reduceCtorEq]) rfl).trans (imp_sub (by simp (maxSteps := 9000000) -implicitDefEqProofs -dsimp (disch := omega) only [go_sem, Nat.reduceEqDiff, Nat.reduceAdd, Nat.reduceMul, Nat.reduceLeDiff, Nat.reduceBEq, Nat.reduceBNe, Int.reduceEq, ↓reduceIte, reduceCtorEq]) (by simp (maxSteps := 9000000) -implicitDefEqProofs -dsimp (disch := omega) only [go_sem, Nat.reduceEqDiff, Nat.reduceAdd, Nat.reduceMul, Nat.reduceLeDiff, Nat.reduceBEq, Nat.reduceBNe, Int.reduceEq, ↓reduceIte, reduceCtorEq]) rfl)) ?_
      have qn : (ndO s.n).length = N * 2 := by rw [show (ndO s.n).length = s.n.length * 2 from rows2_len, ln]
      have e1 : ((ndO s.n).set (k * 2) T.hole)[k * 2]? = some .hole := by rw [List.getElem?_set_self (by omega)]
      have e2 : (((ndO s.n).set (k * 2) T.hole).set (k * 2) (.sl true 0 0 []))[k * 2 + 1]? = some (.bool (s.n.getD k default).g) := by rw [List.getElem?_set_ne (by omega), List.getElem?_set_ne (by omega), n1]
      simp (maxSteps := 9000000) -implicitDefEqProofs -dsimp (disch := omega) only [go_sem, lt_T, lt_F, le_T, le_F, eq_T, eq_F, and_F, e1, e2, Nat.reduceEqDiff, Nat.reduceAdd, Nat.reduceMul, Nat.reduceLeDiff, Nat.reduceBEq, Nat.reduceBNe, Int.reduceEq, ↓reduceIte, reduceCtorEq]
      have eA : (((((ndO s.n).set (k * 2) T.hole).set (k * 2) (.sl true 0 0 [])).set (k * 2 + 1) (.bool true)).set (k * 2) (.sl true 1 0 [])) = ndO (s.n.set k ⟨[], true⟩) := by
        have := ndO_set ⟨[], true⟩ hkn
        simp only [List.length_nil, List.map_nil] at this
        rw [← this, List.set_set, List.set_comm _ _ (by omega), List.set_set]
      have e3 : ((((ndO s.n).set (k * 2) T.hole).set (k * 2) (.sl true 0 0 [])).set (k * 2 + 1) (.bool true))[k * 2]? = some (.sl true 0 0 []) := by rw [List.getElem?_set_ne (by omega), List.getElem?_set_self (by rw [List.length_set]; omega)]
      have I2 := I.gone hk
      rw [hH] at I2
      generalize hx : (fun t : Nat => (hs.take t).foldl (fun s y => lessF f s y.toNat) ⟨s.n.set k ⟨[], true⟩, decF s.c k, s.go ++ [(k : Int)]⟩) = X
      have hx0 : X 0 = ⟨s.n.set k ⟨[], true⟩, decF s.c k, s.go ++ [(k : Int)]⟩ := by rw [← hx]; rfl
      have hxs : ∀ t, t < hs.length → X (t + 1) = lessF f (X t) (hs.getD t default).toNat := fun t ht => by
        rw [← hx]
        simp only
        rw [List.take_add_one, List.foldl_append, List.getElem?_eq_getElem ht]
        simp [List.getD_eq_getElem?_getD, ht]
      have hxe : X hs.length = hs.foldl (fun s y => lessF f s y.toNat) ⟨s.n.set k ⟨[], true⟩, decF s.c k, s.go ++ [(k : Int)]⟩ := by rw [← hx]; simp only [List.take_length]
      rw [← hxe]
      refine loop_n hs.length (fun t => ⟨[(41, .w (.one (.int .i64 (t : Nat)))), (40, .w (.one (.int .i64 hs.length))), (39, .w (.one (.hs 5 [] 0 1 hs.length))), (2, .w (.one (.hs 3 [] 0 1 (X t).go.length))), (3, .w (.one (.hp 4 [] 0)))], [(3, (.sl true 1 ((X t).go).length (((X t).go).map (T.int .i64)))), (5, (.sl true 1 hs.length (hs.map (T.int .i64)))), (4, .bx true [.sl true 2 N (ndO (X t).n), (.sl true 1 r.length (r.map (T.int .i64))), .sl true 1 N ((X t).c.map (T.int .i64))])], [.agg [.hs 4 [0] 0 2 N, .hs 4 [1] 0 1 r.length, .hs 4 [2] 0 1 N], .one (.int .i64 (k : Nat)), .one .un]⟩) (fun t => LInv N (b + (hs.length - t)) (X t)) ?_ ?_ ?_
      · refine (imp_fix 4 [0] (k * 2) 1 (t2 := .bx true [.sl true 2 N (ndO (s.n.set k ⟨[], true⟩)), (.sl true 1 r.length (r.map (T.int .i64))), .sl true 1 N ((decF s.c k).map (T.int .i64))]) rfl (by simp (maxSteps := 9000000) -implicitDefEqProofs -dsimp (disch := omega) only [go_sem, e3, Nat.reduceEqDiff, Nat.reduceAdd, Nat.reduceMul, Nat.reduceLeDiff, Nat.reduceBEq, Nat.reduceBNe, Int.reduceEq, ↓reduceIte, reduceCtorEq]) (by simp (maxSteps := 9000000) -implicitDefEqProofs -dsimp (disch := omega) only [go_sem, e3, eA, Nat.reduceEqDiff, Nat.reduceAdd, Nat.reduceMul, Nat.reduceLeDiff, Nat.reduceBEq, Nat.reduceBNe, Int.reduceEq, ↓reduceIte, reduceCtorEq])).trans ((imp_ren 7 3 rfl rfl).trans ?_)
        rw [hx0]
        exact (imp_sub (by simp (maxSteps := 9000000) -implicitDefEqProofs -dsimp (disch := omega) only [go_sem, List.map_append, Nat.reduceEqDiff, Nat.reduceAdd, Nat.reduceMul, Nat.reduceLeDiff, Nat.reduceBEq, Nat.reduceBNe, Int.reduceEq, ↓reduceIte, reduceCtorEq]) (by simp (maxSteps := 9000000) -implicitDefEqProofs -dsimp (disch := omega) only [go_sem, List.map_append, Nat.reduceEqDiff, Nat.reduceAdd, Nat.reduceMul, Nat.reduceLeDiff, Nat.reduceBEq, Nat.reduceBNe, Int.reduceEq, ↓reduceIte, reduceCtorEq]) rfl)
      · rw [hx0]; simpa using I2
      · intro t ht J
        simp (maxSteps := 9000000) -implicitDefEqProofs -dsimp (disch := omega) only [go_sem, Nat.reduceEqDiff, Nat.reduceAdd, Nat.reduceMul, Nat.reduceLeDiff, Nat.reduceBEq, Nat.reduceBNe, Int.reduceEq, ↓reduceIte, reduceCtorEq]
        refine brP_i (fun h1 => ?_) (fun h1 => ?_)
        · have ht2 : t < hs.length := by omega
          have hw := I.w k hk (hs.getD t default) (by rw [hH]; exact getD_mem ht2)
          have hxt := hxs t ht2
          have a4 : ((hs.getD t default).toNat : Int) = hs.getD t default := Int.toNat_of_nonneg hw.1
          have M := release_ok f (N := N) (X t) r (hs.getD t default).toNat (b + (hs.length - t - 1)) (by omega) (by omega) hN (by omega) hr (by rw [show b + ((hs.length : Int) - t - 1) + 1 = b + (hs.length - t) by omega]; exact J)
          have J2 := lessF_inv f (N := N) (X t) (hs.getD t default).toNat (b + (hs.length - t - 1)) (by omega) (by rw [show b + ((hs.length : Int) - t - 1) + 1 = b + (hs.length - t) by omega]; exact J)
          rw [← hxt] at M J2
          rw [a4] at M
          have p1 : cut (ndO (X t).n) 0 (N * 2) = ndO (X t).n := rows2_cut J.ln
          have p2 : cut ((X t).c.map (T.int .i64)) 0 N = (X t).c.map (T.int .i64) := cut_all (by simp [J.lc])
          have p3 : noRoL (ndO (X (t + 1)).n) = true := ndO_noRo
          have p4 : cut (ndO (X (t + 1)).n) 0 (N * 2) = ndO (X (t + 1)).n := rows2_cut J2.ln
          have p5 : cut ((X (t + 1)).c.map (T.int .i64)) 0 N = (X (t + 1)).c.map (T.int .i64) := cut_all (by simp [J2.lc])
          have p6 : (ndO (X t).n).length = N * 2 := by rw [show (ndO (X t).n).length = (X t).n.length * 2 from rows2_len, J.ln]
          have p7 : (ndO (X (t + 1)).n).length = N * 2 := by rw [show (ndO (X (t + 1)).n).length = (X (t + 1)).n.length * 2 from rows2_len, J2.ln]
          simp (maxSteps := 9000000) -implicitDefEqProofs -dsimp (disch := omega) only [go_sem, Nat.reduceEqDiff, Nat.reduceAdd, Nat.reduceMul, Nat.reduceLeDiff, Nat.reduceBEq, Nat.reduceBNe, Int.reduceEq, ↓reduceIte, reduceCtorEq]
          refine callk_go [(4, [0]), (4, [1]), (4, [2])] true M ?_
          simp (maxSteps := 9000000) -implicitDefEqProofs -dsimp (disch := omega) only [go_sem, p1, p2, p3, p4, p5, J.lc, J2.lc, Nat.reduceEqDiff, Nat.reduceAdd, Nat.reduceMul, Nat.reduceLeDiff, Nat.reduceBEq, Nat.reduceBNe, Int.reduceEq, ↓reduceIte, reduceCtorEq]
          refine ⟨⟨ht2, ?_⟩, (imp_ren 6 3 rfl rfl).trans (imp_sub (by simp (maxSteps := 9000000) -implicitDefEqProofs -dsimp (disch := omega) only [go_sem, p1, p2, p3, p4, p5, Nat.reduceEqDiff, Nat.reduceAdd, Nat.reduceMul, Nat.reduceLeDiff, Nat.reduceBEq, Nat.reduceBNe, Int.reduceEq, ↓reduceIte, reduceCtorEq]) (by simp (maxSteps := 9000000) -implicitDefEqProofs -dsimp (disch := omega) only [go_sem, p1, p2, p3, p4, p5, Nat.reduceEqDiff, Nat.reduceAdd, Nat.reduceMul, Nat.reduceLeDiff, Nat.reduceBEq, Nat.reduceBNe, Int.reduceEq, ↓reduceIte, reduceCtorEq]) rfl)⟩
          rw [show b + ((hs.length : Int) - (t + 1)) = b + (hs.length - t - 1) by omega]
          exact J2
        · obtain rfl : t = hs.length := by omega
          have p1 : cut (ndO (X hs.length).n) 0 (N * 2) = ndO (X hs.length).n := rows2_cut J.ln
          have p2 : cut ((X hs.length).c.map (T.int .i64)) 0 N = (X hs.length).c.map (T.int .i64) := cut_all (by simp [J.lc])
          simp (maxSteps := 9000000) -implicitDefEqProofs -dsimp (disch := omega) only [go_sem, p1, p2, Nat.reduceEqDiff, Nat.reduceAdd, Nat.reduceMul, Nat.reduceLeDiff, Nat.reduceBEq, Nat.reduceBNe, Int.reduceEq, ↓reduceIte, reduceCtorEq]
end Go.Proofs.YtdhclelfnbjikaaT

/- Functions of the program as contracts: a hold is let go. No condition. -/
set_option maxRecDepth 100000
set_option maxHeartbeats 8000000
set_option linter.unusedSimpArgs false
set_option linter.unusedVariables false
namespace Go.Proofs.YtdhclelfnbjikaaT
open Go Go.RowKit
def UnOk (g : Gr) (a b : Int) : Prop := ThereG g a ∧ 0 ≤ b ∧ b < (g.n.getD a.toNat default).h.length
noncomputable instance (g : Gr) (a b : Int) : Decidable (UnOk g a b) := Classical.propDecidable _
theorem bd_cntN {n : List Nd} : ∀ {b : List Int} {k : Nat}, Bd b k → (∀ x ∈ n, x.h.length ≤ 6) → Bd (cntN b n) (k + 6 * n.length) := by
  induction n with
  | nil => intro b k h _; exact h
  | cons x n ih =>
    intro b k h hx
    have h1 := hx x List.mem_cons_self
    have := ih (b := x.h.foldl incF b) (k := k + 6) (bd_mono (bd_fold h) (by omega)) (fun y hy => hx y (List.mem_cons_of_mem _ hy))
    simp only [cntN, List.foldl_cons, List.length_cons] at this ⊢
    exact bd_mono this (by omega)
theorem bd_counts {n : List Nd} {r : List Int} (h : NodesOk n r) : Bd (countsF n r) 100 := by
  have h6 : ∀ x ∈ n, x.h.length ≤ 6 := fun x hx => by
    obtain ⟨j, hj, rfl⟩ := mem_getD hx
    exact (h.1 j hj).2.1
  have h1 : Bd (cntR n.length r) (0 + r.length) := bd_fold bd_rep
  have := bd_cntN h1 h6
  have h3 := h.2.2.1
  have h4 := h.2.2.2
  exact bd_mono this (by omega)
theorem ntt_6 {l : List Nd} (h : ∀ x ∈ l, x.h.length ≤ 6) : ntt l ≤ 6 * l.length := by
  induction l with
  | nil => simp [ntt]
  | cons x l ih =>
    have h1 := h x List.mem_cons_self
    have := ih fun y hy => h y (List.mem_cons_of_mem _ hy)
    simp only [ntt, List.map_cons, List.sum_cons, List.length_cons] at *
    omega
theorem set_same {α : Type} {l : List α} {i : Nat} {x : α} (h : l[i]? = some x) : l = l.set i x := by
  apply List.ext_getElem?
  intro j
  rw [List.getElem?_set]
  split
  · rename_i e; subst e
    have := (List.getElem?_eq_some_iff.1 h).1
    rw [if_pos this, h]
  · rfl
theorem delF_mem {l : List Int} {i : Nat} {y : Int} (h : y ∈ delF l i) : y ∈ l := by
  rcases List.mem_append.1 h with h | h
  · exact List.mem_of_mem_take h
  · exact List.mem_of_mem_drop h
end Go.Proofs.YtdhclelfnbjikaaT

/- Functions of the program as contracts: a hold is let go, by the program. No condition. -/
set_option maxRecDepth 100000
set_option maxHeartbeats 8000000
set_option linter.unusedSimpArgs false
set_option linter.unusedVariables false
namespace Go.Proofs.YtdhclelfnbjikaaT
open Go Go.RowKit
theorem theres_1 {g : Gr} {a : Int} : TheresG g [a] ↔ ThereG g a := by simp [TheresG, ThereG]
end Go.Proofs.YtdhclelfnbjikaaT

/- Functions of the program as contracts: what the laws of graphs mark and count. No condition. -/
set_option maxRecDepth 100000
set_option maxHeartbeats 8000000
set_option linter.unusedSimpArgs false
set_option linter.unusedVariables false
namespace Go.Proofs.YtdhclelfnbjikaaT
open Go
def mkI (k : Int) (n : Nat) : List Int := (List.range n).map (fun j : Nat => k + (j : Int))
theorem cut_mr {α : Type} {f : α → T} {g : Nat → α} {n : Nat} : cut (List.map f (List.map g (List.range n))) 0 n = List.map f (List.map g (List.range n)) := cut_all (by simp)
/-- where the marks of the node j begin -/
def mkk (l : List Nd) (k : Int) (j : Nat) : Int := k + ntt (l.take j) + j
def mkG (l : List Nd) (k : Int) (j : Nat) : Nd := ⟨mkI (mkk l k j) (l.getD j default).h.length, decide ((mkk l k j + (l.getD j default).h.length).tmod 3 = 0)⟩
def mkN (l : List Nd) (k : Int) : List Nd := (List.range l.length).map (mkG l k)
theorem mkI_len {k : Int} {n : Nat} : (mkI k n).length = n := by simp [mkI]
theorem mkN_len {l : List Nd} {k : Int} : (mkN l k).length = l.length := by simp [mkN]
end Go.Proofs.YtdhclelfnbjikaaT

/- Functions of the program as contracts: the law of a hold that is let go. No condition. -/
set_option maxRecDepth 100000
set_option maxHeartbeats 8000000
set_option linter.unusedSimpArgs false
set_option linter.unusedVariables false
namespace Go.Proofs.YtdhclelfnbjikaaT
open Go
theorem ndO_len {l : List Nd} : (ndO l).length = l.length * 2 := rows2_len
theorem ndR_len {l : List Nd} : (ndR l).length = l.length * 2 := rows2_len
theorem ndO_cutN {l : List Nd} {n : Nat} (h : n = l.length * 2) : cut (ndO l) 0 n = ndO l := by subst h; exact ndO_cut
theorem ndR_cutN {l : List Nd} {n : Nat} (h : n = l.length * 2) : cut (ndR l) 0 n = ndR l := by subst h; exact ndR_cut
theorem cut_lit {α : Type} {f : α → T} {l : List α} {n : Nat} (h : n = l.length) : cut (l.map f) 0 n = l.map f := by subst h; exact cut_all (by simp)
theorem ndR_nil : ndR [] = [] := rfl
theorem ndO_nil : ndO [] = [] := rfl
theorem mkN_nil {k : Int} : mkN [] k = [] := rfl
theorem mkI_nil {k : Int} : mkI k 0 = [] := rfl
theorem cut_mkI {f : Int → T} {k : Int} {m n : Nat} (h : n = m) : cut ((mkI k m).map f) 0 n = (mkI k m).map f := by subst h; exact cut_all (by simp [mkI])
theorem ndO_cutM {l : List Nd} {k : Int} {n : Nat} (h : n = l.length * 2) : cut (ndO (mkN l k)) 0 n = ndO (mkN l k) := ndO_cutN (by rw [mkN_len]; exact h)
theorem ndR_cutM {l : List Nd} {k : Int} {n : Nat} (h : n = l.length * 2) : cut (ndR (mkN l k)) 0 n = ndR (mkN l k) := ndR_cutN (by rw [mkN_len]; exact h)
attribute [go_sem] cut_mr ndO_cutM ndR_cutM cut_mkI List.range_zero beq_self_eq_true ndR_nil ndO_nil mkN_nil mkI_nil ndO_noRo ndO_len ndR_len ndO_cutN ndR_cutN cut_lit ndO_ro ndR_ro mkN_len mkI_len
end Go.Proofs.YtdhclelfnbjikaaT

/- What a graph reads as. No condition. -/
set_option maxRecDepth 100000
set_option maxHeartbeats 8000000
set_option linter.unusedSimpArgs false
set_option linter.unusedVariables false
namespace Go.Proofs.YtdhclelfnbjikaaT
open Go Go.RowKit
theorem flat_one {α : Type} {c : α → T} {l : List α} : (l.map fun s => [c s]).flatten = l.map c := by
  induction l with
  | nil => rfl
  | cons x l ih => simp only [List.map_cons, List.flatten_cons, ih, List.cons_append, List.nil_append]
end Go.Proofs.YtdhclelfnbjikaaT

/- What goes by counts, in plain words: those that are gone, and right counts. No condition. -/
set_option maxRecDepth 100000
set_option maxHeartbeats 4000000
set_option linter.unusedSimpArgs false
set_option linter.unusedVariables false
namespace Go.Proofs.YtdhclelfnbjikaaT
open Go
def occ (j : Nat) (l : List Int) : Int := ((l.countP fun y => y.toNat == j : Nat) : Int)
def tots (j : Nat) (n : List Nd) : Int := (n.map fun x => occ j x.h).sum
theorem occ_nil {j : Nat} : occ j [] = 0 := rfl
theorem occ_cons {j : Nat} {y : Int} {l : List Int} : occ j (y :: l) = occ j l + if y.toNat = j then 1 else 0 := by
  simp only [occ, List.countP_cons]
  by_cases h : y.toNat = j
  · simp [h]
  · simp [h]
theorem occ_app {j : Nat} {l m : List Int} : occ j (l ++ m) = occ j l + occ j m := by simp [occ, List.countP_append]
theorem occ_nn {j : Nat} {l : List Int} : 0 ≤ occ j l := by simp [occ]
theorem occ_zero {j : Nat} {l : List Int} (h : occ j l = 0) : ∀ y ∈ l, y.toNat ≠ j := by
  intro y hy e
  simp only [occ, Int.natCast_eq_zero, List.countP_eq_zero] at h
  exact h y hy (by simp [e])
theorem tots_cons {j : Nat} {x : Nd} {n : List Nd} : tots j (x :: n) = occ j x.h + tots j n := by simp [tots]
theorem tots_nn {j : Nat} : ∀ {n : List Nd}, 0 ≤ tots j n
  | [] => by simp [tots]
  | x :: n => by have := tots_nn (j := j) (n := n); have := occ_nn (j := j) (l := x.h); rw [tots_cons]; omega
theorem tots_le {j : Nat} : ∀ {n : List Nd} {x : Nd}, x ∈ n → occ j x.h ≤ tots j n
  | [], x, h => by simp at h
  | y :: n, x, h => by
    have := tots_nn (j := j) (n := n); have := occ_nn (j := j) (l := y.h)
    rw [tots_cons]
    rcases List.mem_cons.1 h with rfl | h
    · omega
    · have := tots_le (j := j) h; omega
theorem tots_set {j : Nat} {x : Nd} : ∀ {n : List Nd} {k : Nat}, k < n.length → tots j (n.set k x) = tots j n - occ j (n.getD k default).h + occ j x.h
  | [], k, h => by simp at h
  | y :: n, 0, h => by simp only [List.set_cons_zero, tots_cons, List.getD_cons_zero]; omega
  | y :: n, k + 1, h => by
    have := tots_set (j := j) (x := x) (n := n) (k := k) (by simpa using h)
    simp only [List.set_cons_succ, tots_cons, List.getD_cons_succ, this]; omega
theorem inc_get {o : List Int} {y : Int} {j : Nat} (hj : j < o.length) : (incF o y).getD j default = o.getD j default + if y.toNat = j then 1 else 0 := by
  simp only [incF, getD_set]
  by_cases h : y.toNat = j
  · subst h; simp [hj]
  · simp [h]
theorem fold_get {j : Nat} : ∀ {l o : List Int}, j < o.length → (l.foldl incF o).getD j default = o.getD j default + occ j l
  | [], o, h => by simp [occ_nil]
  | y :: l, o, h => by
    rw [List.foldl_cons, fold_get (l := l) (by rw [incF_len]; exact h), inc_get h, occ_cons]; omega
theorem cntN_get {j : Nat} : ∀ {n : List Nd} {b : List Int}, j < b.length → (cntN b n).getD j default = b.getD j default + tots j n
  | [], b, h => by simp [cntN, tots]
  | x :: n, b, h => by
    have := cntN_get (j := j) (n := n) (b := x.h.foldl incF b) (by rw [fold_len]; exact h)
    simp only [cntN, List.foldl_cons] at this ⊢
    rw [this, fold_get h, tots_cons]; omega
theorem rep_getD {m j : Nat} : (List.replicate m (0 : Int)).getD j default = 0 := by
  rw [List.getD_eq_getElem?_getD, List.getElem?_replicate]; split <;> rfl
theorem counts_get {n : List Nd} {r : List Int} {j : Nat} (h : j < n.length) : (countsF n r).getD j default = occ j r + tots j n := by
  unfold countsF cntR
  rw [cntN_get (by rw [fold_len]; simpa using h), fold_get (by simpa using h), rep_getD]; omega
theorem list_ext {a b : List Int} (h : a.length = b.length) (h2 : ∀ j, j < a.length → a.getD j default = b.getD j default) : a = b := by
  apply List.ext_getElem h
  intro j h3 h4
  have := h2 j h3
  simpa [List.getD_eq_getElem?_getD, h3, h4] using this
/-- a state on the way: P: what has still to be taken off -/
structure Sem (n0 : List Nd) (r : List Int) (s : Ls) (P : List Int) : Prop where
  ln : s.n.length = n0.length
  lc : s.c.length = n0.length
  hol : ∀ i, i < n0.length → ∀ y ∈ (s.n.getD i default).h, HoldOk s.n i y
  rts : ∀ y ∈ r, HoldOk s.n n0.length y
  pen : ∀ y ∈ P, HoldOk s.n n0.length y
  emp : ∀ i, i < n0.length → (s.n.getD i default).g = true → (s.n.getD i default).h = []
  six : ∀ i, i < n0.length → (s.n.getD i default).h.length ≤ 6
  cnt : ∀ j, j < n0.length → s.c.getD j default = occ j r + tots j s.n + occ j P
  pos : ∀ j, j < n0.length → (s.n.getD j default).g = false → 0 < s.c.getD j default
  gon : ∀ j : Nat, j < n0.length → ((s.n.getD j default).g = true ↔ (n0.getD j default).g = true ∨ (j : Int) ∈ s.go)
  nod : s.go.Nodup
  gnw : ∀ y ∈ s.go, 0 ≤ y ∧ y < n0.length ∧ (n0.getD y.toNat default).g = false
theorem dec_get {c : List Int} {k j : Nat} (hj : j < c.length) : (decF c k).getD j default = c.getD j default - if k = j then 1 else 0 := by
  simp only [decF, getD_set]
  by_cases h : k = j
  · subst h; simp [hj]
  · simp [h]
theorem less_sem {n0 : List Nd} {r : List Int} : ∀ (f : Nat) (s : Ls) (k : Nat) (P : List Int), k < f → Sem n0 r s ((k : Int) :: P) → Sem n0 r (lessF f s k) P
  | 0, s, k, P, hf, I => by omega
  | f + 1, s, k, P, hf, I => by
    have hk0 := I.pen k List.mem_cons_self
    have hk : k < n0.length := by have := hk0.2.1; omega
    have hkg : (s.n.getD k default).g = false := by simpa using hk0.2.2
    have hc : ∀ j, j < n0.length → (decF s.c k).getD j default = occ j r + tots j s.n + occ j P := fun j hj => by
      rw [dec_get (by rw [I.lc]; exact hj), I.cnt j hj, occ_cons]
      simp only [Int.toNat_natCast]; omega
    rw [lessF]
    split
    · rename_i h0
      exact { I with
        lc := by rw [decF_len]; exact I.lc
        pen := fun y hy => I.pen y (List.mem_cons_of_mem _ hy)
        cnt := hc
        pos := fun j hj hg => by
          have h1 := I.pos j hj hg
          by_cases e : k = j
          · subst e; exact h0
          · simp only; rw [dec_get (by rw [I.lc]; exact hj), if_neg e]; simpa using h1 }
    · rename_i h0
      rw [hc k hk] at h0
      have n1 := occ_nn (j := k) (l := r)
      have n2 := occ_nn (j := k) (l := P)
      have n3 := tots_nn (j := k) (n := s.n)
      have z1 : occ k r = 0 := by omega
      have z2 : occ k P = 0 := by omega
      have z3 : tots k s.n = 0 := by omega
      have hg : ∀ i, ((s.n.set k ⟨[], true⟩).getD i default) = if k = i ∧ i < s.n.length then ⟨[], true⟩ else s.n.getD i default := fun i => getD_set
      have hne : ∀ i y, HoldOk s.n i y → y.toNat ≠ k → HoldOk (s.n.set k ⟨[], true⟩) i y := fun i y h hy => ⟨h.1, h.2.1, by
        rw [hg, if_neg (fun w => hy w.1.symm)]; exact h.2.2⟩
      have key : Sem n0 r ⟨s.n.set k ⟨[], true⟩, decF s.c k, s.go ++ [(k : Int)]⟩ ((s.n.getD k default).h ++ P) := {
        ln := by simp [I.ln]
        lc := by rw [decF_len]; exact I.lc
        hol := fun i hi y hy => by
          simp only [hg] at hy
          split at hy
          · simp at hy
          · refine hne i y (I.hol i hi y hy) ?_
            have := tots_le (j := k) (getD_mem (l := s.n) (i := i) (by rw [I.ln]; exact hi))
            have := occ_nn (j := k) (l := (s.n.getD i default).h)
            exact occ_zero (by omega) y hy
        rts := fun y hy => hne _ y (I.rts y hy) (occ_zero z1 y hy)
        pen := fun y hy => by
          rcases List.mem_append.1 hy with hy | hy
          · have h1 := I.hol k hk y hy
            exact ⟨h1.1, by have := h1.2.1; omega, (hne k y h1 (by have := h1.2.1; have := h1.1; omega)).2.2⟩
          · exact hne _ y (I.pen y (List.mem_cons_of_mem _ hy)) (occ_zero z2 y hy)
        emp := fun i hi h => by
          simp only [hg] at h ⊢
          split
          · rfl
          · rename_i e; rw [if_neg e] at h; exact I.emp i hi h
        six := fun i hi => by
          simp only [hg]
          split
          · simp
          · exact I.six i hi
        cnt := fun j hj => by
          simp only
          rw [hc j hj, tots_set (by rw [I.ln]; exact hk), occ_app, occ_nil]; omega
        pos := fun j hj h => by
          simp only [hg] at h
          split at h
          · simp at h
          · rename_i e
            have : k ≠ j := fun w => e ⟨w, by rw [I.ln]; exact hj⟩
            simp only; rw [dec_get (by rw [I.lc]; exact hj), if_neg this]
            simpa using I.pos j hj h
        gon := fun j hj => by
          simp only [hg, List.mem_append, List.mem_singleton]
          split
          · rename_i e; simp [e.1]
          · rename_i e
            have : k ≠ j := fun w => e ⟨w, by rw [I.ln]; exact hj⟩
            rw [I.gon j hj]
            constructor
            · rintro (h | h)
              · exact .inl h
              · exact .inr (.inl h)
            · rintro (h | h | h)
              · exact .inl h
              · exact .inr h
              · omega
        nod := by
          rw [List.nodup_append]
          refine ⟨I.nod, by simp, fun a ha b hb => ?_⟩
          simp only [List.mem_singleton] at hb
          subst hb
          rintro rfl
          have := (I.gon k hk).2 (.inr ha)
          rw [hkg] at this; simp at this
        gnw := fun y hy => by
          rcases List.mem_append.1 hy with hy | hy
          · exact I.gnw y hy
          · simp only [List.mem_singleton] at hy; subst hy
            refine ⟨by omega, by omega, ?_⟩
            have := I.gon k hk
            rw [hkg] at this
            simp only [Int.toNat_natCast]
            cases hq : (n0.getD k default).g with
            | false => rfl
            | true => rw [hq] at this; simp at this }
      have hlt : ∀ y ∈ (s.n.getD k default).h, 0 ≤ y ∧ y.toNat < f := fun y hy => by
        have h1 := I.hol k hk y hy
        have := h1.2.1; have := h1.1
        exact ⟨h1.1, by omega⟩
      generalize (s.n.getD k default).h = l at key hlt
      generalize (⟨s.n.set k ⟨[], true⟩, decF s.c k, s.go ++ [(k : Int)]⟩ : Ls) = s' at key
      clear hc h0 hg hne I
      induction l generalizing s' with
      | nil => exact key
      | cons y l ih =>
        rw [List.foldl_cons]
        have hy := hlt y List.mem_cons_self
        refine ih (fun z hz => hlt z (List.mem_cons_of_mem _ hz)) _ (less_sem f s' y.toNat (l ++ P) hy.2 ?_)
        rw [Int.toNat_of_nonneg hy.1]; exact key
theorem sem_good {n0 : List Nd} {r : List Int} {s : Ls} (I : Sem n0 r s []) (h1 : n0.length ≤ 14) (h2 : r.length ≤ 6) : GoodG ⟨s.n, r, s.c⟩ := by
  refine ⟨⟨fun i hi => ?_, fun y hy => ?_, ?_, h2⟩, ?_, fun i hi hg => ?_⟩
  · simp only [I.ln] at hi
    exact ⟨I.hol i hi, I.six i hi, fun h => by simp only [I.emp i hi h, List.length_nil]⟩
  · have := I.rts y hy; simp only [I.ln]; exact this
  · simp only [I.ln]; exact h1
  · refine list_ext (by rw [countsF_len]; simp only [I.ln, I.lc]) fun j hj => ?_
    simp only [I.lc] at hj
    rw [counts_get (by simp only [I.ln]; exact hj)]
    have := I.cnt j hj
    rw [occ_nil] at this
    simp only; omega
  · simp only [I.ln] at hi
    have := I.pos i hi hg
    simp only; omega
end Go.Proofs.YtdhclelfnbjikaaT

/- Functions of the program as contracts: a root is let go. No condition. -/
set_option maxRecDepth 100000
set_option maxHeartbeats 8000000
set_option linter.unusedSimpArgs false
set_option linter.unusedVariables false
namespace Go.Proofs.YtdhclelfnbjikaaT
open Go
def DrOk (g : Gr) (k : Int) : Prop := GoodG g ∧ 0 ≤ k ∧ k < g.r.length
noncomputable instance (g : Gr) (k : Int) : Decidable (DrOk g k) := Classical.propDecidable _
def drF (g : Gr) (k : Nat) : Ls := lessF (g.n.length + 1) ⟨g.n, g.c, []⟩ (g.r.getD k default).toNat
theorem occ_take {j i : Nat} {l : List Int} (h : i < l.length) : occ j l = occ j (delF l i) + occ j [l.getD i default] := by
  have e : l = l.take i ++ (l.getD i default :: l.drop (i + 1)) := by
    rw [List.getD_eq_getElem?_getD, List.getElem?_eq_getElem h]
    simp
  conv => lhs; rw [e]
  simp only [delF, occ_app, occ_cons, occ_nil]; omega
theorem good_c {g : Gr} (hG : GoodG g) {j : Nat} (hj : j < g.n.length) : g.c.getD j default = occ j g.r + tots j g.n := by
  rw [hG.2.1, counts_get hj]
theorem good_pos {g : Gr} (hG : GoodG g) {j : Nat} (hj : j < g.n.length) (h : (g.n.getD j default).g = false) : 0 < g.c.getD j default := by
  have h1 := hG.2.2 j hj h
  have := good_c hG hj
  have := occ_nn (j := j) (l := g.r)
  have := tots_nn (j := j) (n := g.n)
  omega
theorem len0 {l : List Int} (h : l.length = 0) : l = [] := List.length_eq_zero_iff.1 h
theorem drop_sem {g : Gr} {k : Nat} (hG : GoodG g) (hk : k < g.r.length) : Sem g.n (delF g.r k) ⟨g.n, g.c, []⟩ [g.r.getD k default] where
  ln := rfl
  lc := by rw [hG.2.1, countsF_len]
  hol i hi := (hG.1.1 i hi).1
  rts y hy := hG.1.2.1 y (delF_mem hy)
  pen y hy := by rw [List.mem_singleton.1 hy]; exact hG.1.2.1 _ (getD_mem hk)
  emp i hi h := len0 ((hG.1.1 i hi).2.2 h)
  six i hi := (hG.1.1 i hi).2.1
  cnt j hj := by
    rw [good_c hG hj, occ_take hk]; simp only; omega
  pos j hj h := good_pos hG hj h
  gon j hj := by simp
  nod := List.nodup_nil
  gnw := by simp
theorem drF_sem {g : Gr} {k : Nat} (hG : GoodG g) (hk : k < g.r.length) : Sem g.n (delF g.r k) (drF g k) [] := by
  have hy := hG.1.2.1 _ (getD_mem hk)
  have h1 := hy.1
  have h2 := hy.2.1
  exact less_sem _ _ _ [] (by omega) (by rw [Int.toNat_of_nonneg h1]; exact drop_sem hG hk)
theorem good_inv {g : Gr} (hG : GoodG g) : LInv g.n.length (-100 + 1) ⟨g.n, g.c, []⟩ := by
  obtain ⟨hN, hC, hz⟩ := hG
  have hB := bd_counts hN
  rw [← hC] at hB
  have cl : g.c.length = g.n.length := by rw [hC, countsF_len]
  have h6 : ∀ x ∈ g.n, x.h.length ≤ 6 := fun x hx => by
    obtain ⟨j, hj, rfl⟩ := mem_getD hx
    exact (hN.1 j hj).2.1
  have hn := ntt_6 h6
  have h14 := hN.2.2.1
  refine ⟨rfl, cl, fun i hi y hy => ?_, fun j hj => ?_, fun j hj => ?_, ?_⟩
  · have := (hN.1 i hi).1 y hy
    exact ⟨this.1, this.2.1⟩
  · have := (bd_get (k := j) hB).1
    simp only; omega
  · have := (bd_get (k := j) hB).2
    simp only; omega
  · simp only [List.length_nil]; omega
noncomputable def DrRes (g : Gr) (k : Int) : TV := if DrOk g k then .tup [.agg [.sl true 2 g.n.length (ndO (drF g k.toNat).n), (.sl true 1 (delF g.r k.toNat).length ((delF g.r k.toNat).map (T.int .i64))), .sl true 1 g.n.length ((drF g k.toNat).c.map (T.int .i64))], .one (.sl true 1 ((drF g k.toNat).go).length (((drF g k.toNat).go).map (T.int .i64))), .one (.bool true)]
  else .tup [.agg [.sl true 0 0 [], .sl true 0 0 [], .sl true 0 0 []], .one (.sl true 0 0 []), .one (.bool false)]
def g41_0 : List Gop := [⟨none, (some 2), (.box (.t 0))⟩, ⟨none, (some 4), (.alloc [.nil, .nil, .nil])⟩, ⟨none, (some 5), (.mov (.k (.one .nil)))⟩, ⟨none, (some 6), (.mov (.k (.one (.bool .false))))⟩]
def g41_1 : List Gop := [⟨none, (some 10), (.load (some 3) (.t 2))⟩, ⟨none, (some 11), (.call 25 [(.t 10)])⟩, ⟨none, (some 12), (.un .not (.t 11))⟩, ⟨none, (some 13), (.mov (.t 12))⟩, ⟨(some (13, .false)), (some 14), (.mov (.t 1))⟩, ⟨(some (13, .false)), (some 15), (.bin .lss (.t 14) (.k (.one (.int .i64 0))))⟩, ⟨none, (some 16), (.pick (.t 13) (.k (.one (.bool .true))) (.t 15))⟩, ⟨none, (some 17), (.mov (.t 16))⟩, ⟨(some (17, .false)), (some 18), (.mov (.t 1))⟩, ⟨(some (17, .false)), (some 19), (.faddr (.t 2) 1)⟩, ⟨(some (17, .false)), (some 20), (.load none (.t 19))⟩, ⟨(some (17, .false)), (some 21), (.len (.t 20))⟩, ⟨(some (17, .false)), (some 22), (.bin .geq (.t 18) (.t 21))⟩, ⟨none, (some 23), (.pick (.t 17) (.k (.one (.bool .true))) (.t 22))⟩]
def g41_2 : List Gop := [⟨none, (some 24), (.build [.nil, .nil, .nil] [])⟩, ⟨none, none, (.store 3 (.t 4) (.t 24))⟩, ⟨none, (some 5), (.mov (.k (.one .nil)))⟩, ⟨none, (some 6), (.mov (.k (.one (.bool .false))))⟩]
def g41_3 : List Gop := [⟨none, (some 25), (.load (some 3) (.t 2))⟩, ⟨none, (some 26), (.call 65 [(.t 25)])⟩, ⟨none, (some 7), (.alloc [.nil, .nil, .nil])⟩, ⟨none, none, (.store 3 (.t 7) (.t 26))⟩]
def g41_4 : List Gop := [⟨none, (some 27), (.faddr (.t 7) 1)⟩, ⟨none, (some 28), (.load none (.t 27))⟩, ⟨none, (some 29), (.mov (.t 1))⟩, ⟨none, (some 30), (.iaddr 1 (.t 28) (.t 29))⟩, ⟨none, (some 31), (.load none (.t 30))⟩, ⟨none, (some 8), (.mov (.t 31))⟩]
def g41_5 : List Gop := [⟨none, (some 32), (.faddr (.t 7) 1)⟩, ⟨none, (some 33), (.load none (.t 32))⟩, ⟨none, (some 34), (.mov (.t 1))⟩, ⟨none, (some 35), (.call 73 [(.t 33), (.t 34)])⟩, ⟨none, (some 36), (.faddr (.t 7) 1)⟩, ⟨none, none, (.store 1 (.t 36) (.t 35))⟩]
def g41_6 : List Gop := [⟨none, (some 37), (.load (some 3) (.t 7))⟩, ⟨none, (some 38), (.mov (.t 8))⟩, ⟨none, (some 39), (.call 74 [(.t 37), (.t 38), (.k (.one .nil))])⟩, ⟨none, (some 9), (.mov (.t 39))⟩]
def g41_7 : List Gop := [⟨none, (some 40), (.load (some 3) (.t 7))⟩, ⟨none, (some 41), (.call 65 [(.t 40)])⟩, ⟨none, (some 42), (.mov (.t 9))⟩, ⟨none, none, (.store 3 (.t 4) (.t 41))⟩, ⟨none, (some 5), (.mov (.t 42))⟩, ⟨none, (some 6), (.mov (.k (.one (.bool .true))))⟩]
def i41 : Ir := (.seq (.region g41_0) (.seq (.seq (.region g41_1) (.cond (.t 23) (.seq (.region g41_2) .ret) .skip)) (.seq (.region g41_3) (.seq (.region g41_4) (.seq (.region g41_5) (.seq (.region g41_6) (.seq (.region g41_7) .ret)))))))
theorem specDrop_ok (g : Gr) (k : Int) (s : Small g) : Meets Try.prog 41 [.agg [.sl false 2 g.n.length (ndR g.n), (.sl false 1 g.r.length (g.r.map (T.int .i64))), (.sl false 1 g.c.length (g.c.map (T.int .i64)))], .one (.int .i64 k)] (DrRes g k) [.agg [.hole, .hole, .hole], .one .hole] := by
  have M1 := specGoodGraph_ok g s.n s.h s.r s.c
  by_cases hT : GoodG g
  · rw [decide_eq_true hT] at M1
    by_cases h1 : k < 0
    · rw [DrRes, if_neg (fun w : DrOk g k => by have := w.2.1; omega)]
      refine meets_go (ir := i41) (fn := Try.f41) (rx := [(.cell 4 (some 3)), (.tmp 5), (.tmp 6)]) rfl rfl (by rfl) (by rfl) (by exact Nat.le_of_ble_eq_true rfl) ?_
      simp (maxSteps := 9000000) -implicitDefEqProofs -dsimp (disch := omega) only [go_sem, g41_0, g41_1, g41_2, g41_3, g41_4, g41_5, g41_6, g41_7, i41, Nat.reduceEqDiff, Nat.reduceAdd, Nat.reduceMul, Nat.reduceLeDiff, Nat.reduceBEq, Nat.reduceBNe, Int.reduceEq, ↓reduceIte, reduceCtorEq]
      refine call_go true M1 ?_
      simp (maxSteps := 9000000) -implicitDefEqProofs -dsimp (disch := omega) only [go_sem, lt_T, lt_F, le_T, le_F, eq_T, eq_F, and_F, Nat.reduceEqDiff, Nat.reduceAdd, Nat.reduceMul, Nat.reduceLeDiff, Nat.reduceBEq, Nat.reduceBNe, Int.reduceEq, ↓reduceIte, reduceCtorEq]
    · by_cases h2 : (g.r.length : Int) ≤ k
      · rw [DrRes, if_neg (fun w : DrOk g k => by have := w.2.2; omega)]
        refine meets_go (ir := i41) (fn := Try.f41) (rx := [(.cell 4 (some 3)), (.tmp 5), (.tmp 6)]) rfl rfl (by rfl) (by rfl) (by exact Nat.le_of_ble_eq_true rfl) ?_
        simp (maxSteps := 9000000) -implicitDefEqProofs -dsimp (disch := omega) only [go_sem, g41_0, g41_1, g41_2, g41_3, g41_4, g41_5, g41_6, g41_7, i41, Nat.reduceEqDiff, Nat.reduceAdd, Nat.reduceMul, Nat.reduceLeDiff, Nat.reduceBEq, Nat.reduceBNe, Int.reduceEq, ↓reduceIte, reduceCtorEq]
        refine call_go true M1 ?_
        simp (maxSteps := 9000000) -implicitDefEqProofs -dsimp (disch := omega) only [go_sem, lt_T, lt_F, le_T, le_F, eq_T, eq_F, and_F, Nat.reduceEqDiff, Nat.reduceAdd, Nat.reduceMul, Nat.reduceLeDiff, Nat.reduceBEq, Nat.reduceBNe, Int.reduceEq, ↓reduceIte, reduceCtorEq]
      · rw [DrRes, if_pos (show DrOk g k from ⟨hT, by omega, by omega⟩)]
        have b4 : (k.toNat : Int) = k := Int.toNat_of_nonneg (by omega)
        have b3 : k.toNat < g.r.length := by omega
        have hinv := good_inv hT
        have hx := hT.1.2.1 _ (getD_mem b3)
        have M2 := l10Without_ok g.r k.toNat b3 s.r
        have hdl := delF_len b3
        have M3 := l10Less_ok (g.n.length + 1) ⟨g.n, g.c, []⟩ (delF g.r k.toNat) (g.r.getD k.toNat default).toNat (-100) (by have := hx.2.1; have := hx.1; omega) (by have := hx.2.1; have := hx.1; omega) s.n (by omega) (by have := s.r; omega) hinv
        have J3 := lessF_inv (g.n.length + 1) ⟨g.n, g.c, []⟩ (g.r.getD k.toNat default).toNat (-100) (by have := hx.2.1; have := hx.1; omega) hinv
        have hU : lessF (g.n.length + 1) ⟨g.n, g.c, []⟩ (g.r.getD k.toNat default).toNat = drF g k.toNat := rfl
        rw [hU] at M3 J3
        rw [Int.toNat_of_nonneg hx.1] at M3
        rw [b4] at M2
        have hlc := J3.lc
        have hln := J3.ln
        have cl : g.c.length = g.n.length := by rw [hT.2.1, countsF_len]
        have sr := s.r
        generalize hUn : drF g k.toNat = U at *
        generalize hD : delF g.r k.toNat = dr at *
        have M4 := l10Own_ok ⟨U.n, dr, U.c⟩ ⟨by simp only [J3.ln]; exact s.n, fun x hx => by have h1 : (x.h.length : Int) ≤ ntt U.n := mem_ntt hx; have := J3.gl; omega, by simp only; omega, by simp only [J3.lc]; exact s.n⟩
        simp only [J3.ln, J3.lc] at M4
        simp only [List.length_nil, List.map_nil] at M3
        refine meets_go (ir := i41) (fn := Try.f41) (rx := [(.cell 4 (some 3)), (.tmp 5), (.tmp 6)]) rfl rfl (by rfl) (by rfl) (by exact Nat.le_of_ble_eq_true rfl) ?_
        simp (maxSteps := 9000000) -implicitDefEqProofs -dsimp (disch := omega) only [go_sem, g41_0, g41_1, g41_2, g41_3, g41_4, g41_5, g41_6, g41_7, i41, Nat.reduceEqDiff, Nat.reduceAdd, Nat.reduceMul, Nat.reduceLeDiff, Nat.reduceBEq, Nat.reduceBNe, Int.reduceEq, ↓reduceIte, reduceCtorEq]
        refine call_go true M1 ?_
        simp (maxSteps := 9000000) -implicitDefEqProofs -dsimp (disch := omega) only [go_sem, lt_T, lt_F, le_T, le_F, eq_T, eq_F, and_F, Nat.reduceEqDiff, Nat.reduceAdd, Nat.reduceMul, Nat.reduceLeDiff, Nat.reduceBEq, Nat.reduceBNe, Int.reduceEq, ↓reduceIte, reduceCtorEq]
        refine call_go true (l10Own_ok g s) ?_
        simp (maxSteps := 9000000) -implicitDefEqProofs -dsimp (disch := omega) only [go_sem, lt_T, lt_F, le_T, le_F, eq_T, eq_F, and_F, Nat.reduceEqDiff, Nat.reduceAdd, Nat.reduceMul, Nat.reduceLeDiff, Nat.reduceBEq, Nat.reduceBNe, Int.reduceEq, ↓reduceIte, reduceCtorEq]
        refine call_go true M2 ?_
        simp (maxSteps := 9000000) -implicitDefEqProofs -dsimp (disch := omega) only [go_sem, lt_T, lt_F, le_T, le_F, eq_T, eq_F, and_F, cl, Nat.reduceEqDiff, Nat.reduceAdd, Nat.reduceMul, Nat.reduceLeDiff, Nat.reduceBEq, Nat.reduceBNe, Int.reduceEq, ↓reduceIte, reduceCtorEq]
        refine call_go true M3 ?_
        simp (maxSteps := 9000000) -implicitDefEqProofs -dsimp (disch := omega) only [go_sem, lt_T, lt_F, le_T, le_F, eq_T, eq_F, and_F, cl, hlc, hln, Nat.reduceEqDiff, Nat.reduceAdd, Nat.reduceMul, Nat.reduceLeDiff, Nat.reduceBEq, Nat.reduceBNe, Int.reduceEq, ↓reduceIte, reduceCtorEq]
        refine call_go true M4 ?_
        simp (maxSteps := 9000000) -implicitDefEqProofs -dsimp (disch := omega) only [go_sem, lt_T, lt_F, le_T, le_F, eq_T, eq_F, and_F, cl, hlc, hln, Nat.reduceEqDiff, Nat.reduceAdd, Nat.reduceMul, Nat.reduceLeDiff, Nat.reduceBEq, Nat.reduceBNe, Int.reduceEq, ↓reduceIte, reduceCtorEq]
  · rw [decide_eq_false hT] at M1
    rw [DrRes, if_neg (fun w : DrOk g k => hT w.1)]
    refine meets_go (ir := i41) (fn := Try.f41) (rx := [(.cell 4 (some 3)), (.tmp 5), (.tmp 6)]) rfl rfl (by rfl) (by rfl) (by exact Nat.le_of_ble_eq_true rfl) ?_
    simp (maxSteps := 9000000) -implicitDefEqProofs -dsimp (disch := omega) only [go_sem, g41_0, g41_1, g41_2, g41_3, g41_4, g41_5, g41_6, g41_7, i41, Nat.reduceEqDiff, Nat.reduceAdd, Nat.reduceMul, Nat.reduceLeDiff, Nat.reduceBEq, Nat.reduceBNe, Int.reduceEq, ↓reduceIte, reduceCtorEq]
    refine call_go true M1 ?_
    simp (maxSteps := 9000000) -implicitDefEqProofs -dsimp (disch := omega) only [go_sem, lt_T, lt_F, le_T, le_F, eq_T, eq_F, and_F, Nat.reduceEqDiff, Nat.reduceAdd, Nat.reduceMul, Nat.reduceLeDiff, Nat.reduceBEq, Nat.reduceBNe, Int.reduceEq, ↓reduceIte, reduceCtorEq]
def g42_0 : List Gop := [⟨none, (some 2), (.box (.t 0))⟩, ⟨none, (some 4), (.alloc [.nil, .nil, .nil])⟩, ⟨none, (some 5), (.mov (.k (.one .nil)))⟩, ⟨none, (some 6), (.mov (.k (.one (.bool .false))))⟩]
def g42_1 : List Gop := [⟨none, (some 8), (.load (some 3) (.t 2))⟩, ⟨none, (some 9), (.call 27 [(.t 8)])⟩, ⟨none, (some 10), (.un .not (.t 9))⟩, ⟨none, (some 11), (.mov (.t 10))⟩, ⟨(some (11, .false)), (some 12), (.mov (.t 1))⟩, ⟨(some (11, .false)), (some 13), (.faddr (.t 2) 1)⟩, ⟨(some (11, .false)), (some 14), (.load none (.t 13))⟩, ⟨(some (11, .false)), (some 15), (.len (.t 14))⟩, ⟨(some (11, .false)), (some 16), (.bin .sub (.t 15) (.k (.one (.int .i64 1))))⟩, ⟨(some (11, .false)), (some 17), (.call 75 [(.t 12), (.k (.one (.int .i64 0))), (.t 16)])⟩, ⟨(some (11, .false)), (some 18), (.un .not (.t 17))⟩, ⟨none, (some 19), (.pick (.t 11) (.k (.one (.bool .true))) (.t 18))⟩]
def g42_2 : List Gop := [⟨none, (some 20), (.build [.nil, .nil, .nil] [])⟩, ⟨none, none, (.store 3 (.t 4) (.t 20))⟩, ⟨none, (some 5), (.mov (.k (.one .nil)))⟩, ⟨none, (some 6), (.mov (.k (.one (.bool .false))))⟩]
def g42_3 : List Gop := [⟨none, (some 21), (.load (some 3) (.t 2))⟩, ⟨none, (some 22), (.call 66 [(.t 21)])⟩, ⟨none, (some 7), (.alloc [.nil, .nil, .nil])⟩, ⟨none, none, (.store 3 (.t 7) (.t 22))⟩]
def g42_4 : List Gop := [⟨none, (some 23), (.faddr (.t 7) 1)⟩, ⟨none, (some 24), (.load none (.t 23))⟩, ⟨none, (some 25), (.mov (.t 1))⟩, ⟨none, (some 26), (.mov (.t 1))⟩, ⟨none, (some 27), (.bin .add (.t 26) (.k (.one (.int .i64 1))))⟩, ⟨none, (some 28), (.call 76 [(.t 24), (.t 25), (.t 27)])⟩, ⟨none, (some 29), (.faddr (.t 7) 1)⟩, ⟨none, none, (.store 1 (.t 29) (.t 28))⟩]
def g42_5 : List Gop := [⟨none, (some 30), (.load (some 3) (.t 7))⟩, ⟨none, (some 31), (.load (some 3) (.t 7))⟩, ⟨none, (some 32), (.faddr (.t 2) 1)⟩, ⟨none, (some 33), (.load none (.t 32))⟩, ⟨none, (some 34), (.mov (.t 1))⟩, ⟨none, (some 35), (.iaddr 1 (.t 33) (.t 34))⟩, ⟨none, (some 36), (.load none (.t 35))⟩, ⟨none, (some 37), (.call 77 [(.t 31), (.t 36), (.k (.one .nil))])⟩, ⟨none, none, (.store 3 (.t 4) (.t 30))⟩, ⟨none, (some 5), (.mov (.t 37))⟩, ⟨none, (some 6), (.mov (.k (.one (.bool .true))))⟩]
def a42_5 : List (List Nat) := [[], [], [], [2], [], [2, 3, 4], [2, 3, 4, 5], [1, 2, 3, 4, 5, 6], [0, 1, 2, 3, 4, 5, 6, 7], [0, 1, 2, 3, 4, 5, 6, 7, 8], [0, 1, 2, 3, 4, 5, 6, 7, 8, 9]]
def n42_5 : Nat := 8 -- of 11
def i42 : Ir := (.seq (.region g42_0) (.seq (.seq (.region g42_1) (.cond (.t 19) (.seq (.region g42_2) .ret) .skip)) (.seq (.region g42_3) (.seq (.region g42_4) (.seq (.draw [[], [], [], [2], [], [3, 4], [5], [1, 6], [0, 7, 0], [7, 8, 0, 1, 2, 3, 4, 5, 6, 7, 8], [9, 0, 1, 2, 3, 4, 5, 6, 7, 8, 9]] g42_5) .ret)))))
theorem implDrop_ok (g : Gr) (k : Int) (s : Small g) : Meets Try.prog 42 [.agg [.sl false 2 g.n.length (ndR g.n), (.sl false 1 g.r.length (g.r.map (T.int .i64))), (.sl false 1 g.c.length (g.c.map (T.int .i64)))], .one (.int .i64 k)] (DrRes g k) [.agg [.hole, .hole, .hole], .one .hole] := by
  have M1 := implGoodGraph_ok g s.n s.h s.r s.c
  by_cases hT : GoodG g
  · rw [decide_eq_true hT] at M1
    have MW := within_ok k 0 ((g.r.length : Int) - 1)
    by_cases h1 : 0 ≤ k ∧ k ≤ (g.r.length : Int) - 1
    · rw [decide_eq_true h1] at MW
      rw [DrRes, if_pos (show DrOk g k from ⟨hT, by omega, by omega⟩)]
      have b4 : (k.toNat : Int) = k := Int.toNat_of_nonneg (by omega)
      have b3 : k.toNat < g.r.length := by omega
      have hinv := good_inv hT
      have hx := hT.1.2.1 _ (getD_mem b3)
      have M2 := delInt_ok g.r k.toNat b3 s.r
      have hdl := delF_len b3
      have M3 := release_ok (g.n.length + 1) ⟨g.n, g.c, []⟩ (delF g.r k.toNat) (g.r.getD k.toNat default).toNat (-100) (by have := hx.2.1; have := hx.1; omega) (by have := hx.2.1; have := hx.1; omega) s.n (by omega) (by have := s.r; omega) hinv
      have J3 := lessF_inv (g.n.length + 1) ⟨g.n, g.c, []⟩ (g.r.getD k.toNat default).toNat (-100) (by have := hx.2.1; have := hx.1; omega) hinv
      have hU : lessF (g.n.length + 1) ⟨g.n, g.c, []⟩ (g.r.getD k.toNat default).toNat = drF g k.toNat := rfl
      rw [hU] at M3 J3
      rw [Int.toNat_of_nonneg hx.1] at M3
      rw [b4] at M2
      have hlc := J3.lc
      have hln := J3.ln
      have cl : g.c.length = g.n.length := by rw [hT.2.1, countsF_len]
      have sr := s.r
      generalize hUn : drF g k.toNat = U at *
      generalize hD : delF g.r k.toNat = dr at *
      simp only [List.length_nil, List.map_nil] at M3
      refine meets_go (ir := i42) (fn := Try.f42) (rx := [(.cell 4 (some 3)), (.tmp 5), (.tmp 6)]) rfl rfl (by rfl) (by rfl) (by exact Nat.le_of_ble_eq_true rfl) ?_
      simp (maxSteps := 9000000) -implicitDefEqProofs -dsimp (disch := omega) only [go_sem, g42_0, g42_1, g42_2, g42_3, g42_4, g42_5, a42_5, n42_5, i42, Nat.reduceEqDiff, Nat.reduceAdd, Nat.reduceMul, Nat.reduceLeDiff, Nat.reduceBEq, Nat.reduceBNe, Int.reduceEq, ↓reduceIte, reduceCtorEq]
      refine call_go true M1 ?_
      simp (maxSteps := 9000000) -implicitDefEqProofs -dsimp (disch := omega) only [go_sem, lt_T, lt_F, le_T, le_F, eq_T, eq_F, and_F, Nat.reduceEqDiff, Nat.reduceAdd, Nat.reduceMul, Nat.reduceLeDiff, Nat.reduceBEq, Nat.reduceBNe, Int.reduceEq, ↓reduceIte, reduceCtorEq]
      refine call_go true MW ?_
      simp (maxSteps := 9000000) -implicitDefEqProofs -dsimp (disch := omega) only [go_sem, lt_T, lt_F, le_T, le_F, eq_T, eq_F, and_F, Nat.reduceEqDiff, Nat.reduceAdd, Nat.reduceMul, Nat.reduceLeDiff, Nat.reduceBEq, Nat.reduceBNe, Int.reduceEq, ↓reduceIte, reduceCtorEq]
      refine call_go true (ownGraph_ok g s) ?_
      simp (maxSteps := 9000000) -implicitDefEqProofs -dsimp (disch := omega) only [go_sem, lt_T, lt_F, le_T, le_F, eq_T, eq_F, and_F, Nat.reduceEqDiff, Nat.reduceAdd, Nat.reduceMul, Nat.reduceLeDiff, Nat.reduceBEq, Nat.reduceBNe, Int.reduceEq, ↓reduceIte, reduceCtorEq]
      refine call_go true M2 ?_
      simp (maxSteps := 9000000) -implicitDefEqProofs -dsimp (disch := omega) only [go_sem, lt_T, lt_F, le_T, le_F, eq_T, eq_F, and_F, cl, Nat.reduceEqDiff, Nat.reduceAdd, Nat.reduceMul, Nat.reduceLeDiff, Nat.reduceBEq, Nat.reduceBNe, Int.reduceEq, ↓reduceIte, reduceCtorEq]
      refine drawm_go n42_5 a42_5 [(7, .many [] [0])] (by decide +kernel) ?_
      simp (maxSteps := 9000000) -implicitDefEqProofs -dsimp (disch := omega) only [go_sem, n42_5, a42_5, lt_T, lt_F, le_T, le_F, eq_T, eq_F, and_F, cl, Nat.reduceEqDiff, Nat.reduceAdd, Nat.reduceMul, Nat.reduceLeDiff, Nat.reduceBEq, Nat.reduceBNe, Int.reduceEq, ↓reduceIte, reduceCtorEq]
      refine callke_go [(0, []), (1, []), (2, []), (8, [0]), (8, [1]), (8, [2])] [] true M3 ?_
      simp (maxSteps := 9000000) -implicitDefEqProofs -dsimp (disch := omega) only [go_sem, n42_5, a42_5, lt_T, lt_F, le_T, le_F, eq_T, eq_F, and_F, cl, hlc, hln, Nat.reduceEqDiff, Nat.reduceAdd, Nat.reduceMul, Nat.reduceLeDiff, Nat.reduceBEq, Nat.reduceBNe, Int.reduceEq, ↓reduceIte, reduceCtorEq]
      refine callke_go [(0, []), (1, []), (2, []), (8, [0]), (8, [1]), (8, [2])] [30] true M3 ?_
      simp (maxSteps := 9000000) -implicitDefEqProofs -dsimp (disch := omega) only [go_sem, n42_5, a42_5, lt_T, lt_F, le_T, le_F, eq_T, eq_F, and_F, cl, hlc, hln, Nat.reduceEqDiff, Nat.reduceAdd, Nat.reduceMul, Nat.reduceLeDiff, Nat.reduceBEq, Nat.reduceBNe, Int.reduceEq, ↓reduceIte, reduceCtorEq]
      refine callke_go [(0, []), (1, []), (2, []), (8, [0]), (8, [1]), (8, [2])] [] true M3 ?_
      simp (maxSteps := 9000000) -implicitDefEqProofs -dsimp (disch := omega) only [go_sem, n42_5, a42_5, lt_T, lt_F, le_T, le_F, eq_T, eq_F, and_F, cl, hlc, hln, Nat.reduceEqDiff, Nat.reduceAdd, Nat.reduceMul, Nat.reduceLeDiff, Nat.reduceBEq, Nat.reduceBNe, Int.reduceEq, ↓reduceIte, reduceCtorEq]
    · rw [decide_eq_false h1] at MW
      have sr := s.r
      rw [DrRes, if_neg (fun w : DrOk g k => h1 ⟨w.2.1, by have := w.2.2; omega⟩)]
      refine meets_go (ir := i42) (fn := Try.f42) (rx := [(.cell 4 (some 3)), (.tmp 5), (.tmp 6)]) rfl rfl (by rfl) (by rfl) (by exact Nat.le_of_ble_eq_true rfl) ?_
      simp (maxSteps := 9000000) -implicitDefEqProofs -dsimp (disch := omega) only [go_sem, g42_0, g42_1, g42_2, g42_3, g42_4, g42_5, a42_5, n42_5, i42, Nat.reduceEqDiff, Nat.reduceAdd, Nat.reduceMul, Nat.reduceLeDiff, Nat.reduceBEq, Nat.reduceBNe, Int.reduceEq, ↓reduceIte, reduceCtorEq]
      refine call_go true M1 ?_
      simp (maxSteps := 9000000) -implicitDefEqProofs -dsimp (disch := omega) only [go_sem, lt_T, lt_F, le_T, le_F, eq_T, eq_F, and_F, Nat.reduceEqDiff, Nat.reduceAdd, Nat.reduceMul, Nat.reduceLeDiff, Nat.reduceBEq, Nat.reduceBNe, Int.reduceEq, ↓reduceIte, reduceCtorEq]
      refine call_go true MW ?_
      simp (maxSteps := 9000000) -implicitDefEqProofs -dsimp (disch := omega) only [go_sem, lt_T, lt_F, le_T, le_F, eq_T, eq_F, and_F, Nat.reduceEqDiff, Nat.reduceAdd, Nat.reduceMul, Nat.reduceLeDiff, Nat.reduceBEq, Nat.reduceBNe, Int.reduceEq, ↓reduceIte, reduceCtorEq]
  · rw [decide_eq_false hT] at M1
    rw [DrRes, if_neg (fun w : DrOk g k => hT w.1)]
    refine meets_go (ir := i42) (fn := Try.f42) (rx := [(.cell 4 (some 3)), (.tmp 5), (.tmp 6)]) rfl rfl (by rfl) (by rfl) (by exact Nat.le_of_ble_eq_true rfl) ?_
    simp (maxSteps := 9000000) -implicitDefEqProofs -dsimp (disch := omega) only [go_sem, g42_0, g42_1, g42_2, g42_3, g42_4, g42_5, a42_5, n42_5, i42, Nat.reduceEqDiff, Nat.reduceAdd, Nat.reduceMul, Nat.reduceLeDiff, Nat.reduceBEq, Nat.reduceBNe, Int.reduceEq, ↓reduceIte, reduceCtorEq]
    refine call_go true M1 ?_
    simp (maxSteps := 9000000) -implicitDefEqProofs -dsimp (disch := omega) only [go_sem, lt_T, lt_F, le_T, le_F, eq_T, eq_F, and_F, Nat.reduceEqDiff, Nat.reduceAdd, Nat.reduceMul, Nat.reduceLeDiff, Nat.reduceBEq, Nat.reduceBNe, Int.reduceEq, ↓reduceIte, reduceCtorEq]
end Go.Proofs.YtdhclelfnbjikaaT

/- Functions of the program as contracts: what the drawn laws of graphs ask, and numbers in order. No condition. -/
set_option maxRecDepth 100000
set_option maxHeartbeats 8000000
set_option linter.unusedSimpArgs false
set_option linter.unusedVariables false
namespace Go.Proofs.YtdhclelfnbjikaaT
open Go
def g46_0 : List Gop := [⟨none, (some 4), (.mov (.k (.one (.bool .false))))⟩]
def g46_1 : List Gop := [⟨none, (some 6), (.mov (.t 0))⟩, ⟨none, (some 7), (.len (.t 6))⟩, ⟨none, (some 8), (.mov (.t 1))⟩, ⟨none, (some 9), (.len (.t 8))⟩, ⟨none, (some 10), (.bin .neq (.t 7) (.t 9))⟩]
def g46_2 : List Gop := [⟨none, (some 4), (.mov (.k (.one (.bool .false))))⟩]
def g46_3 : List Gop := [⟨none, (some 11), (.mov (.t 0))⟩, ⟨none, (some 12), (.len (.t 11))⟩, ⟨none, (some 13), (.mov (.k (.one (.int .i64 0))))⟩]
def g46_4 : List Gop := [⟨none, (some 14), (.bin .lss (.t 13) (.t 12))⟩]
def g46_5 : List Gop := [⟨none, (some 15), (.mov (.t 13))⟩, ⟨none, (some 5), (.mov (.t 15))⟩]
def g46_6 : List Gop := [⟨none, (some 16), (.mov (.t 0))⟩, ⟨none, (some 17), (.mov (.t 5))⟩, ⟨none, (some 18), (.iaddr 1 (.t 16) (.t 17))⟩, ⟨none, (some 19), (.load none (.t 18))⟩, ⟨none, (some 20), (.mov (.t 1))⟩, ⟨none, (some 21), (.mov (.t 5))⟩, ⟨none, (some 22), (.iaddr 1 (.t 20) (.t 21))⟩, ⟨none, (some 23), (.load none (.t 22))⟩, ⟨none, (some 24), (.bin .neq (.t 19) (.t 23))⟩]
def a46_6 : List (List Nat) := [[], [], [0, 1], [0, 1, 2], [], [], [4, 5], [4, 5, 6], [0, 1, 2, 3, 4, 5, 6, 7]]
def n46_6 : Nat := 8 -- of 9
def g46_7 : List Gop := [⟨none, (some 4), (.mov (.k (.one (.bool .false))))⟩]
def g46_8 : List Gop := [⟨none, (some 25), (.bin .add (.t 13) (.k (.one (.int .i64 1))))⟩, ⟨none, (some 13), (.mov (.t 25))⟩]
def g46_9 : List Gop := [⟨none, (some 4), (.mov (.k (.one (.bool .true))))⟩]
def i46 : Ir := (.seq (.region g46_0) (.seq (.seq (.region g46_1) (.cond (.t 10) (.seq (.region g46_2) .ret) .skip)) (.seq (.seq (.region g46_3) (.block 0 (.loop (.seq (.region g46_4) (.seq (.cond (.t 14) .skip (.exit 0)) (.seq (.block 1 (.seq (.region g46_5) (.seq (.draw [[], [], [0, 1], [2], [], [], [4, 5], [6], [3, 7]] g46_6) (.cond (.t 24) (.seq (.region g46_7) .ret) .skip)))) (.region g46_8))))))) (.seq (.region g46_9) .ret))))
theorem sameInts_ok (a b : List Int) (ha : a.length ≤ 9223372036854775807) : Meets Try.prog 46 [.one (.sl false 1 a.length (a.map (T.int .i64))), .one (.sl false 1 b.length (b.map (T.int .i64)))] (.w (.one (.bool (decide (a = b))))) [.one .hole, .one .hole] := by
  refine meets_go (ir := i46) (fn := Try.f46) (rx := [(.tmp 4)]) rfl rfl (by rfl) (by rfl) (by exact Nat.le_of_ble_eq_true rfl) ?_
  simp (maxSteps := 9000000) -implicitDefEqProofs -dsimp (disch := omega) only [go_sem, g46_0, g46_1, g46_2, g46_3, g46_4, g46_5, g46_6, a46_6, n46_6, g46_7, g46_8, g46_9, i46, Nat.reduceEqDiff, Nat.reduceAdd, Nat.reduceMul, Nat.reduceLeDiff, Nat.reduceBEq, Nat.reduceBNe, Int.reduceEq, ↓reduceIte, reduceCtorEq]
  refine brP_i (fun h => ?_) (fun h => ?_)
  · have h' : b.length = a.length := by omega
    simp (maxSteps := 9000000) -implicitDefEqProofs -dsimp (disch := omega) only [go_sem, Nat.reduceEqDiff, Nat.reduceAdd, Nat.reduceMul, Nat.reduceLeDiff, Nat.reduceBEq, Nat.reduceBNe, Int.reduceEq, ↓reduceIte, reduceCtorEq]
    refine loop_n a.length (fun i => ⟨[(13, .w (.one (.int .i64 (i : Nat)))), (12, .w (.one (.int .i64 a.length))), (1, .w (.one (.hs 1 [] 0 1 b.length))), (0, .w (.one (.hs 0 [] 0 1 a.length)))], [(1, (.sl false 1 b.length (b.map (T.int .i64)))), (0, (.sl false 1 a.length (a.map (T.int .i64))))], [.one (.hs 0 [] 0 1 a.length), .one (.hs 1 [] 0 1 b.length)]⟩) (fun i => a.take i = b.take i) ?_ ?_ ?_
    · exact (imp_sub (by simp (maxSteps := 9000000) -implicitDefEqProofs -dsimp (disch := omega) only [go_sem, Nat.reduceEqDiff, Nat.reduceAdd, Nat.reduceMul, Nat.reduceLeDiff, Nat.reduceBEq, Nat.reduceBNe, Int.reduceEq, ↓reduceIte, reduceCtorEq]) (by simp (maxSteps := 9000000) -implicitDefEqProofs -dsimp (disch := omega) only [go_sem, Nat.reduceEqDiff, Nat.reduceAdd, Nat.reduceMul, Nat.reduceLeDiff, Nat.reduceBEq, Nat.reduceBNe, Int.reduceEq, ↓reduceIte, reduceCtorEq]) rfl)
    · simp
    · intro i hi hJ
      simp (maxSteps := 9000000) -implicitDefEqProofs -dsimp (disch := omega) only [go_sem, Nat.reduceEqDiff, Nat.reduceAdd, Nat.reduceMul, Nat.reduceLeDiff, Nat.reduceBEq, Nat.reduceBNe, Int.reduceEq, ↓reduceIte, reduceCtorEq]
      refine brP_i (fun h2 => ?_) (fun h2 => ?_)
      · simp (maxSteps := 9000000) -implicitDefEqProofs -dsimp (disch := omega) only [go_sem, Nat.reduceEqDiff, Nat.reduceAdd, Nat.reduceMul, Nat.reduceLeDiff, Nat.reduceBEq, Nat.reduceBNe, Int.reduceEq, ↓reduceIte, reduceCtorEq]
        refine draw_go n46_6 a46_6 (by decide +kernel) ?_
        simp (maxSteps := 9000000) -implicitDefEqProofs -dsimp (disch := omega) only [go_sem, n46_6, a46_6, Nat.reduceEqDiff, Nat.reduceAdd, Nat.reduceMul, Nat.reduceLeDiff, Nat.reduceBEq, Nat.reduceBNe, Int.reduceEq, ↓reduceIte, reduceCtorEq]
        refine brP_i (fun h3 => ?_) (fun h3 => ?_)
        · simp (maxSteps := 9000000) -implicitDefEqProofs -dsimp (disch := omega) only [go_sem, n46_6, a46_6, Nat.reduceEqDiff, Nat.reduceAdd, Nat.reduceMul, Nat.reduceLeDiff, Nat.reduceBEq, Nat.reduceBNe, Int.reduceEq, ↓reduceIte, reduceCtorEq]
          exact ⟨⟨by omega, take_eq_succ (by omega) (by omega) hJ h3⟩, (imp_sub (by simp (maxSteps := 9000000) -implicitDefEqProofs -dsimp (disch := omega) only [go_sem, n46_6, a46_6, Nat.reduceEqDiff, Nat.reduceAdd, Nat.reduceMul, Nat.reduceLeDiff, Nat.reduceBEq, Nat.reduceBNe, Int.reduceEq, ↓reduceIte, reduceCtorEq]) (by simp (maxSteps := 9000000) -implicitDefEqProofs -dsimp (disch := omega) only [go_sem, n46_6, a46_6, Nat.reduceEqDiff, Nat.reduceAdd, Nat.reduceMul, Nat.reduceLeDiff, Nat.reduceBEq, Nat.reduceBNe, Int.reduceEq, ↓reduceIte, reduceCtorEq]) rfl)⟩
        · simp (maxSteps := 9000000) -implicitDefEqProofs -dsimp (disch := omega) only [go_sem, n46_6, a46_6, Nat.reduceEqDiff, Nat.reduceAdd, Nat.reduceMul, Nat.reduceLeDiff, Nat.reduceBEq, Nat.reduceBNe, Int.reduceEq, ↓reduceIte, reduceCtorEq]
          exact need_i (by simp [show a ≠ b from fun e => h3 (by rw [e])]) (by simp (maxSteps := 9000000) -implicitDefEqProofs -dsimp (disch := omega) only [go_sem, n46_6, a46_6, Nat.reduceEqDiff, Nat.reduceAdd, Nat.reduceMul, Nat.reduceLeDiff, Nat.reduceBEq, Nat.reduceBNe, Int.reduceEq, ↓reduceIte, reduceCtorEq])
      · simp (maxSteps := 9000000) -implicitDefEqProofs -dsimp (disch := omega) only [go_sem, n46_6, a46_6, Nat.reduceEqDiff, Nat.reduceAdd, Nat.reduceMul, Nat.reduceLeDiff, Nat.reduceBEq, Nat.reduceBNe, Int.reduceEq, ↓reduceIte, reduceCtorEq]
        exact need_i (by simp [eq_of_take hJ (by omega) (by omega)]) (by simp (maxSteps := 9000000) -implicitDefEqProofs -dsimp (disch := omega) only [go_sem, n46_6, a46_6, Nat.reduceEqDiff, Nat.reduceAdd, Nat.reduceMul, Nat.reduceLeDiff, Nat.reduceBEq, Nat.reduceBNe, Int.reduceEq, ↓reduceIte, reduceCtorEq])
  · simp (maxSteps := 9000000) -implicitDefEqProofs -dsimp (disch := omega) only [go_sem, n46_6, a46_6, Nat.reduceEqDiff, Nat.reduceAdd, Nat.reduceMul, Nat.reduceLeDiff, Nat.reduceBEq, Nat.reduceBNe, Int.reduceEq, ↓reduceIte, reduceCtorEq]
    exact need_i (by simp [show a ≠ b from fun e => h (by rw [e])]) (by simp (maxSteps := 9000000) -implicitDefEqProofs -dsimp (disch := omega) only [go_sem, n46_6, a46_6, Nat.reduceEqDiff, Nat.reduceAdd, Nat.reduceMul, Nat.reduceLeDiff, Nat.reduceBEq, Nat.reduceBNe, Int.reduceEq, ↓reduceIte, reduceCtorEq])
def g47_0 : List Gop := [⟨none, (some 2), (.box (.t 0))⟩, ⟨none, (some 3), (.box (.t 1))⟩, ⟨none, (some 4), (.mov (.k (.one (.bool .false))))⟩]
def g47_1 : List Gop := [⟨none, (some 6), (.faddr (.t 2) 1)⟩, ⟨none, (some 7), (.load none (.t 6))⟩, ⟨none, (some 8), (.faddr (.t 3) 1)⟩, ⟨none, (some 9), (.load none (.t 8))⟩, ⟨none, (some 10), (.call 46 [(.t 7), (.t 9)])⟩, ⟨none, (some 11), (.un .not (.t 10))⟩, ⟨none, (some 12), (.mov (.t 11))⟩, ⟨(some (12, .false)), (some 13), (.faddr (.t 2) 2)⟩, ⟨(some (12, .false)), (some 14), (.load none (.t 13))⟩, ⟨(some (12, .false)), (some 15), (.faddr (.t 3) 2)⟩, ⟨(some (12, .false)), (some 16), (.load none (.t 15))⟩, ⟨(some (12, .false)), (some 17), (.call 46 [(.t 14), (.t 16)])⟩, ⟨(some (12, .false)), (some 18), (.un .not (.t 17))⟩, ⟨none, (some 19), (.pick (.t 12) (.k (.one (.bool .true))) (.t 18))⟩, ⟨none, (some 20), (.mov (.t 19))⟩, ⟨(some (20, .false)), (some 21), (.faddr (.t 2) 0)⟩, ⟨(some (20, .false)), (some 22), (.load none (.t 21))⟩, ⟨(some (20, .false)), (some 23), (.len (.t 22))⟩, ⟨(some (20, .false)), (some 24), (.faddr (.t 3) 0)⟩, ⟨(some (20, .false)), (some 25), (.load none (.t 24))⟩, ⟨(some (20, .false)), (some 26), (.len (.t 25))⟩, ⟨(some (20, .false)), (some 27), (.bin .neq (.t 23) (.t 26))⟩, ⟨none, (some 28), (.pick (.t 20) (.k (.one (.bool .true))) (.t 27))⟩]
def g47_2 : List Gop := [⟨none, (some 4), (.mov (.k (.one (.bool .false))))⟩]
def g47_3 : List Gop := [⟨none, (some 29), (.faddr (.t 2) 0)⟩, ⟨none, (some 30), (.load none (.t 29))⟩, ⟨none, (some 31), (.len (.t 30))⟩, ⟨none, (some 32), (.mov (.k (.one (.int .i64 0))))⟩]
def g47_4 : List Gop := [⟨none, (some 33), (.bin .lss (.t 32) (.t 31))⟩]
def g47_5 : List Gop := [⟨none, (some 34), (.mov (.t 32))⟩, ⟨none, (some 5), (.mov (.t 34))⟩]
def g47_6 : List Gop := [⟨none, (some 35), (.faddr (.t 2) 0)⟩, ⟨none, (some 36), (.load none (.t 35))⟩, ⟨none, (some 37), (.mov (.t 5))⟩, ⟨none, (some 38), (.iaddr 2 (.t 36) (.t 37))⟩, ⟨none, (some 39), (.faddr (.t 38) 1)⟩, ⟨none, (some 40), (.load none (.t 39))⟩, ⟨none, (some 41), (.faddr (.t 3) 0)⟩, ⟨none, (some 42), (.load none (.t 41))⟩, ⟨none, (some 43), (.mov (.t 5))⟩, ⟨none, (some 44), (.iaddr 2 (.t 42) (.t 43))⟩, ⟨none, (some 45), (.faddr (.t 44) 1)⟩, ⟨none, (some 46), (.load none (.t 45))⟩, ⟨none, (some 47), (.beq .true (.t 40) (.t 46))⟩, ⟨none, (some 48), (.mov (.t 47))⟩, ⟨(some (48, .false)), (some 49), (.faddr (.t 2) 0)⟩, ⟨(some (48, .false)), (some 50), (.load none (.t 49))⟩, ⟨(some (48, .false)), (some 51), (.mov (.t 5))⟩, ⟨(some (48, .false)), (some 52), (.iaddr 2 (.t 50) (.t 51))⟩, ⟨(some (48, .false)), (some 53), (.faddr (.t 52) 0)⟩, ⟨(some (48, .false)), (some 54), (.load none (.t 53))⟩, ⟨(some (48, .false)), (some 55), (.faddr (.t 3) 0)⟩, ⟨(some (48, .false)), (some 56), (.load none (.t 55))⟩, ⟨(some (48, .false)), (some 57), (.mov (.t 5))⟩, ⟨(some (48, .false)), (some 58), (.iaddr 2 (.t 56) (.t 57))⟩, ⟨(some (48, .false)), (some 59), (.faddr (.t 58) 0)⟩, ⟨(some (48, .false)), (some 60), (.load none (.t 59))⟩, ⟨(some (48, .false)), (some 61), (.call 46 [(.t 54), (.t 60)])⟩, ⟨(some (48, .false)), (some 62), (.un .not (.t 61))⟩, ⟨none, (some 63), (.pick (.t 48) (.k (.one (.bool .true))) (.t 62))⟩]
def a47_6 : List (List Nat) := [[], [0], [], [0, 1, 2], [0, 1, 2, 3], [0, 1, 2, 3, 4], [], [6], [], [6, 7, 8], [6, 7, 8, 9], [6, 7, 8, 9, 10], [0, 1, 2, 3, 4, 5, 6, 7, 8, 9, 10, 11], [0, 1, 2, 3, 4, 5, 6, 7, 8, 9, 10, 11, 12], [0, 1, 2, 3, 4, 5, 6, 7, 8, 9, 10, 11, 12, 13], [0, 1, 2, 3, 4, 5, 6, 7, 8, 9, 10, 11, 12, 13, 14], [0, 1, 2, 3, 4, 5, 6, 7, 8, 9, 10, 11, 12, 13], [0, 1, 2, 3, 4, 5, 6, 7, 8, 9, 10, 11, 12, 13, 14, 15, 16], [0, 1, 2, 3, 4, 5, 6, 7, 8, 9, 10, 11, 12, 13, 14, 15, 16, 17], [0, 1, 2, 3, 4, 5, 6, 7, 8, 9, 10, 11, 12, 13, 14, 15, 16, 17, 18], [0, 1, 2, 3, 4, 5, 6, 7, 8, 9, 10, 11, 12, 13], [0, 1, 2, 3, 4, 5, 6, 7, 8, 9, 10, 11, 12, 13, 20], [0, 1, 2, 3, 4, 5, 6, 7, 8, 9, 10, 11, 12, 13], [0, 1, 2, 3, 4, 5, 6, 7, 8, 9, 10, 11, 12, 13, 20, 21, 22], [0, 1, 2, 3, 4, 5, 6, 7, 8, 9, 10, 11, 12, 13, 20, 21, 22, 23], [0, 1, 2, 3, 4, 5, 6, 7, 8, 9, 10, 11, 12, 13, 20, 21, 22, 23, 24], [0, 1, 2, 3, 4, 5, 6, 7, 8, 9, 10, 11, 12, 13, 14, 15, 16, 17, 18, 19, 20, 21, 22, 23, 24, 25], [0, 1, 2, 3, 4, 5, 6, 7, 8, 9, 10, 11, 12, 13, 14, 15, 16, 17, 18, 19, 20, 21, 22, 23, 24, 25, 26], [0, 1, 2, 3, 4, 5, 6, 7, 8, 9, 10, 11, 12, 13, 14, 15, 16, 17, 18, 19, 20, 21, 22, 23, 24, 25, 26, 27]]
def n47_6 : Nat := 26 -- of 29
def g47_7 : List Gop := [⟨none, (some 4), (.mov (.k (.one (.bool .false))))⟩]
def g47_8 : List Gop := [⟨none, (some 64), (.bin .add (.t 32) (.k (.one (.int .i64 1))))⟩, ⟨none, (some 32), (.mov (.t 64))⟩]
def g47_9 : List Gop := [⟨none, (some 4), (.mov (.k (.one (.bool .true))))⟩]
def i47 : Ir := (.seq (.region g47_0) (.seq (.seq (.region g47_1) (.cond (.t 28) (.seq (.region g47_2) .ret) .skip)) (.seq (.seq (.region g47_3) (.block 0 (.loop (.seq (.region g47_4) (.seq (.cond (.t 33) .skip (.exit 0)) (.seq (.block 1 (.seq (.region g47_5) (.seq (.draw [[], [0], [], [1, 2], [3], [4], [], [6], [], [7, 8], [9], [10], [5, 11], [12], [13], [14, 13], [13], [15, 16, 13], [17, 13], [18, 13], [13], [20, 13], [13], [21, 22, 13], [23, 13], [24, 13], [19, 25, 13, 13], [26, 13], [13, 27]] g47_6) (.cond (.t 63) (.seq (.region g47_7) .ret) .skip)))) (.region g47_8))))))) (.seq (.region g47_9) .ret))))
theorem sameGraphs_ok (g : Gr) (s : Small g) : Meets Try.prog 47 [.agg [.sl false 2 g.n.length (ndR g.n), (.sl false 1 g.r.length (g.r.map (T.int .i64))), (.sl false 1 g.c.length (g.c.map (T.int .i64)))], .agg [.sl false 2 g.n.length (ndR g.n), (.sl false 1 g.r.length (g.r.map (T.int .i64))), (.sl false 1 g.c.length (g.c.map (T.int .i64)))]] (.w (.one (.bool true))) [.agg [.hole, .hole, .hole], .agg [.hole, .hole, .hole]] := by
  have sn := s.n
  have sr := s.r
  have sc := s.c
  refine meets_go (ir := i47) (fn := Try.f47) (rx := [(.tmp 4)]) rfl rfl (by rfl) (by rfl) (by exact Nat.le_of_ble_eq_true rfl) ?_
  simp (maxSteps := 9000000) -implicitDefEqProofs -dsimp (disch := omega) only [go_sem, g47_0, g47_1, g47_2, g47_3, g47_4, g47_5, g47_6, a47_6, n47_6, g47_7, g47_8, g47_9, i47, Nat.reduceEqDiff, Nat.reduceAdd, Nat.reduceMul, Nat.reduceLeDiff, Nat.reduceBEq, Nat.reduceBNe, Int.reduceEq, ↓reduceIte, reduceCtorEq]
  refine call_go true (sameInts_ok g.r g.r (by omega)) ?_
  simp (maxSteps := 9000000) -implicitDefEqProofs -dsimp (disch := omega) only [go_sem, lt_T, lt_F, le_T, le_F, eq_T, eq_F, and_F, Nat.reduceEqDiff, Nat.reduceAdd, Nat.reduceMul, Nat.reduceLeDiff, Nat.reduceBEq, Nat.reduceBNe, Int.reduceEq, ↓reduceIte, reduceCtorEq]
  refine call_go true (sameInts_ok g.c g.c (by omega)) ?_
  simp (maxSteps := 9000000) -implicitDefEqProofs -dsimp (disch := omega) only [go_sem, lt_T, lt_F, le_T, le_F, eq_T, eq_F, and_F, Nat.reduceEqDiff, Nat.reduceAdd, Nat.reduceMul, Nat.reduceLeDiff, Nat.reduceBEq, Nat.reduceBNe, Int.reduceEq, ↓reduceIte, reduceCtorEq]
  refine loop_n g.n.length (fun i => ⟨[(32, .w (.one (.int .i64 (i : Nat)))), (31, .w (.one (.int .i64 g.n.length))), (3, .w (.one (.hp 7 [] 0))), (2, .w (.one (.hp 6 [] 0)))], [(7, .bx true [.sl false 2 g.n.length (ndR g.n), (.sl false 1 g.r.length (g.r.map (T.int .i64))), (.sl false 1 g.c.length (g.c.map (T.int .i64)))]), (6, .bx true [.sl false 2 g.n.length (ndR g.n), (.sl false 1 g.r.length (g.r.map (T.int .i64))), (.sl false 1 g.c.length (g.c.map (T.int .i64)))])], [.agg [.hs 0 [] 0 2 g.n.length, .hs 1 [] 0 1 g.r.length, .hs 2 [] 0 1 g.c.length], .agg [.hs 3 [] 0 2 g.n.length, .hs 4 [] 0 1 g.r.length, .hs 5 [] 0 1 g.c.length]]⟩) (fun i => True) ?_ trivial ?_
  · exact (imp_sub (by simp (maxSteps := 9000000) -implicitDefEqProofs -dsimp (disch := omega) only [go_sem, Nat.reduceEqDiff, Nat.reduceAdd, Nat.reduceMul, Nat.reduceLeDiff, Nat.reduceBEq, Nat.reduceBNe, Int.reduceEq, ↓reduceIte, reduceCtorEq]) (by simp (maxSteps := 9000000) -implicitDefEqProofs -dsimp (disch := omega) only [go_sem, Nat.reduceEqDiff, Nat.reduceAdd, Nat.reduceMul, Nat.reduceLeDiff, Nat.reduceBEq, Nat.reduceBNe, Int.reduceEq, ↓reduceIte, reduceCtorEq]) rfl)
  · intro i hi hJ
    simp (maxSteps := 9000000) -implicitDefEqProofs -dsimp (disch := omega) only [go_sem, Nat.reduceEqDiff, Nat.reduceAdd, Nat.reduceMul, Nat.reduceLeDiff, Nat.reduceBEq, Nat.reduceBNe, Int.reduceEq, ↓reduceIte, reduceCtorEq]
    refine brP_i (fun h2 => ?_) (fun h2 => ?_)
    · have hlt : i < g.n.length := by omega
      have hh := s.h _ (getD_mem hlt)
      simp (maxSteps := 9000000) -implicitDefEqProofs -dsimp (disch := omega) only [go_sem, Nat.reduceEqDiff, Nat.reduceAdd, Nat.reduceMul, Nat.reduceLeDiff, Nat.reduceBEq, Nat.reduceBNe, Int.reduceEq, ↓reduceIte, reduceCtorEq]
      refine draw_go n47_6 a47_6 (by decide +kernel) ?_
      simp (maxSteps := 9000000) -implicitDefEqProofs -dsimp (disch := omega) only [go_sem, n47_6, a47_6, lt_T, lt_F, le_T, le_F, eq_T, eq_F, and_F, ndR_0 hlt, ndR_1 hlt, bne_self_eq_false, Nat.reduceEqDiff, Nat.reduceAdd, Nat.reduceMul, Nat.reduceLeDiff, Nat.reduceBEq, Nat.reduceBNe, Int.reduceEq, ↓reduceIte, reduceCtorEq]
      refine call_go true (sameInts_ok (g.n.getD i default).h (g.n.getD i default).h (by omega)) ?_
      simp (maxSteps := 9000000) -implicitDefEqProofs -dsimp (disch := omega) only [go_sem, n47_6, a47_6, lt_T, lt_F, le_T, le_F, eq_T, eq_F, and_F, ndR_0 hlt, ndR_1 hlt, bne_self_eq_false, Nat.reduceEqDiff, Nat.reduceAdd, Nat.reduceMul, Nat.reduceLeDiff, Nat.reduceBEq, Nat.reduceBNe, Int.reduceEq, ↓reduceIte, reduceCtorEq]
      exact ⟨hlt, (imp_sub (by simp (maxSteps := 9000000) -implicitDefEqProofs -dsimp (disch := omega) only [go_sem, n47_6, a47_6, Nat.reduceEqDiff, Nat.reduceAdd, Nat.reduceMul, Nat.reduceLeDiff, Nat.reduceBEq, Nat.reduceBNe, Int.reduceEq, ↓reduceIte, reduceCtorEq]) (by simp (maxSteps := 9000000) -implicitDefEqProofs -dsimp (disch := omega) only [go_sem, n47_6, a47_6, Nat.reduceEqDiff, Nat.reduceAdd, Nat.reduceMul, Nat.reduceLeDiff, Nat.reduceBEq, Nat.reduceBNe, Int.reduceEq, ↓reduceIte, reduceCtorEq]) rfl)⟩
    · obtain rfl : i = g.n.length := by omega
      simp (maxSteps := 9000000) -implicitDefEqProofs -dsimp (disch := omega) only [go_sem, n47_6, a47_6, Nat.reduceEqDiff, Nat.reduceAdd, Nat.reduceMul, Nat.reduceLeDiff, Nat.reduceBEq, Nat.reduceBNe, Int.reduceEq, ↓reduceIte, reduceCtorEq]
/-- a number put to its place, once -/
def putF : List Int → Int → List Int
  | [], n => [n]
  | x :: l, n => if x < n then x :: putF l n else if x = n then x :: l else n :: x :: l
theorem putF_at {n : Int} : ∀ {l : List Int} {k : Nat}, k ≤ l.length → (∀ j, j < k → l.getD j default < n) → (k < l.length → ¬ l.getD k default < n) → putF l n = if k < l.length ∧ l.getD k default = n then l else l.take k ++ [n] ++ l.drop k
  | [], k, hk, _, _ => by
    obtain rfl : k = 0 := by simpa using hk
    simp [putF]
  | x :: l, 0, hk, h1, h2 => by
    have h3 := h2 (by simp)
    simp only [List.getD_cons_zero] at h3
    simp only [putF, if_neg h3, List.length_cons, List.getD_cons_zero, List.take_zero, List.drop_zero, List.nil_append]
    by_cases e : x = n
    · simp [e]
    · simp [e]
  | x :: l, k + 1, hk, h1, h2 => by
    have h3 := h1 0 (by omega)
    simp only [List.getD_cons_zero] at h3
    have ih := putF_at (n := n) (l := l) (k := k) (by simpa using hk) (fun j hj => by simpa using h1 (j + 1) (by omega)) (fun hj => by simpa using h2 (by simpa using hj))
    simp only [putF, if_pos h3, ih, List.length_cons, Nat.add_lt_add_iff_right, List.getD_cons_succ, List.take_succ_cons, List.drop_succ_cons, List.cons_append]
    split <;> rfl
theorem putF_len {l : List Int} {n : Int} : (putF l n).length ≤ l.length + 1 := by
  induction l with
  | nil => simp [putF]
  | cons x l ih =>
    simp only [putF]
    split
    · simp only [List.length_cons]; omega
    · split <;> simp
theorem putF_mem {l : List Int} {n y : Int} : y ∈ putF l n ↔ y = n ∨ y ∈ l := by
  induction l with
  | nil => simp [putF]
  | cons x l ih =>
    simp only [putF]
    split
    · simp only [List.mem_cons, ih]
      constructor
      · rintro (h | h | h) <;> simp [h]
      · rintro (h | h | h) <;> simp [h]
    · split
      · rename_i e; subst e; simp
      · simp
theorem putF_sort {l : List Int} {n : Int} (h : l.Pairwise (· < ·)) : (putF l n).Pairwise (· < ·) := by
  induction l with
  | nil => simp [putF]
  | cons x l ih =>
    have h1 := List.pairwise_cons.1 h
    simp only [putF]
    split
    · rename_i e
      refine List.pairwise_cons.2 ⟨fun y hy => ?_, ih h1.2⟩
      rcases putF_mem.1 hy with rfl | hy
      · exact e
      · exact h1.1 y hy
    · split
      · exact h
      · rename_i e1 e2
        refine List.pairwise_cons.2 ⟨fun y hy => ?_, h⟩
        rcases List.mem_cons.1 hy with rfl | hy
        · omega
        · have := h1.1 y hy; omega
theorem sort_ext : ∀ {a b : List Int}, a.Pairwise (· < ·) → b.Pairwise (· < ·) → (∀ y, y ∈ a ↔ y ∈ b) → a = b
  | [], [], _, _, _ => rfl
  | [], y :: b, _, _, h => by have := (h y).2 List.mem_cons_self; simp at this
  | x :: a, [], _, _, h => by have := (h x).1 List.mem_cons_self; simp at this
  | x :: a, y :: b, ha, hb, h => by
    have h1 := List.pairwise_cons.1 ha
    have h2 := List.pairwise_cons.1 hb
    have e : x = y := by
      rcases List.mem_cons.1 ((h x).1 List.mem_cons_self) with e | e
      · exact e
      · rcases List.mem_cons.1 ((h y).2 List.mem_cons_self) with e2 | e2
        · exact e2.symm
        · have := h1.1 _ e2; have := h2.1 _ e; omega
    subst e
    rw [sort_ext h1.2 h2.2 fun z => ?_]
    constructor
    · intro hz
      rcases List.mem_cons.1 ((h z).1 (List.mem_cons_of_mem _ hz)) with e | e
      · have := h1.1 _ hz; omega
      · exact e
    · intro hz
      rcases List.mem_cons.1 ((h z).2 (List.mem_cons_of_mem _ hz)) with e | e
      · have := h2.1 _ hz; omega
      · exact e
def g87_0 : List Gop := [⟨none, (some 4), (.mov (.k (.one .nil)))⟩]
def g87_1 : List Gop := [⟨none, (some 5), (.mov (.k (.one (.int .i64 0))))⟩]
def g87_2 : List Gop := [⟨none, (some 7), (.mov (.t 5))⟩, ⟨none, (some 8), (.mov (.t 0))⟩, ⟨none, (some 9), (.len (.t 8))⟩, ⟨none, (some 10), (.bin .lss (.t 7) (.t 9))⟩, ⟨none, (some 11), (.mov (.t 10))⟩, ⟨(some (11, .true)), (some 12), (.mov (.t 0))⟩, ⟨(some (11, .true)), (some 13), (.mov (.t 5))⟩, ⟨(some (11, .true)), (some 14), (.iaddr 1 (.t 12) (.t 13))⟩, ⟨(some (11, .true)), (some 15), (.load none (.t 14))⟩, ⟨(some (11, .true)), (some 16), (.mov (.t 1))⟩, ⟨(some (11, .true)), (some 17), (.bin .lss (.t 15) (.t 16))⟩, ⟨none, (some 18), (.pick (.t 11) (.t 17) (.k (.one (.bool .false))))⟩]
def g87_3 : List Gop := [⟨none, (some 19), (.mov (.t 5))⟩, ⟨none, (some 20), (.bin .add (.t 19) (.k (.one (.int .i64 1))))⟩, ⟨none, (some 5), (.mov (.t 20))⟩]
def g87_4 : List Gop := [⟨none, (some 21), (.mov (.t 5))⟩, ⟨none, (some 22), (.mov (.t 0))⟩, ⟨none, (some 23), (.len (.t 22))⟩, ⟨none, (some 24), (.bin .lss (.t 21) (.t 23))⟩, ⟨none, (some 25), (.mov (.t 24))⟩, ⟨(some (25, .true)), (some 26), (.mov (.t 0))⟩, ⟨(some (25, .true)), (some 27), (.mov (.t 5))⟩, ⟨(some (25, .true)), (some 28), (.iaddr 1 (.t 26) (.t 27))⟩, ⟨(some (25, .true)), (some 29), (.load none (.t 28))⟩, ⟨(some (25, .true)), (some 30), (.mov (.t 1))⟩, ⟨(some (25, .true)), (some 31), (.bin .eql (.t 29) (.t 30))⟩, ⟨none, (some 32), (.pick (.t 25) (.t 31) (.k (.one (.bool .false))))⟩]
def g87_5 : List Gop := [⟨none, (some 33), (.mov (.t 0))⟩, ⟨none, (some 4), (.mov (.t 33))⟩]
def g87_6 : List Gop := [⟨none, (some 6), (.mov (.k (.one .nil)))⟩]
def g87_7 : List Gop := [⟨none, (some 34), (.mov (.t 6))⟩, ⟨none, (some 35), (.mov (.t 0))⟩, ⟨none, (some 36), (.mov (.t 5))⟩, ⟨none, (some 37), (.slice 1 (.t 35) none (some (.t 36)) none)⟩, ⟨none, (some 38), (.app 1 8 [(.int .i64 0)] (.t 34) (.t 37))⟩, ⟨none, (some 6), (.mov (.t 38))⟩]
def g87_8 : List Gop := [⟨none, (some 39), (.mov (.t 6))⟩, ⟨none, (some 40), (.mov (.t 1))⟩, ⟨none, (some 41), (.lit 1 1 [(.int .i64 0)] [(0, (.t 40))])⟩, ⟨none, (some 42), (.app 1 8 [(.int .i64 0)] (.t 39) (.t 41))⟩, ⟨none, (some 6), (.mov (.t 42))⟩]
def g87_9 : List Gop := [⟨none, (some 43), (.mov (.t 6))⟩, ⟨none, (some 44), (.mov (.t 0))⟩, ⟨none, (some 45), (.mov (.t 5))⟩, ⟨none, (some 46), (.slice 1 (.t 44) (some (.t 45)) none none)⟩, ⟨none, (some 47), (.app 1 8 [(.int .i64 0)] (.t 43) (.t 46))⟩, ⟨none, (some 4), (.mov (.t 47))⟩]
def i87 : Ir := (.seq (.region g87_0) (.seq (.region g87_1) (.seq (.block 0 (.loop (.seq (.seq (.region g87_2) (.cond (.t 18) .skip (.exit 0))) (.block 1 (.region g87_3))))) (.seq (.seq (.region g87_4) (.cond (.t 32) (.seq (.region g87_5) .ret) .skip)) (.seq (.region g87_6) (.seq (.region g87_7) (.seq (.region g87_8) (.seq (.region g87_9) .ret))))))))
theorem l1Put_ok (l : List Int) (n : Int) (hl : l.length ≤ 1048576) : Meets Try.prog 87 [.one (.sl true 1 l.length (l.map (T.int .i64))), .one (.int .i64 n)] (.w (.one (.sl true 1 (putF l n).length ((putF l n).map (T.int .i64))))) [.one .hole, .one .hole] := by
  refine meets_go (ir := i87) (fn := Try.f87) (rx := [(.tmp 4)]) rfl rfl (by rfl) (by rfl) (by exact Nat.le_of_ble_eq_true rfl) ?_
  simp (maxSteps := 9000000) -implicitDefEqProofs -dsimp (disch := omega) only [go_sem, g87_0, g87_1, g87_2, g87_3, g87_4, g87_5, g87_6, g87_7, g87_8, g87_9, i87, Nat.reduceEqDiff, Nat.reduceAdd, Nat.reduceMul, Nat.reduceLeDiff, Nat.reduceBEq, Nat.reduceBNe, Int.reduceEq, ↓reduceIte, reduceCtorEq]
  refine loop_n l.length (fun i => ⟨[(5, .w (.one (.int .i64 (i : Nat)))), (1, .w (.one (.int .i64 n))), (0, .w (.one (.hs 0 [] 0 1 l.length)))], [(0, (.sl true 1 l.length (l.map (T.int .i64))))], [.one (.hs 0 [] 0 1 l.length), .one (.int .i64 n)]⟩) (fun i => ∀ j, j < i → l.getD j default < n) ?_ ?_ ?_
  · exact (imp_sub (by simp (maxSteps := 9000000) -implicitDefEqProofs -dsimp (disch := omega) only [go_sem, Nat.reduceEqDiff, Nat.reduceAdd, Nat.reduceMul, Nat.reduceLeDiff, Nat.reduceBEq, Nat.reduceBNe, Int.reduceEq, ↓reduceIte, reduceCtorEq]) (by simp (maxSteps := 9000000) -implicitDefEqProofs -dsimp (disch := omega) only [go_sem, Nat.reduceEqDiff, Nat.reduceAdd, Nat.reduceMul, Nat.reduceLeDiff, Nat.reduceBEq, Nat.reduceBNe, Int.reduceEq, ↓reduceIte, reduceCtorEq]) rfl)
  · intro j hj; omega
  · intro i hi hJ
    by_cases h : i < l.length
    · by_cases h2 : l.getD i default < n
      · simp (maxSteps := 9000000) -implicitDefEqProofs -dsimp (disch := omega) only [go_sem, lt_T, lt_F, le_T, le_F, eq_T, eq_F, and_F, Nat.reduceEqDiff, Nat.reduceAdd, Nat.reduceMul, Nat.reduceLeDiff, Nat.reduceBEq, Nat.reduceBNe, Int.reduceEq, ↓reduceIte, reduceCtorEq]
        refine ⟨⟨by omega, fun j hj => ?_⟩, (imp_sub (by simp (maxSteps := 9000000) -implicitDefEqProofs -dsimp (disch := omega) only [go_sem, Nat.reduceEqDiff, Nat.reduceAdd, Nat.reduceMul, Nat.reduceLeDiff, Nat.reduceBEq, Nat.reduceBNe, Int.reduceEq, ↓reduceIte, reduceCtorEq]) (by simp (maxSteps := 9000000) -implicitDefEqProofs -dsimp (disch := omega) only [go_sem, Nat.reduceEqDiff, Nat.reduceAdd, Nat.reduceMul, Nat.reduceLeDiff, Nat.reduceBEq, Nat.reduceBNe, Int.reduceEq, ↓reduceIte, reduceCtorEq]) rfl)⟩
        by_cases hji : j = i
        · subst hji; exact h2
        · exact hJ j (by omega)
      · have e := putF_at (n := n) hi hJ (fun _ => h2)
        by_cases h3 : l.getD i default = n
        · rw [if_pos ⟨by omega, h3⟩] at e
          rw [e]
          simp (maxSteps := 9000000) -implicitDefEqProofs -dsimp (disch := omega) only [go_sem, lt_T, lt_F, le_T, le_F, eq_T, eq_F, and_F, Nat.reduceEqDiff, Nat.reduceAdd, Nat.reduceMul, Nat.reduceLeDiff, Nat.reduceBEq, Nat.reduceBNe, Int.reduceEq, ↓reduceIte, reduceCtorEq]
        · rw [if_neg (fun w => h3 w.2)] at e
          have c1 : cut (l.map (T.int .i64)) 0 (i - 0) = (l.take i).map (T.int .i64) := cut_pre (β := Nat)
          have c2 : cut (l.map (T.int .i64)) i (l.length - i) = (l.drop i).map (T.int .i64) := cut_suf rfl
          have c5 : (l.take i).length = i := by rw [List.length_take]; omega
          have c6 : (l.drop i).length = l.length - i := by rw [List.length_drop]
          have c7 : (putF l n).length = l.length + 1 := by rw [e]; simp only [List.length_append, c5, c6, List.length_singleton]; omega
          simp (maxSteps := 9000000) -implicitDefEqProofs -dsimp (disch := omega) only [go_sem, lt_T, lt_F, le_T, le_F, eq_T, eq_F, and_F, c1, c2, Nat.reduceEqDiff, Nat.reduceAdd, Nat.reduceMul, Nat.reduceLeDiff, Nat.reduceBEq, Nat.reduceBNe, Int.reduceEq, ↓reduceIte, reduceCtorEq]
          refine need_i ?_ (by simp (maxSteps := 9000000) -implicitDefEqProofs -dsimp (disch := omega) only [go_sem, Nat.reduceEqDiff, Nat.reduceAdd, Nat.reduceMul, Nat.reduceLeDiff, Nat.reduceBEq, Nat.reduceBNe, Int.reduceEq, ↓reduceIte, reduceCtorEq])
          have c8 : cut ((l.take i).map (T.int .i64) ++ [T.int .i64 n]) 0 (i - 0 + 1) = (l.take i).map (T.int .i64) ++ [T.int .i64 n] := cut_all (by simp only [List.length_append, List.length_map, c5, List.length_singleton]; omega)
          rw [show i - 0 + 1 + (l.length - i) = (putF l n).length by omega, e, c8]
          simp only [List.map_append, List.map_cons, List.map_nil, List.append_assoc]
          rw [cut_all (by simp)]
    · obtain rfl : i = l.length := by omega
      have e := putF_at (n := n) hi hJ (fun w => absurd w (by omega))
      rw [if_neg (fun w => by have := w.1; omega)] at e
      rw [e]
      simp (maxSteps := 9000000) -implicitDefEqProofs -dsimp (disch := omega) only [go_sem, lt_T, lt_F, le_T, le_F, eq_T, eq_F, and_F, Nat.reduceEqDiff, Nat.reduceAdd, Nat.reduceMul, Nat.reduceLeDiff, Nat.reduceBEq, Nat.reduceBNe, Int.reduceEq, ↓reduceIte, reduceCtorEq]
      have c1 : cut (l.map (T.int .i64)) 0 (l.length - 0) = (l.take l.length).map (T.int .i64) := cut_pre (β := Nat)
      have c2 : cut (l.map (T.int .i64)) l.length (l.length - l.length) = (l.drop l.length).map (T.int .i64) := cut_suf rfl
      simp (maxSteps := 9000000) -implicitDefEqProofs -dsimp (disch := omega) only [go_sem, lt_T, lt_F, le_T, le_F, eq_T, eq_F, and_F, c1, c2, List.take_length, List.drop_length, Nat.reduceEqDiff, Nat.reduceAdd, Nat.reduceMul, Nat.reduceLeDiff, Nat.reduceBEq, Nat.reduceBNe, Int.reduceEq, ↓reduceIte, reduceCtorEq]
      have c8 : cut (l.map (T.int .i64) ++ [T.int .i64 n]) 0 (l.length - 0 + 1) = l.map (T.int .i64) ++ [T.int .i64 n] := cut_all (by simp only [List.length_append, List.length_map, List.length_singleton]; omega)
      refine need_i ?_ (by simp (maxSteps := 9000000) -implicitDefEqProofs -dsimp (disch := omega) only [go_sem, Nat.reduceEqDiff, Nat.reduceAdd, Nat.reduceMul, Nat.reduceLeDiff, Nat.reduceBEq, Nat.reduceBNe, Int.reduceEq, ↓reduceIte, reduceCtorEq])
      rw [c8, show l.length - 0 + 1 + (l.length - l.length) = l.length + 1 by omega, cut_all (by simp)]
end Go.Proofs.YtdhclelfnbjikaaT
