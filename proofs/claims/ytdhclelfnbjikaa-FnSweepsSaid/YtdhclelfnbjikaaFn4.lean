/- Functions of the program, each with what it returns and leaves. No condition. -/
import Derived.Test.YtdhclelfnbjikaaFn3
import Derived.Test.YtdhclelfnbjikaaTree8
set_option linter.all false
set_option linter.unusedVariables false
set_option linter.unusedSimpArgs false
set_option linter.unusedSectionVars false
set_option linter.unnecessarySimpa false
set_option linter.deprecated false
/- What is come to, in plain words. No condition. -/
set_option maxRecDepth 100000
set_option maxHeartbeats 4000000
set_option linter.unusedSimpArgs false
set_option linter.unusedVariables false
namespace Go.Proofs.YtdhclelfnbjikaaT
open Go
/-- what is come to from the roots -/
inductive Rch (n : List Nd) (r : List Int) : Int → Prop
  | root {y : Int} : y ∈ r → Rch n r y
  | step {x y : Int} : Rch n r x → y ∈ (n.getD x.toNat default).h → Rch n r y
noncomputable instance (n : List Nd) (r : List Int) (y : Int) : Decidable (Rch n r y) := Classical.propDecidable _
theorem rch_hold {n : List Nd} {r : List Int} (h : NodesOk n r) {y : Int} (hy : Rch n r y) : HoldOk n n.length y := by
  induction hy with
  | root h1 => exact h.2.1 _ h1
  | step h1 h2 ih =>
    have a := ih.1
    have b := ih.2.1
    have := (h.1 _ (by omega)).1 _ h2
    exact ⟨this.1, by have := this.2.1; omega, this.2.2⟩
noncomputable def rchL (n : List Nd) (r : List Int) : List Int := ((List.range n.length).filter fun k : Nat => decide (Rch n r (k : Int))).map fun k : Nat => (k : Int)
theorem rchL_mem {n : List Nd} {r : List Int} (h : NodesOk n r) {y : Int} : y ∈ rchL n r ↔ Rch n r y := by
  simp only [rchL, List.mem_map, List.mem_filter, List.mem_range, decide_eq_true_eq]
  constructor
  · rintro ⟨k, ⟨_, h2⟩, rfl⟩; exact h2
  · intro hy
    have := rch_hold h hy
    have a := this.1
    have b := this.2.1
    exact ⟨y.toNat, ⟨by omega, by rw [Int.toNat_of_nonneg a]; exact hy⟩, Int.toNat_of_nonneg a⟩
theorem range_sort (n : Nat) : (List.range n).Pairwise (· < ·) := List.pairwise_lt_range
theorem rchL_sort {n : List Nd} {r : List Int} : (rchL n r).Pairwise (· < ·) := by
  unfold rchL
  rw [List.pairwise_map]
  exact ((range_sort n.length).filter _).imp (fun h => by omega)
theorem rchL_len {n : List Nd} {r : List Int} : (rchL n r).length ≤ n.length := by
  unfold rchL
  rw [List.length_map]
  exact Nat.le_trans (List.length_filter_le _ _) (by simp)
/-- the rounds from above: those that are come to -/
noncomputable def dnF (n : List Nd) (O : List Int) : Nat → List Int
  | 0 => O
  | i + 1 => if ((n.length - 1 - i : Nat) : Int) ∈ dnF n O i then (n.getD (n.length - 1 - i) default).h.foldl putF (dnF n O i) else dnF n O i
theorem fold_put_mem {y : Int} : ∀ {l O : List Int}, y ∈ l.foldl putF O ↔ y ∈ l ∨ y ∈ O
  | [], O => by simp
  | x :: l, O => by
    rw [List.foldl_cons, fold_put_mem (l := l), putF_mem, List.mem_cons]
    constructor
    · rintro (h | h | h) <;> simp [h]
    · rintro ((h | h) | h) <;> simp [h]
theorem fold_put_sort : ∀ {l O : List Int}, O.Pairwise (· < ·) → (l.foldl putF O).Pairwise (· < ·)
  | [], O, h => h
  | x :: l, O, h => fold_put_sort (l := l) (putF_sort h)
theorem fold_put_len : ∀ {l O : List Int}, (l.foldl putF O).length ≤ O.length + l.length
  | [], O => by simp
  | x :: l, O => by
    have h1 := fold_put_len (l := l) (O := putF O x)
    have h2 := putF_len (l := O) (n := x)
    simp only [List.foldl_cons, List.length_cons]; omega
theorem dnF_sort {n : List Nd} {O : List Int} (h : O.Pairwise (· < ·)) : ∀ i, (dnF n O i).Pairwise (· < ·)
  | 0 => h
  | i + 1 => by
    simp only [dnF]
    split
    · exact fold_put_sort (dnF_sort h i)
    · exact dnF_sort h i
theorem dnF_len {n : List Nd} {r O : List Int} (h : NodesOk n r) : ∀ i, i ≤ n.length → (dnF n O i).length ≤ O.length + 6 * i
  | 0, _ => by simp [dnF]
  | i + 1, hi => by
    have h1 := dnF_len (O := O) h i (by omega)
    simp only [dnF]
    split
    · have h2 := fold_put_len (l := (n.getD (n.length - 1 - i) default).h) (O := dnF n O i)
      have h3 := (h.1 (n.length - 1 - i) (by omega)).2.1
      omega
    · omega
theorem dnF_sub {n : List Nd} {O : List Int} {y : Int} : ∀ {i j : Nat}, i ≤ j → y ∈ dnF n O i → y ∈ dnF n O j
  | i, 0, h, hy => by obtain rfl : i = 0 := by omega
                      exact hy
  | i, j + 1, h, hy => by
    by_cases e : i = j + 1
    · subst e; exact hy
    · have := dnF_sub (i := i) (j := j) (by omega) hy
      simp only [dnF]
      split
      · exact fold_put_mem.2 (.inr this)
      · exact this
theorem dnF_rch {n : List Nd} {r O : List Int} (hO : ∀ y ∈ O, Rch n r y) : ∀ i, ∀ y ∈ dnF n O i, Rch n r y
  | 0, y, hy => hO y hy
  | i + 1, y, hy => by
    simp only [dnF] at hy
    split at hy
    · rename_i h1
      rcases fold_put_mem.1 hy with hy | hy
      · exact .step (dnF_rch hO i _ h1) (by rw [Int.toNat_natCast]; exact hy)
      · exact dnF_rch hO i y hy
    · exact dnF_rch hO i y hy
/-- what comes in at the round i or later is below what it takes -/
theorem dnF_low {n : List Nd} {r O : List Int} (h : NodesOk n r) {y : Int} : ∀ {i j : Nat}, i ≤ j → j ≤ n.length → y ∈ dnF n O j → y ∈ dnF n O i ∨ y + i + 1 < n.length
  | i, 0, h1, _, hy => by obtain rfl : i = 0 := by omega
                          exact .inl hy
  | i, j + 1, h1, h2, hy => by
    by_cases e : i = j + 1
    · subst e; exact .inl hy
    · simp only [dnF] at hy
      split at hy
      · rcases fold_put_mem.1 hy with hy | hy
        · have := (h.1 (n.length - 1 - j) (by omega)).1 _ hy
          have := this.2.1
          exact .inr (by omega)
        · exact dnF_low h (by omega) (by omega) hy
      · exact dnF_low h (by omega) (by omega) hy
theorem dnF_all {n : List Nd} {r : List Int} (h : NodesOk n r) {y : Int} (hy : Rch n r y) : y ∈ dnF n (r.foldl putF []) n.length := by
  induction hy with
  | root h1 => exact dnF_sub (i := 0) (by omega) (fold_put_mem.2 (.inl h1))
  | @step x y h1 h2 ih =>
    have hx := rch_hold h h1
    have a := hx.1
    have b := hx.2.1
    have hlt : x.toNat < n.length := by omega
    have ex : ((n.length - 1 - (n.length - 1 - x.toNat) : Nat) : Int) = x := by omega
    have h3 : x ∈ dnF n (r.foldl putF []) (n.length - 1 - x.toNat) := by
      rcases dnF_low h (i := n.length - 1 - x.toNat) (by omega) (Nat.le_refl _) ih with h3 | h3
      · exact h3
      · omega
    refine dnF_sub (i := n.length - 1 - x.toNat + 1) (by omega) ?_
    simp only [dnF]
    rw [if_pos (by rw [ex]; exact h3)]
    exact fold_put_mem.2 (.inl (by rw [show n.length - 1 - (n.length - 1 - x.toNat) = x.toNat by omega]; exact h2))
theorem dnF_end {n : List Nd} {r : List Int} (h : NodesOk n r) : dnF n (r.foldl putF []) n.length = rchL n r :=
  sort_ext (dnF_sort (fold_put_sort List.Pairwise.nil) _) rchL_sort fun y => by
    rw [rchL_mem h]
    exact ⟨dnF_rch (fun y hy => by rcases fold_put_mem.1 hy with hy | hy; · exact .root hy
                                   · simp at hy) _ y, dnF_all h⟩
/-- in a good graph just those are come to that are not gone -/
theorem occ_pos {j : Nat} {l : List Int} (h : 0 < occ j l) : ∃ y ∈ l, y.toNat = j := by
  simp only [occ, Int.natCast_pos, List.countP_pos_iff] at h
  obtain ⟨y, h1, h2⟩ := h
  exact ⟨y, h1, by simpa using h2⟩
theorem tots_pos {j : Nat} : ∀ {n : List Nd}, 0 < tots j n → ∃ i, i < n.length ∧ 0 < occ j (n.getD i default).h
  | [], h => by simp [tots] at h
  | x :: n, h => by
    rw [tots_cons] at h
    by_cases h1 : 0 < occ j x.h
    · exact ⟨0, by simp, by simpa using h1⟩
    · obtain ⟨i, h2, h3⟩ := tots_pos (j := j) (n := n) (by omega)
      exact ⟨i + 1, by simpa using h2, by simpa using h3⟩
theorem good_rch {g : Gr} (hG : GoodG g) : ∀ (d k : Nat), k < g.n.length → g.n.length - k ≤ d → (g.n.getD k default).g = false → Rch g.n g.r (k : Int)
  | 0, k, hk, hd, hg => by omega
  | d + 1, k, hk, hd, hg => by
    have h1 := good_pos hG hk hg
    rw [good_c hG hk] at h1
    by_cases h2 : 0 < occ k g.r
    · obtain ⟨y, h3, h4⟩ := occ_pos h2
      have := (hG.1.2.1 y h3).1
      have : y = (k : Int) := by omega
      subst this
      exact .root h3
    · have := occ_nn (j := k) (l := g.r)
      obtain ⟨i, h3, h4⟩ := tots_pos (j := k) (n := g.n) (by omega)
      obtain ⟨y, h5, h6⟩ := occ_pos h4
      have h7 := (hG.1.1 i h3).1 y h5
      have h8 := h7.1
      have h9 := h7.2.1
      have : y = (k : Int) := by omega
      subst this
      have hgi : (g.n.getD i default).g = false := by
        cases hq : (g.n.getD i default).g with
        | false => rfl
        | true =>
          have := (hG.1.1 i h3).2.2 hq
          have := len0 this
          rw [this] at h5; simp at h5
      exact .step (good_rch hG d i h3 (by omega) hgi) (by rw [Int.toNat_natCast]; exact h5)
theorem good_rch_iff {g : Gr} (hG : GoodG g) {k : Nat} (hk : k < g.n.length) : Rch g.n g.r (k : Int) ↔ (g.n.getD k default).g = false := by
  constructor
  · intro h
    have := (rch_hold hG.1 h).2.2
    simpa using this
  · exact good_rch hG _ k hk (Nat.le_refl _)
end Go.Proofs.YtdhclelfnbjikaaT

/- Functions of the program as contracts: what is come to. No condition. -/
set_option maxRecDepth 100000
set_option maxHeartbeats 8000000
set_option linter.unusedSimpArgs false
set_option linter.unusedVariables false
namespace Go.Proofs.YtdhclelfnbjikaaT
open Go
theorem fold_take_put {l O : List Int} {t : Nat} (h : t < l.length) : (l.take (t + 1)).foldl putF O = putF ((l.take t).foldl putF O) (l.getD t default) := by
  rw [List.take_add_one, List.foldl_append, List.getElem?_eq_getElem h]
  simp [List.getD_eq_getElem?_getD, h]
def g68_0 : List Gop := [⟨none, (some 4), (.mov (.k (.one .nil)))⟩]
def g68_1 : List Gop := [⟨none, (some 5), (.mov (.k (.one .nil)))⟩]
def g68_2 : List Gop := [⟨none, (some 11), (.mov (.t 1))⟩, ⟨none, (some 12), (.len (.t 11))⟩, ⟨none, (some 13), (.mov (.k (.one (.int .i64 0))))⟩]
def g68_3 : List Gop := [⟨none, (some 14), (.bin .lss (.t 13) (.t 12))⟩]
def g68_4 : List Gop := [⟨none, (some 15), (.iaddr 1 (.t 11) (.t 13))⟩, ⟨none, (some 16), (.load none (.t 15))⟩, ⟨none, (some 7), (.mov (.t 16))⟩]
def g68_5 : List Gop := [⟨none, (some 17), (.mov (.t 5))⟩, ⟨none, (some 18), (.mov (.t 7))⟩, ⟨none, (some 19), (.call 87 [(.t 17), (.t 18)])⟩, ⟨none, (some 5), (.mov (.t 19))⟩]
def g68_6 : List Gop := [⟨none, (some 20), (.bin .add (.t 13) (.k (.one (.int .i64 1))))⟩, ⟨none, (some 13), (.mov (.t 20))⟩]
def g68_7 : List Gop := [⟨none, (some 21), (.mov (.t 0))⟩, ⟨none, (some 22), (.len (.t 21))⟩, ⟨none, (some 23), (.bin .sub (.t 22) (.k (.one (.int .i64 1))))⟩, ⟨none, (some 8), (.mov (.t 23))⟩]
def g68_8 : List Gop := [⟨none, (some 24), (.mov (.t 8))⟩, ⟨none, (some 25), (.bin .geq (.t 24) (.k (.one (.int .i64 0))))⟩]
def g68_9 : List Gop := [⟨none, (some 28), (.mov (.t 5))⟩, ⟨none, (some 29), (.mov (.t 8))⟩, ⟨none, (some 30), (.call 72 [(.t 28), (.t 29)])⟩]
def g68_10 : List Gop := [⟨none, (some 31), (.mov (.t 0))⟩, ⟨none, (some 32), (.mov (.t 8))⟩, ⟨none, (some 33), (.iaddr 2 (.t 31) (.t 32))⟩, ⟨none, (some 34), (.faddr (.t 33) 0)⟩, ⟨none, (some 35), (.load none (.t 34))⟩, ⟨none, (some 36), (.len (.t 35))⟩, ⟨none, (some 37), (.mov (.k (.one (.int .i64 0))))⟩]
def g68_11 : List Gop := [⟨none, (some 38), (.bin .lss (.t 37) (.t 36))⟩]
def g68_12 : List Gop := [⟨none, (some 39), (.iaddr 1 (.t 35) (.t 37))⟩, ⟨none, (some 40), (.load none (.t 39))⟩, ⟨none, (some 10), (.mov (.t 40))⟩]
def g68_13 : List Gop := [⟨none, (some 41), (.mov (.t 5))⟩, ⟨none, (some 42), (.mov (.t 10))⟩, ⟨none, (some 43), (.call 87 [(.t 41), (.t 42)])⟩, ⟨none, (some 5), (.mov (.t 43))⟩]
def g68_14 : List Gop := [⟨none, (some 44), (.bin .add (.t 37) (.k (.one (.int .i64 1))))⟩, ⟨none, (some 37), (.mov (.t 44))⟩]
def g68_15 : List Gop := [⟨none, (some 26), (.mov (.t 8))⟩, ⟨none, (some 27), (.bin .sub (.t 26) (.k (.one (.int .i64 1))))⟩, ⟨none, (some 8), (.mov (.t 27))⟩]
def g68_16 : List Gop := [⟨none, (some 45), (.mov (.t 5))⟩, ⟨none, (some 4), (.mov (.t 45))⟩]
def i68 : Ir := (.seq (.region g68_0) (.seq (.region g68_1) (.seq (.seq (.region g68_2) (.block 0 (.loop (.seq (.region g68_3) (.seq (.cond (.t 14) .skip (.exit 0)) (.seq (.block 1 (.seq (.region g68_4) (.region g68_5))) (.region g68_6))))))) (.seq (.seq (.region g68_7) (.block 2 (.loop (.seq (.seq (.region g68_8) (.cond (.t 25) .skip (.exit 2))) (.seq (.block 3 (.seq (.region g68_9) (.cond (.t 30) (.seq (.region g68_10) (.block 4 (.loop (.seq (.region g68_11) (.seq (.cond (.t 38) .skip (.exit 4)) (.seq (.block 5 (.seq (.region g68_12) (.region g68_13))) (.region g68_14))))))) .skip))) (.region g68_15)))))) (.seq (.region g68_16) .ret)))))
theorem l10Reached_ok (n : List Nd) (r : List Int) (hq : NodesOk n r) : Meets Try.prog 68 [.one (.sl false 2 n.length (ndR n)), .one (.sl false 1 r.length (r.map (T.int .i64)))] (.w (.one (.sl true 1 (rchL n r).length ((rchL n r).map (T.int .i64))))) [.one .hole, .one .hole] := by
  have h14 := hq.2.2.1
  have h6 := hq.2.2.2
  refine meets_go (ir := i68) (fn := Try.f68) (rx := [(.tmp 4)]) rfl rfl (by rfl) (by rfl) (by exact Nat.le_of_ble_eq_true rfl) ?_
  simp (maxSteps := 9000000) -implicitDefEqProofs -dsimp (disch := omega) only [go_sem, g68_0, g68_1, g68_2, g68_3, g68_4, g68_5, g68_6, g68_7, g68_8, g68_9, g68_10, g68_11, g68_12, g68_13, g68_14, g68_15, g68_16, i68, Nat.reduceEqDiff, Nat.reduceAdd, Nat.reduceMul, Nat.reduceLeDiff, Nat.reduceBEq, Nat.reduceBNe, Int.reduceEq, ↓reduceIte, reduceCtorEq]
  refine loop_n r.length (fun i => ⟨[(13, .w (.one (.int .i64 (i : Nat)))), (12, .w (.one (.int .i64 r.length))), (11, .w (.one (.hs 1 [] 0 1 r.length))), (5, .w (.one (.hs 2 [] 0 1 ((r.take i).foldl putF []).length))), (0, .w (.one (.hs 0 [] 0 2 n.length)))], [(2, (.sl true 1 ((r.take i).foldl putF []).length (((r.take i).foldl putF []).map (T.int .i64)))), (1, (.sl false 1 r.length (r.map (T.int .i64)))), (0, .sl false 2 n.length (ndR n))], [.one (.hs 0 [] 0 2 n.length), .one (.hs 1 [] 0 1 r.length)]⟩) (fun i => True) ?_ trivial ?_
  · exact (imp_adopt 5 2 1 rfl rfl).trans (imp_sub (by simp (maxSteps := 9000000) -implicitDefEqProofs -dsimp (disch := omega) only [go_sem, List.take_zero, List.foldl_nil, Nat.reduceEqDiff, Nat.reduceAdd, Nat.reduceMul, Nat.reduceLeDiff, Nat.reduceBEq, Nat.reduceBNe, Int.reduceEq, ↓reduceIte, reduceCtorEq]) (by simp (maxSteps := 9000000) -implicitDefEqProofs -dsimp (disch := omega) only [go_sem, List.take_zero, List.foldl_nil, Nat.reduceEqDiff, Nat.reduceAdd, Nat.reduceMul, Nat.reduceLeDiff, Nat.reduceBEq, Nat.reduceBNe, Int.reduceEq, ↓reduceIte, reduceCtorEq]) rfl)
  · intro i hi hJ
    have hl := fold_put_len (l := r.take i) (O := [])
    simp only [List.length_nil, List.length_take] at hl
    by_cases h : i < r.length
    · simp (maxSteps := 9000000) -implicitDefEqProofs -dsimp (disch := omega) only [go_sem, lt_T, lt_F, le_T, le_F, eq_T, eq_F, and_F, Nat.reduceEqDiff, Nat.reduceAdd, Nat.reduceMul, Nat.reduceLeDiff, Nat.reduceBEq, Nat.reduceBNe, Int.reduceEq, ↓reduceIte, reduceCtorEq]
      refine call_go true (l1Put_ok ((r.take i).foldl putF []) (r.getD i default) (by omega)) ?_
      simp (maxSteps := 9000000) -implicitDefEqProofs -dsimp (disch := omega) only [go_sem, lt_T, lt_F, le_T, le_F, eq_T, eq_F, and_F, Nat.reduceEqDiff, Nat.reduceAdd, Nat.reduceMul, Nat.reduceLeDiff, Nat.reduceBEq, Nat.reduceBNe, Int.reduceEq, ↓reduceIte, reduceCtorEq]
      exact ⟨h, (imp_ren 3 2 rfl rfl).trans (imp_sub (by simp (maxSteps := 9000000) -implicitDefEqProofs -dsimp (disch := omega) only [go_sem, fold_take_put h, Nat.reduceEqDiff, Nat.reduceAdd, Nat.reduceMul, Nat.reduceLeDiff, Nat.reduceBEq, Nat.reduceBNe, Int.reduceEq, ↓reduceIte, reduceCtorEq]) (by simp (maxSteps := 9000000) -implicitDefEqProofs -dsimp (disch := omega) only [go_sem, fold_take_put h, Nat.reduceEqDiff, Nat.reduceAdd, Nat.reduceMul, Nat.reduceLeDiff, Nat.reduceBEq, Nat.reduceBNe, Int.reduceEq, ↓reduceIte, reduceCtorEq]) rfl)⟩
    · obtain rfl : i = r.length := by omega
      rw [List.take_length] at hl
      simp (maxSteps := 9000000) -implicitDefEqProofs -dsimp (disch := omega) only [go_sem, lt_T, lt_F, le_T, le_F, eq_T, eq_F, and_F, List.take_length, Nat.reduceEqDiff, Nat.reduceAdd, Nat.reduceMul, Nat.reduceLeDiff, Nat.reduceBEq, Nat.reduceBNe, Int.reduceEq, ↓reduceIte, reduceCtorEq]
      have hend := dnF_end hq
      generalize r.foldl putF [] = O at *
      clear hJ hi h
      refine loop_n n.length (fun i => ⟨[(8, .w (.one (.int .i64 ((n.length : Int) - 1 - i)))), (5, .w (.one (.hs 2 [] 0 1 (dnF n O i).length))), (0, .w (.one (.hs 0 [] 0 2 n.length)))], [(2, (.sl true 1 (dnF n O i).length ((dnF n O i).map (T.int .i64)))), (0, .sl false 2 n.length (ndR n))], [.one (.hs 0 [] 0 2 n.length), .one (.hs 1 [] 0 1 r.length)]⟩) (fun i => True) ?_ trivial ?_
      · exact (imp_sub (by simp (maxSteps := 9000000) -implicitDefEqProofs -dsimp (disch := omega) only [go_sem, dnF, Int.natCast_zero, Int.sub_zero, Nat.reduceEqDiff, Nat.reduceAdd, Nat.reduceMul, Nat.reduceLeDiff, Nat.reduceBEq, Nat.reduceBNe, Int.reduceEq, ↓reduceIte, reduceCtorEq]) (by simp (maxSteps := 9000000) -implicitDefEqProofs -dsimp (disch := omega) only [go_sem, dnF, Int.natCast_zero, Int.sub_zero, Nat.reduceEqDiff, Nat.reduceAdd, Nat.reduceMul, Nat.reduceLeDiff, Nat.reduceBEq, Nat.reduceBNe, Int.reduceEq, ↓reduceIte, reduceCtorEq]) rfl)
      · intro i hi hJ
        have hdl := dnF_len (O := O) hq i hi
        by_cases h : i < n.length
        · have hlt : n.length - 1 - i < n.length := by omega
          have e1 : (n.length : Int) - 1 - i = ((n.length - 1 - i : Nat) : Int) := by omega
          have e2 : ((n.length - 1 - i : Nat) : Int) - 1 = (n.length : Int) - 1 - ((i : Int) + 1) := by omega
          have hs6 := (hq.1 _ hlt).2.1
          have MH := l1Has_ok (dnF n O i) ((n.length - 1 - i : Nat) : Int) (by omega)
          rw [e1]
          by_cases h2 : ((n.length - 1 - i : Nat) : Int) ∈ dnF n O i
          · rw [decide_eq_true h2] at MH
            have e3 : dnF n O (i + 1) = (n.getD (n.length - 1 - i) default).h.foldl putF (dnF n O i) := by rw [dnF, if_pos h2]
            simp (maxSteps := 9000000) -implicitDefEqProofs -dsimp (disch := omega) only [go_sem, lt_T, lt_F, le_T, le_F, eq_T, eq_F, and_F, Nat.reduceEqDiff, Nat.reduceAdd, Nat.reduceMul, Nat.reduceLeDiff, Nat.reduceBEq, Nat.reduceBNe, Int.reduceEq, ↓reduceIte, reduceCtorEq]
            refine call_go true MH ?_
            simp (maxSteps := 9000000) -implicitDefEqProofs -dsimp (disch := omega) only [go_sem, lt_T, lt_F, le_T, le_F, eq_T, eq_F, and_F, ndR_0 hlt, Nat.reduceEqDiff, Nat.reduceAdd, Nat.reduceMul, Nat.reduceLeDiff, Nat.reduceBEq, Nat.reduceBNe, Int.reduceEq, ↓reduceIte, reduceCtorEq]
            have n0 := ndR_0 hlt
            generalize (n.getD (n.length - 1 - i) default).h = hs at *
            refine loop_n hs.length (fun t => ⟨[(37, .w (.one (.int .i64 (t : Nat)))), (36, .w (.one (.int .i64 hs.length))), (35, .w (.one (.hs 0 [(n.length - 1 - i) * 2] 0 1 hs.length))), (8, .w (.one (.int .i64 ((n.length - 1 - i : Nat) : Int)))), (5, .w (.one (.hs 2 [] 0 1 ((hs.take t).foldl putF (dnF n O i)).length))), (0, .w (.one (.hs 0 [] 0 2 n.length)))], [(2, (.sl true 1 ((hs.take t).foldl putF (dnF n O i)).length (((hs.take t).foldl putF (dnF n O i)).map (T.int .i64)))), (0, .sl false 2 n.length (ndR n))], [.one (.hs 0 [] 0 2 n.length), .one (.hs 1 [] 0 1 r.length)]⟩) (fun i => True) ?_ trivial ?_
            · exact (imp_sub (by simp (maxSteps := 9000000) -implicitDefEqProofs -dsimp (disch := omega) only [go_sem, List.take_zero, List.foldl_nil, Nat.reduceEqDiff, Nat.reduceAdd, Nat.reduceMul, Nat.reduceLeDiff, Nat.reduceBEq, Nat.reduceBNe, Int.reduceEq, ↓reduceIte, reduceCtorEq]) (by simp (maxSteps := 9000000) -implicitDefEqProofs -dsimp (disch := omega) only [go_sem, List.take_zero, List.foldl_nil, Nat.reduceEqDiff, Nat.reduceAdd, Nat.reduceMul, Nat.reduceLeDiff, Nat.reduceBEq, Nat.reduceBNe, Int.reduceEq, ↓reduceIte, reduceCtorEq]) rfl)
            · intro t ht hJ
              have hl2 := fold_put_len (l := hs.take t) (O := dnF n O i)
              simp only [List.length_take] at hl2
              by_cases h3 : t < hs.length
              · simp (maxSteps := 9000000) -implicitDefEqProofs -dsimp (disch := omega) only [go_sem, lt_T, lt_F, le_T, le_F, eq_T, eq_F, and_F, n0, Nat.reduceEqDiff, Nat.reduceAdd, Nat.reduceMul, Nat.reduceLeDiff, Nat.reduceBEq, Nat.reduceBNe, Int.reduceEq, ↓reduceIte, reduceCtorEq]
                refine call_go true (l1Put_ok ((hs.take t).foldl putF (dnF n O i)) (hs.getD t default) (by omega)) ?_
                simp (maxSteps := 9000000) -implicitDefEqProofs -dsimp (disch := omega) only [go_sem, lt_T, lt_F, le_T, le_F, eq_T, eq_F, and_F, n0, Nat.reduceEqDiff, Nat.reduceAdd, Nat.reduceMul, Nat.reduceLeDiff, Nat.reduceBEq, Nat.reduceBNe, Int.reduceEq, ↓reduceIte, reduceCtorEq]
                exact ⟨h3, (imp_ren 3 2 rfl rfl).trans (imp_sub (by simp (maxSteps := 9000000) -implicitDefEqProofs -dsimp (disch := omega) only [go_sem, fold_take_put h3, Nat.reduceEqDiff, Nat.reduceAdd, Nat.reduceMul, Nat.reduceLeDiff, Nat.reduceBEq, Nat.reduceBNe, Int.reduceEq, ↓reduceIte, reduceCtorEq]) (by simp (maxSteps := 9000000) -implicitDefEqProofs -dsimp (disch := omega) only [go_sem, fold_take_put h3, Nat.reduceEqDiff, Nat.reduceAdd, Nat.reduceMul, Nat.reduceLeDiff, Nat.reduceBEq, Nat.reduceBNe, Int.reduceEq, ↓reduceIte, reduceCtorEq]) rfl)⟩
              · obtain rfl : t = hs.length := by omega
                simp (maxSteps := 9000000) -implicitDefEqProofs -dsimp (disch := omega) only [go_sem, lt_T, lt_F, le_T, le_F, eq_T, eq_F, and_F, List.take_length, Nat.reduceEqDiff, Nat.reduceAdd, Nat.reduceMul, Nat.reduceLeDiff, Nat.reduceBEq, Nat.reduceBNe, Int.reduceEq, ↓reduceIte, reduceCtorEq]
                exact ⟨h, (imp_sub (by simp (maxSteps := 9000000) -implicitDefEqProofs -dsimp (disch := omega) only [go_sem, e3, e2, Nat.reduceEqDiff, Nat.reduceAdd, Nat.reduceMul, Nat.reduceLeDiff, Nat.reduceBEq, Nat.reduceBNe, Int.reduceEq, ↓reduceIte, reduceCtorEq]) (by simp (maxSteps := 9000000) -implicitDefEqProofs -dsimp (disch := omega) only [go_sem, e3, e2, Nat.reduceEqDiff, Nat.reduceAdd, Nat.reduceMul, Nat.reduceLeDiff, Nat.reduceBEq, Nat.reduceBNe, Int.reduceEq, ↓reduceIte, reduceCtorEq]) rfl)⟩
          · rw [decide_eq_false h2] at MH
            have e3 : dnF n O (i + 1) = dnF n O i := by rw [dnF, if_neg h2]
            simp (maxSteps := 9000000) -implicitDefEqProofs -dsimp (disch := omega) only [go_sem, lt_T, lt_F, le_T, le_F, eq_T, eq_F, and_F, Nat.reduceEqDiff, Nat.reduceAdd, Nat.reduceMul, Nat.reduceLeDiff, Nat.reduceBEq, Nat.reduceBNe, Int.reduceEq, ↓reduceIte, reduceCtorEq]
            refine call_go true MH ?_
            simp (maxSteps := 9000000) -implicitDefEqProofs -dsimp (disch := omega) only [go_sem, lt_T, lt_F, le_T, le_F, eq_T, eq_F, and_F, Nat.reduceEqDiff, Nat.reduceAdd, Nat.reduceMul, Nat.reduceLeDiff, Nat.reduceBEq, Nat.reduceBNe, Int.reduceEq, ↓reduceIte, reduceCtorEq]
            exact ⟨h, (imp_sub (by simp (maxSteps := 9000000) -implicitDefEqProofs -dsimp (disch := omega) only [go_sem, e3, e2, Nat.reduceEqDiff, Nat.reduceAdd, Nat.reduceMul, Nat.reduceLeDiff, Nat.reduceBEq, Nat.reduceBNe, Int.reduceEq, ↓reduceIte, reduceCtorEq]) (by simp (maxSteps := 9000000) -implicitDefEqProofs -dsimp (disch := omega) only [go_sem, e3, e2, Nat.reduceEqDiff, Nat.reduceAdd, Nat.reduceMul, Nat.reduceLeDiff, Nat.reduceBEq, Nat.reduceBNe, Int.reduceEq, ↓reduceIte, reduceCtorEq]) rfl)⟩
        · obtain rfl : i = n.length := by omega
          rw [show (n.length : Int) - 1 - n.length = -1 by omega, hend]
          simp (maxSteps := 9000000) -implicitDefEqProofs -dsimp (disch := omega) only [go_sem, lt_T, lt_F, le_T, le_F, eq_T, eq_F, and_F, Nat.reduceEqDiff, Nat.reduceAdd, Nat.reduceMul, Nat.reduceLeDiff, Nat.reduceBEq, Nat.reduceBNe, Int.reduceEq, ↓reduceIte, reduceCtorEq]
end Go.Proofs.YtdhclelfnbjikaaT

/- Functions of the program as contracts: what is come to, by the program. No condition. -/
set_option maxRecDepth 100000
set_option maxHeartbeats 8000000
set_option linter.unusedSimpArgs false
set_option linter.unusedVariables false
namespace Go.Proofs.YtdhclelfnbjikaaT
open Go
noncomputable def bits (n : List Nd) (r : List Int) : List Bool := (List.range n.length).map fun k : Nat => decide (Rch n r (k : Int))
theorem bits_len {n : List Nd} {r : List Int} : (bits n r).length = n.length := by simp [bits]
theorem bits_get {n : List Nd} {r : List Int} {k : Nat} (h : k < n.length) : (bits n r).getD k default = decide (Rch n r (k : Int)) := range_getD h
/-- how many are not seen yet -/
def cF (o : List Bool) : Nat := o.countP fun b => !b
/-- what is still open: seen, the line, how far -/
structure Wk where
  o : List Bool
  l : List Int
  i : Nat
structure WkI (n : List Nd) (r : List Int) (w : Wk) : Prop where
  lo : w.o.length = n.length
  rch : ∀ y ∈ w.l, Rch n r y
  rts : ∀ y ∈ r, y ∈ w.l
  le : w.i ≤ w.l.length
  seen : ∀ j, j < w.i → w.o.getD (w.l.getD j default).toNat default = true
  cl : ∀ k, k < n.length → w.o.getD k default = true → ((k : Int) ∈ w.l) ∧ ∀ y ∈ (n.getD k default).h, y ∈ w.l
  sz : w.l.length + 6 * cF w.o ≤ 6 + 6 * n.length
theorem cnt_set {o : List Bool} {k : Nat} (h : k < o.length) (hf : o.getD k default = false) : cF (o.set k true) + 1 = cF o := by
  unfold cF
  induction o generalizing k with
  | nil => simp at h
  | cons b o ih =>
    cases k with
    | zero =>
      simp only [List.getD_cons_zero] at hf
      subst hf
      simp
    | succ k =>
      have := ih (k := k) (by simpa using h) (by simpa using hf)
      simp only [List.set_cons_succ, List.countP_cons]
      omega
theorem wk_start {n : List Nd} {r : List Int} (h : NodesOk n r) : WkI n r ⟨List.replicate n.length false, r, 0⟩ where
  lo := by simp
  rch y hy := .root hy
  rts y hy := hy
  le := Nat.zero_le _
  seen j hj := by simp at hj
  cl k hk hq := by rw [List.getD_eq_getElem?_getD, List.getElem?_replicate, if_pos hk] at hq; simp at hq
  sz := by
    have := h.2.2.2
    simp only [cF, List.countP_replicate]
    simp; omega
theorem wk_next {n : List Nd} {r : List Int} {w : Wk} (I : WkI n r w) (hi : w.i < w.l.length) (ht : w.o.getD (w.l.getD w.i default).toNat default = true) : WkI n r ⟨w.o, w.l, w.i + 1⟩ where
  lo := I.lo
  rch := I.rch
  rts := I.rts
  le := hi
  seen j hj := by
    by_cases e : j = w.i
    · subst e; exact ht
    · exact I.seen j (by simp only at hj; omega)
  cl := I.cl
  sz := I.sz
theorem wk_new {n : List Nd} {r : List Int} {w : Wk} (h : NodesOk n r) (I : WkI n r w) (hi : w.i < w.l.length) (ht : w.o.getD (w.l.getD w.i default).toNat default = false) : WkI n r ⟨w.o.set (w.l.getD w.i default).toNat true, w.l ++ (n.getD (w.l.getD w.i default).toNat default).h, w.i + 1⟩ := by
  have hy := I.rch _ (getD_mem hi)
  have hh := rch_hold h hy
  have a := hh.1
  have b := hh.2.1
  have hlt : (w.l.getD w.i default).toNat < n.length := by omega
  have hs := (h.1 _ hlt).2.1
  have hc := cnt_set (by rw [I.lo]; exact hlt) ht
  have hg : ∀ j, (w.o.set (w.l.getD w.i default).toNat true).getD j default = if (w.l.getD w.i default).toNat = j ∧ j < w.o.length then true else w.o.getD j default := fun j => getD_set
  refine ⟨by simp [I.lo], fun y hy' => ?_, fun y hy' => List.mem_append_left _ (I.rts y hy'), by simp only [List.length_append]; omega, fun j hj => ?_, fun k hk hq => ?_, ?_⟩
  · rcases List.mem_append.1 hy' with hy' | hy'
    · exact I.rch y hy'
    · exact .step hy hy'
  · simp only at hj
    have e : (w.l ++ (n.getD (w.l.getD w.i default).toNat default).h).getD j default = w.l.getD j default := by
      rw [List.getD_eq_getElem?_getD, List.getElem?_append_left (by omega), ← List.getD_eq_getElem?_getD]
    simp only [e, hg]
    split
    · rfl
    · rename_i e2
      by_cases e3 : j = w.i
      · subst e3
        exact absurd ⟨rfl, by rw [I.lo]; exact hlt⟩ e2
      · exact I.seen j (by omega)
  · simp only [hg] at hq
    split at hq
    · rename_i e
      obtain ⟨e, _⟩ := e
      subst e
      refine ⟨List.mem_append_left _ ?_, fun y hy' => List.mem_append_right _ hy'⟩
      rw [Int.toNat_of_nonneg a]; exact getD_mem hi
    · have := I.cl k hk hq
      exact ⟨List.mem_append_left _ this.1, fun y hy' => List.mem_append_left _ (this.2 y hy')⟩
  · have := I.sz
    simp only [List.length_append]
    omega
theorem wk_end {n : List Nd} {r : List Int} {w : Wk} (h : NodesOk n r) (I : WkI n r w) (hi : w.i = w.l.length) : w.o = bits n r := by
  have key : ∀ y, Rch n r y → w.o.getD y.toNat default = true := by
    intro y hy
    have hin : y ∈ w.l := by
      induction hy with
      | root h1 => exact I.rts _ h1
      | @step x y h1 h2 ih =>
        have hh := rch_hold h h1
        have a := hh.1
        have b := hh.2.1
        obtain ⟨j, hj, rfl⟩ := List.getElem_of_mem ih
        have := I.seen j (by omega)
        rw [List.getD_eq_getElem?_getD (l := w.l), List.getElem?_eq_getElem hj, Option.getD_some] at this
        exact (I.cl _ (by omega) this).2 y h2
    obtain ⟨j, hj, rfl⟩ := List.getElem_of_mem hin
    have := I.seen j (by omega)
    rw [List.getD_eq_getElem?_getD (l := w.l), List.getElem?_eq_getElem hj] at this
    exact this
  apply List.ext_getElem (by rw [I.lo, bits_len])
  intro k h1 h2
  rw [I.lo] at h1
  have e1 : w.o[k] = w.o.getD k default := by rw [List.getD_eq_getElem?_getD, List.getElem?_eq_getElem]; rfl
  have e2 : (bits n r)[k] = (bits n r).getD k default := by rw [List.getD_eq_getElem?_getD, List.getElem?_eq_getElem]; rfl
  rw [e1, e2, bits_get h1]
  by_cases hr : Rch n r (k : Int)
  · rw [decide_eq_true hr]
    have := key _ hr
    rwa [Int.toNat_natCast] at this
  · rw [decide_eq_false hr]
    cases hq : w.o.getD k default with
    | false => rfl
    | true => exact absurd (I.rch _ (I.cl k h1 hq).1) hr
theorem rep_bool {n : Nat} : (List.replicate n [T.bool false]).flatten = (List.replicate n false).map T.bool := by
  induction n with
  | zero => rfl
  | succ n ih => rw [List.replicate_succ, List.flatten_cons, ih, List.replicate_succ]; rfl
def g69_0 : List Gop := [⟨none, (some 1), (.box (.t 0))⟩, ⟨none, (some 2), (.mov (.k (.one .nil)))⟩]
def g69_1 : List Gop := [⟨none, (some 6), (.faddr (.t 1) 0)⟩, ⟨none, (some 7), (.load none (.t 6))⟩, ⟨none, (some 8), (.len (.t 7))⟩, ⟨none, (some 9), (.make 1 [(.bool .false)] 1 (.t 8) (.t 8))⟩, ⟨none, (some 3), (.mov (.t 9))⟩]
def g69_2 : List Gop := [⟨none, (some 10), (.faddr (.t 1) 1)⟩, ⟨none, (some 11), (.load none (.t 10))⟩, ⟨none, (some 12), (.call 86 [(.t 11)])⟩, ⟨none, (some 4), (.mov (.t 12))⟩]
def g69_3 : List Gop := [⟨none, (some 5), (.mov (.k (.one (.int .i64 0))))⟩]
def g69_4 : List Gop := [⟨none, (some 13), (.mov (.t 5))⟩, ⟨none, (some 14), (.mov (.t 4))⟩, ⟨none, (some 15), (.len (.t 14))⟩, ⟨none, (some 16), (.bin .lss (.t 13) (.t 15))⟩]
def g69_5 : List Gop := [⟨none, (some 19), (.mov (.t 3))⟩, ⟨none, (some 20), (.mov (.t 4))⟩, ⟨none, (some 21), (.mov (.t 5))⟩, ⟨none, (some 22), (.iaddr 1 (.t 20) (.t 21))⟩, ⟨none, (some 23), (.load none (.t 22))⟩, ⟨none, (some 24), (.iaddr 1 (.t 19) (.t 23))⟩, ⟨none, (some 25), (.load none (.t 24))⟩, ⟨none, (some 26), (.un .not (.t 25))⟩]
def g69_6 : List Gop := [⟨none, (some 27), (.mov (.t 3))⟩, ⟨none, (some 28), (.mov (.t 4))⟩, ⟨none, (some 29), (.mov (.t 5))⟩, ⟨none, (some 30), (.iaddr 1 (.t 28) (.t 29))⟩, ⟨none, (some 31), (.load none (.t 30))⟩, ⟨none, (some 32), (.iaddr 1 (.t 27) (.t 31))⟩, ⟨none, none, (.store 1 (.t 32) (.k (.one (.bool .true))))⟩]
def g69_7 : List Gop := [⟨none, (some 33), (.mov (.t 4))⟩, ⟨none, (some 34), (.faddr (.t 1) 0)⟩, ⟨none, (some 35), (.load none (.t 34))⟩, ⟨none, (some 36), (.mov (.t 4))⟩, ⟨none, (some 37), (.mov (.t 5))⟩, ⟨none, (some 38), (.iaddr 1 (.t 36) (.t 37))⟩, ⟨none, (some 39), (.load none (.t 38))⟩, ⟨none, (some 40), (.iaddr 2 (.t 35) (.t 39))⟩, ⟨none, (some 41), (.faddr (.t 40) 0)⟩, ⟨none, (some 42), (.load none (.t 41))⟩, ⟨none, (some 43), (.app 1 8 [(.int .i64 0)] (.t 33) (.t 42))⟩, ⟨none, (some 4), (.mov (.t 43))⟩]
def a69_7 : List (List Nat) := [[], [], [1], [], [], [3, 4], [3, 4, 5], [1, 2, 3, 4, 5, 6], [1, 2, 3, 4, 5, 6, 7], [1, 2, 3, 4, 5, 6, 7, 8], [0, 1, 2, 3, 4, 5, 6, 7, 8, 9], [0, 1, 2, 3, 4, 5, 6, 7, 8, 9, 10]]
def n69_7 : Nat := 10 -- of 12
def g69_8 : List Gop := [⟨none, (some 17), (.mov (.t 5))⟩, ⟨none, (some 18), (.bin .add (.t 17) (.k (.one (.int .i64 1))))⟩, ⟨none, (some 5), (.mov (.t 18))⟩]
def g69_9 : List Gop := [⟨none, (some 44), (.mov (.t 3))⟩, ⟨none, (some 2), (.mov (.t 44))⟩]
def i69 : Ir := (.seq (.region g69_0) (.seq (.region g69_1) (.seq (.region g69_2) (.seq (.seq (.region g69_3) (.block 0 (.loop (.seq (.seq (.region g69_4) (.cond (.t 16) .skip (.exit 0))) (.seq (.block 1 (.seq (.region g69_5) (.cond (.t 26) (.seq (.region g69_6) (.draw [[], [], [1], [], [], [3, 4], [5], [2, 6], [7], [8], [0, 9], [10, 10, 0, 1, 2, 3, 4, 5, 6, 7, 8, 9, 10]] g69_7)) .skip))) (.region g69_8)))))) (.seq (.region g69_9) .ret)))))
theorem reached_ok (g : Gr) (hq : NodesOk g.n g.r) (hc : g.c.length ≤ 1048576) : Meets Try.prog 69 [.agg [.sl false 2 g.n.length (ndR g.n), (.sl false 1 g.r.length (g.r.map (T.int .i64))), (.sl false 1 g.c.length (g.c.map (T.int .i64)))]] (.w (.one (.sl true 1 g.n.length ((bits g.n g.r).map T.bool)))) [.agg [.hole, .hole, .hole]] := by
  have h14 := hq.2.2.1
  have h6 := hq.2.2.2
  refine meets_go (ir := i69) (fn := Try.f69) (rx := [(.tmp 2)]) rfl rfl (by rfl) (by rfl) (by exact Nat.le_of_ble_eq_true rfl) ?_
  simp (maxSteps := 9000000) -implicitDefEqProofs -dsimp (disch := omega) only [go_sem, g69_0, g69_1, g69_2, g69_3, g69_4, g69_5, g69_6, g69_7, a69_7, n69_7, g69_8, g69_9, i69, Nat.reduceEqDiff, Nat.reduceAdd, Nat.reduceMul, Nat.reduceLeDiff, Nat.reduceBEq, Nat.reduceBNe, Int.reduceEq, ↓reduceIte, reduceCtorEq]
  refine call_go true (cloneInt_ok g.r (by omega)) ?_
  simp (maxSteps := 9000000) -implicitDefEqProofs -dsimp (disch := omega) only [go_sem, lt_T, lt_F, le_T, le_F, eq_T, eq_F, and_F, rep_bool, Nat.reduceEqDiff, Nat.reduceAdd, Nat.reduceMul, Nat.reduceLeDiff, Nat.reduceBEq, Nat.reduceBNe, Int.reduceEq, ↓reduceIte, reduceCtorEq]
  refine loop_m (α := { w : Wk // WkI g.n g.r w }) (fun w => ⟨[(5, .w (.one (.int .i64 (w.1.i : Nat)))), (4, .w (.one (.hs 5 [] 0 1 w.1.l.length))), (3, .w (.one (.hs 4 [] 0 1 g.n.length))), (1, .w (.one (.hp 3 [] 0)))], [(5, (.sl true 1 w.1.l.length (w.1.l.map (T.int .i64)))), (4, .sl true 1 g.n.length (w.1.o.map T.bool)), (3, .bx true [.sl false 2 g.n.length (ndR g.n), (.sl false 1 g.r.length (g.r.map (T.int .i64))), (.sl false 1 g.c.length (g.c.map (T.int .i64)))])], [.agg [.hs 0 [] 0 2 g.n.length, .hs 1 [] 0 1 g.r.length, .hs 2 [] 0 1 g.c.length]]⟩) (fun w => (w.1.l.length - w.1.i) + 7 * cF w.1.o) ⟨_, wk_start hq⟩ ?_ ?_
  · exact (imp_sub (by simp (maxSteps := 9000000) -implicitDefEqProofs -dsimp (disch := omega) only [go_sem, List.map_replicate, Nat.reduceEqDiff, Nat.reduceAdd, Nat.reduceMul, Nat.reduceLeDiff, Nat.reduceBEq, Nat.reduceBNe, Int.reduceEq, ↓reduceIte, reduceCtorEq]) (by simp (maxSteps := 9000000) -implicitDefEqProofs -dsimp (disch := omega) only [go_sem, List.map_replicate, Nat.reduceEqDiff, Nat.reduceAdd, Nat.reduceMul, Nat.reduceLeDiff, Nat.reduceBEq, Nat.reduceBNe, Int.reduceEq, ↓reduceIte, reduceCtorEq]) rfl)
  · rintro ⟨w, I⟩
    have isz := I.sz
    have ilo := I.lo
    have ile := I.le
    by_cases h : w.i < w.l.length
    · have hy := I.rch _ (getD_mem h)
      have hh := rch_hold hq hy
      have a := hh.1
      have b := hh.2.1
      have hlt : (w.l.getD w.i default).toNat < g.n.length := by omega
      have e1 : ((w.l.getD w.i default).toNat : Int) = w.l.getD w.i default := Int.toNat_of_nonneg a
      cases h2 : w.o.getD (w.l.getD w.i default).toNat default with
      | true =>
        have hb : (w.o.map T.bool)[(w.l.getD w.i default).toNat]? = some (.bool true) := by rw [List.getElem?_map, List.getElem?_eq_getElem (by omega)]; rw [List.getD_eq_getElem?_getD, List.getElem?_eq_getElem (by omega)] at h2; simp at h2; simp [h2]
        simp (maxSteps := 9000000) -implicitDefEqProofs -dsimp (disch := omega) only [go_sem, lt_T, lt_F, le_T, le_F, eq_T, eq_F, and_F, hb, Nat.reduceEqDiff, Nat.reduceAdd, Nat.reduceMul, Nat.reduceLeDiff, Nat.reduceBEq, Nat.reduceBNe, Int.reduceEq, ↓reduceIte, reduceCtorEq]
        exact ⟨⟨_, wk_next I h h2⟩, by simp only; omega, (imp_sub (by simp (maxSteps := 9000000) -implicitDefEqProofs -dsimp (disch := omega) only [go_sem, Nat.reduceEqDiff, Nat.reduceAdd, Nat.reduceMul, Nat.reduceLeDiff, Nat.reduceBEq, Nat.reduceBNe, Int.reduceEq, ↓reduceIte, reduceCtorEq]) (by simp (maxSteps := 9000000) -implicitDefEqProofs -dsimp (disch := omega) only [go_sem, Nat.reduceEqDiff, Nat.reduceAdd, Nat.reduceMul, Nat.reduceLeDiff, Nat.reduceBEq, Nat.reduceBNe, Int.reduceEq, ↓reduceIte, reduceCtorEq]) rfl)⟩
      | false =>
        have hb : (w.o.map T.bool)[(w.l.getD w.i default).toNat]? = some (.bool false) := by rw [List.getElem?_map, List.getElem?_eq_getElem (by omega)]; rw [List.getD_eq_getElem?_getD, List.getElem?_eq_getElem (by omega)] at h2; simp at h2; simp [h2]
        have hs := (hq.1 _ hlt).2.1
        have hc := cnt_set (by rw [ilo]; exact hlt) h2
        simp (maxSteps := 9000000) -implicitDefEqProofs -dsimp (disch := omega) only [go_sem, lt_T, lt_F, le_T, le_F, eq_T, eq_F, and_F, hb, Nat.reduceEqDiff, Nat.reduceAdd, Nat.reduceMul, Nat.reduceLeDiff, Nat.reduceBEq, Nat.reduceBNe, Int.reduceEq, ↓reduceIte, reduceCtorEq]
        refine draw_go n69_7 a69_7 (by decide +kernel) ?_
        simp (maxSteps := 9000000) -implicitDefEqProofs -dsimp (disch := omega) only [go_sem, n69_7, a69_7, lt_T, lt_F, le_T, le_F, eq_T, eq_F, and_F, ndR_0 hlt, Nat.reduceEqDiff, Nat.reduceAdd, Nat.reduceMul, Nat.reduceLeDiff, Nat.reduceBEq, Nat.reduceBNe, Int.reduceEq, ↓reduceIte, reduceCtorEq]
        exact ⟨⟨_, wk_new hq I h h2⟩, by simp only [List.length_append]; omega, (imp_ren 6 5 rfl rfl).trans (imp_sub (by simp (maxSteps := 9000000) -implicitDefEqProofs -dsimp (disch := omega) only [go_sem, n69_7, a69_7, Nat.reduceEqDiff, Nat.reduceAdd, Nat.reduceMul, Nat.reduceLeDiff, Nat.reduceBEq, Nat.reduceBNe, Int.reduceEq, ↓reduceIte, reduceCtorEq]) (by simp (maxSteps := 9000000) -implicitDefEqProofs -dsimp (disch := omega) only [go_sem, n69_7, a69_7, Nat.reduceEqDiff, Nat.reduceAdd, Nat.reduceMul, Nat.reduceLeDiff, Nat.reduceBEq, Nat.reduceBNe, Int.reduceEq, ↓reduceIte, reduceCtorEq]) rfl)⟩
    · have he := wk_end hq I (by omega)
      have hbl : cut ((bits g.n g.r).map T.bool) 0 g.n.length = (bits g.n g.r).map T.bool := cut_all (by rw [List.length_map, bits_len]; exact Nat.le_refl _)
      simp (maxSteps := 9000000) -implicitDefEqProofs -dsimp (disch := omega) only [go_sem, n69_7, a69_7, lt_T, lt_F, le_T, le_F, eq_T, eq_F, and_F, he, hbl, Nat.reduceEqDiff, Nat.reduceAdd, Nat.reduceMul, Nat.reduceLeDiff, Nat.reduceBEq, Nat.reduceBNe, Int.reduceEq, ↓reduceIte, reduceCtorEq]
noncomputable def ReRes (g : Gr) : TV := if GoodG g then .tup [.one (.sl true 1 (rchL g.n g.r).length ((rchL g.n g.r).map (T.int .i64))), .one (.bool true)] else .tup [.one (.sl true 0 0 []), .one (.bool false)]
def g33_0 : List Gop := [⟨none, (some 1), (.box (.t 0))⟩, ⟨none, (some 2), (.mov (.k (.one .nil)))⟩, ⟨none, (some 3), (.mov (.k (.one (.bool .false))))⟩]
def g33_1 : List Gop := [⟨none, (some 4), (.load (some 3) (.t 1))⟩, ⟨none, (some 5), (.call 25 [(.t 4)])⟩, ⟨none, (some 6), (.un .not (.t 5))⟩]
def g33_2 : List Gop := [⟨none, (some 2), (.mov (.k (.one .nil)))⟩, ⟨none, (some 3), (.mov (.k (.one (.bool .false))))⟩]
def g33_3 : List Gop := [⟨none, (some 7), (.faddr (.t 1) 0)⟩, ⟨none, (some 8), (.load none (.t 7))⟩, ⟨none, (some 9), (.faddr (.t 1) 1)⟩, ⟨none, (some 10), (.load none (.t 9))⟩, ⟨none, (some 11), (.call 68 [(.t 8), (.t 10)])⟩, ⟨none, (some 2), (.mov (.t 11))⟩, ⟨none, (some 3), (.mov (.k (.one (.bool .true))))⟩]
def i33 : Ir := (.seq (.region g33_0) (.seq (.seq (.region g33_1) (.cond (.t 6) (.seq (.region g33_2) .ret) .skip)) (.seq (.region g33_3) .ret)))
theorem specReachedIn_ok (g : Gr) (s : Small g) : Meets Try.prog 33 [.agg [.sl false 2 g.n.length (ndR g.n), (.sl false 1 g.r.length (g.r.map (T.int .i64))), (.sl false 1 g.c.length (g.c.map (T.int .i64)))]] (ReRes g) [.agg [.hole, .hole, .hole]] := by
  have M1 := specGoodGraph_ok g s.n s.h s.r s.c
  by_cases hT : GoodG g
  · rw [decide_eq_true hT] at M1
    rw [ReRes, if_pos hT]
    refine meets_go (ir := i33) (fn := Try.f33) (rx := [(.tmp 2), (.tmp 3)]) rfl rfl (by rfl) (by rfl) (by exact Nat.le_of_ble_eq_true rfl) ?_
    simp (maxSteps := 9000000) -implicitDefEqProofs -dsimp (disch := omega) only [go_sem, g33_0, g33_1, g33_2, g33_3, i33, Nat.reduceEqDiff, Nat.reduceAdd, Nat.reduceMul, Nat.reduceLeDiff, Nat.reduceBEq, Nat.reduceBNe, Int.reduceEq, ↓reduceIte, reduceCtorEq]
    refine call_go true M1 ?_
    simp (maxSteps := 9000000) -implicitDefEqProofs -dsimp (disch := omega) only [go_sem, lt_T, lt_F, le_T, le_F, eq_T, eq_F, and_F, Nat.reduceEqDiff, Nat.reduceAdd, Nat.reduceMul, Nat.reduceLeDiff, Nat.reduceBEq, Nat.reduceBNe, Int.reduceEq, ↓reduceIte, reduceCtorEq]
    refine call_go true (l10Reached_ok g.n g.r hT.1) ?_
    simp (maxSteps := 9000000) -implicitDefEqProofs -dsimp (disch := omega) only [go_sem, lt_T, lt_F, le_T, le_F, eq_T, eq_F, and_F, Nat.reduceEqDiff, Nat.reduceAdd, Nat.reduceMul, Nat.reduceLeDiff, Nat.reduceBEq, Nat.reduceBNe, Int.reduceEq, ↓reduceIte, reduceCtorEq]
  · rw [decide_eq_false hT] at M1
    rw [ReRes, if_neg hT]
    refine meets_go (ir := i33) (fn := Try.f33) (rx := [(.tmp 2), (.tmp 3)]) rfl rfl (by rfl) (by rfl) (by exact Nat.le_of_ble_eq_true rfl) ?_
    simp (maxSteps := 9000000) -implicitDefEqProofs -dsimp (disch := omega) only [go_sem, g33_0, g33_1, g33_2, g33_3, i33, Nat.reduceEqDiff, Nat.reduceAdd, Nat.reduceMul, Nat.reduceLeDiff, Nat.reduceBEq, Nat.reduceBNe, Int.reduceEq, ↓reduceIte, reduceCtorEq]
    refine call_go true M1 ?_
    simp (maxSteps := 9000000) -implicitDefEqProofs -dsimp (disch := omega) only [go_sem, lt_T, lt_F, le_T, le_F, eq_T, eq_F, and_F, Nat.reduceEqDiff, Nat.reduceAdd, Nat.reduceMul, Nat.reduceLeDiff, Nat.reduceBEq, Nat.reduceBNe, Int.reduceEq, ↓reduceIte, reduceCtorEq]
noncomputable def bitL (n : List Nd) (r : List Int) (i : Nat) : List Int := ((List.range i).filter fun k : Nat => decide (Rch n r (k : Int))).map fun k : Nat => (k : Int)
theorem bitL_0 {n : List Nd} {r : List Int} : bitL n r 0 = [] := rfl
theorem bitL_no {n : List Nd} {r : List Int} {i : Nat} (h : ¬ Rch n r (i : Int)) : bitL n r (i + 1) = bitL n r i := by
  simp only [bitL, List.range_succ, List.filter_append, List.map_append]
  rw [show List.filter (fun k : Nat => decide (Rch n r (k : Int))) [i] = [] from by simp only [List.filter_cons, List.filter_nil, decide_eq_false h]; rfl]
  simp
theorem bitL_yes {n : List Nd} {r : List Int} {i : Nat} (h : Rch n r (i : Int)) : bitL n r (i + 1) = bitL n r i ++ [(i : Int)] := by
  simp only [bitL, List.range_succ, List.filter_append, List.map_append]
  rw [show List.filter (fun k : Nat => decide (Rch n r (k : Int))) [i] = [i] from by simp only [List.filter_cons, List.filter_nil, decide_eq_true h]; rfl]
  simp
theorem bitL_len {n : List Nd} {r : List Int} {i : Nat} : (bitL n r i).length ≤ i := by
  unfold bitL
  rw [List.length_map]
  exact Nat.le_trans (List.length_filter_le _ _) (by simp)
def g34_0 : List Gop := [⟨none, (some 1), (.box (.t 0))⟩, ⟨none, (some 2), (.mov (.k (.one .nil)))⟩, ⟨none, (some 3), (.mov (.k (.one (.bool .false))))⟩]
def g34_1 : List Gop := [⟨none, (some 7), (.load (some 3) (.t 1))⟩, ⟨none, (some 8), (.call 27 [(.t 7)])⟩, ⟨none, (some 9), (.un .not (.t 8))⟩]
def g34_2 : List Gop := [⟨none, (some 2), (.mov (.k (.one .nil)))⟩, ⟨none, (some 3), (.mov (.k (.one (.bool .false))))⟩]
def g34_3 : List Gop := [⟨none, (some 10), (.lit 1 0 [(.int .i64 0)] [])⟩, ⟨none, (some 4), (.mov (.t 10))⟩]
def g34_4 : List Gop := [⟨none, (some 11), (.load (some 3) (.t 1))⟩, ⟨none, (some 12), (.call 69 [(.t 11)])⟩, ⟨none, (some 13), (.len (.t 12))⟩, ⟨none, (some 14), (.mov (.k (.one (.int .i64 0))))⟩]
def g34_5 : List Gop := [⟨none, (some 15), (.bin .lss (.t 14) (.t 13))⟩]
def g34_6 : List Gop := [⟨none, (some 16), (.mov (.t 14))⟩, ⟨none, (some 17), (.iaddr 1 (.t 12) (.t 14))⟩, ⟨none, (some 18), (.load none (.t 17))⟩, ⟨none, (some 5), (.mov (.t 16))⟩, ⟨none, (some 6), (.mov (.t 18))⟩]
def g34_7 : List Gop := [⟨none, (some 19), (.mov (.t 6))⟩]
def g34_8 : List Gop := [⟨none, (some 20), (.mov (.t 4))⟩, ⟨none, (some 21), (.mov (.t 5))⟩, ⟨none, (some 22), (.lit 1 1 [(.int .i64 0)] [(0, (.t 21))])⟩, ⟨none, (some 23), (.app 1 8 [(.int .i64 0)] (.t 20) (.t 22))⟩, ⟨none, (some 4), (.mov (.t 23))⟩]
def g34_9 : List Gop := [⟨none, (some 24), (.bin .add (.t 14) (.k (.one (.int .i64 1))))⟩, ⟨none, (some 14), (.mov (.t 24))⟩]
def g34_10 : List Gop := [⟨none, (some 25), (.mov (.t 4))⟩, ⟨none, (some 2), (.mov (.t 25))⟩, ⟨none, (some 3), (.mov (.k (.one (.bool .true))))⟩]
def i34 : Ir := (.seq (.region g34_0) (.seq (.seq (.region g34_1) (.cond (.t 9) (.seq (.region g34_2) .ret) .skip)) (.seq (.region g34_3) (.seq (.seq (.region g34_4) (.block 0 (.loop (.seq (.region g34_5) (.seq (.cond (.t 15) .skip (.exit 0)) (.seq (.block 1 (.seq (.region g34_6) (.seq (.region g34_7) (.cond (.t 19) (.region g34_8) .skip)))) (.region g34_9))))))) (.seq (.region g34_10) .ret)))))
theorem implReachedIn_ok (g : Gr) (s : Small g) : Meets Try.prog 34 [.agg [.sl false 2 g.n.length (ndR g.n), (.sl false 1 g.r.length (g.r.map (T.int .i64))), (.sl false 1 g.c.length (g.c.map (T.int .i64)))]] (ReRes g) [.agg [.hole, .hole, .hole]] := by
  have M1 := implGoodGraph_ok g s.n s.h s.r s.c
  by_cases hT : GoodG g
  · have h14 := hT.1.2.2.1
    rw [decide_eq_true hT] at M1
    rw [ReRes, if_pos hT]
    refine meets_go (ir := i34) (fn := Try.f34) (rx := [(.tmp 2), (.tmp 3)]) rfl rfl (by rfl) (by rfl) (by exact Nat.le_of_ble_eq_true rfl) ?_
    simp (maxSteps := 9000000) -implicitDefEqProofs -dsimp (disch := omega) only [go_sem, g34_0, g34_1, g34_2, g34_3, g34_4, g34_5, g34_6, g34_7, g34_8, g34_9, g34_10, i34, Nat.reduceEqDiff, Nat.reduceAdd, Nat.reduceMul, Nat.reduceLeDiff, Nat.reduceBEq, Nat.reduceBNe, Int.reduceEq, ↓reduceIte, reduceCtorEq]
    refine call_go true M1 ?_
    simp (maxSteps := 9000000) -implicitDefEqProofs -dsimp (disch := omega) only [go_sem, lt_T, lt_F, le_T, le_F, eq_T, eq_F, and_F, Nat.reduceEqDiff, Nat.reduceAdd, Nat.reduceMul, Nat.reduceLeDiff, Nat.reduceBEq, Nat.reduceBNe, Int.reduceEq, ↓reduceIte, reduceCtorEq]
    refine call_go true (reached_ok g hT.1 s.c) ?_
    simp (maxSteps := 9000000) -implicitDefEqProofs -dsimp (disch := omega) only [go_sem, lt_T, lt_F, le_T, le_F, eq_T, eq_F, and_F, Nat.reduceEqDiff, Nat.reduceAdd, Nat.reduceMul, Nat.reduceLeDiff, Nat.reduceBEq, Nat.reduceBNe, Int.reduceEq, ↓reduceIte, reduceCtorEq]
    refine loop_n g.n.length (fun i => ⟨[(14, .w (.one (.int .i64 (i : Nat)))), (13, .w (.one (.int .i64 g.n.length))), (12, .w (.one (.hs 4 [] 0 1 g.n.length))), (4, .w (.one (.hs 5 [] 0 1 (bitL g.n g.r i).length)))], [(5, (.sl true 1 (bitL g.n g.r i).length ((bitL g.n g.r i).map (T.int .i64)))), (4, .sl true 1 g.n.length ((bits g.n g.r).map T.bool))], [.agg [.hs 0 [] 0 2 g.n.length, .hs 1 [] 0 1 g.r.length, .hs 2 [] 0 1 g.c.length]]⟩) (fun i => True) ?_ trivial ?_
    · exact (imp_adopt 4 5 1 rfl rfl).trans (imp_sub (by simp (maxSteps := 9000000) -implicitDefEqProofs -dsimp (disch := omega) only [go_sem, bitL_0, Nat.reduceEqDiff, Nat.reduceAdd, Nat.reduceMul, Nat.reduceLeDiff, Nat.reduceBEq, Nat.reduceBNe, Int.reduceEq, ↓reduceIte, reduceCtorEq]) (by simp (maxSteps := 9000000) -implicitDefEqProofs -dsimp (disch := omega) only [go_sem, bitL_0, Nat.reduceEqDiff, Nat.reduceAdd, Nat.reduceMul, Nat.reduceLeDiff, Nat.reduceBEq, Nat.reduceBNe, Int.reduceEq, ↓reduceIte, reduceCtorEq]) rfl)
    · intro i hi hJ
      have hbl := bitL_len (n := g.n) (r := g.r) (i := i)
      by_cases h : i < g.n.length
      · have hb : ((bits g.n g.r).map T.bool)[i]? = some (.bool (decide (Rch g.n g.r (i : Int)))) := by rw [List.getElem?_map, List.getElem?_eq_getElem (by rw [bits_len]; exact h)]; simp [bits]
        by_cases h2 : Rch g.n g.r (i : Int)
        · rw [decide_eq_true h2] at hb
          simp (maxSteps := 9000000) -implicitDefEqProofs -dsimp (disch := omega) only [go_sem, lt_T, lt_F, le_T, le_F, eq_T, eq_F, and_F, hb, Nat.reduceEqDiff, Nat.reduceAdd, Nat.reduceMul, Nat.reduceLeDiff, Nat.reduceBEq, Nat.reduceBNe, Int.reduceEq, ↓reduceIte, reduceCtorEq]
          exact ⟨h, (imp_ren 7 5 rfl rfl).trans (imp_sub (by simp (maxSteps := 9000000) -implicitDefEqProofs -dsimp (disch := omega) only [go_sem, bitL_yes h2, Nat.reduceEqDiff, Nat.reduceAdd, Nat.reduceMul, Nat.reduceLeDiff, Nat.reduceBEq, Nat.reduceBNe, Int.reduceEq, ↓reduceIte, reduceCtorEq]) (by simp (maxSteps := 9000000) -implicitDefEqProofs -dsimp (disch := omega) only [go_sem, bitL_yes h2, Nat.reduceEqDiff, Nat.reduceAdd, Nat.reduceMul, Nat.reduceLeDiff, Nat.reduceBEq, Nat.reduceBNe, Int.reduceEq, ↓reduceIte, reduceCtorEq]) rfl)⟩
        · rw [decide_eq_false h2] at hb
          simp (maxSteps := 9000000) -implicitDefEqProofs -dsimp (disch := omega) only [go_sem, lt_T, lt_F, le_T, le_F, eq_T, eq_F, and_F, hb, Nat.reduceEqDiff, Nat.reduceAdd, Nat.reduceMul, Nat.reduceLeDiff, Nat.reduceBEq, Nat.reduceBNe, Int.reduceEq, ↓reduceIte, reduceCtorEq]
          exact ⟨h, (imp_sub (by simp (maxSteps := 9000000) -implicitDefEqProofs -dsimp (disch := omega) only [go_sem, bitL_no h2, Nat.reduceEqDiff, Nat.reduceAdd, Nat.reduceMul, Nat.reduceLeDiff, Nat.reduceBEq, Nat.reduceBNe, Int.reduceEq, ↓reduceIte, reduceCtorEq]) (by simp (maxSteps := 9000000) -implicitDefEqProofs -dsimp (disch := omega) only [go_sem, bitL_no h2, Nat.reduceEqDiff, Nat.reduceAdd, Nat.reduceMul, Nat.reduceLeDiff, Nat.reduceBEq, Nat.reduceBNe, Int.reduceEq, ↓reduceIte, reduceCtorEq]) rfl)⟩
      · obtain rfl : i = g.n.length := by omega
        have e : bitL g.n g.r g.n.length = rchL g.n g.r := rfl
        simp (maxSteps := 9000000) -implicitDefEqProofs -dsimp (disch := omega) only [go_sem, lt_T, lt_F, le_T, le_F, eq_T, eq_F, and_F, e, Nat.reduceEqDiff, Nat.reduceAdd, Nat.reduceMul, Nat.reduceLeDiff, Nat.reduceBEq, Nat.reduceBNe, Int.reduceEq, ↓reduceIte, reduceCtorEq]
  · rw [decide_eq_false hT] at M1
    rw [ReRes, if_neg hT]
    refine meets_go (ir := i34) (fn := Try.f34) (rx := [(.tmp 2), (.tmp 3)]) rfl rfl (by rfl) (by rfl) (by exact Nat.le_of_ble_eq_true rfl) ?_
    simp (maxSteps := 9000000) -implicitDefEqProofs -dsimp (disch := omega) only [go_sem, g34_0, g34_1, g34_2, g34_3, g34_4, g34_5, g34_6, g34_7, g34_8, g34_9, g34_10, i34, Nat.reduceEqDiff, Nat.reduceAdd, Nat.reduceMul, Nat.reduceLeDiff, Nat.reduceBEq, Nat.reduceBNe, Int.reduceEq, ↓reduceIte, reduceCtorEq]
    refine call_go true M1 ?_
    simp (maxSteps := 9000000) -implicitDefEqProofs -dsimp (disch := omega) only [go_sem, lt_T, lt_F, le_T, le_F, eq_T, eq_F, and_F, Nat.reduceEqDiff, Nat.reduceAdd, Nat.reduceMul, Nat.reduceLeDiff, Nat.reduceBEq, Nat.reduceBNe, Int.reduceEq, ↓reduceIte, reduceCtorEq]
end Go.Proofs.YtdhclelfnbjikaaT

/- Functions of the program as contracts: a root is held, a node is linked. No condition. -/
set_option maxRecDepth 100000
set_option maxHeartbeats 8000000
set_option linter.unusedSimpArgs false
set_option linter.unusedVariables false
namespace Go.Proofs.YtdhclelfnbjikaaT
open Go
def LkOk (g : Gr) (a b : Int) : Prop := ThereG g a ∧ ThereG g b ∧ b < a ∧ (g.n.getD a.toNat default).h.length ≠ 6
noncomputable instance (g : Gr) (a b : Int) : Decidable (LkOk g a b) := Classical.propDecidable _
theorem good_cl {g : Gr} (h : GoodG g) : g.c.length = g.n.length := by rw [h.2.1, countsF_len]
theorem good_cb {g : Gr} (h : GoodG g) {j : Nat} : 0 ≤ g.c.getD j default ∧ g.c.getD j default ≤ 100 := by
  have hB := bd_counts h.1
  rw [← h.2.1] at hB
  exact bd_get hB
theorem hold_good {g : Gr} {k : Int} (hG : GoodG g) (hk : HoldOk g.n g.n.length k) (h6 : g.r.length ≠ 6) : GoodG ⟨g.n, g.r ++ [k], incF g.c k⟩ := by
  have cl := good_cl hG
  have hr6 := hG.1.2.2.2
  have hc : ∀ j, j < g.n.length → (incF g.c k).getD j default = occ j (g.r ++ [k]) + tots j g.n := fun j hj => by
    rw [inc_get (by omega), good_c hG hj, occ_app, occ_cons, occ_nil]; omega
  refine ⟨⟨hG.1.1, fun y hy => ?_, hG.1.2.2.1, by simp only [List.length_append, List.length_singleton]; omega⟩, ?_, fun i hi hg => ?_⟩
  · rcases List.mem_append.1 hy with hy | hy
    · exact hG.1.2.1 y hy
    · rw [List.mem_singleton.1 hy]; exact hk
  · refine list_ext (by rw [countsF_len, incF_len]; exact cl) fun j hj => ?_
    rw [incF_len, cl] at hj
    rw [counts_get hj, hc j hj]
  · have := good_pos hG hi hg
    simp only
    rw [inc_get (by simp only at hi; omega)]
    split <;> omega
end Go.Proofs.YtdhclelfnbjikaaT

/- Functions of the program as contracts: a root is held, a node is linked. No condition. -/
set_option maxRecDepth 100000
set_option maxHeartbeats 8000000
set_option linter.unusedSimpArgs false
set_option linter.unusedVariables false
namespace Go.Proofs.YtdhclelfnbjikaaT
open Go
end Go.Proofs.YtdhclelfnbjikaaT

/- Functions of the program as contracts: a root is held, a node is linked. No condition. -/
set_option maxRecDepth 100000
set_option maxHeartbeats 8000000
set_option linter.unusedSimpArgs false
set_option linter.unusedVariables false
namespace Go.Proofs.YtdhclelfnbjikaaT
open Go
def HrOk (g : Gr) (k : Int) : Prop := ThereG g k ∧ g.r.length ≠ 6
noncomputable instance (g : Gr) (k : Int) : Decidable (HrOk g k) := Classical.propDecidable _
noncomputable def HrRes (g : Gr) (k : Int) : TV := if HrOk g k then .tup [.agg [.sl true 2 g.n.length (ndO g.n), (.sl true 1 ((g.r ++ [k])).length (((g.r ++ [k])).map (T.int .i64))), .sl true 1 g.n.length ((incF g.c k).map (T.int .i64))], .one (.bool true)]
  else .tup [.agg [.sl true 0 0 [], .sl true 0 0 [], .sl true 0 0 []], .one (.bool false)]
def g35_0 : List Gop := [⟨none, (some 2), (.box (.t 0))⟩, ⟨none, (some 4), (.alloc [.nil, .nil, .nil])⟩, ⟨none, (some 5), (.mov (.k (.one (.bool .false))))⟩]
def g35_1 : List Gop := [⟨none, (some 7), (.load (some 3) (.t 2))⟩, ⟨none, (some 8), (.mov (.t 1))⟩, ⟨none, (some 9), (.call 70 [(.t 7), (.t 8)])⟩, ⟨none, (some 10), (.un .not (.t 9))⟩, ⟨none, (some 11), (.mov (.t 10))⟩, ⟨(some (11, .false)), (some 12), (.faddr (.t 2) 1)⟩, ⟨(some (11, .false)), (some 13), (.load none (.t 12))⟩, ⟨(some (11, .false)), (some 14), (.len (.t 13))⟩, ⟨(some (11, .false)), (some 15), (.bin .eql (.t 14) (.k (.one (.int .i64 6))))⟩, ⟨none, (some 16), (.pick (.t 11) (.k (.one (.bool .true))) (.t 15))⟩]
def g35_2 : List Gop := [⟨none, (some 17), (.build [.nil, .nil, .nil] [])⟩, ⟨none, none, (.store 3 (.t 4) (.t 17))⟩, ⟨none, (some 5), (.mov (.k (.one (.bool .false))))⟩]
def g35_3 : List Gop := [⟨none, (some 18), (.load (some 3) (.t 2))⟩, ⟨none, (some 19), (.call 65 [(.t 18)])⟩, ⟨none, (some 6), (.alloc [.nil, .nil, .nil])⟩, ⟨none, none, (.store 3 (.t 6) (.t 19))⟩]
def g35_4 : List Gop := [⟨none, (some 20), (.faddr (.t 6) 1)⟩, ⟨none, (some 21), (.load none (.t 20))⟩, ⟨none, (some 22), (.mov (.t 1))⟩, ⟨none, (some 23), (.lit 1 1 [(.int .i64 0)] [(0, (.t 22))])⟩, ⟨none, (some 24), (.app 1 8 [(.int .i64 0)] (.t 21) (.t 23))⟩, ⟨none, (some 25), (.faddr (.t 6) 1)⟩, ⟨none, none, (.store 1 (.t 25) (.t 24))⟩]
def g35_5 : List Gop := [⟨none, (some 26), (.faddr (.t 6) 2)⟩, ⟨none, (some 27), (.load none (.t 26))⟩, ⟨none, (some 28), (.mov (.t 1))⟩, ⟨none, (some 29), (.iaddr 1 (.t 27) (.t 28))⟩, ⟨none, (some 30), (.load none (.t 29))⟩, ⟨none, (some 31), (.bin .add (.t 30) (.k (.one (.int .i64 1))))⟩, ⟨none, (some 32), (.iaddr 1 (.t 27) (.t 28))⟩, ⟨none, none, (.store 1 (.t 32) (.t 31))⟩]
def g35_6 : List Gop := [⟨none, (some 33), (.load (some 3) (.t 6))⟩, ⟨none, none, (.store 3 (.t 4) (.t 33))⟩, ⟨none, (some 5), (.mov (.k (.one (.bool .true))))⟩]
def i35 : Ir := (.seq (.region g35_0) (.seq (.seq (.region g35_1) (.cond (.t 16) (.seq (.region g35_2) .ret) .skip)) (.seq (.region g35_3) (.seq (.region g35_4) (.seq (.region g35_5) (.seq (.region g35_6) .ret))))))
def iHold : Ir := (.seq (.region g35_0) (.seq (.seq (.region g35_1) (.cond (.t 16) (.seq (.region g35_2) .ret) .skip)) (.seq (.region g35_3) (.seq (.region g35_4) (.seq (.region g35_5) (.mark (.seq (.region g35_6) .ret)))))))
theorem specHold_ok (g : Gr) (k : Int) (s : Small g) : Meets Try.prog 35 [.agg [.sl false 2 g.n.length (ndR g.n), (.sl false 1 g.r.length (g.r.map (T.int .i64))), (.sl false 1 g.c.length (g.c.map (T.int .i64)))], .one (.int .i64 k)] (HrRes g k) [.agg [.hole, .hole, .hole], .one .hole] := by
  have M1 := l10There_ok g k s.n s.h s.r s.c
  have sr := s.r
  by_cases hA : ThereG g k
  · rw [decide_eq_true hA] at M1
    have ha := hA.2.1
    have ha2 := hA.2.2.1
    by_cases h4 : g.r.length = 6
    · rw [HrRes, if_neg (fun w : HrOk g k => w.2 h4)]
      refine meets_go (ir := i35) (fn := Try.f35) (rx := [(.cell 4 (some 3)), (.tmp 5)]) rfl rfl (by rfl) (by rfl) (by exact Nat.le_of_ble_eq_true rfl) ?_
      simp (maxSteps := 9000000) -implicitDefEqProofs -dsimp (disch := omega) only [go_sem, g35_0, g35_1, g35_2, g35_3, g35_4, g35_5, g35_6, i35, Nat.reduceEqDiff, Nat.reduceAdd, Nat.reduceMul, Nat.reduceLeDiff, Nat.reduceBEq, Nat.reduceBNe, Int.reduceEq, ↓reduceIte, reduceCtorEq]
      refine call_go true M1 ?_
      simp (maxSteps := 9000000) -implicitDefEqProofs -dsimp (disch := omega) only [go_sem, lt_T, lt_F, le_T, le_F, eq_T, eq_F, and_F, Nat.reduceEqDiff, Nat.reduceAdd, Nat.reduceMul, Nat.reduceLeDiff, Nat.reduceBEq, Nat.reduceBNe, Int.reduceEq, ↓reduceIte, reduceCtorEq]
    · rw [HrRes, if_pos (show HrOk g k from ⟨hA, h4⟩)]
      have cl := good_cl hA.1
      have cb := good_cb hA.1 (j := k.toNat)
      have hd : g.c.set k.toNat (g.c.getD k.toNat default + 1) = incF g.c k := rfl
      have li : (incF g.c k).length = g.n.length := by rw [incF_len]; exact cl
      obtain ⟨R, hR⟩ : ∃ R, R = g.r ++ [k] := ⟨_, rfl⟩
      have cA1 : cut (g.r.map (T.int .i64) ++ [T.int .i64 k]) 0 (g.r.length + 1) = R.map (T.int .i64) := by rw [cut_all (by simp), hR]; simp
      have rl : R.length = g.r.length + 1 := by rw [hR]; simp
      rw [← hR]
      clear hR
      refine meets_go (ir := iHold) (fn := Try.f35) (rx := [(.cell 4 (some 3)), (.tmp 5)]) rfl rfl (by rfl) (by rfl) (by exact Nat.le_of_ble_eq_true rfl) ?_
      simp (maxSteps := 9000000) -implicitDefEqProofs -dsimp (disch := omega) only [go_sem, g35_0, g35_1, g35_2, g35_3, g35_4, g35_5, g35_6, i35, iHold, Nat.reduceEqDiff, Nat.reduceAdd, Nat.reduceMul, Nat.reduceLeDiff, Nat.reduceBEq, Nat.reduceBNe, Int.reduceEq, ↓reduceIte, reduceCtorEq]
      refine call_go true M1 ?_
      simp (maxSteps := 9000000) -implicitDefEqProofs -dsimp (disch := omega) only [go_sem, lt_T, lt_F, le_T, le_F, eq_T, eq_F, and_F, Nat.reduceEqDiff, Nat.reduceAdd, Nat.reduceMul, Nat.reduceLeDiff, Nat.reduceBEq, Nat.reduceBNe, Int.reduceEq, ↓reduceIte, reduceCtorEq]
      refine call_go true (l10Own_ok g s) ?_
      simp (maxSteps := 9000000) -implicitDefEqProofs -dsimp (disch := omega) only [go_sem, lt_T, lt_F, le_T, le_F, eq_T, eq_F, and_F, cl, hd, cA1, Nat.reduceEqDiff, Nat.reduceAdd, Nat.reduceMul, Nat.reduceLeDiff, Nat.reduceBEq, Nat.reduceBNe, Int.reduceEq, ↓reduceIte, reduceCtorEq]
      refine mark_imp ⟨[(6, .w (.one (.hp 8 [] 0))), (4, .w (.one (.hp 4 [] 0)))], [(8, .bx true [.sl true 2 g.n.length (ndO g.n), (.sl true 1 R.length (R.map (T.int .i64))), .sl true 1 g.n.length ((incF g.c k).map (T.int .i64))]), (4, .bx true [.sl true 0 0 [], .sl true 0 0 [], .sl true 0 0 []])], [.agg [.hs 0 [] 0 2 g.n.length, .hs 1 [] 0 1 g.r.length, .hs 2 [] 0 1 g.n.length], .one (.int .i64 k)]⟩ (imp_sub (by simp (maxSteps := 9000000) -implicitDefEqProofs -dsimp (disch := omega) only [go_sem, rl, Nat.reduceEqDiff, Nat.reduceAdd, Nat.reduceMul, Nat.reduceLeDiff, Nat.reduceBEq, Nat.reduceBNe, Int.reduceEq, ↓reduceIte, reduceCtorEq]) (by simp (maxSteps := 9000000) -implicitDefEqProofs -dsimp (disch := omega) only [go_sem, rl, Nat.reduceEqDiff, Nat.reduceAdd, Nat.reduceMul, Nat.reduceLeDiff, Nat.reduceBEq, Nat.reduceBNe, Int.reduceEq, ↓reduceIte, reduceCtorEq]) rfl) ?_
      simp (maxSteps := 9000000) -implicitDefEqProofs -dsimp (disch := omega) only [go_sem, lt_T, lt_F, le_T, le_F, eq_T, eq_F, and_F, Nat.reduceEqDiff, Nat.reduceAdd, Nat.reduceMul, Nat.reduceLeDiff, Nat.reduceBEq, Nat.reduceBNe, Int.reduceEq, ↓reduceIte, reduceCtorEq]
  · rw [decide_eq_false hA] at M1
    rw [HrRes, if_neg (fun w : HrOk g k => hA w.1)]
    refine meets_go (ir := i35) (fn := Try.f35) (rx := [(.cell 4 (some 3)), (.tmp 5)]) rfl rfl (by rfl) (by rfl) (by exact Nat.le_of_ble_eq_true rfl) ?_
    simp (maxSteps := 9000000) -implicitDefEqProofs -dsimp (disch := omega) only [go_sem, g35_0, g35_1, g35_2, g35_3, g35_4, g35_5, g35_6, i35, Nat.reduceEqDiff, Nat.reduceAdd, Nat.reduceMul, Nat.reduceLeDiff, Nat.reduceBEq, Nat.reduceBNe, Int.reduceEq, ↓reduceIte, reduceCtorEq]
    refine call_go true M1 ?_
    simp (maxSteps := 9000000) -implicitDefEqProofs -dsimp (disch := omega) only [go_sem, lt_T, lt_F, le_T, le_F, eq_T, eq_F, and_F, Nat.reduceEqDiff, Nat.reduceAdd, Nat.reduceMul, Nat.reduceLeDiff, Nat.reduceBEq, Nat.reduceBNe, Int.reduceEq, ↓reduceIte, reduceCtorEq]
def g36_0 : List Gop := [⟨none, (some 2), (.box (.t 0))⟩, ⟨none, (some 4), (.alloc [.nil, .nil, .nil])⟩, ⟨none, (some 5), (.mov (.k (.one (.bool .false))))⟩]
def g36_1 : List Gop := [⟨none, (some 7), (.load (some 3) (.t 2))⟩, ⟨none, (some 8), (.mov (.t 1))⟩, ⟨none, (some 9), (.lit 1 1 [(.int .i64 0)] [(0, (.t 8))])⟩, ⟨none, (some 10), (.call 71 [(.t 7), (.t 9)])⟩, ⟨none, (some 11), (.un .not (.t 10))⟩, ⟨none, (some 12), (.mov (.t 11))⟩, ⟨(some (12, .false)), (some 13), (.faddr (.t 2) 1)⟩, ⟨(some (12, .false)), (some 14), (.load none (.t 13))⟩, ⟨(some (12, .false)), (some 15), (.len (.t 14))⟩, ⟨(some (12, .false)), (some 16), (.bin .eql (.t 15) (.k (.one (.int .i64 6))))⟩, ⟨none, (some 17), (.pick (.t 12) (.k (.one (.bool .true))) (.t 16))⟩]
def g36_2 : List Gop := [⟨none, (some 18), (.build [.nil, .nil, .nil] [])⟩, ⟨none, none, (.store 3 (.t 4) (.t 18))⟩, ⟨none, (some 5), (.mov (.k (.one (.bool .false))))⟩]
def g36_3 : List Gop := [⟨none, (some 19), (.load (some 3) (.t 2))⟩, ⟨none, (some 20), (.call 66 [(.t 19)])⟩, ⟨none, (some 6), (.alloc [.nil, .nil, .nil])⟩, ⟨none, none, (.store 3 (.t 6) (.t 20))⟩]
def g36_4 : List Gop := [⟨none, (some 21), (.faddr (.t 6) 1)⟩, ⟨none, (some 22), (.load none (.t 21))⟩, ⟨none, (some 23), (.mov (.t 1))⟩, ⟨none, (some 24), (.lit 1 1 [(.int .i64 0)] [(0, (.t 23))])⟩, ⟨none, (some 25), (.app 1 8 [(.int .i64 0)] (.t 22) (.t 24))⟩, ⟨none, (some 26), (.faddr (.t 6) 1)⟩, ⟨none, none, (.store 1 (.t 26) (.t 25))⟩]
def g36_5 : List Gop := [⟨none, (some 27), (.faddr (.t 6) 2)⟩, ⟨none, (some 28), (.load none (.t 27))⟩, ⟨none, (some 29), (.mov (.t 1))⟩, ⟨none, (some 30), (.iaddr 1 (.t 28) (.t 29))⟩, ⟨none, (some 31), (.load none (.t 30))⟩, ⟨none, (some 32), (.bin .add (.t 31) (.k (.one (.int .i64 1))))⟩, ⟨none, (some 33), (.iaddr 1 (.t 28) (.t 29))⟩, ⟨none, none, (.store 1 (.t 33) (.t 32))⟩]
def g36_6 : List Gop := [⟨none, (some 34), (.load (some 3) (.t 6))⟩, ⟨none, none, (.store 3 (.t 4) (.t 34))⟩, ⟨none, (some 5), (.mov (.k (.one (.bool .true))))⟩]
def i36 : Ir := (.seq (.region g36_0) (.seq (.seq (.region g36_1) (.cond (.t 17) (.seq (.region g36_2) .ret) .skip)) (.seq (.region g36_3) (.seq (.region g36_4) (.seq (.region g36_5) (.seq (.region g36_6) .ret))))))
def iHoldI : Ir := (.seq (.region g36_0) (.seq (.seq (.region g36_1) (.cond (.t 17) (.seq (.region g36_2) .ret) .skip)) (.seq (.region g36_3) (.seq (.region g36_4) (.seq (.region g36_5) (.mark (.seq (.region g36_6) .ret)))))))
theorem implHold_ok (g : Gr) (k : Int) (s : Small g) : Meets Try.prog 36 [.agg [.sl false 2 g.n.length (ndR g.n), (.sl false 1 g.r.length (g.r.map (T.int .i64))), (.sl false 1 g.c.length (g.c.map (T.int .i64)))], .one (.int .i64 k)] (HrRes g k) [.agg [.hole, .hole, .hole], .one .hole] := by
  have M1 := isThere_ok g [k] (by simp) s.n s.h s.r s.c
  simp only [List.length_cons, List.length_nil, List.map_cons, List.map_nil, Nat.zero_add] at M1
  have sr := s.r
  by_cases hA : ThereG g k
  · rw [decide_eq_true (theres_1.2 hA)] at M1
    have ha := hA.2.1
    have ha2 := hA.2.2.1
    by_cases h4 : g.r.length = 6
    · rw [HrRes, if_neg (fun w : HrOk g k => w.2 h4)]
      refine meets_go (ir := i36) (fn := Try.f36) (rx := [(.cell 4 (some 3)), (.tmp 5)]) rfl rfl (by rfl) (by rfl) (by exact Nat.le_of_ble_eq_true rfl) ?_
      simp (maxSteps := 9000000) -implicitDefEqProofs -dsimp (disch := omega) only [go_sem, g36_0, g36_1, g36_2, g36_3, g36_4, g36_5, g36_6, i36, Nat.reduceEqDiff, Nat.reduceAdd, Nat.reduceMul, Nat.reduceLeDiff, Nat.reduceBEq, Nat.reduceBNe, Int.reduceEq, ↓reduceIte, reduceCtorEq]
      refine call_go true M1 ?_
      simp (maxSteps := 9000000) -implicitDefEqProofs -dsimp (disch := omega) only [go_sem, lt_T, lt_F, le_T, le_F, eq_T, eq_F, and_F, Nat.reduceEqDiff, Nat.reduceAdd, Nat.reduceMul, Nat.reduceLeDiff, Nat.reduceBEq, Nat.reduceBNe, Int.reduceEq, ↓reduceIte, reduceCtorEq]
    · rw [HrRes, if_pos (show HrOk g k from ⟨hA, h4⟩)]
      have cl := good_cl hA.1
      have cb := good_cb hA.1 (j := k.toNat)
      have hd : g.c.set k.toNat (g.c.getD k.toNat default + 1) = incF g.c k := rfl
      have li : (incF g.c k).length = g.n.length := by rw [incF_len]; exact cl
      obtain ⟨R, hR⟩ : ∃ R, R = g.r ++ [k] := ⟨_, rfl⟩
      have cA1 : cut (g.r.map (T.int .i64) ++ [T.int .i64 k]) 0 (g.r.length + 1) = R.map (T.int .i64) := by rw [cut_all (by simp), hR]; simp
      have rl : R.length = g.r.length + 1 := by rw [hR]; simp
      rw [← hR]
      clear hR
      refine meets_go (ir := iHoldI) (fn := Try.f36) (rx := [(.cell 4 (some 3)), (.tmp 5)]) rfl rfl (by rfl) (by rfl) (by exact Nat.le_of_ble_eq_true rfl) ?_
      simp (maxSteps := 9000000) -implicitDefEqProofs -dsimp (disch := omega) only [go_sem, g36_0, g36_1, g36_2, g36_3, g36_4, g36_5, g36_6, i36, iHoldI, Nat.reduceEqDiff, Nat.reduceAdd, Nat.reduceMul, Nat.reduceLeDiff, Nat.reduceBEq, Nat.reduceBNe, Int.reduceEq, ↓reduceIte, reduceCtorEq]
      refine call_go true M1 ?_
      simp (maxSteps := 9000000) -implicitDefEqProofs -dsimp (disch := omega) only [go_sem, lt_T, lt_F, le_T, le_F, eq_T, eq_F, and_F, Nat.reduceEqDiff, Nat.reduceAdd, Nat.reduceMul, Nat.reduceLeDiff, Nat.reduceBEq, Nat.reduceBNe, Int.reduceEq, ↓reduceIte, reduceCtorEq]
      refine call_go true (ownGraph_ok g s) ?_
      simp (maxSteps := 9000000) -implicitDefEqProofs -dsimp (disch := omega) only [go_sem, lt_T, lt_F, le_T, le_F, eq_T, eq_F, and_F, cl, hd, cA1, Nat.reduceEqDiff, Nat.reduceAdd, Nat.reduceMul, Nat.reduceLeDiff, Nat.reduceBEq, Nat.reduceBNe, Int.reduceEq, ↓reduceIte, reduceCtorEq]
      refine mark_imp ⟨[(6, .w (.one (.hp 9 [] 0))), (4, .w (.one (.hp 4 [] 0)))], [(9, .bx true [.sl true 2 g.n.length (ndO g.n), (.sl true 1 R.length (R.map (T.int .i64))), .sl true 1 g.n.length ((incF g.c k).map (T.int .i64))]), (4, .bx true [.sl true 0 0 [], .sl true 0 0 [], .sl true 0 0 []])], [.agg [.hs 0 [] 0 2 g.n.length, .hs 1 [] 0 1 g.r.length, .hs 2 [] 0 1 g.n.length], .one (.int .i64 k)]⟩ (imp_sub (by simp (maxSteps := 9000000) -implicitDefEqProofs -dsimp (disch := omega) only [go_sem, rl, Nat.reduceEqDiff, Nat.reduceAdd, Nat.reduceMul, Nat.reduceLeDiff, Nat.reduceBEq, Nat.reduceBNe, Int.reduceEq, ↓reduceIte, reduceCtorEq]) (by simp (maxSteps := 9000000) -implicitDefEqProofs -dsimp (disch := omega) only [go_sem, rl, Nat.reduceEqDiff, Nat.reduceAdd, Nat.reduceMul, Nat.reduceLeDiff, Nat.reduceBEq, Nat.reduceBNe, Int.reduceEq, ↓reduceIte, reduceCtorEq]) rfl) ?_
      simp (maxSteps := 9000000) -implicitDefEqProofs -dsimp (disch := omega) only [go_sem, lt_T, lt_F, le_T, le_F, eq_T, eq_F, and_F, Nat.reduceEqDiff, Nat.reduceAdd, Nat.reduceMul, Nat.reduceLeDiff, Nat.reduceBEq, Nat.reduceBNe, Int.reduceEq, ↓reduceIte, reduceCtorEq]
  · rw [decide_eq_false (fun w => hA (theres_1.1 w))] at M1
    rw [HrRes, if_neg (fun w : HrOk g k => hA w.1)]
    refine meets_go (ir := i36) (fn := Try.f36) (rx := [(.cell 4 (some 3)), (.tmp 5)]) rfl rfl (by rfl) (by rfl) (by exact Nat.le_of_ble_eq_true rfl) ?_
    simp (maxSteps := 9000000) -implicitDefEqProofs -dsimp (disch := omega) only [go_sem, g36_0, g36_1, g36_2, g36_3, g36_4, g36_5, g36_6, i36, Nat.reduceEqDiff, Nat.reduceAdd, Nat.reduceMul, Nat.reduceLeDiff, Nat.reduceBEq, Nat.reduceBNe, Int.reduceEq, ↓reduceIte, reduceCtorEq]
    refine call_go true M1 ?_
    simp (maxSteps := 9000000) -implicitDefEqProofs -dsimp (disch := omega) only [go_sem, lt_T, lt_F, le_T, le_F, eq_T, eq_F, and_F, Nat.reduceEqDiff, Nat.reduceAdd, Nat.reduceMul, Nat.reduceLeDiff, Nat.reduceBEq, Nat.reduceBNe, Int.reduceEq, ↓reduceIte, reduceCtorEq]
end Go.Proofs.YtdhclelfnbjikaaT

/- Functions of the program as contracts: a sweep. No condition. -/
set_option maxRecDepth 100000
set_option maxHeartbeats 8000000
set_option linter.unusedSimpArgs false
set_option linter.unusedVariables false
namespace Go.Proofs.YtdhclelfnbjikaaT
open Go
noncomputable def swG (n : List Nd) (r : List Int) (k : Nat) : Nd := if Rch n r (k : Int) then n.getD k default else ⟨[], true⟩
noncomputable def swN (n : List Nd) (r : List Int) : List Nd := (List.range n.length).map (swG n r)
theorem swN_len {n : List Nd} {r : List Int} : (swN n r).length = n.length := by simp [swN]
theorem swN_get {n : List Nd} {r : List Int} {k : Nat} (h : k < n.length) : (swN n r).getD k default = swG n r k := range_getD h
noncomputable def swL (n : List Nd) (r : List Int) (i : Nat) : List Int := ((List.range i).filter fun k : Nat => decide (¬ Rch n r (k : Int)) && !(n.getD k default).g).map fun k : Nat => (k : Int)
theorem swL_0 {n : List Nd} {r : List Int} : swL n r 0 = [] := rfl
theorem swL_no {n : List Nd} {r : List Int} {i : Nat} (h : Rch n r (i : Int) ∨ (n.getD i default).g = true) : swL n r (i + 1) = swL n r i := by
  simp only [swL, List.range_succ, List.filter_append, List.map_append]
  rw [show List.filter (fun k : Nat => decide (¬ Rch n r (k : Int)) && !(n.getD k default).g) [i] = [] from by
    simp only [List.filter_cons, List.filter_nil]
    rw [show (decide (¬ Rch n r (i : Int)) && !(n.getD i default).g) = false from by rcases h with h | h <;> simp only [h] <;> simp]
    rfl]
  simp
theorem swL_yes {n : List Nd} {r : List Int} {i : Nat} (h : ¬ Rch n r (i : Int)) (h2 : (n.getD i default).g = false) : swL n r (i + 1) = swL n r i ++ [(i : Int)] := by
  simp only [swL, List.range_succ, List.filter_append, List.map_append]
  rw [show List.filter (fun k : Nat => decide (¬ Rch n r (k : Int)) && !(n.getD k default).g) [i] = [i] from by
    simp only [List.filter_cons, List.filter_nil, h, h2]; rfl]
  simp
theorem swL_len {n : List Nd} {r : List Int} {i : Nat} : (swL n r i).length ≤ i := by
  unfold swL
  rw [List.length_map]
  exact Nat.le_trans (List.length_filter_le _ _) (by simp)
theorem sw_hold {n : List Nd} {r : List Int} (h : NodesOk n r) {y i : Int} (hy : Rch n r y) (hi : y < i) : HoldOk (swN n r) i y := by
  have hh := rch_hold h hy
  have a := hh.1
  have b := hh.2.1
  refine ⟨a, hi, ?_⟩
  rw [swN_get (by omega), swG, if_pos (by rw [Int.toNat_of_nonneg a]; exact hy)]
  exact hh.2.2
theorem sw_nodes {n : List Nd} {r : List Int} (h : NodesOk n r) : NodesOk (swN n r) r := by
  refine ⟨fun i hi => ?_, fun y hy => ?_, by rw [swN_len]; exact h.2.2.1, h.2.2.2⟩
  · rw [swN_len] at hi
    unfold NodeOk
    rw [swN_get hi]
    unfold swG
    split
    · rename_i hr
      have := h.1 i hi
      exact ⟨fun y hy => sw_hold h (.step hr (by rw [Int.toNat_natCast]; exact hy)) (this.1 y hy).2.1, this.2.1, this.2.2⟩
    · exact ⟨by simp, by simp, by simp⟩
  · rw [swN_len]
    exact sw_hold h (.root hy) (h.2.1 y hy).2.1
noncomputable def SwRes (g : Gr) : TV := if NodesOk g.n g.r then .tup [.agg [.sl true 2 g.n.length (ndR (swN g.n g.r)), (.sl true 1 g.r.length (g.r.map (T.int .i64))), .sl true 1 g.n.length ((countsF (swN g.n g.r) g.r).map (T.int .i64))], .one (.sl true 1 (swL g.n g.r g.n.length).length ((swL g.n g.r g.n.length).map (T.int .i64))), .one (.bool true)]
  else .tup [.agg [.sl true 0 0 [], .sl true 0 0 [], .sl true 0 0 []], .one (.sl true 0 0 []), .one (.bool false)]
noncomputable instance (n : List Nd) (r : List Int) : Decidable (NodesOk n r) := Classical.propDecidable _
def g39_0 : List Gop := [⟨none, (some 1), (.box (.t 0))⟩, ⟨none, (some 2), (.alloc [.nil, .nil, .nil])⟩, ⟨none, (some 3), (.mov (.k (.one .nil)))⟩, ⟨none, (some 4), (.mov (.k (.one (.bool .false))))⟩]
def g39_1 : List Gop := [⟨none, (some 10), (.faddr (.t 1) 0)⟩, ⟨none, (some 11), (.load none (.t 10))⟩, ⟨none, (some 12), (.faddr (.t 1) 1)⟩, ⟨none, (some 13), (.load none (.t 12))⟩, ⟨none, (some 14), (.call 56 [(.t 11), (.t 13)])⟩, ⟨none, (some 15), (.un .not (.t 14))⟩]
def g39_2 : List Gop := [⟨none, (some 16), (.build [.nil, .nil, .nil] [])⟩, ⟨none, none, (.store 3 (.t 2) (.t 16))⟩, ⟨none, (some 3), (.mov (.k (.one .nil)))⟩, ⟨none, (some 4), (.mov (.k (.one (.bool .false))))⟩]
def g39_3 : List Gop := [⟨none, (some 17), (.load (some 3) (.t 1))⟩, ⟨none, (some 18), (.call 65 [(.t 17)])⟩, ⟨none, (some 5), (.alloc [.nil, .nil, .nil])⟩, ⟨none, none, (.store 3 (.t 5) (.t 18))⟩]
def g39_4 : List Gop := [⟨none, (some 19), (.faddr (.t 1) 0)⟩, ⟨none, (some 20), (.load none (.t 19))⟩, ⟨none, (some 21), (.faddr (.t 1) 1)⟩, ⟨none, (some 22), (.load none (.t 21))⟩, ⟨none, (some 23), (.call 68 [(.t 20), (.t 22)])⟩, ⟨none, (some 6), (.mov (.t 23))⟩]
def g39_5 : List Gop := [⟨none, (some 7), (.mov (.k (.one .nil)))⟩]
def g39_6 : List Gop := [⟨none, (some 24), (.faddr (.t 5) 0)⟩, ⟨none, (some 25), (.load none (.t 24))⟩, ⟨none, (some 26), (.len (.t 25))⟩, ⟨none, (some 27), (.mov (.k (.one (.int .i64 0))))⟩]
def g39_7 : List Gop := [⟨none, (some 28), (.bin .lss (.t 27) (.t 26))⟩]
def g39_8 : List Gop := [⟨none, (some 29), (.mov (.t 27))⟩, ⟨none, (some 30), (.iaddr 2 (.t 25) (.t 27))⟩, ⟨none, (some 31), (.load (some 2) (.t 30))⟩, ⟨none, (some 9), (.alloc [.nil, (.bool .false)])⟩, ⟨none, (some 8), (.mov (.t 29))⟩, ⟨none, none, (.store 2 (.t 9) (.t 31))⟩]
def g39_9 : List Gop := [⟨none, (some 32), (.faddr (.t 9) 1)⟩, ⟨none, (some 33), (.load none (.t 32))⟩, ⟨none, (some 34), (.un .not (.t 33))⟩, ⟨none, (some 35), (.mov (.t 34))⟩, ⟨(some (35, .true)), (some 36), (.mov (.t 6))⟩, ⟨(some (35, .true)), (some 37), (.mov (.t 8))⟩, ⟨(some (35, .true)), (some 38), (.call 72 [(.t 36), (.t 37)])⟩, ⟨(some (35, .true)), (some 39), (.un .not (.t 38))⟩, ⟨none, (some 40), (.pick (.t 35) (.t 39) (.k (.one (.bool .false))))⟩]
def g39_10 : List Gop := [⟨none, (some 41), (.faddr (.t 5) 0)⟩, ⟨none, (some 42), (.load none (.t 41))⟩, ⟨none, (some 43), (.mov (.t 8))⟩, ⟨none, (some 44), (.build [.nil, (.bool .false)] [(1, (1, (.k (.one (.bool .true)))))])⟩, ⟨none, (some 45), (.iaddr 2 (.t 42) (.t 43))⟩, ⟨none, none, (.store 2 (.t 45) (.t 44))⟩]
def g39_11 : List Gop := [⟨none, (some 46), (.mov (.t 7))⟩, ⟨none, (some 47), (.mov (.t 8))⟩, ⟨none, (some 48), (.lit 1 1 [(.int .i64 0)] [(0, (.t 47))])⟩, ⟨none, (some 49), (.app 1 8 [(.int .i64 0)] (.t 46) (.t 48))⟩, ⟨none, (some 7), (.mov (.t 49))⟩]
def g39_12 : List Gop := [⟨none, (some 50), (.bin .add (.t 27) (.k (.one (.int .i64 1))))⟩, ⟨none, (some 27), (.mov (.t 50))⟩]
def g39_13 : List Gop := [⟨none, (some 51), (.faddr (.t 5) 0)⟩, ⟨none, (some 52), (.load none (.t 51))⟩, ⟨none, (some 53), (.faddr (.t 5) 1)⟩, ⟨none, (some 54), (.load none (.t 53))⟩, ⟨none, (some 55), (.call 57 [(.t 52), (.t 54)])⟩, ⟨none, (some 56), (.faddr (.t 5) 2)⟩, ⟨none, none, (.store 1 (.t 56) (.t 55))⟩]
def g39_14 : List Gop := [⟨none, (some 57), (.load (some 3) (.t 5))⟩, ⟨none, (some 58), (.mov (.t 7))⟩, ⟨none, none, (.store 3 (.t 2) (.t 57))⟩, ⟨none, (some 3), (.mov (.t 58))⟩, ⟨none, (some 4), (.mov (.k (.one (.bool .true))))⟩]
def i39 : Ir := (.seq (.region g39_0) (.seq (.seq (.region g39_1) (.cond (.t 15) (.seq (.region g39_2) .ret) .skip)) (.seq (.region g39_3) (.seq (.region g39_4) (.seq (.region g39_5) (.seq (.seq (.region g39_6) (.block 0 (.loop (.seq (.region g39_7) (.seq (.cond (.t 28) .skip (.exit 0)) (.seq (.block 1 (.seq (.region g39_8) (.seq (.region g39_9) (.cond (.t 40) (.seq (.region g39_10) (.region g39_11)) .skip)))) (.region g39_12))))))) (.seq (.region g39_13) (.seq (.region g39_14) .ret))))))))
theorem specSweep_ok (g : Gr) (s : Small g) : Meets Try.prog 39 [.agg [.sl false 2 g.n.length (ndR g.n), (.sl false 1 g.r.length (g.r.map (T.int .i64))), (.sl false 1 g.c.length (g.c.map (T.int .i64)))]] (SwRes g) [.agg [.hole, .hole, .hole]] := by
  have M1 := l10Nodes_ok g.n g.r s.n s.h s.r
  by_cases hT : NodesOk g.n g.r
  · have h14 := hT.2.2.1
    rw [decide_eq_true hT] at M1
    rw [SwRes, if_pos hT]
    refine meets_go (ir := i39) (fn := Try.f39) (rx := [(.cell 2 (some 3)), (.tmp 3), (.tmp 4)]) rfl rfl (by rfl) (by rfl) (by exact Nat.le_of_ble_eq_true rfl) ?_
    simp (maxSteps := 9000000) -implicitDefEqProofs -dsimp (disch := omega) only [go_sem, g39_0, g39_1, g39_2, g39_3, g39_4, g39_5, g39_6, g39_7, g39_8, g39_9, g39_10, g39_11, g39_12, g39_13, g39_14, i39, Nat.reduceEqDiff, Nat.reduceAdd, Nat.reduceMul, Nat.reduceLeDiff, Nat.reduceBEq, Nat.reduceBNe, Int.reduceEq, ↓reduceIte, reduceCtorEq]
    refine call_go true M1 ?_
    simp (maxSteps := 9000000) -implicitDefEqProofs -dsimp (disch := omega) only [go_sem, lt_T, lt_F, le_T, le_F, eq_T, eq_F, and_F, Nat.reduceEqDiff, Nat.reduceAdd, Nat.reduceMul, Nat.reduceLeDiff, Nat.reduceBEq, Nat.reduceBNe, Int.reduceEq, ↓reduceIte, reduceCtorEq]
    refine call_go true (l10Own_ok g s) ?_
    simp (maxSteps := 9000000) -implicitDefEqProofs -dsimp (disch := omega) only [go_sem, lt_T, lt_F, le_T, le_F, eq_T, eq_F, and_F, Nat.reduceEqDiff, Nat.reduceAdd, Nat.reduceMul, Nat.reduceLeDiff, Nat.reduceBEq, Nat.reduceBNe, Int.reduceEq, ↓reduceIte, reduceCtorEq]
    refine call_go true (l10Reached_ok g.n g.r hT) ?_
    simp (maxSteps := 9000000) -implicitDefEqProofs -dsimp (disch := omega) only [go_sem, lt_T, lt_F, le_T, le_F, eq_T, eq_F, and_F, Nat.reduceEqDiff, Nat.reduceAdd, Nat.reduceMul, Nat.reduceLeDiff, Nat.reduceBEq, Nat.reduceBNe, Int.reduceEq, ↓reduceIte, reduceCtorEq]
    refine loop_n g.n.length (fun i => ⟨[(27, .w (.one (.int .i64 (i : Nat)))), (26, .w (.one (.int .i64 g.n.length))), (25, .w (.one (.hs 8 [0] 0 2 g.n.length))), (7, .w (.one (.hs 10 [] 0 1 (swL g.n g.r i).length))), (6, .w (.one (.hs 9 [] 0 1 (rchL g.n g.r).length))), (5, .w (.one (.hp 8 [] 0))), (2, .w (.one (.hp 4 [] 0)))],
      [(10, (.sl true 1 (swL g.n g.r i).length ((swL g.n g.r i).map (T.int .i64)))), (9, (.sl true 1 (rchL g.n g.r).length ((rchL g.n g.r).map (T.int .i64)))), (8, .bx true [.sl true 2 g.n.length (ndR (mixL (swG g.n g.r) g.n i)), (.sl true 1 g.r.length (g.r.map (T.int .i64))), (.sl true 1 g.c.length (g.c.map (T.int .i64)))]), (4, .bx true [.sl true 0 0 [], .sl true 0 0 [], .sl true 0 0 []])], [.agg [.hs 0 [] 0 2 g.n.length, .hs 1 [] 0 1 g.r.length, .hs 2 [] 0 1 g.c.length]]⟩) (fun i => True) ?_ trivial ?_
    · refine (imp_adopt 7 10 1 rfl rfl).trans ((imp_ros 8 [0] (t2 := .bx true [.sl true 2 g.n.length (ndR g.n), (.sl true 1 g.r.length (g.r.map (T.int .i64))), (.sl true 1 g.c.length (g.c.map (T.int .i64)))]) rfl rfl (by rw [ndO_ro]; rfl)).trans ?_)
      exact (imp_sub (by simp (maxSteps := 9000000) -implicitDefEqProofs -dsimp (disch := omega) only [go_sem, swL_0, mixL_0, Nat.reduceEqDiff, Nat.reduceAdd, Nat.reduceMul, Nat.reduceLeDiff, Nat.reduceBEq, Nat.reduceBNe, Int.reduceEq, ↓reduceIte, reduceCtorEq]) (by simp (maxSteps := 9000000) -implicitDefEqProofs -dsimp (disch := omega) only [go_sem, swL_0, mixL_0, Nat.reduceEqDiff, Nat.reduceAdd, Nat.reduceMul, Nat.reduceLeDiff, Nat.reduceBEq, Nat.reduceBNe, Int.reduceEq, ↓reduceIte, reduceCtorEq]) rfl)
    · intro i hi hJ
      have hsl := swL_len (n := g.n) (r := g.r) (i := i)
      by_cases h : i < g.n.length
      · have q1 : i < (mixL (swG g.n g.r) g.n i).length := by rw [mixL_len]; exact h
        have g1 := mixL_get (g := swG g.n g.r) h
        have b0 := ndR_0 q1
        have b1 := ndR_1 q1
        rw [g1] at b0 b1
        have hN := hT.1 i h
        cases hg : (g.n.getD i default).g with
        | true =>
          rw [hg] at b1
          have hnr : ¬ Rch g.n g.r (i : Int) := fun w => by
            have := (rch_hold hT w).2.2
            rw [Int.toNat_natCast, hg] at this; simp at this
          have e1 : swG g.n g.r i = g.n.getD i default := by
            rw [swG, if_neg hnr]
            have := len0 (hN.2.2 hg)
            cases hx : g.n.getD i default with
            | mk h' g' => rw [hx] at this hg; simp only at this hg; rw [this, hg]
          have e2 := mixL_keep (g := swG g.n g.r) e1
          have e3 := swL_no (n := g.n) (r := g.r) (i := i) (.inr hg)
          simp (maxSteps := 9000000) -implicitDefEqProofs -dsimp (disch := omega) only [go_sem, lt_T, lt_F, le_T, le_F, eq_T, eq_F, and_F, b0, b1, Nat.reduceEqDiff, Nat.reduceAdd, Nat.reduceMul, Nat.reduceLeDiff, Nat.reduceBEq, Nat.reduceBNe, Int.reduceEq, ↓reduceIte, reduceCtorEq]
          exact ⟨h, (imp_sub (by simp (maxSteps := 9000000) -implicitDefEqProofs -dsimp (disch := omega) only [go_sem, ← e2, e3, Nat.reduceEqDiff, Nat.reduceAdd, Nat.reduceMul, Nat.reduceLeDiff, Nat.reduceBEq, Nat.reduceBNe, Int.reduceEq, ↓reduceIte, reduceCtorEq]) (by simp (maxSteps := 9000000) -implicitDefEqProofs -dsimp (disch := omega) only [go_sem, ← e2, e3, Nat.reduceEqDiff, Nat.reduceAdd, Nat.reduceMul, Nat.reduceLeDiff, Nat.reduceBEq, Nat.reduceBNe, Int.reduceEq, ↓reduceIte, reduceCtorEq]) rfl)⟩
        | false =>
          rw [hg] at b1
          have MH := l1Has_ok (rchL g.n g.r) (i : Int) (by have := rchL_len (n := g.n) (r := g.r); omega)
          by_cases hr : Rch g.n g.r (i : Int)
          · rw [decide_eq_true ((rchL_mem hT).2 hr)] at MH
            have e2 := mixL_keep (g := swG g.n g.r) (a := g.n) (i := i) (by rw [swG, if_pos hr])
            have e3 := swL_no (n := g.n) (r := g.r) (i := i) (.inl hr)
            simp (maxSteps := 9000000) -implicitDefEqProofs -dsimp (disch := omega) only [go_sem, lt_T, lt_F, le_T, le_F, eq_T, eq_F, and_F, b0, b1, Nat.reduceEqDiff, Nat.reduceAdd, Nat.reduceMul, Nat.reduceLeDiff, Nat.reduceBEq, Nat.reduceBNe, Int.reduceEq, ↓reduceIte, reduceCtorEq]
            refine call_go true MH ?_
            simp (maxSteps := 9000000) -implicitDefEqProofs -dsimp (disch := omega) only [go_sem, lt_T, lt_F, le_T, le_F, eq_T, eq_F, and_F, b0, b1, Nat.reduceEqDiff, Nat.reduceAdd, Nat.reduceMul, Nat.reduceLeDiff, Nat.reduceBEq, Nat.reduceBNe, Int.reduceEq, ↓reduceIte, reduceCtorEq]
            exact ⟨h, (imp_sub (by simp (maxSteps := 9000000) -implicitDefEqProofs -dsimp (disch := omega) only [go_sem, ← e2, e3, Nat.reduceEqDiff, Nat.reduceAdd, Nat.reduceMul, Nat.reduceLeDiff, Nat.reduceBEq, Nat.reduceBNe, Int.reduceEq, ↓reduceIte, reduceCtorEq]) (by simp (maxSteps := 9000000) -implicitDefEqProofs -dsimp (disch := omega) only [go_sem, ← e2, e3, Nat.reduceEqDiff, Nat.reduceAdd, Nat.reduceMul, Nat.reduceLeDiff, Nat.reduceBEq, Nat.reduceBNe, Int.reduceEq, ↓reduceIte, reduceCtorEq]) rfl)⟩
          · rw [decide_eq_false (fun w => hr ((rchL_mem hT).1 w))] at MH
            have e3 := swL_yes hr hg
            simp (maxSteps := 9000000) -implicitDefEqProofs -dsimp (disch := omega) only [go_sem, lt_T, lt_F, le_T, le_F, eq_T, eq_F, and_F, b0, b1, Nat.reduceEqDiff, Nat.reduceAdd, Nat.reduceMul, Nat.reduceLeDiff, Nat.reduceBEq, Nat.reduceBNe, Int.reduceEq, ↓reduceIte, reduceCtorEq]
            refine call_go true MH ?_
            have hlen : (ndR (mixL (swG g.n g.r) g.n i)).length = g.n.length * 2 := by rw [ndR_len, mixL_len]
            have e2 := mixL_set (g := swG g.n g.r) (a := g.n) (i := i) h
            have e4 : swG g.n g.r i = ⟨[], true⟩ := by rw [swG, if_neg hr]
            have eA : ((ndR (mixL (swG g.n g.r) g.n i)).set (i * 2) (.sl false 1 0 [])).set (i * 2 + 1) (.bool true) = ndR (mixL (swG g.n g.r) g.n (i + 1)) := by
              rw [← e2, e4]
              exact rows2_set (g0 := fun x : Nd => (.sl false 1 x.h.length (x.h.map (T.int .i64)))) (g1 := fun x : Nd => .bool x.g) (⟨[], true⟩ : Nd) q1
            generalize hL : ndR (mixL (swG g.n g.r) g.n i) = L at *
            generalize hL1 : ndR (mixL (swG g.n g.r) g.n (i + 1)) = L1 at *
            have b2 : (L.set (i * 2) (.sl true 0 0 []))[i * 2 + 1]? = some (.bool false) := by rw [List.getElem?_set_ne (by omega)]; exact b1
            have b3 : ((L.set (i * 2) (.sl true 0 0 [])).set (i * 2 + 1) (.bool true))[i * 2]? = some (.sl true 0 0 []) := by rw [List.getElem?_set_ne (by omega), List.getElem?_set_self (by omega)]
            have eB : (((L.set (i * 2) (.sl true 0 0 [])).set (i * 2 + 1) (.bool true)).set (i * 2) (.sl true 1 0 [])) = (L.set (i * 2) (.sl true 1 0 [])).set (i * 2 + 1) (.bool true) := by
              rw [List.set_comm _ _ (by omega), List.set_set]
            have b4 : ((L.set (i * 2) (.sl true 1 0 [])).set (i * 2 + 1) (.bool true))[i * 2]? = some (.sl true 1 0 []) := by rw [List.getElem?_set_ne (by omega), List.getElem?_set_self (by omega)]
            have eC : (((L.set (i * 2) (.sl true 1 0 [])).set (i * 2 + 1) (.bool true)).set (i * 2) (.sl false 1 0 [])) = L1 := by
              rw [List.set_comm _ _ (by omega), List.set_set]; exact eA
            simp (maxSteps := 9000000) -implicitDefEqProofs -dsimp (disch := omega) only [go_sem, lt_T, lt_F, le_T, le_F, eq_T, eq_F, and_F, b0, b1, b2, Nat.reduceEqDiff, Nat.reduceAdd, Nat.reduceMul, Nat.reduceLeDiff, Nat.reduceBEq, Nat.reduceBNe, Int.reduceEq, ↓reduceIte, reduceCtorEq]
            refine ⟨h, ?_⟩
            refine (imp_fix 8 [0] (i * 2) 1 (t2 := .bx true [.sl true 2 g.n.length ((L.set (i * 2) (.sl true 1 0 [])).set (i * 2 + 1) (.bool true)), (.sl true 1 g.r.length (g.r.map (T.int .i64))), (.sl true 1 g.c.length (g.c.map (T.int .i64)))]) rfl (by simp (maxSteps := 9000000) -implicitDefEqProofs -dsimp (disch := omega) only [go_sem, b3, Nat.reduceEqDiff, Nat.reduceAdd, Nat.reduceMul, Nat.reduceLeDiff, Nat.reduceBEq, Nat.reduceBNe, Int.reduceEq, ↓reduceIte, reduceCtorEq]) (by simp (maxSteps := 9000000) -implicitDefEqProofs -dsimp (disch := omega) only [go_sem, b3, eB, Nat.reduceEqDiff, Nat.reduceAdd, Nat.reduceMul, Nat.reduceLeDiff, Nat.reduceBEq, Nat.reduceBNe, Int.reduceEq, ↓reduceIte, reduceCtorEq])).trans ?_
            refine (imp_ro 8 [0, i * 2] (x := .sl true 1 0 []) (t2 := .bx true [.sl true 2 g.n.length L1, (.sl true 1 g.r.length (g.r.map (T.int .i64))), (.sl true 1 g.c.length (g.c.map (T.int .i64)))]) rfl (by simp (maxSteps := 9000000) -implicitDefEqProofs -dsimp (disch := omega) only [go_sem, b4, Nat.reduceEqDiff, Nat.reduceAdd, Nat.reduceMul, Nat.reduceLeDiff, Nat.reduceBEq, Nat.reduceBNe, Int.reduceEq, ↓reduceIte, reduceCtorEq]) (by simp (maxSteps := 9000000) -implicitDefEqProofs -dsimp (disch := omega) only [go_sem, b4, eC, Nat.reduceEqDiff, Nat.reduceAdd, Nat.reduceMul, Nat.reduceLeDiff, Nat.reduceBEq, Nat.reduceBNe, Int.reduceEq, ↓reduceIte, reduceCtorEq])).trans ?_
            exact (imp_ren 13 10 rfl rfl).trans (imp_sub (by simp (maxSteps := 9000000) -implicitDefEqProofs -dsimp (disch := omega) only [go_sem, e3, List.map_append, Nat.reduceEqDiff, Nat.reduceAdd, Nat.reduceMul, Nat.reduceLeDiff, Nat.reduceBEq, Nat.reduceBNe, Int.reduceEq, ↓reduceIte, reduceCtorEq]) (by simp (maxSteps := 9000000) -implicitDefEqProofs -dsimp (disch := omega) only [go_sem, e3, List.map_append, Nat.reduceEqDiff, Nat.reduceAdd, Nat.reduceMul, Nat.reduceLeDiff, Nat.reduceBEq, Nat.reduceBNe, Int.reduceEq, ↓reduceIte, reduceCtorEq]) rfl)
      · obtain rfl : i = g.n.length := by omega
        have hsw : List.map (swG g.n g.r) (List.range g.n.length) = swN g.n g.r := rfl
        have hlen : (ndR (swN g.n g.r)).length = g.n.length * 2 := by rw [ndR_len, swN_len]
        have hlen2 : (swN g.n g.r).length = g.n.length := swN_len
        have hcut : cut (ndR (swN g.n g.r)) 0 (g.n.length * 2) = ndR (swN g.n g.r) := ndR_cutN (by rw [swN_len])
        have hcl : (countsF (swN g.n g.r) g.r).length = g.n.length := by rw [countsF_len, swN_len]
        have M3 := l10Counts_ok (swN g.n g.r) g.r (sw_nodes hT)
        rw [hlen2] at M3
        simp (maxSteps := 9000000) -implicitDefEqProofs -dsimp (disch := omega) only [go_sem, lt_T, lt_F, le_T, le_F, eq_T, eq_F, and_F, mixL_end, hsw, hcut, Nat.reduceEqDiff, Nat.reduceAdd, Nat.reduceMul, Nat.reduceLeDiff, Nat.reduceBEq, Nat.reduceBNe, Int.reduceEq, ↓reduceIte, reduceCtorEq]
        refine call_go true M3 ?_
        simp (maxSteps := 9000000) -implicitDefEqProofs -dsimp (disch := omega) only [go_sem, lt_T, lt_F, le_T, le_F, eq_T, eq_F, and_F, hcut, Nat.reduceEqDiff, Nat.reduceAdd, Nat.reduceMul, Nat.reduceLeDiff, Nat.reduceBEq, Nat.reduceBNe, Int.reduceEq, ↓reduceIte, reduceCtorEq]
  · rw [decide_eq_false hT] at M1
    rw [SwRes, if_neg hT]
    refine meets_go (ir := i39) (fn := Try.f39) (rx := [(.cell 2 (some 3)), (.tmp 3), (.tmp 4)]) rfl rfl (by rfl) (by rfl) (by exact Nat.le_of_ble_eq_true rfl) ?_
    simp (maxSteps := 9000000) -implicitDefEqProofs -dsimp (disch := omega) only [go_sem, g39_0, g39_1, g39_2, g39_3, g39_4, g39_5, g39_6, g39_7, g39_8, g39_9, g39_10, g39_11, g39_12, g39_13, g39_14, i39, Nat.reduceEqDiff, Nat.reduceAdd, Nat.reduceMul, Nat.reduceLeDiff, Nat.reduceBEq, Nat.reduceBNe, Int.reduceEq, ↓reduceIte, reduceCtorEq]
    refine call_go true M1 ?_
    simp (maxSteps := 9000000) -implicitDefEqProofs -dsimp (disch := omega) only [go_sem, lt_T, lt_F, le_T, le_F, eq_T, eq_F, and_F, Nat.reduceEqDiff, Nat.reduceAdd, Nat.reduceMul, Nat.reduceLeDiff, Nat.reduceBEq, Nat.reduceBNe, Int.reduceEq, ↓reduceIte, reduceCtorEq]
end Go.Proofs.YtdhclelfnbjikaaT
