/- A program's values as trees, and its code as steps on them. No condition. -/
import Derived.Test.YtplhecjngmkngaaTree1
import Derived.Deep.AppendSrc
set_option linter.all false
set_option linter.unusedVariables false
set_option linter.unusedSimpArgs false
set_option linter.unusedSectionVars false
set_option linter.unnecessarySimpa false
set_option linter.deprecated false
/- Trees: an operation that turns nothing, run: bytes to texts, structs built; all of them. No condition. -/
set_option linter.unusedVariables false
set_option linter.unusedSimpArgs false
namespace Go.Proofs.YtplhecjngmkngaaT
open Go

section
variable {P : Program} {nt : Nat} {w : World} {ro : Nat → Prop} {s : St} {a : Go.Act} {args : List Value} {hv : Nat → Value} {F : Nat → List Nat} {G : List Nat}

/-- the cells of a row, read -/
theorem RepL.cell {b : Nat} : ∀ (cs : List T) (o : Nat) (F : List Nat) (j : Nat) (t : T), RepL w ro b o cs F → cs[j]? = some t → ∃ v Fj, w.cell? ⟨b, o + j, none⟩ = some v ∧ Rep w ro t v Fj := by
  intro cs o F j t h hj
  obtain ⟨v, _, Fj, _, g1, g2, _, _⟩ := RepL.at cs o F j t h hj
  exact ⟨v, Fj, g1, g2⟩

/-- what a slice of a temporary is in memory: where it is not empty -/
theorem hs_cells (h : Inv nt w ro s a.tmps args hv F G) {r : Nat} {p : List Nat} {off st n n0 : Nat} {x : Value} {t : T} {own : Bool} {cs : List T} (ht : get s.roots r = some t) (hs : sub t p = some (.sl own st n0 cs)) (hx : HRep w s.roots hv (.hs r p off st n) x) :
    (n = 0 ∧ ∃ A, x = .slice A 0 0) ∨ ∃ b o cap, x = .slice (some ⟨b, o, none⟩) n cap ∧ n ≤ cap ∧ off + n * st ≤ cs.length ∧ ∀ j c, j < n * st → cs[off + j]? = some c → ∃ v Fc, w.cell? ⟨b, o + j, none⟩ = some v ∧ Rep w ro c v Fc := by
  simp only [HRep] at hx
  obtain ⟨own', n1, cs', hh, q1, q2, q3, q4⟩ := hx.2 t ht
  rw [hs] at q1
  simp only [Option.some.injEq, T.sl.injEq] at q1
  obtain ⟨rfl, _, rfl, rfl⟩ := q1
  rcases q4 with q4 | ⟨b, o, n2, cap0, cap, q5, q6, q7, q8⟩
  · exact .inl q4
  obtain ⟨v', pre, F', post, e1, e2, _, _⟩ := Rep.sub p t _ (hv r) (F r) (h.rep r t ht) hs
  rw [q2] at e1; obtain rfl := Option.some.inj e1
  refine .inr ⟨b, o + off, cap, q6, q7, q3.1, fun j c hj hc => ?_⟩
  simp only [Rep] at e2
  rcases e2 with ⟨_, rfl, _⟩ | ⟨b', o', cap', F'', k1, k2, k3, k4, k5⟩
  · simp at hc
  rw [q5] at k1
  simp only [Value.slice.injEq, Option.some.injEq, Addr.mk.injEq, and_true] at k1
  obtain ⟨⟨rfl, rfl⟩, _, _⟩ := k1
  obtain ⟨v, Fj, g1, g2⟩ := RepL.cell cs o F'' (off + j) c k5 hc
  exact ⟨v, Fj, by rw [Nat.add_assoc]; exact g1, g2⟩

theorem r_cvs (h : Inv nt w ro s a.tmps args hv F G) {o : Oper} {src dst e : TypeId} {x : Operand} {X' : X} (ho : o.op = .convert src dst x) (hs : P.underlying src = some (.slice e)) (hd : P.underlying dst = some .string) (he : P.underlying e = some (.int .u8)) (hx : toX x = some X') {v : V} (hY : Yld (.cvs X') s v) : Runs P w s hv a o v := by
  have empty : ∀ A, (convert src dst (.slice A 0 0)).run P w = .ok (.string ByteArray.empty) w := by
    intro A
    cases A with
    | none => exact run_convert_bytes_nil w src e hs he 0 0 dst hd
    | some A => exact run_convert_bytes_back w src dst e A 0 [] hs he hd (fun j hj => by simp at hj)
  cases hY with
  | cvs0 e1 =>
    have r1 := ev_rep h hx e1
    simp only [VRep, WRep, HRep] at r1
    obtain ⟨A, r1⟩ := r1
    exact ⟨_, by simp [execOp, ho, r1, empty], rfl⟩
  | cvs e1 e2 e3 e4 e5 =>
    rename_i rr pp oo nn t own n0 cs bs
    have r1 := ev_rep h hx e1
    simp only [VRep, WRep] at r1
    rcases hs_cells h e2 e3 r1 with ⟨rfl, A, r2⟩ | ⟨b, o', cap, r2, r3, r4, r5⟩
    · have : bs = [] := List.eq_nil_of_length_eq_zero e5
      subst this
      exact ⟨.string ByteArray.empty, by simp [execOp, ho, r2, empty], by simp only [VRep, WRep, HRep]; rfl⟩
    · refine ⟨_, ?_, rfl⟩
      subst e5
      have := run_convert_bytes_back (P := P) w src dst e ⟨b, o', none⟩ cap bs hs he hd (fun j hj => by
        have hc : cs[oo + j]? = some (T.int .u8 (bs[j].toNat : Nat)) := by
          have := congrArg (·[j]?) e4
          simp only [List.getElem?_take, List.getElem?_map, List.getElem?_eq_getElem hj, Option.map_some, hj, if_true, List.getElem?_drop] at this
          exact this
        obtain ⟨u, Fc, g1, g2⟩ := r5 j _ (by omega) hc
        simp only [Rep] at g2
        rw [Addr.add_mid, g1, g2.1])
      simp [execOp, ho, r2, this]

theorem constHs_len : ∀ (vs : List Value) (hs : List H), constHs vs = some hs → hs.length = vs.length
  | [], hs, e => by simp only [constHs, Option.some.injEq] at e; subst e; rfl
  | v :: vs, hs, e => by
    simp only [constHs] at e
    cases h1 : constH v with
    | none => simp [h1] at e
    | some g => cases h2 : constHs vs with
      | none => simp [h1, h2] at e
      | some gs => simp only [h1, h2, Option.some.injEq] at e; subst e; simp [constHs_len vs gs h2]

theorem wcells_rep {roots : List (Nat × T)} {x : W} {v : Value} (h : WRep w roots hv x v) (hc : ∀ g, x = .one g → v.cells = #[v]) : HRepL w roots hv x.cells v.cells.toList := by
  cases x with
  | one g => rw [hc g rfl]; simp only [W.cells, HRepL]; exact ⟨v, [], rfl, h, rfl⟩
  | agg hs => obtain ⟨vs, rfl, h⟩ := h; simpa [Value.cells, W.cells] using h

/-- a cell's value is one cell -/
theorem cell_one {roots : List (Nat × T)} {g : H} {v : Value} (hg : live roots g = true) (h : HRep w roots hv g v) : v.cells = #[v] ∧ v.oneCell' = true := by
  cases g with
  | int => simp only [HRep] at h; subst h; exact ⟨rfl, rfl⟩
  | bool => simp only [HRep] at h; subst h; exact ⟨rfl, rfl⟩
  | str => simp only [HRep] at h; subst h; exact ⟨rfl, rfl⟩
  | nil => simp only [HRep] at h; obtain ⟨a, rfl⟩ := h; exact ⟨rfl, rfl⟩
  | nptr => simp only [HRep] at h; subst h; exact ⟨rfl, rfl⟩
  | hs r p off st n =>
    simp only [HRep] at h
    obtain ⟨t, ht⟩ := Option.isSome_iff_exists.1 (show (get roots r).isSome = true from hg)
    obtain ⟨_, _, _, _, _, _, _, h4⟩ := h.2 t ht
    rcases h4 with ⟨_, A, rfl⟩ | ⟨b, o, n0, c0, c1, _, rfl, _⟩ <;> exact ⟨rfl, rfl⟩
  | hp r p off =>
    simp only [HRep] at h
    obtain ⟨t, ht⟩ := Option.isSome_iff_exists.1 (show (get roots r).isSome = true from hg)
    obtain ⟨_, _, _, _, _, _, _, rfl⟩ := h.2 t ht
    exact ⟨rfl, rfl⟩
  | fn f caps => simp only [HRep] at h; obtain ⟨vs, rfl, _⟩ := h; exact ⟨rfl, rfl⟩
  | un => simp [live] at hg

theorem wcells_live {roots : List (Nat × T)} {x : W} {v : Value} (h : WRep w roots hv x v) (hl : liveW roots x = true) : HRepL w roots hv x.cells v.cells.toList :=
  wcells_rep h (fun g hg => by subst hg; exact (cell_one hl h).1)

theorem foldl_put (off : Nat) : ∀ (vs : List Value) (j : Nat) (cs : Array Value), off + j + vs.length ≤ cs.size → ((vs.zipIdx j).foldl (fun cs (c, j) => cs.setIfInBounds (off + j) c) cs).toList = cs.toList.take (off + j) ++ vs ++ cs.toList.drop (off + j + vs.length)
  | [], j, cs, h => by simp
  | v :: vs, j, cs, h => by
    simp only [List.length_cons] at h
    simp only [List.zipIdx_cons, List.foldl_cons]
    rw [foldl_put off vs (j + 1) _ (by simp; omega)]
    simp only [Array.toList_setIfInBounds, List.length_cons]
    rw [List.take_set, List.drop_set_of_lt (by omega), show off + (j + 1) = off + j + 1 by omega, List.take_add_one, List.set_append_right _ _ (by simp; omega)]
    have hlt : off + j < cs.toList.length := by simp; omega
    simp only [List.getElem?_eq_getElem hlt, Option.toList_some, List.length_take]
    rw [show off + j - min (off + j) cs.toList.length = 0 by omega]
    simp [show off + j + 1 + vs.length = off + j + (vs.length + 1) by omega]

theorem fill_rep {roots : List (Nat × T)} {pl : List (Nat × Nat)} (hroots : roots = s.roots) (h : Inv nt w ro s a.tmps args hv F G) : ∀ (parts : List (Nat × Operand)) (ps : List (Nat × Nat × X)) (vs : List (Nat × Nat × W)) (hs hs' : List H) (cs : Array Value),
    partsOf pl parts = some ps → (ps.map fun (o, z, x) => (o, z, ev s x)) = (vs.map fun (o, z, v) => (o, z, some (V.w v))) → vs.all (fun q => liveW roots q.2.2) = true → HRepL w roots hv hs cs.toList → fillH hs vs = some hs' →
    ∃ cs', Instr.fill (pl.toArray[·]?) cs (parts.map fun (i, x) => (i, a.eval x)) = some cs' ∧ HRepL w roots hv hs' cs'.toList
  | [], ps, vs, hs, hs', cs, h1, h2, h3, h4, h5 => by
    simp only [partsOf, Option.some.injEq] at h1; subst h1
    cases vs with
    | cons => simp at h2
    | nil => simp only [fillH, Option.some.injEq] at h5; subst h5; exact ⟨cs, rfl, h4⟩
  | (i, x) :: parts, ps, vs, hs, hs', cs, h1, h2, h3, h4, h5 => by
    simp only [partsOf] at h1
    cases k1 : pl[i]? with
    | none => simp [k1] at h1
    | some oz =>
      obtain ⟨o, z⟩ := oz
      cases k2 : toX x with
      | none => simp [k1, k2] at h1
      | some y =>
        cases k3 : partsOf pl parts with
        | none => simp [k1, k2, k3] at h1
        | some r =>
          simp only [k1, k2, k3, Option.some.injEq] at h1; subst h1
          cases vs with
          | nil => simp at h2
          | cons q vs =>
            obtain ⟨o', z', g⟩ := q
            simp only [List.map_cons, List.cons.injEq, Prod.mk.injEq] at h2
            obtain ⟨⟨rfl, rfl, e3⟩, h2⟩ := h2
            simp only [List.all_cons, Bool.and_eq_true] at h3
            simp only [fillH] at h5
            split at h5
            · rename_i hc
              have r1 := ev_rep h k2 e3
              simp only [VRep] at r1
              rw [← hroots] at r1
              have r2 := wcells_live r1 h3.1
              have l1 := HRepL_len _ _ r2
              have l2 := HRepL_len _ _ h4
              simp only [Array.length_toList] at l1 l2
              have hsz : (a.eval x).cells.size = z := by omega
              have hle : ¬ o + (a.eval x).cells.size > cs.size := by omega
              have hput := foldl_put o (a.eval x).cells.toList 0 cs (by simp; omega)
              have hz : (a.eval x).cells.zipIdx.foldl (fun cs (c, j) => cs.setIfInBounds (o + j) c) cs = ((a.eval x).cells.toList.zipIdx 0).foldl (fun cs (c, j) => cs.setIfInBounds (o + j) c) cs := by
                rw [← Array.foldl_toList, Array.toList_zipIdx]
              obtain ⟨cs', f1, f2⟩ := fill_rep hroots h parts r vs _ hs' (((a.eval x).cells.toList.zipIdx 0).foldl (fun cs (c, j) => cs.setIfInBounds (o + j) c) cs) k3 h2 h3.2 (by
                rw [hput]
                have := HRepL_append _ _ _ _ (HRepL_append _ _ _ _ (HRepL_take o _ _ h4) r2) (HRepL_drop (o + z) _ _ h4)
                simpa [hsz] using this) h5
              refine ⟨cs', ?_, f2⟩
              simp only [List.map_cons, Instr.fill, List.getElem?_toArray, k1]
              rw [if_neg (by simp [hsz]; omega), hz]
              simpa using f1
            · simp at h5

theorem r_build (h : Inv nt w ro s a.tmps args hv F G) {o : Oper} {t : TypeId} {parts : Array (Nat × Operand)} {fs : Array Field} {z : List H} {pl : List (Nat × Nat)} {ps : List (Nat × Nat × X)} (ho : o.op = .build t parts) (ht : P.underlying t = some (.struct fs)) (hz : zeroOf P t = some z) (hpl : placesOf P fs = some pl) (hps : partsOf pl parts.toList = some ps) {v : V} (hY : Yld (.build z ps) s v) : Runs P w s hv a o v := by
  cases hY with
  | build e1 e2 e3 =>
    unfold zeroOf at hz
    obtain ⟨z', hz1, hz2⟩ := Option.bind_eq_some_iff.1 hz
    obtain ⟨it, hi, hz3⟩ := Option.bind_eq_some_iff.1 hz1
    obtain ⟨cs', f1, f2⟩ := fill_rep (pl := pl) rfl h parts.toList ps _ z _ z'.cells hps e1 e2 (constHs_rep _ _ hz2) e3
    refine ⟨.agg cs', ?_, cs'.toList, by simp, f2⟩
    have hb : P.built t ((parts.map fun (i, x) => (i, a.eval x)).toList) = some cs' := by
      unfold Program.built
      unfold placesOf at hpl
      simp only [hi, ht, hz3, hpl]
      simpa using f1
    simp [execOp, ho, run_build w t _ cs' hb]

theorem slOf_eq {t e : TypeId} (h : slOf P t = some e) : P.underlying t = some (.slice e) := by
  unfold slOf at h; split at h
  · rename_i q; obtain rfl := Option.some.inj h; exact q
  · simp at h

/-- all operations that turn nothing -/
theorem yld_run (h : Inv nt w ro s a.tmps args hv F G) {o : Oper} {i : I} (hc : compI P o = some i) {v : V} (hY : Yld i s v) : Runs P w s hv a o v := by
  unfold compI at hc
  split at hc
  · rename_i x ho; obtain ⟨X', hx, rfl⟩ := Option.map_eq_some_iff.1 hc; exact r_mov h (.inl ho) hx hY
  · rename_i x ho; obtain ⟨X', hx, rfl⟩ := Option.map_eq_some_iff.1 hc; exact r_mov h (.inr ho) hx hY
  · rename_i c x y ho
    split at hc
    · rename_i k1 k2 k3; obtain rfl := Option.some.inj hc; exact r_pick h ho k1 k2 k3 hY
    · simp at hc
  · obtain ⟨X', hx, rfl⟩ := Option.map_eq_some_iff.1 hc; cases hY
  · obtain ⟨X', hx, rfl⟩ := Option.map_eq_some_iff.1 hc; cases hY
  · rename_i t parts ho
    split at hc
    · rename_i k1 k2
      split at hc
      · rename_i pl k3
        obtain ⟨ps, k4, rfl⟩ := Option.map_eq_some_iff.1 hc
        exact r_build h ho k1 k2 k3 k4 hY
      · simp at hc
    · simp at hc
  · split at hc
    · split at hc
      · split at hc
        · obtain rfl := Option.some.inj hc; cases hY
        · simp at hc
      · simp at hc
    · simp at hc
  · rename_i t x ho
    split at hc
    · rename_i k1 k2; obtain rfl := Option.some.inj hc; exact r_load h ho k1 k2 hY
    · simp at hc
  · split at hc
    · obtain rfl := Option.some.inj hc; cases hY
    · simp at hc
  · rename_i x ho; obtain ⟨X', hx, rfl⟩ := Option.map_eq_some_iff.1 hc; exact r_nilc h ho hx hY
  · rename_i op t x y yt ho
    split at hc
    · rename_i k1 k2
      split at hc
      · split at hc
        · obtain rfl := Option.some.inj hc; exact r_bin h ho k1 k2 hY
        · obtain rfl := Option.some.inj hc; exact r_bin h ho k1 k2 hY
        · rename_i k3; obtain rfl := Option.some.inj hc; exact r_beq h ho (by simp) k3 k1 k2 hY
        · simp at hc
      · split at hc
        · obtain rfl := Option.some.inj hc; exact r_bin h ho k1 k2 hY
        · obtain rfl := Option.some.inj hc; exact r_bin h ho k1 k2 hY
        · rename_i k3; obtain rfl := Option.some.inj hc; exact r_beq h ho (by simp) k3 k1 k2 hY
        · simp at hc
      · obtain rfl := Option.some.inj hc; exact r_bin h ho k1 k2 hY
    · simp at hc
  · rename_i op t x ho; obtain ⟨X', hx, rfl⟩ := Option.map_eq_some_iff.1 hc; exact r_un h ho hx hY
  · rename_i src dst x ho
    split at hc
    · rename_i k1 k2 k3; obtain rfl := Option.some.inj hc; exact r_cvi h ho k1 k2 k3 hY
    · split at hc
      · obtain rfl := Option.some.inj hc; cases hY
      · simp at hc
    · rename_i k1 k2 k3
      split at hc
      · rename_i k4
        unfold isU8 at k4
        split at k4
        · rename_i k5; obtain rfl := Option.some.inj hc; exact r_cvs h ho k1 k2 k5 k3 hY
        · simp at k4
      · simp at hc
    · simp at hc
  · split at hc
    · split at hc
      · obtain rfl := Option.some.inj hc; cases hY
      · simp at hc
    · simp at hc
  · rename_i t x lo hi mx ho
    split at hc
    · rename_i k1 k2 k3 k4 k5
      obtain rfl := Option.some.inj hc
      have hmx : mx = none := by cases mx with
        | none => rfl
        | some y => simp only [toXo] at k5; obtain ⟨_, _, hm⟩ := Option.map_eq_some_iff.1 k5; simp at hm
      subst hmx
      exact r_substr h ho k1 k2 k3 k4 hY
    · rename_i k1 k2 k3 k4 k5; obtain ⟨st, k6, rfl⟩ := Option.map_eq_some_iff.1 hc; exact r_slice h ho k1 k6 k2 k3 k4 k5 hY
    · simp at hc
  · rename_i t x i ho
    split at hc
    · rename_i k1 k2
      split at hc
      · rename_i k3
        split at hc
        · rename_i k4; obtain rfl := Option.some.inj hc; exact r_faddr h ho k1 k3 k4 k2 hY
        · simp at hc
      · simp at hc
    · simp at hc
  · rename_i t x i ho
    split at hc
    · rename_i k1 k2
      split at hc
      · rename_i k3; obtain ⟨k, k4, rfl⟩ := Option.map_eq_some_iff.1 hc; exact r_field h ho k1 k3 k4 k2 hY
      · simp at hc
    · simp at hc
  · rename_i t x i ho
    split at hc
    · rename_i k1 k2 k3
      obtain ⟨st, k4, rfl⟩ := Option.map_eq_some_iff.1 hc
      exact r_iaddr h ho (slOf_eq k1) k4 k2 k3 hY
    · simp at hc
  · rename_i t x i ho
    split at hc
    · rename_i k1 k2 k3; obtain rfl := Option.some.inj hc; exact r_at h ho k1 k2 k3 hY
    · simp at hc
  · rename_i x i ho; obtain ⟨X', hx, rfl⟩ := Option.map_eq_some_iff.1 hc; exact r_ext h ho hx hY
  · rename_i f first caps ho
    split at hc
    · rename_i k1; obtain ⟨Xs, k2, rfl⟩ := Option.map_eq_some_iff.1 hc; exact r_mkf h ho k1 k2 hY
    · simp at hc
  · rename_i c ho
    split at hc
    · split at hc
      · split at hc
        · obtain ⟨Xs, k2, rfl⟩ := Option.map_eq_some_iff.1 hc; cases hY
        · simp at hc
      · simp at hc
    · obtain ⟨Xs, k2, rfl⟩ := Option.map_eq_some_iff.1 hc; cases hY
    · rename_i hb
      split at hc
      · rename_i k1 k2; obtain ⟨X', hx, rfl⟩ := Option.map_eq_some_iff.1 hc; exact r_lent h ho hb k1 k2 hx hY
      · rename_i k1 k2; obtain ⟨X', hx, rfl⟩ := Option.map_eq_some_iff.1 hc; exact r_len h ho hb k1 k2 hx hY
      · simp at hc
    · split at hc
      · split at hc
        · obtain rfl := Option.some.inj hc; cases hY
        · simp at hc
      · split at hc
        · obtain rfl := Option.some.inj hc; cases hY
        · simp at hc
      · simp at hc
    · rename_i hb; obtain ⟨Xs, k2, rfl⟩ := Option.map_eq_some_iff.1 hc; exact r_mm h ho (by simpa using hb) k2 hY
    · rename_i hb; obtain ⟨Xs, k2, rfl⟩ := Option.map_eq_some_iff.1 hc; exact r_mm h ho (by simpa using hb) k2 hY
    · simp at hc
  · simp at hc
end
end Go.Proofs.YtplhecjngmkngaaT

/- Trees: what is put into a cell, what is taken out of one's own, a new root, a later world. No condition. -/
set_option linter.unusedVariables false
set_option linter.unusedSimpArgs false
namespace Go.Proofs.YtplhecjngmkngaaT
open Go

theorem RepL.drop {w : World} {ro : Nat → Prop} {b : Nat} : ∀ (k : Nat) (cs : List T) (o : Nat) (F : List Nat), RepL w ro b o cs F → ∃ F1 F2, F = F1 ++ F2 ∧ RepL w ro b (o + k) (cs.drop k) F2
  | 0, cs, o, F, h => ⟨[], F, rfl, h⟩
  | k + 1, [], o, F, h => by simp only [RepL] at h; subst h; exact ⟨[], [], rfl, by simp [RepL]⟩
  | k + 1, c :: cs, o, F, h => by
    simp only [RepL] at h
    obtain ⟨v, F1, F2, h1, h2, h3, rfl⟩ := h
    obtain ⟨F3, F4, rfl, h4⟩ := RepL.drop k cs (o + 1) F2 h3
    exact ⟨F1 ++ F3, F4, by simp, by rw [show o + (k + 1) = o + 1 + k by omega]; exact h4⟩
theorem RepL.take {w : World} {ro : Nat → Prop} {b : Nat} : ∀ (k : Nat) (cs : List T) (o : Nat) (F : List Nat), RepL w ro b o cs F → ∃ F1 F2, F = F1 ++ F2 ∧ RepL w ro b o (cs.take k) F1
  | 0, cs, o, F, h => ⟨[], F, rfl, by simp [RepL]⟩
  | k + 1, [], o, F, h => by simp only [RepL] at h; subst h; exact ⟨[], [], rfl, by simp [RepL]⟩
  | k + 1, c :: cs, o, F, h => by
    simp only [RepL] at h
    obtain ⟨v, F1, F2, h1, h2, h3, rfl⟩ := h
    obtain ⟨F3, F4, rfl, h4⟩ := RepL.take k cs (o + 1) F2 h3
    simp only [List.take_succ_cons, RepL]
    exact ⟨F1 ++ F3, F4, by simp, v, F1, F3, h1, h2, h4, rfl⟩

mutual
/-- what a cell is as a tree, where nothing of one's own moves -/
inductive CellT (roots : List (Nat × T)) : H → T → Prop
  | int {k n} : CellT roots (.int k n) (.int k n)
  | bool {b} : CellT roots (.bool b) (.bool b)
  | str {b} : CellT roots (.str b) (.str b)
  | nptr : CellT roots .nptr .nptr
  | nil {own st} : CellT roots .nil (.sl own st 0 [])
  | ro {r p off st n t n0 cs} : get roots r = some t → sub t p = some (.sl false st n0 cs) → CellT roots (.hs r p off st n) (.sl false st n ((cs.drop off).take (n * st)))
  | roBx {r p t cs} : get roots r = some t → sub t p = some (.bx false cs) → CellT roots (.hp r p 0) (.bx false cs)
  | fn {f caps ts} : CellTL roots caps ts → CellT roots (.fn f caps) (.fn f ts)
inductive CellTL (roots : List (Nat × T)) : List H → List T → Prop
  | nil : CellTL roots [] []
  | cons {h t hs ts} : CellT roots h t → CellTL roots hs ts → CellTL roots (h :: hs) (t :: ts)
end

section
variable {P : Program} {nt : Nat} {w : World} {ro : Nat → Prop} {s : St} {tm : Array Value} {args : List Value} {hv : Nat → Value} {F : Nat → List Nat} {G : List Nat}

/-- a slice of an object, as a tree -/
theorem hs_tree (h : Inv nt w ro s tm args hv F G) {r : Nat} {p : List Nat} {off st n n0 : Nat} {x : Value} {t : T} {own : Bool} {cs : List T} (ht : get s.roots r = some t) (hs : sub t p = some (.sl own st n0 cs)) (hx : HRep w s.roots hv (.hs r p off st n) x) :
    (n = 0 ∧ ∃ A, x = .slice A 0 0) ∨ ∃ b o cap F1 F2, x = .slice (some ⟨b, o, none⟩) n cap ∧ (n ≤ cap ∧ 0 < st) ∧ ((cs.drop off).take (n * st)).length = n * st ∧ (∀ y ∈ F1, y ∈ F r) ∧ (∀ y ∈ F2, y ∈ F1) ∧ F1.Nodup ∧ Blk w ro own b o (cap * st) F1 (if own then F1.tail else F1) ∧ RepL w ro b o ((cs.drop off).take (n * st)) F2 ∧ (own = true → b ∉ F2 ∧ F2.Nodup) := by
  simp only [HRep] at hx
  obtain ⟨own', n1, cs', hh, q1, q2, q3, q4⟩ := hx.2 t ht
  rw [hs] at q1
  simp only [Option.some.injEq, T.sl.injEq] at q1
  obtain ⟨rfl, _, rfl, rfl⟩ := q1
  rcases q4 with q4 | ⟨b, o, n2, cap0, cap, q5, q6, q7, q8⟩
  · exact .inl q4
  obtain ⟨v', pre, F', post, e1, e2, e3, _⟩ := Rep.sub p t _ (hv r) (F r) (h.rep r t ht) hs
  rw [q2] at e1; obtain rfl := Option.some.inj e1
  simp only [Rep] at e2
  rcases e2 with ⟨_, rfl, rfl, A, e4⟩ | ⟨b', o', cap', F'', k1, k2, k3, k4, k5⟩
  · rw [q5] at e4
    simp only [Value.slice.injEq] at e4
    obtain ⟨_, _, rfl⟩ := e4
    simp only [List.length_nil] at q3
    have hc : cap * st = 0 := by omega
    rcases Nat.mul_eq_zero.1 hc with rfl | h0
    · obtain rfl : n = 0 := by omega
      exact .inl ⟨rfl, _, q6⟩
    · omega
  rw [q5] at k1
  simp only [Value.slice.injEq, Option.some.injEq, Addr.mk.injEq, and_true] at k1
  obtain ⟨⟨rfl, rfl⟩, rfl, rfl⟩ := k1
  obtain ⟨F1, F2, rfl, d1⟩ := RepL.drop off cs o F'' k5
  obtain ⟨F3, F4, rfl, d2⟩ := RepL.take (n * st) _ _ _ d1
  have hnd : F'.Nodup := by
    have := h.nd r t ht
    rw [e3] at this
    simp only [List.nodup_append] at this
    exact this.1.2.1
  refine .inr ⟨b, o + off, cap, F', F3, q6, ⟨q7, q8.2⟩, by simp; omega, fun y hy => by rw [e3]; simp [hy], fun y hy => k4.sub y (by simp [hy]), hnd, ?_, d2, ?_⟩
  · cases own
    · have := k4.shrink (o' := o + off) (ext' := cap * st) (by omega)
      simp only [Blk, Bool.false_eq_true, if_false] at this ⊢
      obtain ⟨a1, a2, a3, a4⟩ := this
      exact ⟨a1, a2, a2, a4⟩
    · have := k4.shrink (o' := o + off) (ext' := cap * st) (by omega)
      simp only [Blk, if_true] at this ⊢
      obtain ⟨a1, a2, a3⟩ := this
      exact ⟨a1, by simp [a2], a3⟩
  · rintro rfl
    simp only [Blk, if_true] at k4
    rw [k4.2.1] at hnd
    simp only [List.nodup_cons, List.mem_append, not_or, List.nodup_append] at hnd
    exact ⟨hnd.1.2.1, hnd.2.2.1.1⟩

mutual
theorem cellT_rep (h : Inv nt w ro s tm args hv F G) : ∀ (g : H) (t : T) (v : Value), CellT s.roots g t → HRep w s.roots hv g v → Rep w ro t v []
  | _, _, v, .int, hr => by simp only [HRep] at hr; simp only [Rep]; exact ⟨hr, trivial⟩
  | _, _, v, .bool, hr => by simp only [HRep] at hr; simp only [Rep]; exact ⟨hr, trivial⟩
  | _, _, v, .str, hr => by simp only [HRep] at hr; simp only [Rep]; exact ⟨hr, trivial⟩
  | _, _, v, .nptr, hr => by simp only [HRep] at hr; simp only [Rep]; exact ⟨hr, trivial⟩
  | _, _, v, .nil, hr => by simp only [HRep] at hr; simp only [Rep]; exact .inl ⟨trivial, trivial, trivial, hr⟩
  | _, _, v, .ro (off := off) (st := st) (n := n) (cs := cs) e1 e2, hr => by
    rcases hs_tree h e1 e2 hr with ⟨rfl, A, rfl⟩ | ⟨b, o, cap, F1, F2, rfl, k2, k3, _, k4, _, k5, k6, _⟩
    · simp only [Rep]; exact .inl ⟨trivial, by simp, trivial, A, rfl⟩
    · simp only [Blk, Bool.false_eq_true, if_false] at k5
      obtain ⟨a1, rfl, _, a4⟩ := k5
      obtain rfl : F2 = [] := List.eq_nil_iff_forall_not_mem.2 (fun y hy => by simpa using k4 y hy)
      simp only [Rep]
      refine .inr ⟨b, o, cap, [], rfl, k2, k3, ⟨a1, ?_⟩, k6⟩
      simp only [Bool.false_eq_true, if_false]
      exact ⟨trivial, trivial, a4⟩
  | _, _, v, .roBx (p := p) (cs := cs) e1 e2, hr => by
    simp only [HRep] at hr
    obtain ⟨t', hh, b, o, ⟨q1, _⟩, q2, q3, rfl⟩ := hr.2 _ e1
    rw [e2] at q1; obtain rfl := Option.some.inj q1
    obtain ⟨v', pre, F', post, k1, k2, k3, _⟩ := Rep.sub p _ _ _ _ (h.rep _ _ e1) e2
    rw [q2] at k1; obtain rfl := Option.some.inj k1
    have k4 := k2
    simp only [Rep] at k2
    obtain ⟨b', o', F'', rfl, k5, k6⟩ := k2
    simp only [adr, Option.some.injEq, Prod.mk.injEq] at q3
    obtain ⟨rfl, rfl⟩ := q3
    simp only [Blk, Bool.false_eq_true, if_false] at k5
    obtain ⟨a1, rfl, rfl, a4⟩ := k5
    exact k4
  | _, _, v, .fn hc, hr => by
    simp only [HRep] at hr
    obtain ⟨vs, rfl, hr⟩ := hr
    simp only [Rep]
    exact ⟨vs, rfl, cellTL_rep h _ _ vs hc hr⟩
theorem cellTL_rep (h : Inv nt w ro s tm args hv F G) : ∀ (gs : List H) (ts : List T) (vs : List Value), CellTL s.roots gs ts → HRepL w s.roots hv gs vs → RepV w ro ts vs []
  | _, _, vs, .nil, hr => by simp only [HRepL] at hr; simp only [RepV]; exact ⟨hr, trivial⟩
  | _, _, vs, .cons h1 h2, hr => by
    simp only [HRepL] at hr
    obtain ⟨v, vs', rfl, r1, r2⟩ := hr
    simp only [RepV]
    exact ⟨v, vs', [], [], rfl, cellT_rep h _ _ v h1 r1, cellTL_rep h _ _ vs' h2 r2, rfl⟩
end

theorem Alike.refl (x : T) : Alike x x := by
  cases x <;> simp only [Alike] <;> first | exact ⟨_, _, rfl, rfl⟩ | exact fun h => h

theorem mapv_id : ∀ (l : List (Nat × V)), mapv (renV idRen) l = l
  | [] => rfl
  | (k, x) :: l => by simp [mapv, renV_id, mapv_id l]
theorem mapw_id : ∀ (l : List W), l.map (renW idRen) = l
  | [] => rfl
  | x :: l => by simp [renW_id, mapw_id l]

/-- the ways stand -/
theorem Inv.move0 {w' : World} {ro' : Nat → Prop} {hv' : Nat → Value} {F' : Nat → List Nat} {G' : List Nat} (h : Inv nt w ro s tm args hv F G) {roots' : List (Nat × T)}
    (L : Leads idRen w s.roots hv w' roots' hv') (rep : ∀ r t, get roots' r = some t → Rep w' ro' t (hv' r) (F' r)) (nd : ∀ r t, get roots' r = some t → (F' r).Nodup)
    (dis : ∀ r t r' t', get roots' r = some t → get roots' r' = some t' → r ≠ r' → ∀ b ∈ F' r, b ∉ F' r') (nro : ∀ r t, get roots' r = some t → ∀ b ∈ F' r, ¬ ro' b) (gnd : G'.Nodup) (gdis : ∀ r t, get roots' r = some t → ∀ b ∈ F' r, b ∉ G') (gnro : ∀ b ∈ G', ¬ ro' b) (glt : ∀ b ∈ G', b < w'.heap.size) (rolt : ∀ b, ro' b → b < w'.heap.size) :
    Inv nt w' ro' { s with roots := roots' } tm args hv' F' G' := by
  have := Inv.move h L rep nd dis nro gnd gdis gnro glt rolt
  simpa only [mapv_id, mapw_id] using this

/-- a later world, in which nothing that is told has turned -/
theorem Inv.world {w' : World} (h : Inv nt w ro s tm args hv F G) (hz : w.heap.size ≤ w'.heap.size) (hb : ∀ k, k < w.heap.size → w'.heap[k]? = w.heap[k]?) : Inv nt w' ro s tm args hv F G := by
  have hs : ∀ r t, get s.roots r = some t → Same w w' (F r) ro := fun r t ht b hb' => hb b (hb'.elim (fun hm => Rep.lt _ _ _ (h.rep r t ht) b hm) (h.rolt b))
  have := Inv.move0 (roots' := s.roots) h (w' := w') (ro' := ro) (hv' := hv) (F' := F) (G' := G) (fun r p r' p' e => by
      simp only [idRen, Option.some.injEq, Prod.mk.injEq] at e
      obtain ⟨rfl, rfl⟩ := e
      refine ⟨fun h => ⟨h, rfl⟩, fun t' ht' => ⟨t', ht', fun x hx ho => ⟨x, hx, ?_, fun g hg => ?_⟩⟩⟩
      · exact Alike.refl x
      · rw [walk_same p t' x (hv r) (F r) (h.rep r t' ht') (hs r t' ht') hx]; exact hg)
    (fun r t ht => Rep.same (hs r t ht) (fun _ h => h) hz _ _ _ (h.rep r t ht) (fun _ h => h)) h.nd h.dis h.nro h.gnd h.gdis h.gnro (fun b hb' => Nat.lt_of_lt_of_le (h.glt b hb') hz) (fun b hb' => Nat.lt_of_lt_of_le (h.rolt b hb') hz)
  exact this

/-- in another world's order of tapes: nothing of it is told -/
theorem Inv.drew (h : Inv nt w ro s tm args hv F G) : Inv nt w.drew ro s tm args hv F G := h.world (Nat.le_refl _) (fun _ _ => rfl)

mutual
/-- no way leads to the root r -/
def noRefH (r : Nat) : H → Bool
  | .hs r' _ _ _ _ => r' != r
  | .hp r' _ _ => r' != r
  | .fn _ caps => noRefHL r caps
  | _ => true
def noRefHL (r : Nat) : List H → Bool
  | [] => true
  | g :: gs => noRefH r g && noRefHL r gs
end
def noRefW (r : Nat) : W → Bool
  | .one g => noRefH r g
  | .agg gs => noRefHL r gs
def noRefV (r : Nat) : V → Bool
  | .w x => noRefW r x
  | .tup xs => xs.all (noRefW r)
def noRefE (r : Nat) : List (Nat × V) → Bool
  | [] => true
  | (_, v) :: l => noRefV r v && noRefE r l
def fresh (s : St) (r : Nat) : Bool := (get s.roots r).isNone && noRefE r s.env && s.par.all (noRefW r)

theorem noRefE_get {r : Nat} : ∀ (l : List (Nat × V)) (i : Nat) (v : V), noRefE r l = true → get l i = some v → noRefV r v = true
  | [], i, v, _, h => by simp [get] at h
  | (k, u) :: l, i, v, hn, h => by
    simp only [noRefE, Bool.and_eq_true] at hn
    simp only [get] at h
    split at h
    · obtain rfl := Option.some.inj h; exact hn.1
    · exact noRefE_get l i v hn.2 h

section
variable {w' : World} {roots roots' : List (Nat × T)} {hv' : Nat → Value} {rr : Nat} (L : ∀ r, r ≠ rr → ∀ p, hv' r = hv r ∧ ∀ t', get roots' r = some t' → ∃ t, get roots r = some t ∧ ∀ x, sub t p = some x → isOb x = true → ∃ x', sub t' p = some x' ∧ Alike x x' ∧ ∀ h, walk w (hv r) p = some h → walk w' (hv' r) p = some h)
include L
mutual
theorem HRep_but : ∀ (g : H) (v : Value), noRefH rr g = true → HRep w roots hv g v → HRep w' roots' hv' g v
  | .int k n, v, hn, h => by simpa only [HRep] using h
  | .bool b, v, hn, h => by simpa only [HRep] using h
  | .str b, v, hn, h => by simpa only [HRep] using h
  | .nil, v, hn, h => by simpa only [HRep] using h
  | .nptr, v, hn, h => by simpa only [HRep] using h
  | .un, v, hn, h => by simp only [HRep]
  | .hs r p off st n, v, hn, h => by
    have := HRep_ren (f := fun r' p => if r' = rr then none else some (r', p)) (w' := w') (roots' := roots') (hv' := hv') (fun r p r' p' e => by
      dsimp only at e
      split at e
      · simp at e
      · rename_i hne
        simp only [Option.some.injEq, Prod.mk.injEq] at e
        obtain ⟨rfl, rfl⟩ := e
        exact ⟨fun h => ⟨h, (L r hne p).1⟩, (L r hne p).2⟩) _ v h
    simp only [noRefH, bne_iff_ne, ne_eq] at hn
    simpa [renH, hn] using this
  | .hp r p off, v, hn, h => by
    have := HRep_ren (f := fun r' p => if r' = rr then none else some (r', p)) (w' := w') (roots' := roots') (hv' := hv') (fun r p r' p' e => by
      dsimp only at e
      split at e
      · simp at e
      · rename_i hne
        simp only [Option.some.injEq, Prod.mk.injEq] at e
        obtain ⟨rfl, rfl⟩ := e
        exact ⟨fun h => ⟨h, (L r hne p).1⟩, (L r hne p).2⟩) _ v h
    simp only [noRefH, bne_iff_ne, ne_eq] at hn
    simpa [renH, hn] using this
  | .fn f caps, v, hn, h => by
    simp only [noRefH] at hn
    simp only [HRep] at h ⊢
    obtain ⟨vs, h1, h2⟩ := h
    exact ⟨vs, h1, HRepL_but caps vs hn h2⟩
theorem HRepL_but : ∀ (gs : List H) (vs : List Value), noRefHL rr gs = true → HRepL w roots hv gs vs → HRepL w' roots' hv' gs vs
  | [], vs, hn, h => by simpa only [HRepL] using h
  | g :: gs, vs, hn, h => by
    simp only [noRefHL, Bool.and_eq_true] at hn
    simp only [HRepL] at h ⊢
    obtain ⟨v, vs', rfl, h1, h2⟩ := h
    exact ⟨v, vs', rfl, HRep_but g v hn.1 h1, HRepL_but gs vs' hn.2 h2⟩
end
theorem WRep_but : ∀ (x : W) (v : Value), noRefW rr x = true → WRep w roots hv x v → WRep w' roots' hv' x v
  | .one g, v, hn, h => HRep_but L g v hn h
  | .agg gs, v, hn, ⟨vs, h1, h2⟩ => ⟨vs, h1, HRepL_but L gs vs hn h2⟩
theorem WRepL_but : ∀ (xs : List W) (vs : List Value), xs.all (noRefW rr) = true → WRepL w roots hv xs vs → WRepL w' roots' hv' xs vs
  | [], vs, hn, h => h
  | x :: xs, vs, hn, ⟨v, vs', h1, h2, h3⟩ => by
    simp only [List.all_cons, Bool.and_eq_true] at hn
    exact ⟨v, vs', h1, WRep_but L x v hn.1 h2, WRepL_but xs vs' hn.2 h3⟩
theorem VRep_but : ∀ (x : V) (v : Value), noRefV rr x = true → VRep w roots hv x v → VRep w' roots' hv' x v
  | .w x, v, hn, h => WRep_but L x v hn h
  | .tup xs, v, hn, ⟨vs, h1, h2⟩ => ⟨vs, h1, WRepL_but L xs vs hn h2⟩
end

/-- a tree that was in the hand becomes a root -/
theorem Inv.new (h : Inv nt w ro s tm args hv F G) {r : Nat} {t : T} {v : Value} {Ft G' : List Nat} (hG : ∀ b, b ∈ Ft ∨ b ∈ G' → b ∈ G) (hd : (Ft ++ G').Nodup) (hf : fresh s r = true) (ht : Rep w ro t v Ft) :
    Inv nt w ro { s with roots := set s.roots r t } tm args (fun x => if x = r then v else hv x) (fun x => if x = r then Ft else F x) G' := by
  simp only [fresh, Bool.and_eq_true, Option.isNone_iff_eq_none] at hf
  obtain ⟨⟨hf1, hf2⟩, hf3⟩ := hf
  have L : ∀ r', r' ≠ r → ∀ p, (fun x => if x = r then v else hv x) r' = hv r' ∧ ∀ t', get (set s.roots r t) r' = some t' → ∃ t, get s.roots r' = some t ∧ ∀ x, sub t p = some x → isOb x = true → ∃ x', sub t' p = some x' ∧ Alike x x' ∧ ∀ h, walk w (hv r') p = some h → walk w ((fun x => if x = r then v else hv x) r') p = some h := by
    intro r' hne p
    refine ⟨by simp [hne], fun t' ht' => ?_⟩
    rw [get_set, if_neg (Ne.symm hne)] at ht'
    refine ⟨t', ht', fun x hx ho => ⟨x, hx, ?_, fun g hg => by simpa [hne] using hg⟩⟩
    exact Alike.refl x
  simp only [List.nodup_append] at hd
  constructor
  · intro r' t' ht'
    rw [get_set] at ht'
    by_cases e : r = r'
    · subst e; simp only [if_true, Option.some.injEq] at ht' ⊢; subst ht'; exact ht
    · simp only [e, if_false, Ne.symm e] at ht' ⊢; exact h.rep r' t' ht'
  · intro r' t' ht'
    rw [get_set] at ht'
    by_cases e : r = r'
    · subst e; simp only [if_true]; exact hd.1
    · simp only [e, if_false, Ne.symm e] at ht' ⊢; exact h.nd r' t' ht'
  · intro r1 t1 r2 t2 h1 h2 hne b hb
    rw [get_set] at h1 h2
    by_cases e1 : r = r1
    · subst e1
      simp only [if_true] at hb
      simp only [hne, if_false, Ne.symm hne] at h2 ⊢
      exact fun hb2 => h.gdis r2 t2 h2 b hb2 (hG b (.inl hb))
    · simp only [e1, if_false, Ne.symm e1] at h1 hb
      by_cases e2 : r = r2
      · subst e2; simp only [if_true]
        exact fun hb2 => h.gdis r1 t1 h1 b hb (hG b (.inl hb2))
      · simp only [e2, if_false, Ne.symm e2] at h2 ⊢; exact h.dis r1 t1 r2 t2 h1 h2 hne b hb
  · intro r' t' ht' b hb
    rw [get_set] at ht'
    by_cases e : r = r'
    · subst e; simp only [if_true] at hb; exact h.gnro b (hG b (.inl hb))
    · simp only [e, if_false, Ne.symm e] at ht' hb; exact h.nro r' t' ht' b hb
  · exact hd.2.1
  · intro r' t' ht' b hb
    rw [get_set] at ht'
    by_cases e : r = r'
    · subst e; simp only [if_true] at hb; exact fun hb2 => hd.2.2 b hb b hb2 rfl
    · simp only [e, if_false, Ne.symm e] at ht' hb; exact fun hb2 => h.gdis r' t' ht' b hb (hG b (.inr hb2))
  · exact fun b hb => h.gnro b (hG b (.inr hb))
  · exact fun b hb => h.glt b (hG b (.inr hb))
  · exact h.rolt
  · exact h.sz
  · intro i u hu
    obtain ⟨x, h1, h2⟩ := h.env i u hu
    exact ⟨x, h1, VRep_but L u x (noRefE_get _ _ _ hf2 hu) h2⟩
  · exact WRepL_but L _ _ hf3 h.par
end
end Go.Proofs.YtplhecjngmkngaaT

/- Trees: what is taken out of a root. No condition. -/
set_option linter.unusedVariables false
set_option linter.unusedSimpArgs false
set_option linter.unusedSectionVars false
namespace Go.Proofs.YtplhecjngmkngaaT
open Go

/-- the ways at and behind q are forgotten -/
def killR (r : Nat) (q : List Nat) : Ren := fun r' p => if r' = r ∧ q.isPrefixOf p = true then none else some (r', p)

theorem sub_upd : ∀ (q p : List Nat) (t t'' t2 x : T), upd t'' t q = some t2 → q.isPrefixOf p = false → sub t p = some x → ∃ x', sub t2 p = some x' ∧ Alike x x'
  | [], p, t, t'', t2, x, h, hp, hx => by simp at hp
  | j :: q, [], .sl own st n cs, t'', t2, x, h, hp, hx => by
    simp only [sub, Option.some.injEq] at hx; subst hx
    cases own with
    | false => simp [upd] at h
    | true =>
      simp only [upd] at h
      obtain ⟨c, hc, h⟩ := Option.bind_eq_some_iff.1 h
      obtain ⟨c2, h2, rfl⟩ := Option.map_eq_some_iff.1 h
      exact ⟨_, rfl, _, _, rfl, by simp⟩
  | j :: q, [], .bx own cs, t'', t2, x, h, hp, hx => by
    simp only [sub, Option.some.injEq] at hx; subst hx
    cases own with
    | false => simp [upd] at h
    | true =>
      simp only [upd] at h
      obtain ⟨c, hc, h⟩ := Option.bind_eq_some_iff.1 h
      obtain ⟨c2, h2, rfl⟩ := Option.map_eq_some_iff.1 h
      exact ⟨_, rfl, fun _ => rfl⟩
  | j :: q, i :: p, .sl own st n cs, t'', t2, x, h, hp, hx => by
    cases own with
    | false => simp [upd] at h
    | true =>
      simp only [upd] at h
      obtain ⟨c, hc, h⟩ := Option.bind_eq_some_iff.1 h
      obtain ⟨c2, h2, rfl⟩ := Option.map_eq_some_iff.1 h
      simp only [sub] at hx ⊢
      obtain ⟨d, hd, hx⟩ := Option.bind_eq_some_iff.1 hx
      by_cases e : j = i
      · subst e
        rw [hc] at hd; obtain rfl := Option.some.inj hd
        obtain ⟨x', h3, h4⟩ := sub_upd q p c t'' c2 x h2 (by simpa using hp) hx
        have hj : j < cs.length := (List.getElem?_eq_some_iff.1 hc).1
        exact ⟨x', by simp [hj, h3], h4⟩
      · exact ⟨x, by simp [e, hd, hx], Alike.refl x⟩
  | j :: q, i :: p, .bx own cs, t'', t2, x, h, hp, hx => by
    cases own with
    | false => simp [upd] at h
    | true =>
      simp only [upd] at h
      obtain ⟨c, hc, h⟩ := Option.bind_eq_some_iff.1 h
      obtain ⟨c2, h2, rfl⟩ := Option.map_eq_some_iff.1 h
      simp only [sub] at hx ⊢
      obtain ⟨d, hd, hx⟩ := Option.bind_eq_some_iff.1 hx
      by_cases e : j = i
      · subst e
        rw [hc] at hd; obtain rfl := Option.some.inj hd
        obtain ⟨x', h3, h4⟩ := sub_upd q p c t'' c2 x h2 (by simpa using hp) hx
        have hj : j < cs.length := (List.getElem?_eq_some_iff.1 hc).1
        exact ⟨x', by simp [hj, h3], h4⟩
      · exact ⟨x, by simp [e, hd, hx], Alike.refl x⟩
  | _ :: _, _, .int .., _, _, _, h, _, _ => by simp [upd] at h
  | _ :: _, _, .bool .., _, _, _, h, _, _ => by simp [upd] at h
  | _ :: _, _, .str .., _, _, _, h, _, _ => by simp [upd] at h
  | _ :: _, _, .nptr, _, _, _, h, _, _ => by simp [upd] at h
  | _ :: _, _, .fn .., _, _, _, h, _, _ => by simp [upd] at h
  | _ :: _, _, .hole, _, _, _, h, _, _ => by simp [upd] at h

theorem upd_some : ∀ (q : List Nat) (t a b t2 : T), upd a t q = some t2 → (upd b t q).isSome
  | [], t, a, b, t2, h => by simp [upd]
  | j :: q, .sl own st n cs, a, b, t2, h => by
    cases own with
    | false => simp [upd] at h
    | true =>
      simp only [upd] at h
      obtain ⟨c, hc, h⟩ := Option.bind_eq_some_iff.1 h
      obtain ⟨c2, h2, rfl⟩ := Option.map_eq_some_iff.1 h
      have := upd_some q c a b c2 h2
      simpa [upd, hc] using this
  | j :: q, .bx own cs, a, b, t2, h => by
    cases own with
    | false => simp [upd] at h
    | true =>
      simp only [upd] at h
      obtain ⟨c, hc, h⟩ := Option.bind_eq_some_iff.1 h
      obtain ⟨c2, h2, rfl⟩ := Option.map_eq_some_iff.1 h
      have := upd_some q c a b c2 h2
      simpa [upd, hc] using this
  | _ :: _, .int .., _, _, _, h => by simp [upd] at h
  | _ :: _, .bool .., _, _, _, h => by simp [upd] at h
  | _ :: _, .str .., _, _, _, h => by simp [upd] at h
  | _ :: _, .nptr, _, _, _, h => by simp [upd] at h
  | _ :: _, .fn .., _, _, _, h => by simp [upd] at h
  | _ :: _, .hole, _, _, _, h => by simp [upd] at h

def St.kill (s : St) (r : Nat) (q : List Nat) (roots : List (Nat × T)) : St := { env := mapv (renV (killR r q)) s.env, roots := roots, par := s.par.map (renW (killR r q)) }

/-- a tree is taken out of what is one's own -/
inductive Take (s : St) : H → T → St → Ren → Prop
  | root {r off st n n0 cs} : get s.roots r = some (.sl true st n0 cs) → Take s (.hs r [] off st n) (.sl true st n ((cs.drop off).take (n * st))) { s with roots := del s.roots r } idRen
  | path {r p j off st n n0 cs t t2} : get s.roots r = some t → sub t (p ++ [j]) = some (.sl true st n0 cs) → upd .hole t (p ++ [j]) = some t2 →
      Take s (.hs r (p ++ [j]) off st n) (.sl true st n ((cs.drop off).take (n * st))) (s.kill r (p ++ [j]) (set s.roots r t2)) (killR r (p ++ [j]))
  | rootBx {r cs} : get s.roots r = some (.bx true cs) → Take s (.hp r [] 0) (.bx true cs) { s with roots := del s.roots r } idRen

section
variable {P : Program} {nt : Nat} {w : World} {ro : Nat → Prop} {s : St} {tm : Array Value} {args : List Value} {hv : Nat → Value} {F : Nat → List Nat} {G : List Nat}

theorem Inv.del (h : Inv nt w ro s tm args hv F G) (r : Nat) (t : T) (hr : get s.roots r = some t) (Ft : List Nat) (hFt : ∀ b ∈ Ft, b ∈ F r) (hnd : Ft.Nodup) : Inv nt w ro { s with roots := del s.roots r } tm args hv F (Ft ++ G) := by
  have hget : ∀ r' t', get (Go.Proofs.YtplhecjngmkngaaT.del s.roots r) r' = some t' → r ≠ r' ∧ get s.roots r' = some t' := by
    intro r' t' h'
    rw [get_del] at h'
    split at h'
    · simp at h'
    · exact ⟨‹_›, h'⟩
  refine Inv.move0 h (fun r1 p r2 p' e => ?_) (fun r' t' h' => h.rep r' t' (hget _ _ h').2) (fun r' t' h' => h.nd r' t' (hget _ _ h').2) (fun r1 t1 r2 t2 h1 h2 => h.dis r1 t1 r2 t2 (hget _ _ h1).2 (hget _ _ h2).2) (fun r' t' h' => h.nro r' t' (hget _ _ h').2) ?_ ?_ ?_ ?_ h.rolt
  · simp only [idRen, Option.some.injEq, Prod.mk.injEq] at e
    obtain ⟨rfl, rfl⟩ := e
    exact ⟨fun h => ⟨h, rfl⟩, fun t' ht' => ⟨t', (hget _ _ ht').2, fun x hx ho => ⟨x, hx, Alike.refl x, fun g hg => hg⟩⟩⟩
  · rw [List.nodup_append]
    exact ⟨hnd, h.gnd, fun b hb c hc e => h.gdis r t hr b (hFt b hb) (e ▸ hc)⟩
  · intro r' t' h' b hb hbb
    rcases List.mem_append.1 hbb with hbb | hbb
    · exact h.dis r t r' t' hr (hget _ _ h').2 (hget _ _ h').1 b (hFt b hbb) hb
    · exact h.gdis r' t' (hget _ _ h').2 b hb hbb
  · intro b hb
    rcases List.mem_append.1 hb with hb | hb
    · exact h.nro r t hr b (hFt b hb)
    · exact h.gnro b hb
  · intro b hb
    rcases List.mem_append.1 hb with hb | hb
    · exact Rep.lt _ _ _ (h.rep r t hr) b (hFt b hb)
    · exact h.glt b hb

/-- a slice of an own object, whole or a part, is a tree -/
theorem hs_own (h : Inv nt w ro s tm args hv F G) {r : Nat} {p : List Nat} {off st n n0 : Nat} {x : Value} {t : T} {cs : List T} (ht : get s.roots r = some t) (hs : sub t p = some (.sl true st n0 cs)) (hx : HRep w s.roots hv (.hs r p off st n) x) :
    ∃ Ft Fo, Rep w ro (.sl true st n ((cs.drop off).take (n * st))) x Ft ∧ Ft.Nodup ∧ (∀ b ∈ Ft, b ∈ Fo) ∧ ∃ v' pre post, walk w (hv r) p = some v' ∧ F r = pre ++ Fo ++ post ∧ Rep w ro (.sl true st n0 cs) v' Fo ∧ ((upd (.sl true st n0 cs) t p).isSome → ∀ t'' F'', Rep w ro t'' v' F'' → ∃ t2, upd t'' t p = some t2 ∧ Rep w ro t2 (hv r) (pre ++ F'' ++ post)) := by
  obtain ⟨v', pre, F', post, e1, e2, e3, e5⟩ := Rep.sub p t _ (hv r) (F r) (h.rep r t ht) hs
  simp only [HRep] at hx
  obtain ⟨own', n1, cs', hh, q1, q2, q3, q4⟩ := hx.2 t ht
  rw [hs] at q1
  simp only [Option.some.injEq, T.sl.injEq] at q1
  obtain ⟨rfl, _, rfl, rfl⟩ := q1
  rw [e1] at q2; obtain rfl := Option.some.inj q2
  have e2' := e2
  have hempty : n = 0 → (∃ A, x = .slice A 0 0) → Rep w ro (.sl true st n ((cs.drop off).take (n * st))) x [] := by
    rintro rfl ⟨A, rfl⟩
    simp only [Rep]
    exact .inl ⟨trivial, by simp, trivial, A, rfl⟩
  rcases q4 with ⟨q4, q5⟩ | ⟨b, o, n2, cap0, cap, q5, q6, q7, q8, q9⟩
  · exact ⟨[], F', hempty q4 q5, List.nodup_nil, by simp, v', pre, post, e1, e3, e2', e5⟩
  simp only [Rep] at e2
  rcases e2 with ⟨_, rfl, rfl, A, e4⟩ | ⟨b', o', cap', F'', k1, k2, k3, k4, k5⟩
  · rw [q5] at e4
    simp only [Value.slice.injEq] at e4
    obtain ⟨_, _, rfl⟩ := e4
    have hc : cap * st = 0 := by omega
    rcases Nat.mul_eq_zero.1 hc with rfl | h0
    · exact ⟨[], [], hempty (by omega) ⟨_, by rw [q6]; congr; omega⟩, List.nodup_nil, by simp, v', pre, post, e1, e3, e2', e5⟩
    · omega
  rw [q5] at k1
  simp only [Value.slice.injEq, Option.some.injEq, Addr.mk.injEq, and_true] at k1
  obtain ⟨⟨rfl, rfl⟩, rfl, rfl⟩ := k1
  obtain ⟨F1, F2, rfl, d1⟩ := RepL.drop off cs o F'' k5
  obtain ⟨F3, F4, rfl, d2⟩ := RepL.take (n * st) _ _ _ d1
  have hnd : F'.Nodup := by
    have := h.nd r t ht
    rw [e3] at this
    simp only [List.nodup_append] at this
    exact this.1.2.1
  have k4' := k4
  simp only [Blk, if_true] at k4
  obtain ⟨a1, rfl, arr, e, fr, a2, a3, a4⟩ := k4
  refine ⟨b :: F3, _, ?_, ?_, ?_, v', pre, post, e1, e3, e2', e5⟩
  · simp only [Rep]
    refine .inr ⟨b, o + off, cap, F3, q6, ⟨q7, q9⟩, by simp; omega, ?_, d2⟩
    simp only [Blk, if_true]
    exact ⟨a1, trivial, arr, e, fr, a2, by omega, a4⟩
  · simp only [List.nodup_cons, List.mem_append, not_or, List.nodup_append] at hnd ⊢
    exact ⟨hnd.1.2.1, hnd.2.2.1.1⟩
  · intro y hy
    simp only [List.mem_cons, List.mem_append] at hy ⊢
    exact hy.imp id (fun hy => .inr (.inl hy))

theorem Leads.del (r : Nat) : Leads idRen w s.roots hv w (Go.Proofs.YtplhecjngmkngaaT.del s.roots r) hv := by
  intro r1 p r2 p' e
  simp only [idRen, Option.some.injEq, Prod.mk.injEq] at e
  obtain ⟨rfl, rfl⟩ := e
  refine ⟨fun h => ⟨h, rfl⟩, fun t' ht' => ?_⟩
  rw [get_del] at ht'
  split at ht'
  · simp at ht'
  · exact ⟨t', ht', fun x hx ho => ⟨x, hx, Alike.refl x, fun g hg => hg⟩⟩

theorem take_ok (h : Inv nt w ro s tm args hv F G) {g : H} {t : T} {s' : St} {v : Value} {f : Ren} (ht : Take s g t s' f) (hg : HRep w s.roots hv g v) :
    ∃ F' Ft, Inv nt w ro s' tm args hv F' (Ft ++ G) ∧ Rep w ro t v Ft ∧ (∀ r b, b ∈ F' r → b ∈ F r) ∧ (∀ b ∈ Ft, ∃ r t, get s.roots r = some t ∧ b ∈ F r) ∧ Leads f w s.roots hv w s'.roots hv := by
  cases ht with
  | root e1 =>
    obtain ⟨Ft, Fo, k1, k2, k3, v', pre, post, k4, k5, k6, _⟩ := hs_own h e1 rfl hg
    have hF : ∀ b ∈ Ft, b ∈ F _ := fun b hb => by rw [k5]; simp [k3 b hb]
    exact ⟨F, Ft, h.del _ _ e1 Ft hF k2, k1, fun _ _ hb => hb, fun b hb => ⟨_, _, e1, hF b hb⟩, Leads.del _⟩
  | rootBx e1 =>
    rename_i r cs
    have hrep := h.rep r _ e1
    refine ⟨F, F r, h.del _ _ e1 (F r) (fun _ hb => hb) (h.nd r _ e1), ?_, fun _ _ hb => hb, fun b hb => ⟨_, _, e1, hb⟩, Leads.del _⟩
    simp only [HRep] at hg
    obtain ⟨t', hh, b, o, ⟨q1, _⟩, q2, q3, rfl⟩ := hg.2 _ e1
    simp only [walk, Option.some.injEq] at q2
    subst q2
    have hr := hrep
    simp only [Rep] at hr
    obtain ⟨b', o', F', hr1, hr2, hr3⟩ := hr
    rw [hr1] at hrep q3
    simp only [adr, Option.some.injEq, Prod.mk.injEq] at q3
    obtain ⟨rfl, rfl⟩ := q3
    exact hrep
  | path e1 e2 e3 =>
    rename_i r p j off st n n0 cs t t2
    obtain ⟨Ft, Fo, k1, k2, k3, v', pre, post, k4, k5, k6, k7⟩ := hs_own h e1 e2 hg
    obtain ⟨t3, u1, u2⟩ := k7 (upd_some _ _ _ _ _ e3) .hole [] (by simp [Rep])
    rw [e3] at u1; obtain rfl := Option.some.inj u1
    have hnd := h.nd r t e1
    rw [k5] at hnd
    simp only [List.nodup_append, List.mem_append] at hnd
    have hFt : ∀ b ∈ Ft, b ∈ F r := fun b hb => by rw [k5]; simp [k3 b hb]
    have hrem : ∀ b ∈ pre ++ [] ++ post, b ∈ F r := fun b hb => by
      rw [k5]; simp only [List.append_nil, List.mem_append] at hb ⊢; exact hb.elim (fun h => .inl (.inl h)) .inr
    have hdis : ∀ b ∈ pre ++ [] ++ post, b ∉ Ft := fun b hb hbt => by
      simp only [List.append_nil, List.mem_append] at hb
      rcases hb with hb | hb
      · exact hnd.1.2.2 b hb b (k3 b hbt) rfl
      · exact hnd.2.2 b (.inr (k3 b hbt)) b hb rfl
    have hget : ∀ r' t', get (set s.roots r t2) r' = some t' → (r' = r ∧ t' = t2) ∨ (r' ≠ r ∧ get s.roots r' = some t') := by
      intro r' t' h'
      rw [get_set] at h'
      split at h'
      · simp only [Option.some.injEq] at h'; exact .inl ⟨(‹r = r'›).symm, h'.symm⟩
      · exact .inr ⟨Ne.symm ‹_›, h'⟩
    have L : Leads (killR r (p ++ [j])) w s.roots hv w (set s.roots r t2) hv := by
      intro r1 q r2 q' e
      simp only [killR] at e
      split at e
      · simp at e
      · rename_i hq
        simp only [Option.some.injEq, Prod.mk.injEq] at e
        obtain ⟨rfl, rfl⟩ := e
        refine ⟨fun h => ⟨h, rfl⟩, fun t' ht' => ?_⟩
        rcases hget _ _ ht' with ⟨rfl, rfl⟩ | ⟨hne, ht'⟩
        · refine ⟨t, e1, fun x hx ho => ?_⟩
          have hq2 : (p ++ [j]).isPrefixOf q = false := by
            cases hh : (p ++ [j]).isPrefixOf q
            · rfl
            · exact absurd ⟨rfl, hh⟩ hq
          obtain ⟨x', e4, e5⟩ := sub_upd _ q t _ _ x e3 hq2 hx
          exact ⟨x', e4, e5, fun g hg => hg⟩
        · exact ⟨t', ht', fun x hx ho => ⟨x, hx, Alike.refl x, fun g hg => hg⟩⟩
    refine ⟨fun x => if x = r then pre ++ [] ++ post else F x, Ft, ?_, k1, fun x b hb => ?_, fun b hb => ⟨_, _, e1, hFt b hb⟩, L⟩
    rotate_left
    · dsimp only at hb; split at hb
      · subst_vars; exact hrem b hb
      · exact hb
    refine Inv.move (ro' := ro) (hv' := hv) (F' := fun x => if x = r then pre ++ [] ++ post else F x) (G' := Ft ++ G) h (f := killR r (p ++ [j])) L (fun r' t' h' => ?_) (fun r' t' h' => ?_) (fun r1 t1 r3 t3 h1 h2 hne b hb => ?_) (fun r' t' h' b hb => ?_) ?_ (fun r' t' h' b hb => ?_) ?_ ?_ h.rolt
    · rcases hget _ _ h' with ⟨rfl, rfl⟩ | ⟨hne, h'⟩
      · simpa using u2
      · simpa [hne] using h.rep r' t' h'
    · rcases hget _ _ h' with ⟨rfl, rfl⟩ | ⟨hne, h'⟩
      · simp only [if_true, List.append_nil, List.nodup_append]
        exact ⟨hnd.1.1, hnd.2.1, fun x hx y hy => hnd.2.2 x (.inl hx) y hy⟩
      · simpa [hne] using h.nd r' t' h'
    · rcases hget _ _ h1 with ⟨rfl, rfl⟩ | ⟨hn1, h1⟩
      · rcases hget _ _ h2 with ⟨h2a, _⟩ | ⟨hn2, h2⟩
        · exact absurd h2a.symm hne
        · simp only [if_true] at hb
          simp only [hn2, if_false]
          exact h.dis _ t r3 t3 e1 h2 hne b (hrem b hb)
      · simp only [hn1, if_false] at hb
        rcases hget _ _ h2 with ⟨h2a, _⟩ | ⟨hn2, h2⟩
        · simp only [h2a, if_true]
          exact fun hb2 => h.dis r1 t1 r t h1 e1 hn1 b hb (hrem b hb2)
        · simp only [hn2, if_false]
          exact h.dis r1 t1 r3 t3 h1 h2 hne b hb
    · rcases hget _ _ h' with ⟨rfl, rfl⟩ | ⟨hne, h'⟩
      · simp only [if_true] at hb; exact h.nro _ t e1 b (hrem b hb)
      · simp only [hne, if_false] at hb; exact h.nro r' t' h' b hb
    · rw [List.nodup_append]
      exact ⟨k2, h.gnd, fun b hb c hc e => h.gdis r t e1 b (hFt b hb) (e ▸ hc)⟩
    · rw [List.mem_append, not_or]
      rcases hget _ _ h' with ⟨rfl, rfl⟩ | ⟨hne, h'⟩
      · simp only [if_true] at hb; exact ⟨hdis b hb, h.gdis _ t e1 b (hrem b hb)⟩
      · simp only [hne, if_false] at hb; exact ⟨fun hbt => h.dis r' t' r t h' e1 hne b hb (hFt b hbt), h.gdis r' t' h' b hb⟩
    · intro b hb
      rcases List.mem_append.1 hb with hb | hb
      · exact h.nro r t e1 b (hFt b hb)
      · exact h.gnro b hb
    · intro b hb
      rcases List.mem_append.1 hb with hb | hb
      · exact Rep.lt _ _ _ (h.rep r t e1) b (hFt b hb)
      · exact h.glt b hb

/-- the hand, told in another order, or less of it -/
theorem Inv.hand (h : Inv nt w ro s tm args hv F G) {G' : List Nat} (hs : ∀ x ∈ G', x ∈ G) (hn : G'.Nodup) : Inv nt w ro s tm args hv F G' :=
  { h with gnd := hn, gdis := fun r t ht b hb hb' => h.gdis r t ht b hb (hs b hb'), gnro := fun b hb => h.gnro b (hs b hb), glt := fun b hb => h.glt b (hs b hb) }
/-- a new block comes into the hand -/
theorem Inv.block (h : Inv nt w ro s tm args hv F G) (b : Nat) {w' : World} (hb : w.heap.size ≤ b) (hb' : b < w'.heap.size) (hz : w.heap.size ≤ w'.heap.size) (hs : ∀ k, k < w.heap.size → w'.heap[k]? = w.heap[k]?) : Inv nt w' ro s tm args hv F (b :: G) := by
  have h' := h.world hz hs
  refine { h' with gnd := ?_, gdis := ?_, gnro := ?_, glt := ?_ }
  · rw [List.nodup_cons]; exact ⟨fun hm => by have := h.glt b hm; omega, h.gnd⟩
  · intro r t ht x hx hx'
    rcases List.mem_cons.1 hx' with rfl | hx'
    · have := Rep.lt _ _ _ (h.rep r t ht) x hx; omega
    · exact h.gdis r t ht x hx hx'
  · intro x hx hr
    rcases List.mem_cons.1 hx with rfl | hx
    · have := h.rolt x hr; omega
    · exact h.gnro x hx hr
  · intro x hx
    rcases List.mem_cons.1 hx with rfl | hx
    · exact hb'
    · exact h'.glt x hx

/-- cells put somewhere: each is told as it is, or taken -/
inductive Grab : St → List H → List T → St → Prop
  | nil (z : St) : Grab z [] [] z
  | cell {z : St} {g t gs ts} {z' : St} : CellT z.roots g t → Grab z gs ts z' → Grab z (g :: gs) (t :: ts) z'
  | take {z : St} {g t gs ts} {z1 z' : St} {f : Ren} : Take z g t z1 f → Grab z1 (renHL f gs) ts z' → Grab z (g :: gs) (t :: ts) z'

theorem take_back {z z1 : St} {g : H} {x : T} {f : Ren} (h1 : Take z g x z1 f) {F F1 : Nat → List Nat} (k3 : ∀ r b, b ∈ F1 r → b ∈ F r) : ∀ r t b, get z1.roots r = some t → b ∈ F1 r → ∃ r t, get z.roots r = some t ∧ b ∈ F r := by
  intro r t b ht hb
  cases h1 with
  | root e1 =>
    rw [get_del] at ht; split at ht
    · simp at ht
    · exact ⟨r, t, ht, k3 r b hb⟩
  | rootBx e1 =>
    rw [get_del] at ht; split at ht
    · simp at ht
    · exact ⟨r, t, ht, k3 r b hb⟩
  | path e1 e2 e3 =>
    simp only [St.kill] at ht
    rw [get_set] at ht; split at ht
    · subst_vars; exact ⟨_, _, e1, k3 _ b hb⟩
    · exact ⟨r, t, ht, k3 r b hb⟩

theorem grab_ok : ∀ {s s' : St} {gs : List H} {ts : List T}, Grab s gs ts s' → ∀ {F : Nat → List Nat} {G : List Nat} {vs : List Value}, Inv nt w ro s tm args hv F G → HRepL w s.roots hv gs vs →
    ∃ F' Ft, Inv nt w ro s' tm args hv F' (Ft ++ G) ∧ RepV w ro ts vs Ft ∧ (∀ r t b, get s'.roots r = some t → b ∈ F' r → ∃ r t, get s.roots r = some t ∧ b ∈ F r) ∧ (∀ b ∈ Ft, ∃ r t, get s.roots r = some t ∧ b ∈ F r) := by
  intro s s' gs ts hg
  induction hg with
  | nil =>
    intro F G vs h hr
    simp only [HRepL] at hr; subst hr
    exact ⟨F, [], by simpa using h, by simp [RepV], fun r t b ht hb => ⟨r, t, ht, hb⟩, by simp⟩
  | cell h1 h2 ih =>
    intro F G vs h hr
    simp only [HRepL] at hr
    obtain ⟨v, vs', rfl, r1, r2⟩ := hr
    obtain ⟨F', Ft, k1, k2, k3, k4⟩ := ih h r2
    refine ⟨F', Ft, k1, ?_, k3, k4⟩
    simp only [RepV]
    exact ⟨v, vs', [], Ft, rfl, cellT_rep h _ _ v h1 r1, k2, rfl⟩
  | take h1 h2 ih =>
    intro F G vs h hr
    simp only [HRepL] at hr
    obtain ⟨v, vs', rfl, r1, r2⟩ := hr
    obtain ⟨F1, Ft1, k1, k2, k3, k4, k5⟩ := take_ok h h1 r1
    obtain ⟨F', Ft, m1, m2, m3, m4⟩ := ih k1 (HRepL_ren k5 _ _ r2)
    have back := fun r t b (ht : get _ r = some t) (hb : b ∈ F1 r) => take_back h1 k3 r t b ht hb
    refine ⟨F', Ft1 ++ Ft, ?_, ?_, fun r t b ht hb => ?_, fun b hb => ?_⟩
    · refine m1.hand (fun x hx => by simp only [List.mem_append] at hx ⊢; rcases hx with (hx | hx) | hx <;> simp [hx]) ?_
      rw [List.append_assoc]
      exact (List.perm_append_comm_assoc Ft Ft1 G).nodup_iff.1 m1.gnd
    · simp only [RepV]
      exact ⟨v, vs', Ft1, Ft, rfl, k2, m2, rfl⟩
    · obtain ⟨r', t', e1, e2⟩ := m3 r t b ht hb
      exact back r' t' b e1 e2
    · rcases List.mem_append.1 hb with hb | hb
      · exact k4 b hb
      · obtain ⟨r', t', e1, e2⟩ := m4 b hb
        exact back r' t' b e1 e2
end
end Go.Proofs.YtplhecjngmkngaaT

/- Trees: operations that make new memory: what they are on states, and that they run so. No condition. -/
set_option linter.unusedVariables false
set_option linter.unusedSimpArgs false
set_option linter.unusedSectionVars false
namespace Go.Proofs.YtplhecjngmkngaaT
open Go

def St.new (s : St) (r : Nat) (t : T) : St := { s with roots := set s.roots r t }

/-- a struct literal's cells, or a slice literal's: parts put at places -/
def litH (st len : Nat) (zero : List H) : List (Nat × W) → Option (List H)
  | ps => fillH ((List.replicate len zero).flatten) (ps.map fun (i, v) => (i * st, st, v))

theorem RepL.ofV {w w' : World} {ro : Nat → Prop} {b : Nat} (hz : w.heap.size ≤ w'.heap.size) : ∀ (ts : List T) (vs : List Value) (F : List Nat) (o : Nat), RepV w ro ts vs F → (∀ j v, vs[j]? = some v → w'.cell? ⟨b, o + j, none⟩ = some v) → Same w w' F ro → RepL w' ro b o ts F
  | [], vs, F, o, h, _, _ => by simp only [RepV] at h; simp only [RepL]; exact h.2
  | t :: ts, vs, F, o, h, hc, hs => by
    simp only [RepV] at h
    obtain ⟨v, vs', F1, F2, rfl, h2, h3, rfl⟩ := h
    simp only [RepL]
    exact ⟨v, F1, F2, hc 0 v rfl, Rep.same hs (fun _ h => h) hz _ _ _ h2 (fun x hx => by simp [hx]),
      RepL.ofV hz ts vs' F2 (o + 1) h3 (fun j u hj => by have := hc (j + 1) u (by simpa using hj); rwa [show o + (j + 1) = o + 1 + j by omega] at this) (hs.mono (fun x hx => by simp [hx])), rfl⟩
theorem RepV.len {w : World} {ro : Nat → Prop} : ∀ (ts : List T) (vs : List Value) (F : List Nat), RepV w ro ts vs F → vs.length = ts.length
  | [], vs, F, h => by simp only [RepV] at h; simp [h.1]
  | t :: ts, vs, F, h => by
    simp only [RepV] at h
    obtain ⟨v, vs', F1, F2, rfl, h2, h3, rfl⟩ := h
    simp [RepV.len ts vs' F2 h3]
theorem RepV.append {w : World} {ro : Nat → Prop} : ∀ (ts us : List T) (vs ws : List Value) (F G : List Nat), RepV w ro ts vs F → RepV w ro us ws G → RepV w ro (ts ++ us) (vs ++ ws) (F ++ G)
  | [], us, vs, ws, F, G, h, k => by simp only [RepV] at h; obtain ⟨rfl, rfl⟩ := h; simpa using k
  | t :: ts, us, vs, ws, F, G, h, k => by
    simp only [RepV] at h
    obtain ⟨v, vs', F1, F2, rfl, h2, h3, rfl⟩ := h
    simp only [List.cons_append, RepV]
    exact ⟨v, _, F1, F2 ++ G, rfl, h2, RepV.append ts us vs' ws F2 G h3 k, by simp⟩
theorem RepV.reps {w : World} {ro : Nat → Prop} {ts : List T} {vs : List Value} (h : RepV w ro ts vs []) : ∀ n, RepV w ro (List.replicate n ts).flatten (List.replicate n vs).flatten []
  | 0 => by simp [RepV]
  | n + 1 => by simpa [List.replicate_succ] using RepV.append _ _ _ _ _ _ h (RepV.reps h n)
theorem HRepL_reps {w : World} {roots : List (Nat × T)} {hv : Nat → Value} {ts : List H} {vs : List Value} (h : HRepL w roots hv ts vs) : ∀ n, HRepL w roots hv (List.replicate n ts).flatten (List.replicate n vs).flatten
  | 0 => by simp [HRepL]
  | n + 1 => by simpa [List.replicate_succ] using HRepL_append _ _ _ _ h (HRepL_reps h n)

section
variable {P : Program} {nt : Nat} {w : World} {ro : Nat → Prop} {s : St} {tm : Array Value} {args : List Value} {hv : Nat → Value} {F : Nat → List Nat} {G : List Nat}

/-- the block that has just been made becomes a root -/
theorem Inv.made (h : Inv nt w ro s tm args hv F G) {w' : World} {r b : Nat} {t : T} {v : Value} {Ft G0 : List Nat} (hb : w.heap.size ≤ b) (hb' : b < w'.heap.size) (hz : w.heap.size ≤ w'.heap.size) (hs : ∀ k, k < w.heap.size → w'.heap[k]? = w.heap[k]?) (hG : G = Ft ++ G0) (hf : fresh s r = true) (ht : Rep w' ro t v (b :: Ft)) :
    Inv nt w' ro (s.new r t) tm args (fun x => if x = r then v else hv x) (fun x => if x = r then b :: Ft else F x) G0 := by
  subst hG
  have h1 := h.block b hb hb' hz hs
  exact h1.new (Ft := b :: Ft) (G' := G0) (fun x hx => by simp only [List.mem_cons, List.mem_append] at hx ⊢; rcases hx with (hx | hx) | hx <;> simp [hx]) (by simpa using h1.gnd) hf ht

theorem rep_box {w' : World} {b : Nat} {ts : List T} {vs : List Value} {Ft : List Nat} {e : TypeId} {fr : Nat × Nat} (hb : w'.heap[b]? = some (.cells vs.toArray e fr)) (hfr : ∀ j, j < vs.length → w'.frozen? ⟨b, j, none⟩ = false) (hz : w.heap.size ≤ w'.heap.size) (hr : RepV w ro ts vs Ft) (hs : Same w w' Ft ro) : Rep w' ro (.bx true ts) (.pointer (some ⟨b, 0, none⟩)) (b :: Ft) := by
  have hl := RepV.len _ _ _ hr
  simp only [Rep]
  refine ⟨b, 0, Ft, rfl, ⟨?_, ?_⟩, RepL.ofV hz ts vs Ft 0 hr (fun j v hj => by simp [World.cell?, hb, hj]) hs⟩
  · exact (Array.getElem?_eq_some_iff.1 hb).1
  · simp only [if_true]
    exact ⟨trivial, _, e, fr, hb, by simp [hl], fun j hj => hfr j (by simpa using hj)⟩

theorem rep_row {w' : World} {b n cap st : Nat} {ts : List T} {vs rest : List Value} {Ft : List Nat} {e : TypeId} {fr : Nat × Nat} (hst : 0 < st) (hb : w'.heap[b]? = some (.cells (vs ++ rest).toArray e fr)) (hn : n ≤ cap) (hlen : ts.length = n * st) (hcap : (vs ++ rest).length = cap * st) (hfr : ∀ j, j < cap * st → w'.frozen? ⟨b, j, none⟩ = false) (hz : w.heap.size ≤ w'.heap.size) (hr : RepV w ro ts vs Ft) (hs : Same w w' Ft ro) : Rep w' ro (.sl true st n ts) (.slice (some ⟨b, 0, none⟩) n cap) (b :: Ft) := by
  have hl := RepV.len _ _ _ hr
  simp only [Rep]
  refine .inr ⟨b, 0, cap, Ft, rfl, ⟨hn, hst⟩, hlen, ⟨?_, ?_⟩, RepL.ofV hz ts vs Ft 0 hr (fun j v hj => ?_) hs⟩
  · exact (Array.getElem?_eq_some_iff.1 hb).1
  · simp only [if_true]
    exact ⟨trivial, _, e, fr, hb, by simp at hcap ⊢; omega, fun j hj => hfr j (by simp at hj hcap; omega)⟩
  · have hj' : j < vs.length := (List.getElem?_eq_some_iff.1 hj).1
    simp [World.cell?, hb, List.getElem?_append_left hj', hj]

theorem same_old (h : Inv nt w ro s tm args hv F G) {w' : World} (hs : ∀ k, k < w.heap.size → w'.heap[k]? = w.heap[k]?) {Ft : List Nat} (hF : ∀ b ∈ Ft, b ∈ G) : Same w w' Ft ro :=
  fun b hb => hs b (hb.elim (fun hb => h.glt b (hF b hb)) (h.rolt b))

/-- what is run, and what it leaves -/
def Made (P : Program) (nt : Nat) (w : World) (ro : Nat → Prop) (F : Nat → List Nat) (args : List Value) (s s' : St) (a : Go.Act) (o : Oper) (d : Nat) (G0 : List Nat) : Prop :=
  ∃ x w' hv' F', (execOp a.eval o).run P w = .ok (.value x) w' ∧ (∃ Fs, Since w Fs w' ∧ ∀ b ∈ Fs, ∃ r t, get s.roots r = some t ∧ b ∈ F r) ∧ Inv nt w' ro s' (a.tmps.setIfInBounds d x) args hv' F' G0 ∧ (∀ r t b, get s'.roots r = some t → b ∈ F' r → (∃ r t, get s.roots r = some t ∧ b ∈ F r) ∨ w.heap.size ≤ b)

theorem since_alloc (w : World) (o : Obj) : Since w [] (w.alloc o) where
  os := rfl
  tape := rfl
  output := rfl
  size := by simp
  block := fun k hk _ => by
    show (w.heap.push o)[k]? = _
    rw [Array.getElem?_push, if_neg (by omega)]
  shape := fun k hk => by
    have : (w.alloc o).heap[k]? = w.heap[k]? := by
      show (w.heap.push o)[k]? = _
      rw [Array.getElem?_push, if_neg (by omega)]
    simp [World.shape?, this]
theorem since_drew (w : World) : Since w [] w.drew := ⟨rfl, rfl, rfl, Nat.le_refl _, fun _ _ _ => rfl, fun _ _ => rfl⟩
theorem alloc_new (w : World) (o : Obj) : (w.alloc o).heap[w.heap.size]? = some o := by
  show (w.heap.push o)[w.heap.size]? = _
  simp

/-- the way to a new root -/
theorem newH {w' : World} {st n : Nat} {cs : List T} {v : Value} {Ft : List Nat} (hR : Rep w' ro (.sl true st n cs) v Ft) :
    (True → UnH v 0 st n v) ∧ ∀ t, some (T.sl true st n cs) = some t → ∃ own n0 cs' h, sub t [] = some (.sl own st n0 cs') ∧ walk w' v [] = some h ∧ (0 + n * st ≤ cs'.length ∧ Ex h 0 n v) ∧ SlOf h 0 st n v := by
  have key : (0 + n * st ≤ cs.length) ∧ SlOf v 0 st n v ∧ (∀ A n0 c, v = .slice A n0 c → 0 + n * st ≤ n0 * st) := by
    simp only [Rep] at hR
    rcases hR with ⟨rfl, rfl, _, A, rfl⟩ | ⟨b, o', cap, F', rfl, h2, h3, _⟩
    · exact ⟨by simp, .inl ⟨rfl, _, rfl⟩, by simp⟩
    · refine ⟨by omega, .inr ⟨b, o', n, cap, cap, rfl, by simp, h2.1, by omega, h2.2⟩, fun A n0 c e => ?_⟩
      simp only [Value.slice.injEq] at e; obtain ⟨_, rfl, _⟩ := e; omega
  refine ⟨fun _ => ⟨key.2.1, key.2.2, fun _ _ _ _ => rfl⟩, fun t ht => ?_⟩
  obtain rfl := Option.some.inj ht
  exact ⟨_, _, _, _, rfl, rfl, ⟨key.1, fun _ _ _ _ => rfl⟩, key.2.1⟩

/-- a block is made, its tree a root, the way to it in d -/
theorem made_ok {a : Go.Act} {d : Nat} {s1 : St} {F1 : Nat → List Nat} {Ft G0 : List Nat} {o : Oper} {w' : World} {r : Nat} {t : T} {v : Value} {g : H} (hd : d < nt) (h1 : Inv nt w ro s1 a.tmps args hv F1 (Ft ++ G0))
    (k3 : ∀ r t b, get s1.roots r = some t → b ∈ F1 r → ∃ r t, get s.roots r = some t ∧ b ∈ F r) (k4 : ∀ b ∈ Ft, ∃ r t, get s.roots r = some t ∧ b ∈ F r)
    (hrun : (execOp a.eval o).run P w = .ok (.value v) w') (hS : Since w [] w') (hlt : w.heap.size < w'.heap.size) (hf : fresh s1 r = true) (hR : Rep w' ro t v (w.heap.size :: Ft))
    (hg : (∃ cs, g = .hp r [] 0 ∧ t = .bx true cs) ∨ ∃ st n cs, g = .hs r [] 0 st n ∧ t = .sl true st n cs) :
    Made P nt w ro F args s ((s1.new r t).put d (.w (.one g))) a o d G0 := by
  have hb : ∀ k, k < w.heap.size → w'.heap[k]? = w.heap[k]? := fun k hk => hS.block k hk (by simp)
  refine ⟨v, w', _, _, hrun, ⟨[], hS, by simp⟩, (h1.made (G0 := G0) (Nat.le_refl _) hlt hS.size hb rfl hf hR).put hd ?_, ?_⟩
  · rcases hg with ⟨cs, rfl, rfl⟩ | ⟨st, n, cs, rfl, rfl⟩
    · simp only [VRep, WRep, HRep, St.new, get_set, if_true]
      simp only [Rep] at hR
      obtain ⟨b, o', F', rfl, _⟩ := hR
      refine ⟨fun _ => ⟨b, o', rfl, by simp⟩, fun t' ht' => ?_⟩
      obtain rfl := Option.some.inj ht'
      exact ⟨_, _, b, o', ⟨rfl, rfl⟩, rfl, rfl, by simp⟩
    · simp only [VRep, WRep, HRep, St.new, get_set, if_true]
      exact newH hR
  · intro r' t' b ht' hb
    simp only [St.put, St.new] at ht'
    by_cases e1 : r' = r
    · simp only [e1, if_true] at hb
      rcases List.mem_cons.1 hb with rfl | hb
      · exact .inr (Nat.le_refl _)
      · exact .inl (k4 b hb)
    · rw [get_set, if_neg (Ne.symm e1)] at ht'
      simp only [e1, if_false] at hb; exact .inl (k3 r' t' b ht' hb)

theorem m_alloc {a : Go.Act} {d : Nat} (h : Inv nt w ro s a.tmps args hv F G) (hd : d < nt) {o : Oper} {e : TypeId} {zs : List H} {ts : List T} {r : Nat} (ho : o.op = .alloc e) (hz : zeroOf P e = some zs) (ht : CellTL s.roots zs ts) (hf : fresh s r = true) :
    Made P nt w ro F args s ((s.new r (.bx true ts)).put d (.w (.one (.hp r [] 0)))) a o d G := by
  unfold zeroOf at hz
  obtain ⟨z, hz1, hz2⟩ := Option.bind_eq_some_iff.1 hz
  obtain ⟨it, hi, hz3⟩ := Option.bind_eq_some_iff.1 hz1
  have hrv := cellTL_rep h zs ts z.cells.toList ht (constHs_rep _ _ hz2)
  have hS := since_alloc w (.cells z.cells e)
  have hR : Rep (w.alloc (.cells z.cells e)) ro (.bx true ts) (.pointer (some ⟨w.heap.size, 0, none⟩)) (w.heap.size :: []) :=
    rep_box (w := w) (vs := z.cells.toList) (e := e) (fr := (0, 0)) (by simpa using alloc_new w (.cells z.cells e)) (fun j hj => by simp) (by simp) hrv (same_old h (fun k hk => hS.block k hk (by simp)) (by simp))
  exact made_ok (w' := w.alloc (.cells z.cells e)) (v := .pointer (some ⟨w.heap.size, 0, none⟩)) (t := .bx true ts) hd (s1 := s) (Ft := []) h (fun r t b ht hb => ⟨r, t, ht, hb⟩) (by simp) (by simp [execOp, ho, Instr.alloc, zeroValue, typeInfo, hi, hz3, newVar, newRow]) hS (by simp) hf hR (.inl ⟨_, rfl, rfl⟩)

theorem m_box {a : Go.Act} {d : Nat} (h : Inv nt w ro s a.tmps args hv F G) (hd : d < nt) {o : Oper} {e : TypeId} {x : Operand} {X' : X} {v : W} {s1 : St} {ts : List T} {r : Nat} (ho : o.op = .box e x) (hx : toX x = some X') (hv' : ev s X' = some (.w v)) (hl : liveW s.roots v = true) (hg : Grab s v.cells ts s1) (hf : fresh s1 r = true) :
    Made P nt w ro F args s ((s1.new r (.bx true ts)).put d (.w (.one (.hp r [] 0)))) a o d G := by
  have r1 := ev_rep h hx hv'
  simp only [VRep] at r1
  obtain ⟨F1, Ft, k1, k2, k3, k4⟩ := grab_ok hg h (wcells_live r1 hl)
  have hS := since_alloc w (.cells (a.eval x).cells e)
  have hR : Rep (w.alloc (.cells (a.eval x).cells e)) ro (.bx true ts) (.pointer (some ⟨w.heap.size, 0, none⟩)) (w.heap.size :: Ft) :=
    rep_box (w := w) (vs := (a.eval x).cells.toList) (e := e) (fr := (0, 0)) (by simpa using alloc_new w (.cells (a.eval x).cells e)) (fun j hj => by simp) (by simp) k2 (same_old k1 (fun k hk => hS.block k hk (by simp)) (by simp +contextual))
  exact made_ok (w' := w.alloc (.cells (a.eval x).cells e)) (v := .pointer (some ⟨w.heap.size, 0, none⟩)) (t := .bx true ts) hd k1 k3 k4 (by simp [execOp, ho, Instr.box, newVar, newRow]) hS (by simp) hf hR (.inl ⟨_, rfl, rfl⟩)
/-- a root that goes whole into a box's cell: the ways into it are told anew -/
def boxF (l : List (Nat × Nat)) (q : Nat) : Ren := fun x p => match get l x with | some j => some (q, j :: p) | none => if x = q then none else some (x, p)
def noPathH : H → Bool
  | .hs _ p .. => p.isEmpty
  | .hp _ p _ => p.isEmpty
  | _ => true
def BoxL (s : St) (gs : List H) (ts : List T) (l : List (Nat × Nat)) : Prop := gs.all noPathH = true ∧ ∀ x j, get l x = some j → ∃ st n cs, gs[j]? = some (.hs x [] 0 st n) ∧ get s.roots x = some (.sl true st n cs) ∧ ts[j]? = some (.sl true st n cs)
def boxSt (s s1 : St) (l : List (Nat × Nat)) (q : Nat) (ts : List T) : St := { env := mapv (renV (boxF l q)) s.env, roots := set s1.roots q (.bx true ts), par := s.par.map (renW (boxF l q)) }

theorem grab_less : ∀ {s s1 : St} {gs : List H} {ts : List T}, Grab s gs ts s1 → gs.all noPathH = true → ∀ x t, get s1.roots x = some t → get s.roots x = some t := by
  intro s s1 gs ts h
  induction h with
  | nil z => exact fun _ _ _ h => h
  | cell h1 _ ih =>
    intro hn
    simp only [List.all_cons, Bool.and_eq_true] at hn
    exact ih hn.2
  | take h1 _ ih =>
    intro hn x t hx
    simp only [List.all_cons, Bool.and_eq_true] at hn
    cases h1 with
    | root e1 =>
      rw [renHL_id] at ih
      have := ih hn.2 x t hx
      simp only [get_del] at this
      split at this
      · simp at this
      · exact this
    | rootBx e1 =>
      rw [renHL_id] at ih
      have := ih hn.2 x t hx
      simp only [get_del] at this
      split at this
      · simp at this
      · exact this
    | path e1 e2 e3 => simp [noPathH] at hn

theorem HRepL_at {w : World} {roots : List (Nat × T)} {hv : Nat → Value} : ∀ {gs : List H} {vs : List Value} {j : Nat} {g : H}, HRepL w roots hv gs vs → gs[j]? = some g → ∃ v, vs[j]? = some v ∧ HRep w roots hv g v
  | [], vs, j, g, h, e => by simp at e
  | g0 :: gs, vs, 0, g, h, e => by
    simp only [HRepL] at h
    obtain ⟨v, vs', rfl, h1, h2⟩ := h
    simp only [List.getElem?_cons_zero, Option.some.injEq] at e
    subst e
    exact ⟨v, rfl, h1⟩
  | g0 :: gs, vs, j + 1, g, h, e => by
    simp only [HRepL] at h
    obtain ⟨v, vs', rfl, h1, h2⟩ := h
    simp only [List.getElem?_cons_succ] at e ⊢
    exact HRepL_at h2 e

theorem m_boxR {a : Go.Act} {d : Nat} (h : Inv nt w ro s a.tmps args hv F G) (hd : d < nt) {o : Oper} {e : TypeId} {x : Operand} {X' : X} {v : W} {s1 : St} {ts : List T} {l : List (Nat × Nat)} {r : Nat} (ho : o.op = .box e x) (hx : toX x = some X') (hv' : ev s X' = some (.w v)) (hl : liveW s.roots v = true) (hg : Grab s v.cells ts s1) (hf : fresh s1 r = true) (hbl : BoxL s v.cells ts l) :
    Made P nt w ro F args s ((boxSt s s1 l r ts).put d (.w (.one (.hp r [] 0)))) a o d G := by
  have r1 := ev_rep h hx hv'
  simp only [VRep] at r1
  have hcl := wcells_live r1 hl
  obtain ⟨F1, Ft, k1, k2, k3, k4⟩ := grab_ok hg h hcl
  have hS := since_alloc w (.cells (a.eval x).cells e)
  have hnew : (w.alloc (.cells (a.eval x).cells e)).heap[w.heap.size]? = some (.cells (a.eval x).cells e) := alloc_new w _
  have hb : ∀ k, k < w.heap.size → (w.alloc (.cells (a.eval x).cells e)).heap[k]? = w.heap[k]? := fun k hk => hS.block k hk (by simp)
  have hlt : w.heap.size < (w.alloc (.cells (a.eval x).cells e)).heap.size := by simp
  have hR : Rep (w.alloc (.cells (a.eval x).cells e)) ro (.bx true ts) (.pointer (some ⟨w.heap.size, 0, none⟩)) (w.heap.size :: Ft) :=
    rep_box (w := w) (vs := (a.eval x).cells.toList) (e := e) (fr := (0, 0)) (by simpa using hnew) (fun j hj => by simp) (by simp) k2 (same_old k1 (fun k hk => hS.block k hk (by simp)) (by simp +contextual))
  have hI := k1.made (G0 := G) (Nat.le_refl _) hlt hS.size hb rfl hf hR
  have hsame : ∀ y t, get s.roots y = some t → Same w (w.alloc (.cells (a.eval x).cells e)) (F y) ro := fun y t ht b hb' => hb b (hb'.elim (fun hb' => Rep.lt _ _ _ (h.rep y t ht) b hb') (h.rolt b))
  have L : Leads (boxF l r) w s.roots hv (w.alloc (.cells (a.eval x).cells e)) (set s1.roots r (.bx true ts)) (fun y => if y = r then .pointer (some ⟨w.heap.size, 0, none⟩) else hv y) := by
    intro y p y' p' e1
    simp only [boxF] at e1
    cases hy : get l y with
    | some j =>
      simp only [hy, Option.some.injEq, Prod.mk.injEq] at e1
      obtain ⟨rfl, rfl⟩ := e1
      refine ⟨by simp, fun t' ht' => ?_⟩
      simp only [get_set, if_true, Option.some.injEq] at ht'
      subst ht'
      obtain ⟨st, n, cs, g1, g2, g3⟩ := hbl.2 y j hy
      refine ⟨_, g2, fun z hz _ => ⟨z, ?_, Alike.refl z, fun hh hw => ?_⟩⟩
      · simp only [sub, g3, Option.bind_some]
        exact hz
      · obtain ⟨vj, g4, g5⟩ := HRepL_at hcl g1
        have hvj : vj = hv y := by
          simp only [HRep] at g5
          obtain ⟨own, n0, cs', h', q1, q2, q3, q4⟩ := g5.2 _ g2
          simp only [sub, Option.some.injEq, T.sl.injEq] at q1
          obtain ⟨_, _, rfl, rfl⟩ := q1
          simp only [walk, Option.some.injEq] at q2
          subst q2
          have hrep := h.rep y _ g2
          simp only [Rep] at hrep
          rcases hrep with ⟨rfl, _, _, A, e3⟩ | ⟨b, o', cap, F', e3, _⟩
          · exact q3.2 rfl _ _ e3
          · exact q3.2 rfl _ _ e3
        have hc : (w.alloc (.cells (a.eval x).cells e)).cell? ⟨w.heap.size, j, none⟩ = some vj := by simp only [World.cell?, hnew]; simpa using g4
        simp only [if_true, walk, Nat.zero_add, hc, Option.bind_some, hvj]
        rw [walk_same p _ _ _ _ (h.rep y _ g2) (hsame y _ g2) hz]
        exact hw
    | none =>
      simp only [hy] at e1
      split at e1
      · simp at e1
      · rename_i hne
        simp only [Option.some.injEq, Prod.mk.injEq] at e1
        obtain ⟨rfl, rfl⟩ := e1
        refine ⟨fun h => ⟨h, by simp [hne]⟩, fun t' ht' => ?_⟩
        rw [get_set, if_neg (Ne.symm hne)] at ht'
        have g2 := grab_less hg hbl.1 _ _ ht'
        refine ⟨_, g2, fun z hz _ => ⟨z, hz, Alike.refl z, fun hh hw => ?_⟩⟩
        simp only [hne, if_false]
        rw [walk_same p _ _ _ _ (h.rep y _ g2) (hsame y _ g2) hz]
        exact hw
  have hI2 : Inv nt (w.alloc (.cells (a.eval x).cells e)) ro (boxSt s s1 l r ts) a.tmps args (fun y => if y = r then .pointer (some ⟨w.heap.size, 0, none⟩) else hv y) (fun y => if y = r then w.heap.size :: Ft else F1 y) G :=
    { hI with
      env := by
        intro i v hi
        simp only [boxSt, get_mapv, Option.map_eq_some_iff] at hi
        obtain ⟨u, hu, rfl⟩ := hi
        obtain ⟨x, h1, h2⟩ := h.env i u hu
        exact ⟨x, h1, VRep_ren L u x h2⟩
      par := WRepL_ren L _ _ h.par }
  refine ⟨_, _, _, _, by simp [execOp, ho, Instr.box, newVar, newRow]; rfl, ⟨[], hS, by simp⟩, hI2.put hd (v := .w (.one (.hp r [] 0))) ?_, ?_⟩
  · simp only [VRep, WRep, HRep, boxSt, get_set, if_true]
    refine ⟨fun _ => ⟨_, _, rfl, by simp⟩, fun t' ht' => ?_⟩
    obtain rfl := Option.some.inj ht'
    exact ⟨_, _, _, _, ⟨rfl, rfl⟩, rfl, rfl, by simp⟩
  · intro r' t' b ht' hb'
    simp only [St.put, boxSt] at ht'
    by_cases e1 : r' = r
    · simp only [e1, if_true] at hb'
      rcases List.mem_cons.1 hb' with rfl | hb'
      · exact .inr (Nat.le_refl _)
      · exact .inl (k4 b hb')
    · rw [get_set, if_neg (Ne.symm e1)] at ht'
      simp only [e1, if_false] at hb'; exact .inl (k3 r' t' b ht' hb')
end
end Go.Proofs.YtplhecjngmkngaaT

/- Trees: operations that make new memory: rows. No condition. -/
set_option linter.unusedVariables false
set_option linter.unusedSimpArgs false
set_option linter.unusedSectionVars false
namespace Go.Proofs.YtplhecjngmkngaaT
open Go

section
variable {P : Program} {nt : Nat} {w : World} {ro : Nat → Prop} {s : St} {a : Go.Act} {args : List Value} {hv : Nat → Value} {F : Nat → List Nat} {G : List Nat}

theorem fill_lit {roots : List (Nat × T)} {st : Nat} (hroots : roots = s.roots) (h : Inv nt w ro s a.tmps args hv F G) : ∀ (parts : List (Nat × Operand)) (ps : List (Nat × X)) (vs : List (Nat × W)) (hs hs' : List H) (cs : Array Value),
    litOf parts = some ps → (ps.map fun (i, x) => (i, ev s x)) = (vs.map fun (i, v) => (i, some (V.w v))) → vs.all (fun q => liveW roots q.2) = true → HRepL w roots hv hs cs.toList → fillH hs (vs.map fun (i, v) => (i * st, st, v)) = some hs' →
    ∃ cs', Instr.fill (fun i => some (i * st, st)) cs (parts.map fun (i, x) => (i, a.eval x)) = some cs' ∧ HRepL w roots hv hs' cs'.toList
  | [], ps, vs, hs, hs', cs, h1, h2, h3, h4, h5 => by
    simp only [litOf, Option.some.injEq] at h1; subst h1
    cases vs with
    | cons => simp at h2
    | nil => simp only [List.map_nil, fillH, Option.some.injEq] at h5; subst h5; exact ⟨cs, rfl, h4⟩
  | (i, x) :: parts, ps, vs, hs, hs', cs, h1, h2, h3, h4, h5 => by
    simp only [litOf] at h1
    cases k2 : toX x with
    | none => simp [k2] at h1
    | some y =>
      cases k3 : litOf parts with
      | none => simp [k2, k3] at h1
      | some r =>
          simp only [k2, k3, Option.some.injEq] at h1; subst h1
          cases vs with
          | nil => simp at h2
          | cons q vs =>
            obtain ⟨i', g⟩ := q
            simp only [List.map_cons, List.cons.injEq, Prod.mk.injEq] at h2
            obtain ⟨⟨rfl, e3⟩, h2⟩ := h2
            simp only [List.all_cons, Bool.and_eq_true] at h3
            simp only [List.map_cons, fillH] at h5
            generalize ho : i * st = o at *
            split at h5
            · rename_i hc
              have r1 := ev_rep h k2 e3
              simp only [VRep] at r1
              rw [← hroots] at r1
              have r2 := wcells_live r1 h3.1
              have l1 := HRepL_len _ _ r2
              have l2 := HRepL_len _ _ h4
              simp only [Array.length_toList] at l1 l2
              have hsz : (a.eval x).cells.size = st := by omega
              have hle : ¬ o + (a.eval x).cells.size > cs.size := by omega
              have hput := foldl_put o (a.eval x).cells.toList 0 cs (by simp; omega)
              have hz : (a.eval x).cells.zipIdx.foldl (fun cs (c, j) => cs.setIfInBounds (o + j) c) cs = ((a.eval x).cells.toList.zipIdx 0).foldl (fun cs (c, j) => cs.setIfInBounds (o + j) c) cs := by
                rw [← Array.foldl_toList, Array.toList_zipIdx]
              obtain ⟨cs', f1, f2⟩ := fill_lit hroots h parts r vs _ hs' (((a.eval x).cells.toList.zipIdx 0).foldl (fun cs (c, j) => cs.setIfInBounds (o + j) c) cs) k3 h2 h3.2 (by
                rw [hput]
                have := HRepL_append _ _ _ _ (HRepL_append _ _ _ _ (HRepL_take o _ _ h4) r2) (HRepL_drop (o + st) _ _ h4)
                simpa [hsz] using this) h5
              refine ⟨cs', ?_, f2⟩
              simp only [List.map_cons, Instr.fill, ho]
              rw [if_neg (by simp [hsz]; omega), hz]
              simpa using f1
            · simp at h5


theorem flat_get {α : Type} (z : List α) : ∀ (n i : Nat), i < n * z.length → (List.replicate n z).flatten[i]? = z[i % z.length]?
  | 0, i, h => by simp at h
  | n + 1, i, h => by
    rw [Nat.add_mul, Nat.one_mul] at h
    rw [List.replicate_succ, List.flatten_cons]
    by_cases hi : i < z.length
    · rw [List.getElem?_append_left hi, Nat.mod_eq_of_lt hi]
    · rw [List.getElem?_append_right (by omega), flat_get z n (i - z.length) (by omega), ← Nat.mod_eq_sub_mod (by omega)]

theorem reps_toList (z : List Value) (n : Nat) : ((Array.range (n * z.length)).map (fun i => z.toArray[i % z.toArray.size]!)).toList = (List.replicate n z).flatten := by
  apply List.ext_getElem
  · simp
  · intro i h1 h2
    have hi : i < n * z.length := by simpa using h1
    have hz : 0 < z.length := Nat.pos_of_ne_zero (fun h => by simp [h] at hi)
    have hm : i % z.length < z.length := Nat.mod_lt _ hz
    simp only [Array.toList_map, Array.toList_range, List.getElem_map, List.getElem_range, List.size_toArray]
    rw [getElem!_pos z.toArray (i % z.length) (by simpa using hm)]
    have := flat_get z n i hi
    rw [List.getElem?_eq_getElem h2, List.getElem?_eq_getElem hm] at this
    simpa using (Option.some.inj this).symm

theorem reps_arr (z : Array Value) (n k : Nat) (hk : z.size = k) : ((Array.range (n * k)).map (fun i => z[i % z.size]!)).toList = (List.replicate n z.toList).flatten := by
  subst hk
  have := reps_toList z.toList n
  simpa only [Array.length_toList, Array.toArray_toList] using this

/-- a slice literal -/
theorem m_lit {d : Nat} (h : Inv nt w ro s a.tmps args hv F G) (hd : d < nt) {o : Oper} {t e : TypeId} {len st : Nat} {parts : Array (Nat × Operand)} {z : List H} {ps : List (Nat × X)} {vs : List (Nat × W)} {gs : List H} {s1 : St} {ts : List T} {r : Nat}
    (ho : o.op = .buildSlice t len parts) (hu : P.underlying t = some (.slice e)) (hst : szOf P e = some st) (hz : zeroOf P e = some z) (hps : litOf parts.toList = some ps) (h24 : len * st ≤ 2 ^ 24) (hpos : 0 < len) (hst0 : z.length = st ∧ 0 < st)
    (e1 : (ps.map fun (i, x) => (i, ev s x)) = (vs.map fun (i, v) => (i, some (V.w v)))) (e2 : vs.all (fun q => liveW s.roots q.2) = true) (e3 : litH st len z vs = some gs) (e4 : gs.length = len * st) (hg : Grab s gs ts s1) (hf : fresh s1 r = true) :
    Made P nt w ro F args s ((s1.new r (.sl true st len ts)).put d (.w (.one (.hs r [] 0 st len)))) a o d G := by
  unfold szOf at hst
  obtain ⟨ie, hie, hsz⟩ := Option.map_eq_some_iff.1 hst
  unfold zeroOf at hz
  obtain ⟨z', hz1, hz2⟩ := Option.bind_eq_some_iff.1 hz
  obtain ⟨it, hi, hz3⟩ := Option.bind_eq_some_iff.1 hz1
  rw [hie] at hi; obtain rfl := Option.some.inj hi
  have hzl := constHs_len _ _ hz2
  rw [hst0.1, Array.length_toList] at hzl
  have hb : ((Array.range (len * ie.size)).map (z'.cells[· % z'.cells.size]!)).toList = (List.replicate len z'.cells.toList).flatten := by
    exact reps_arr z'.cells len ie.size (by rw [hsz]; exact hzl.symm)
  obtain ⟨cs', f1, f2⟩ := fill_lit rfl h parts.toList ps vs _ gs ((Array.range (len * ie.size)).map (z'.cells[· % z'.cells.size]!)) hps e1 e2 (by rw [hb]; exact HRepL_reps (constHs_rep _ _ hz2) len) e3
  obtain ⟨F1, Ft, k1, k2, k3, k4⟩ := grab_ok hg h f2
  have hl := RepV.len _ _ _ k2
  have hl2 := HRepL_len _ _ f2
  have hS := since_alloc w (.cells cs' e)
  have hR : Rep (w.alloc (.cells cs' e)) ro (.sl true st len ts) (.slice (some ⟨w.heap.size, 0, none⟩) len len) (w.heap.size :: Ft) :=
    rep_row (w := w) (vs := cs'.toList) (rest := []) (e := e) (fr := (0, 0)) hst0.2 (by simpa using alloc_new w (.cells cs' e)) (Nat.le_refl _) (by omega) (by simp only [List.append_nil]; omega) (fun j hj => by simp) (by simp) k2 (same_old k1 (fun k hk => hS.block k hk (by simp)) (by simp +contextual))
  have hrun : (execOp a.eval o).run P w = .ok (.value (.slice (some ⟨w.heap.size, 0, none⟩) len len)) (w.alloc (.cells cs' e)) := by
    have hsm : ¬ (16777216 < len * ie.size) := by rw [hsz]; simpa using h24
    have hps : ¬ (len * ie.size = 0) := by
      rw [hsz]; exact fun hc => by rcases Nat.mul_eq_zero.1 hc with hc | hc <;> omega
    have f1' : Instr.fill (fun i => some (i * ie.size, ie.size)) ((Array.range (len * ie.size)).map (z'.cells[· % z'.cells.size]!)) (parts.map fun (i, x) => (i, a.eval x)).toList = some cs' := by
      rw [hsz] at f1 ⊢; simpa using f1
    simp only [execOp, ho]
    simp [Instr.buildSlice, run_underlying hu, sizeOf, typeInfo, zeroValue, hie, hz3, hsm, hps, newRow]
    rw [show (parts.toList.map fun x => (x.fst, a.eval x.snd)) = (parts.map fun (i, x) => (i, a.eval x)).toList by simp, f1']
    simp
  exact made_ok hd k1 k3 k4 hrun hS (by simp) hf hR (.inr ⟨_, _, _, rfl, rfl⟩)

/-- make -/
theorem m_make {d : Nat} (h : Inv nt w ro s a.tmps args hv F G) (hd : d < nt) {o : Oper} {t e : TypeId} {l c : Operand} {L C : X} {i : TypeInfo} {z : List H} {ts : List T} {r n : Nat} {kl kc : IntKind}
    (ho : o.op = .makeSlice t l c) (hu : P.underlying t = some (.slice e)) (hi : P.info? e = some i) (hz : zeroOf P e = some z) (hl : toX l = some L) (hc : toX c = some C) (e1 : ev s L = some (.w (.one (.int kl (n : Nat))))) (e2 : ev s C = some (.w (.one (.int kc (n : Nat)))))
    (hst0 : z.length = i.size ∧ 0 < i.size) (hb : i.bytes * n ≤ 281474976710656) (h63 : n ≤ 9223372036854775807) (ht : CellTL s.roots z ts) (hf : fresh s r = true) :
    Made P nt w ro F args s ((s.new r (.sl true i.size n (List.replicate n ts).flatten)).put d (.w (.one (.hs r [] 0 i.size n)))) a o d G := by
  have r1 := ev_rep h hl e1
  have r2 := ev_rep h hc e2
  simp only [VRep, WRep, HRep] at r1 r2
  unfold zeroOf at hz
  obtain ⟨z', hz1, hz2⟩ := Option.bind_eq_some_iff.1 hz
  obtain ⟨it, hi', hz3⟩ := Option.bind_eq_some_iff.1 hz1
  rw [hi] at hi'; obtain rfl := Option.some.inj hi'
  have hzl := constHs_len _ _ hz2
  rw [hst0.1, Array.length_toList] at hzl
  have hbc : (madeCells z'.cells (n * i.size)).toList = (List.replicate n z'.cells.toList).flatten := by
    exact reps_arr z'.cells n i.size hzl.symm
  have hrv := (cellTL_rep h z ts z'.cells.toList ht (constHs_rep _ _ hz2)).reps n
  have hll := RepV.len _ _ _ hrv
  have hlt := RepV.len _ _ _ (cellTL_rep h z ts z'.cells.toList ht (constHs_rep _ _ hz2))
  have hS := since_alloc w (.cells (madeCells z'.cells (n * i.size)) e)
  have hsz : (madeCells z'.cells (n * i.size)).toList.length = n * i.size := by simp [madeCells]
  rw [hbc] at hsz
  have hR : Rep (w.alloc (.cells (madeCells z'.cells (n * i.size)) e)) ro (.sl true i.size n (List.replicate n ts).flatten) (.slice (some ⟨w.heap.size, 0, none⟩) n n) (w.heap.size :: []) :=
    rep_row (w := w) (vs := (List.replicate n z'.cells.toList).flatten) (rest := []) (e := e) (fr := (0, 0)) hst0.2 (by rw [List.append_nil, ← hbc]; simpa using alloc_new w (.cells (madeCells z'.cells (n * i.size)) e)) (Nat.le_refl _) (by omega) (by simp only [List.append_nil]; omega) (fun j hj => by simp) (by simp) hrv (same_old h (fun k hk => hS.block k hk (by simp)) (by simp))
  have hrun : (execOp a.eval o).run P w = .ok (.value (.slice (some ⟨w.heap.size, 0, none⟩) n n)) (w.alloc (.cells (madeCells z'.cells (n * i.size)) e)) := by
    have hb' : (i.bytes : Int) * (n : Int) ≤ 281474976710656 := by
      have h : ((i.bytes * n : Nat) : Int) ≤ 281474976710656 := by omega
      rwa [Int.natCast_mul] at h
    have := run_make (P := P) w t e i z' hu hi hz3 kl kc n n (by omega) (Int.le_refl _) hb' (by omega)
    simp only [Int.toNat_natCast] at this
    simp [execOp, ho, r1, r2, this]
  exact made_ok (s1 := s) (Ft := []) hd h (fun r t b ht hb => ⟨r, t, ht, hb⟩) (by simp) hrun hS (by simp) hf hR (.inr ⟨_, _, _, rfl, rfl⟩)

/-- []byte(text) -/
theorem m_cvb {d : Nat} (h : Inv nt w ro s a.tmps args hv F G) (hd : d < nt) {o : Oper} {src dst e : TypeId} {x : Operand} {X' : X} {b : ByteArray} {r : Nat} (ho : o.op = .convert src dst x) (hs : P.underlying src = some .string) (hdt : P.underlying dst = some (.slice e)) (he : P.underlying e = some (.int .u8)) (hx : toX x = some X') (e1 : ev s X' = some (.w (.one (.str b)))) (hf : fresh s r = true) :
    Made P nt w ro F args s ((s.new r (.sl true 1 b.size (b.data.toList.map fun c : UInt8 => T.int .u8 c.toNat))).put d (.w (.one (.hs r [] 0 1 b.size)))) a o d G := by
  have r1 := ev_rep h hx e1
  simp only [VRep, WRep, HRep] at r1
  generalize hcap : grownCap w b.size 0 e = cap
  have hge : b.size ≤ cap := by rw [← hcap]; exact grownCap_ge w b.size 0 e
  have hrow : bytesRow b cap = (b.data.toList.map (fun c : UInt8 => Value.int .u8 c.toNat) ++ List.replicate (cap - b.size) (Value.int .u8 0)).toArray := by
    apply Array.ext'
    simp [bytesRow]
  have hsz : (bytesRow b cap).size = cap := by
    have : b.data.size = b.size := rfl
    simp [bytesRow, this]; omega
  have hS : Since w [] (w.drew.alloc (.cells (bytesRow b cap) e (cap, cap + 1))) := (since_drew w).trans (since_alloc w.drew _) (by simp)
  have hrv : ∀ (l : List UInt8), RepV w ro (l.map fun c : UInt8 => T.int .u8 c.toNat) (l.map (fun c : UInt8 => Value.int .u8 c.toNat)) [] := by
    intro l
    induction l with
    | nil => simp [RepV]
    | cons c l ih => simp only [List.map_cons, RepV]; exact ⟨_, _, [], [], rfl, by simp [Rep], ih, rfl⟩
  have hbs : b.data.toList.length = b.size := by rw [Array.length_toList]; rfl
  have hR : Rep (w.drew.alloc (.cells (bytesRow b cap) e (cap, cap + 1))) ro (.sl true 1 b.size (b.data.toList.map fun c : UInt8 => T.int .u8 c.toNat)) (.slice (some ⟨w.heap.size, 0, none⟩) b.size cap) (w.heap.size :: []) := by
    refine rep_row (w := w) (vs := b.data.toList.map (fun c : UInt8 => Value.int .u8 c.toNat)) (rest := List.replicate (cap - b.size) (Value.int .u8 0)) (e := e) (fr := (cap, cap + 1)) (by omega) (by rw [← hrow]; exact alloc_new w.drew _) hge (by simp [hbs]) (by simp [hbs]; omega) (fun j hj => ?_) (by simp) (hrv _) (same_old h (fun k hk => hS.block k hk (by simp)) (by simp))
    rw [show w.heap.size = w.drew.heap.size from rfl, World.frozen?_alloc_mark]
    simp; omega
  have hrun : (execOp a.eval o).run P w = .ok (.value (.slice (some ⟨w.heap.size, 0, none⟩) b.size cap)) (w.drew.alloc (.cells (bytesRow b cap) e (cap, cap + 1))) := by
    have := run_bytes_of_string (P := P) w src dst e b hs hdt he
    rw [hcap, hsz] at this
    simp [execOp, ho, r1, this]
  exact made_ok (s1 := s) (Ft := []) hd h (fun r t b ht hb => ⟨r, t, ht, hb⟩) (by simp) hrun hS (by simp) hf hR (.inr ⟨_, _, _, rfl, rfl⟩)
end
end Go.Proofs.YtplhecjngmkngaaT
