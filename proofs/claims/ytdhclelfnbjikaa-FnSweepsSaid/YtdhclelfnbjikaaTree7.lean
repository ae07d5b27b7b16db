/- A program's values as trees, and its code as steps on them. No condition. -/
import Derived.Test.YtdhclelfnbjikaaTree6
set_option linter.all false
set_option linter.unusedVariables false
set_option linter.unusedSimpArgs false
set_option linter.unusedSectionVars false
set_option linter.unnecessarySimpa false
set_option linter.deprecated false
/- Trees: a region in any order with operations that move and store among those that only add: by stages. No condition. -/
set_option linter.unusedVariables false
set_option linter.unusedSimpArgs false
namespace Go.Proofs.YtdhclelfnbjikaaT
open Go

/-- the entries that are not yet within the stage -/
def mask {α : Type} (A : List Nat) : Nat → List (List α) → List (List α)
  | _, [] => []
  | k, l :: ls => (if A.contains k then [] else l) :: mask A (k + 1) ls
theorem mask_some {α : Type} {A : List Nat} : ∀ {ls : List (List α)} {k j : Nat} {l : List α}, (mask A k ls)[j]? = some l → ∃ l', ls[j]? = some l' ∧ l = if A.contains (k + j) then [] else l'
  | [], k, j, l, h => by simp [mask] at h
  | l0 :: ls, k, 0, l, h => by simp only [mask, List.getElem?_cons_zero, Option.some.injEq] at h; exact ⟨l0, rfl, h.symm⟩
  | l0 :: ls, k, j + 1, l, h => by
    simp only [mask, List.getElem?_cons_succ] at h
    obtain ⟨l', h1, h2⟩ := mask_some h
    exact ⟨l', by simpa using h1, by rw [show k + (j + 1) = k + 1 + j by omega]; exact h2⟩
theorem mask_get {α : Type} {A : List Nat} : ∀ {ls : List (List α)} {k j : Nat} {l : List α}, ls[j]? = some l → (mask A k ls)[j]? = some (if A.contains (k + j) then [] else l)
  | [], k, j, l, h => by simp at h
  | l0 :: ls, k, 0, l, h => by simp only [List.getElem?_cons_zero, Option.some.injEq] at h; subst h; rfl
  | l0 :: ls, k, j + 1, l, h => by
    simp only [mask, List.getElem?_cons_succ]
    rw [show k + (j + 1) = k + 1 + j by omega]
    exact mask_get (by simpa using h)

def cnt (f : Nat → Bool) : List Nat → Nat
  | [] => 0
  | m :: ms => if f m then cnt f ms + 1 else 0
theorem cnt_le {f : Nat → Bool} : ∀ {ms : List Nat}, cnt f ms ≤ ms.length
  | [] => Nat.le_refl _
  | m :: ms => by
    simp only [cnt, List.length_cons]
    split
    · have := cnt_le (f := f) (ms := ms); omega
    · omega
theorem cnt_lt {f : Nat → Bool} : ∀ {ms : List Nat} {i : Nat}, i < cnt f ms → f (ms.getD i 0) = true
  | [], i, h => by simp [cnt] at h
  | m :: ms, i, h => by
    simp only [cnt] at h
    split at h
    · rename_i hm
      cases i with
      | zero => simpa using hm
      | succ i => simpa using cnt_lt (f := f) (ms := ms) (i := i) (by omega)
    · omega
theorem cnt_at {f : Nat → Bool} : ∀ {ms : List Nat}, cnt f ms < ms.length → f (ms.getD (cnt f ms) 0) = false
  | [], h => by simp at h
  | m :: ms, h => by
    simp only [cnt] at h ⊢
    split at h
    · rename_i hm
      rw [if_pos hm]
      simpa using cnt_at (f := f) (ms := ms) (by simpa using h)
    · rename_i hm
      rw [if_neg hm]; simpa using hm
theorem cnt_is {f : Nat → Bool} {ms : List Nat} {i : Nat} (hi : i ≤ ms.length) (h1 : ∀ k, k < i → f (ms.getD k 0) = true) (h2 : i < ms.length → f (ms.getD i 0) = false) : cnt f ms = i := by
  rcases Nat.lt_trichotomy (cnt f ms) i with h | h | h
  · have := h1 _ h
    have h3 : f (ms.getD (cnt f ms) 0) = false := cnt_at (by omega)
    rw [h3] at this; simp at this
  · exact h
  · have := cnt_lt h
    have hle := cnt_le (f := f) (ms := ms)
    rw [h2 (by omega)] at this; simp at this

theorem catA_congr {α : Type} {f g : Nat → Bool} : ∀ {ls : List (List (Nat × α))} {k : Nat}, (∀ j l, ls[j]? = some l → f (k + j) = g (k + j) ∨ l = []) → catA f k ls = catA g k ls
  | [], k, _ => rfl
  | l :: ls, k, h => by
    simp only [catA]
    rw [catA_congr (f := f) (g := g) (ls := ls) fun j l' hj => by
      have := h (j + 1) l' (by simpa using hj)
      rwa [show k + (j + 1) = k + 1 + j by omega] at this]
    rcases h 0 l rfl with h0 | h0
    · simp only [Nat.add_zero] at h0; rw [h0]
    · subst h0; simp

section
variable {P : Program} {es : List (List Nat)} {gs : List Gop} {n : Nat} {s1 : St} {an : List (List Nat)} {ms : List Nat} {Z : Nat → St} {E : List (List (Nat × V))} {R : List (List (Nat × T))} {par : List W}

def ab (an : List (List Nat)) (ms : List Nat) : Nat → List Nat
  | 0 => []
  | i + 1 => an.getD (ms.getD i 0) []
def stM (an : List (List Nat)) (ms : List Nat) (Z : Nat → St) (E : List (List (Nat × V))) (R : List (List (Nat × T))) (par : List W) (f : Nat → Bool) : St :=
  ⟨catA f 0 (mask (ab an ms (cnt f ms)) 0 E) ++ (Z (cnt f ms)).env, catA f 0 (mask (ab an ms (cnt f ms)) 0 R) ++ (Z (cnt f ms)).roots, par⟩
/-- at which stages an operation can be done -/
def span (an : List (List Nat)) (ms : List Nat) (j i : Nat) : Prop := i ≤ ms.length ∧ (∀ k, k < ms.length → ms.getD k 0 ∈ an.getD j [] → k < i) ∧ j ∉ ab an ms i

/-- what some of the operations X gave -/
def catX (sub : Nat → Bool) (E : List (List (Nat × V))) : List Nat → List (Nat × V)
  | [] => []
  | q :: X => (if sub q then E.getD q [] else []) ++ catX sub E X
theorem catX_some {sub : Nat → Bool} {E : List (List (Nat × V))} {k : Nat} {v : V} : ∀ {X : List Nat}, get (catX sub E X) k = some v → ∃ q ∈ X, sub q = true ∧ get (E.getD q []) k = some v
  | [], h => by simp [catX, get] at h
  | q :: X, h => by
    simp only [catX, get_append] at h
    cases hc : get (if sub q then E.getD q [] else []) k with
    | some u =>
      simp only [hc, Option.some.injEq] at h; subst h
      split at hc
      · rename_i hs; exact ⟨q, List.mem_cons_self, hs, hc⟩
      · simp [get] at hc
    | none =>
      simp only [hc] at h
      obtain ⟨q', h1, h2, h3⟩ := catX_some h
      exact ⟨q', List.mem_cons_of_mem _ h1, h2, h3⟩
theorem catX_has {sub : Nat → Bool} {E : List (List (Nat × V))} {k q : Nat} {v : V} : ∀ {X : List Nat}, q ∈ X → sub q = true → get (E.getD q []) k = some v → ∃ u, get (catX sub E X) k = some u
  | [], h, _, _ => by simp at h
  | q' :: X, h, hs, hg => by
    simp only [catX, get_append]
    cases hc : get (if sub q' then E.getD q' [] else []) k with
    | some u => exact ⟨u, rfl⟩
    | none =>
      rcases List.mem_cons.1 h with rfl | h
      · rw [if_pos hs, hg] at hc; simp at hc
      · exact catX_has h hs hg
theorem mask_uniq {α : Type} {A : List Nat} {ls : List (List (Nat × α))} {b : List (Nat × α)} (h : Uniq ls b) : Uniq (mask A 0 ls) b := by
  intro j l i a hj hg
  have key : ∀ {j : Nat} {l : List (Nat × α)} {a : α}, (mask A 0 ls)[j]? = some l → get l i = some a → ls[j]? = some l := fun {j l a} hj hg => by
    obtain ⟨l', h1, h2⟩ := mask_some hj
    split at h2
    · subst h2; simp [get] at hg
    · subst h2; exact h1
  obtain ⟨h1, h2⟩ := h j l i a (key hj hg) hg
  exact ⟨h1, fun j' l' a' hj' hg' => h2 j' l' a' (key hj' hg') hg'⟩
/-- an operation that moves or stores, at stage i -/
inductive Mut (P : Program) (an : List (List Nat)) (ms : List Nat) (Z : Nat → St) (E : List (List (Nat × V))) (R : List (List (Nat × T))) (n : Nat) (g : Gop) (i : Nat) (par : List W) : Prop
  | framed {L L' Y : St} {X : List Nat} : (∀ sub : Nat → Bool, GStep P g ⟨L.env ++ catX sub E X, L.roots, L.par⟩ ⟨L'.env ++ catX sub E X, L'.roots, L'.par⟩) → L'.par = par →
      (∀ k v, get L.env k = some v → get (pickL (mask (ab an ms i) 0 E) (an.getD (ms.getD i 0) []) (Z i).env) k = some v) → (∀ k v, get L.roots k = some v → get (pickL (mask (ab an ms i) 0 R) (an.getD (ms.getD i 0) []) (Z i).roots) k = some v) →
      (∀ k v, get Y.env k = some v → get (pickL (mask (ab an ms i) 0 E) (an.getD (ms.getD i 0) []) (Z i).env) k = some v) → (∀ k v, get Y.roots k = some v → get (pickL (mask (ab an ms i) 0 R) (an.getD (ms.getD i 0) []) (Z i).roots) k = some v) →
      L.par = par → (∀ k v, get (Z (i + 1)).env k = some v → get (L'.env ++ Y.env) k = some v) → (∀ k v, get (Z (i + 1)).roots k = some v → get (L'.roots ++ Y.roots) k = some v) →
      (∀ j, j < n → (get (E.getD j []) = fun _ => none) ∨ j ∈ an.getD (ms.getD i 0) [] ∨ ∀ k, (get (E.getD j []) k).isSome = true → get L'.env k = none) →
      (∀ r, (get L.roots r).isSome = true ∨ (get L'.roots r).isSome = true → Av Y r ∧ ∀ j, j < n → j ∉ an.getD (ms.getD i 0) [] → ms.getD i 0 ∉ an.getD j [] → get (R.getD j []) r = none ∧ (j ∈ X ∨ noRefE r (E.getD j []) = true)) → (∀ q ∈ X, q < n ∧ q ∉ an.getD (ms.getD i 0) []) → Mut P an ms Z E R n g i par
  | flat {k : Nat} {a x : X} {r : Nat} {p : List Nat} {off : Nat} {t old c t2 : T} {h : H} : g = ⟨none, none, .store 1 a x⟩ → (∀ z, Sub ⟨pickL (mask (ab an ms i) 0 E) (an.getD (ms.getD i 0) []) (Z i).env, pickL (mask (ab an ms i) 0 R) (an.getD (ms.getD i 0) []) (Z i).roots, par⟩ z → z.par = par →
        OpR P (.store 1 a x) none z { z with roots := set z.roots r t2 }) →
      (∀ k v, get (Z (i + 1)).env k = some v → get (pickL (mask (ab an ms i) 0 E) (an.getD (ms.getD i 0) []) (Z i).env) k = some v) →
      (∀ k v, get (Z (i + 1)).roots k = some v → get (set (pickL (mask (ab an ms i) 0 R) (an.getD (ms.getD i 0) []) (Z i).roots) r t2) k = some v) →
      (∀ j, j < n → get (R.getD j []) r = none ∨ j ∈ an.getD (ms.getD i 0) []) → Mut P an ms Z E R n g i par

theorem any_mut (hlen : gs.length = es.length) (hes : ∀ (i : Nat) (e : List Nat), es[i]? = some e → ∀ m ∈ e, m < i) (hend : ∀ (i : Nat) (e : List Nat), n ≤ i → es[i]? = some e → ∀ m, m < i → m ∈ an.getD i []) (hn : n ≤ es.length)
    (han : ∀ j e, es[j]? = some e → ∀ m ∈ an.getD j [], m < j ∧ (m ∈ e ∨ ∃ q ∈ e, m ∈ an.getD q []))
    (hmn : ∀ m ∈ ms, m < n) (hms : ∀ i k, i < k → k < ms.length → ms.getD i 0 ∈ an.getD (ms.getD k 0) []) (htr : ∀ i j, i < ms.length → j ∈ ab an ms i → j ∈ ab an ms (i + 1)) 
    (hE : E.length = n) (hR : R.length = n) (hE0 : ∀ m ∈ ms, E.getD m [] = [] ∧ R.getD m [] = [])
    (hU : ∀ i, i ≤ ms.length → Uniq (mask (ab an ms i) 0 E) (Z i).env ∧ Uniq (mask (ab an ms i) 0 R) (Z i).roots)
    (hadd : ∀ j, j < n → j ∉ ms → ∀ i, span an ms j i → ∃ g, gs[j]? = some g ∧ Loc P g ⟨pickL (mask (ab an ms i) 0 E) (an.getD j []) (Z i).env, pickL (mask (ab an ms i) 0 R) (an.getD j []) (Z i).roots, par⟩ (E.getD j []) (R.getD j []) ∧ freshA ⟨(Z i).env, (Z i).roots, par⟩ (R.getD j []))
    (hfr : ∀ j, j < n → ∀ k, k < n → k ≠ j → (an.getD k []).contains j = false → ∀ x ∈ R.getD j [], noRefE x.1 (E.getD k []) = true)
    (hmut : ∀ i, i < ms.length → ∃ g, gs[ms.getD i 0]? = some g ∧ Mut P an ms Z E R n g i par)
    (hops : Ops P (gs.drop n) (stM an ms Z E R par (fun k => decide (k < n))) s1) {s' : St} (hi : Imp s' (stM an ms Z E R par (fun _ => false))) (hn0 : 0 < n) :
    AnyT P es gs (fun s' => Imp s' s1) es.length (Array.replicate es.length false) s' := by
  have hmem : ∀ i, i < ms.length → ms.getD i 0 ∈ ms := fun i hi => by
    rw [List.getD_eq_getElem?_getD, List.getElem?_eq_getElem hi]; exact List.getElem_mem _
  have hEj : ∀ {j : Nat}, j < n → E[j]? = some (E.getD j []) := fun {j} hj => by simp [List.getD_eq_getElem?_getD, hE, hj]
  have hRj : ∀ {j : Nat}, j < n → R[j]? = some (R.getD j []) := fun {j} hj => by simp [List.getD_eq_getElem?_getD, hR, hj]
  have hlE : ∀ {j : Nat} {l}, E[j]? = some l → j < n ∧ E.getD j [] = l := fun {j l} h => ⟨by obtain ⟨b, _⟩ := List.getElem?_eq_some_iff.1 h; omega, by simp [List.getD_eq_getElem?_getD, h]⟩
  have hlR : ∀ {j : Nat} {l}, R[j]? = some l → j < n ∧ R.getD j [] = l := fun {j l} h => ⟨by obtain ⟨b, _⟩ := List.getElem?_eq_some_iff.1 h; omega, by simp [List.getD_eq_getElem?_getD, h]⟩
  refine any_fam (n := n) (an := an) (stM an ms Z E R par) hlen hes hend hn han ?_ hops _ _ _ (by simp) (by simp) ?_ ?_ ?_ ⟨0, hn0, by simp [Array.getD_eq_getD_getElem?, Array.getElem?_replicate]; split <;> rfl⟩
  · intro f j hfn hcl hj hfj hanj
    have hcle := cnt_le (f := f) (ms := ms)
    -- what stands before the stage's operation stands
    have hpre : ∀ i, i < ms.length → f (ms.getD i 0) = true → i < cnt f ms := fun i hi hf => by
      apply Classical.byContradiction; intro hge
      have hlt : cnt f ms < ms.length := by omega
      have h0 := cnt_at hlt
      by_cases e : cnt f ms = i
      · rw [e] at h0; rw [h0] at hf; simp at hf
      · have := hcl _ hf _ (hms (cnt f ms) i (by omega) hi)
        rw [h0] at this; simp at this
    have habf : ∀ i, i ≤ cnt f ms → ∀ k ∈ ab an ms i, f k = true := fun i hi k hk => by
      cases i with
      | zero => simp [ab] at hk
      | succ i => exact hcl _ (cnt_lt (by omega)) k hk
    by_cases hjm : j ∈ ms
    · -- an operation that moves or stores
      obtain ⟨i, hi, e⟩ := List.getElem_of_mem hjm
      have hgi : ms.getD i 0 = j := by simp [List.getD_eq_getElem?_getD, hi, e]
      have hci : cnt f ms = i := cnt_is (by omega) (fun k hk => hanj _ (by rw [← hgi]; exact hms k i hk hi)) (fun _ => by rw [hgi]; exact hfj)
      have hci' : cnt (fun k => f k || k == j) ms = i + 1 := by
        refine cnt_is (by omega) (fun k hk => ?_) (fun hlt => ?_)
        · by_cases e2 : k = i
          · subst e2; rw [hgi, beq_self_eq_true, Bool.or_true]
          · have h1 : f (ms.getD k 0) = true := hanj _ (by rw [← hgi]; exact hms k i (by omega) hi)
            rw [h1]; rfl
        · have h1 := hms i (i + 1) (by omega) hlt
          rw [hgi] at h1
          have h2 : f (ms.getD (i + 1) 0) = false := by
            cases h : f (ms.getD (i + 1) 0) with
            | false => rfl
            | true => have := hcl _ h _ h1; rw [hfj] at this; simp at this
          have h3 : ms.getD (i + 1) 0 ≠ j := by
            intro e3
            have hjj : j < es.length := by omega
            have := (han j _ (List.getElem?_eq_getElem hjj) j (by rw [← e3] at h1 ⊢; rw [e3] at h1 ⊢; exact h1)).1
            omega
          show (f (ms.getD (i + 1) 0) || ms.getD (i + 1) 0 == j) = false
          rw [h2, beq_eq_false_iff_ne.2 h3]; rfl
      obtain ⟨g, hg, hM⟩ := hmut i hi
      rw [hgi] at hg
      have hab' : ab an ms (i + 1) = an.getD j [] := by simp only [ab]; rw [hgi]
      obtain ⟨hU1, hV1⟩ := hU i (by omega)
      obtain ⟨hU2, hV2⟩ := hU (i + 1) (by omega)
      have hsubE : ∀ k v, get (pickL (mask (ab an ms i) 0 E) (an.getD j []) (Z i).env) k = some v → get (catA f 0 (mask (ab an ms i) 0 E) ++ (Z i).env) k = some v := fun k v h => pickL_sub hU1 hanj h
      have hsubR : ∀ k v, get (pickL (mask (ab an ms i) 0 R) (an.getD j []) (Z i).roots) k = some v → get (catA f 0 (mask (ab an ms i) 0 R) ++ (Z i).roots) k = some v := fun k v h => pickL_sub hV1 hanj h
      -- floats
      have hflE : ∀ k v, get (catA f 0 (mask (ab an ms (i + 1)) 0 E)) k = some v → (∃ q, q < n ∧ f q = true ∧ q ∉ an.getD j [] ∧ j ∉ an.getD q [] ∧ get (E.getD q []) k = some v) := fun k v h => by
        obtain ⟨q, l, h1, h2, h3⟩ := catA_some h
        obtain ⟨l', k1, k2⟩ := mask_some h1
        simp only [Nat.zero_add] at h2 k2
        split at k2
        · subst k2; simp [get] at h3
        · rename_i hc
          subst k2
          obtain ⟨b1, b2⟩ := hlE k1
          refine ⟨q, b1, h2, fun hq => hc (by rw [hab']; simpa using hq), fun hq => ?_, by rw [b2]; exact h3⟩
          have := hcl q h2 j hq
          rw [hfj] at this; simp at this
      have hflR : ∀ k v, get (catA f 0 (mask (ab an ms (i + 1)) 0 R)) k = some v → (∃ q, q < n ∧ f q = true ∧ q ∉ an.getD j [] ∧ j ∉ an.getD q [] ∧ get (R.getD q []) k = some v) := fun k v h => by
        obtain ⟨q, l, h1, h2, h3⟩ := catA_some h
        obtain ⟨l', k1, k2⟩ := mask_some h1
        simp only [Nat.zero_add] at h2 k2
        split at k2
        · subst k2; simp [get] at h3
        · rename_i hc
          subst k2
          obtain ⟨b1, b2⟩ := hlR k1
          refine ⟨q, b1, h2, fun hq => hc (by rw [hab']; simpa using hq), fun hq => ?_, by rw [b2]; exact h3⟩
          have := hcl q h2 j hq
          rw [hfj] at this; simp at this
      have hnotab : ∀ q, q ∉ an.getD j [] → q ∉ ab an ms i := fun q hq h => hq (by rw [← hab']; exact htr i q hi h)
      have hupE : ∀ k v, get (catA f 0 (mask (ab an ms (i + 1)) 0 E)) k = some v → get (catA f 0 (mask (ab an ms i) 0 E)) k = some v := fun k v h => by
        obtain ⟨q, b1, b2, b3, _, b5⟩ := hflE k v h
        have := mask_get (A := ab an ms i) (k := 0) (hEj b1)
        simp only [Nat.zero_add] at this
        rw [if_neg (by simpa using hnotab q b3)] at this
        exact catA_get hU1 this b2 b5
      have hupR : ∀ k v, get (catA f 0 (mask (ab an ms (i + 1)) 0 R)) k = some v → get (catA f 0 (mask (ab an ms i) 0 R)) k = some v := fun k v h => by
        obtain ⟨q, b1, b2, b3, _, b5⟩ := hflR k v h
        have := mask_get (A := ab an ms i) (k := 0) (hRj b1)
        simp only [Nat.zero_add] at this
        rw [if_neg (by simpa using hnotab q b3)] at this
        exact catA_get hV1 this b2 b5
      have hfg : ∀ {α : Type} (ls : List (List (Nat × α))), (∀ l, ls[j]? = some l → l = []) → catA (fun k => f k || k == j) 0 (mask (ab an ms (i + 1)) 0 ls) = catA f 0 (mask (ab an ms (i + 1)) 0 ls) := fun {α} ls hls => by
        refine catA_congr fun q l hl => ?_
        by_cases e2 : q = j
        · subst e2
          obtain ⟨l', k1, k2⟩ := mask_some hl
          right; rw [k2, hls l' k1]; simp
        · left; simp [e2]
      have hSf : stM an ms Z E R par f = ⟨catA f 0 (mask (ab an ms i) 0 E) ++ (Z i).env, catA f 0 (mask (ab an ms i) 0 R) ++ (Z i).roots, par⟩ := by simp only [stM, hci]
      have hSf' : stM an ms Z E R par (fun k => f k || k == j) = ⟨catA f 0 (mask (ab an ms (i + 1)) 0 E) ++ (Z (i + 1)).env, catA f 0 (mask (ab an ms (i + 1)) 0 R) ++ (Z (i + 1)).roots, par⟩ := by
        simp only [stM, hci']
        rw [hfg E fun l hl => by obtain ⟨_, b⟩ := hlE hl; rw [← b]; exact (hE0 j hjm).1, hfg R fun l hl => by obtain ⟨_, b⟩ := hlR hl; rw [← b]; exact (hE0 j hjm).2]
      rw [hSf, hSf']
      cases hM with
      | framed k1 k2 k3 k4 k5 k6 k7 k8 k9 k10 k11 k12 =>
        rename_i L L' Y X
        rw [hgi] at k3 k4 k5 k6 k10 k11 k12
        have k1 := k1 f
        have hupX : ∀ q k v, q < n → f q = true → q ∉ an.getD j [] → get (E.getD q []) k = some v → get (catA f 0 (mask (ab an ms i) 0 E)) k = some v := fun q k v b1 b2 b3 b5 => by
          have := mask_get (A := ab an ms i) (k := 0) (hEj b1)
          simp only [Nat.zero_add] at this
          rw [if_neg (by simpa using hnotab q b3)] at this
          exact catA_get hU1 this b2 b5
        have hupX2 : ∀ q k v, q < n → f q = true → q ∉ an.getD j [] → get (E.getD q []) k = some v → get (catA f 0 (mask (ab an ms (i + 1)) 0 E)) k = some v := fun q k v b1 b2 b3 b5 => by
          have := mask_get (A := ab an ms (i + 1)) (k := 0) (hEj b1)
          simp only [Nat.zero_add] at this
          rw [if_neg (by rw [hab']; simpa using b3)] at this
          exact catA_get hU2 this b2 b5
        have hXE : ∀ k v, get (catX f E X) k = some v → ∃ q, q ∈ X ∧ q < n ∧ f q = true ∧ q ∉ an.getD j [] ∧ get (E.getD q []) k = some v := fun k v h => by
          obtain ⟨q, h1, h2, h3⟩ := catX_some h
          obtain ⟨h4, h5⟩ := k12 q h1
          exact ⟨q, h1, h4, h2, h5, h3⟩
        have hflX : ∀ k v, get (catA f 0 (mask X 0 (mask (ab an ms (i + 1)) 0 E))) k = some v → get (catA f 0 (mask (ab an ms (i + 1)) 0 E)) k = some v := fun k v h => by
          obtain ⟨q, l, h1, h2, h3⟩ := catA_some h
          obtain ⟨l', m1, m2⟩ := mask_some h1
          simp only [Nat.zero_add] at h2 m2
          split at m2
          · subst m2; simp [get] at h3
          · subst m2; exact catA_get hU2 m1 h2 h3
        have hflX2 : ∀ q k v, q ∉ X → q < n → f q = true → q ∉ an.getD j [] → get (E.getD q []) k = some v → get (catA f 0 (mask X 0 (mask (ab an ms (i + 1)) 0 E))) k = some v := fun q k v hq b1 b2 b3 b5 => by
          have m1 := mask_get (A := ab an ms (i + 1)) (k := 0) (hEj b1)
          simp only [Nat.zero_add] at m1
          rw [if_neg (by rw [hab']; simpa using b3)] at m1
          have m2 := mask_get (A := X) (k := 0) m1
          simp only [Nat.zero_add] at m2
          rw [if_neg (by simpa using hq)] at m2
          exact catA_get (mask_uniq hU2) m2 b2 b5
        let e : St := ⟨Y.env ++ catA f 0 (mask X 0 (mask (ab an ms (i + 1)) 0 E)), Y.roots ++ catA f 0 (mask (ab an ms (i + 1)) 0 R), par⟩
        have hav : ∀ r, (get L.roots r).isSome = true ∨ (get L'.roots r).isSome = true → Av e r := fun r hr => by
          obtain ⟨a1, a2⟩ := k11 r hr
          refine ⟨?_, ?_⟩
          · simp only [e, get_append, a1.root]
            cases hc : get (catA f 0 (mask (ab an ms (i + 1)) 0 R)) r with
            | none => rfl
            | some t =>
              obtain ⟨q, b1, b2, b3, b4, b5⟩ := hflR r t hc
              rw [(a2 q b1 b3 b4).1] at b5; simp at b5
          · simp only [e, noRefE_append, a1.env, Bool.true_and]
            refine noRefE_cat _ 0 fun q l h1 h2 => ?_
            obtain ⟨l1, d1, d2⟩ := mask_some h1
            simp only [Nat.zero_add] at h2 d2
            split at d2
            · subst d2; rfl
            rename_i hX
            subst d2
            obtain ⟨l', c1, c2⟩ := mask_some d1
            simp only [Nat.zero_add] at c2
            split at c2
            · subst c2; rfl
            · rename_i hc
              subst c2
              obtain ⟨b1, b2⟩ := hlE c1
              rw [← b2]
              refine ((a2 q b1 (fun hq => hc (by rw [hab']; simpa using hq)) (fun hq => ?_)).2).resolve_left (fun hq => hX (by simpa using hq))
              have := hcl q h2 j hq
              rw [hfj] at this; simp at this
        refine ⟨g, plus ⟨L.env ++ catX f E X, L.roots, L.par⟩ e, plus ⟨L'.env ++ catX f E X, L'.roots, L'.par⟩ e, hg, ?_, ?_, ?_⟩
        · refine imp_get (fun k v h => ?_) (fun k v h => ?_) k7
          · simp only [plus, get_append] at h
            cases hc : get L.env k with
            | some u => simp only [hc, Option.some.injEq] at h; subst h; exact hsubE _ _ (k3 _ _ hc)
            | none =>
              cases hx : get (catX f E X) k with
              | some u =>
                simp only [hc, hx, Option.some.injEq] at h; subst h
                obtain ⟨q, _, b1, b2, b3, b5⟩ := hXE _ _ hx
                simp only [get_append]; rw [hupX q _ _ b1 b2 b3 b5]
              | none =>
              simp only [hc, hx, e, get_append] at h
              cases hc2 : get Y.env k with
              | some u => simp only [hc2, Option.some.injEq] at h; subst h; exact hsubE _ _ (k5 _ _ hc2)
              | none => simp only [hc2] at h; simp only [get_append]; rw [hupE _ _ (hflX _ _ h)]
          · simp only [plus, get_append] at h
            cases hc : get L.roots k with
            | some u => simp only [hc, Option.some.injEq] at h; subst h; exact hsubR _ _ (k4 _ _ hc)
            | none =>
              simp only [hc, e, get_append] at h
              cases hc2 : get Y.roots k with
              | some u => simp only [hc2, Option.some.injEq] at h; subst h; exact hsubR _ _ (k6 _ _ hc2)
              | none => simp only [hc2] at h; simp only [get_append]; rw [hupR _ _ h]
        · have key : ∀ L1 L1' : St, L1.roots = L.roots → L1'.roots = L'.roots → GStep P g L1 L1' → GStep P g (plus L1 e) (plus L1' e) := fun L1 L1' hr1 hr2 k1 => by
            cases k1 with
            | run h1 h2 =>
              refine .run ?_ (opR_plus h2 (fun r hr => hav r (.inl (by rw [← hr1]; exact hr))) (fun r hr => hav r (.inr (by rw [← hr2]; exact hr))))
              cases hgg : g.g with
              | none => trivial
              | some tw => obtain ⟨t, want⟩ := tw; rw [hgg] at h1; exact (plus_sub _ _).env _ _ h1
            | pass h1 h2 hu =>
              have := GStep.pass (P := P) (s := plus L1 e) h1 ((plus_sub _ _).env _ _ h2) hu
              rw [putO_plus] at this
              exact this
          exact key _ _ rfl rfl k1
        · refine imp_get (fun k v h => ?_) (fun k v h => ?_) k2.symm
          · rw [get_append] at h
            simp only [plus, get_append, e]
            cases hc : get (catA f 0 (mask (ab an ms (i + 1)) 0 E)) k with
            | some u =>
              simp only [hc, Option.some.injEq] at h; subst h
              obtain ⟨q, b1, b2, b3, b4, b5⟩ := hflE _ _ hc
              have hz : get (Z (i + 1)).env k = none := by
                have := mask_get (A := ab an ms (i + 1)) (k := 0) (hEj b1)
                simp only [Nat.zero_add] at this
                rw [if_neg (by rw [hab']; simpa using b3)] at this
                exact (hU2 q _ k u this b5).1
              have hl : get L'.env k = none := by
                rcases k10 q b1 with h | h | h
                · rw [congrFun h k] at b5; simp at b5
                · exact absurd h b3
                · exact h k (by rw [b5]; rfl)
              rw [hl]
              simp only
              cases hx : get (catX f E X) k with
              | some u' =>
                obtain ⟨q', _, d1, d2, d3, d5⟩ := hXE _ _ hx
                have := hupX2 q' _ _ d1 d2 d3 d5
                rw [hc] at this
                simpa using this.symm
              | none =>
              simp only
              have hqX : q ∉ X := fun hq => by
                obtain ⟨u', hu⟩ := catX_has hq b2 b5
                rw [hx] at hu; simp at hu
              cases hy : get Y.env k with
              | none => simp only; exact hflX2 q _ _ hqX b1 b2 b3 b5
              | some y =>
                exfalso
                have h1 := hsubE _ _ (k5 _ _ hy)
                rw [get_append, hupE _ _ hc] at h1
                simp only [Option.some.injEq] at h1
                subst h1
                rcases pickL_some (k5 _ _ hy) with ⟨q', c1, c2⟩ | ⟨_, c2⟩
                · have hm1 := mask_get (A := ab an ms i) (k := 0) (hEj b1)
                  simp only [Nat.zero_add] at hm1
                  rw [if_neg (by simpa using hnotab q b3)] at hm1
                  have hq' : (mask (ab an ms i) 0 E)[q']? = some ((mask (ab an ms i) 0 E).getD q' []) := by
                    cases hx : (mask (ab an ms i) 0 E)[q']? with
                    | some l => simp [List.getD_eq_getElem?_getD, hx]
                    | none => rw [List.getD_eq_getElem?_getD, hx] at c2; simp [get] at c2
                  have := (hU1 q _ k _ hm1 b5).2 q' _ _ hq' c2
                  subst this
                  exact b3 c1
                · have hm1 := mask_get (A := ab an ms i) (k := 0) (hEj b1)
                  simp only [Nat.zero_add] at hm1
                  rw [if_neg (by simpa using hnotab q b3)] at hm1
                  rw [(hU1 q _ k _ hm1 b5).1] at c2; simp at c2
            | none =>
              simp only [hc] at h
              have := k8 k v h
              rw [get_append] at this
              cases hl : get L'.env k with
              | some u => rw [hl] at this; exact this
              | none =>
                rw [hl] at this
                simp only at this ⊢
                cases hx : get (catX f E X) k with
                | some u' =>
                  obtain ⟨q', _, d1, d2, d3, d5⟩ := hXE _ _ hx
                  have := hupX2 q' _ _ d1 d2 d3 d5
                  rw [hc] at this; simp at this
                | none => simp only; rw [this]
          · rw [get_append] at h
            simp only [plus, get_append, e]
            cases hc : get (catA f 0 (mask (ab an ms (i + 1)) 0 R)) k with
            | some u =>
              simp only [hc, Option.some.injEq] at h; subst h
              obtain ⟨q, b1, b2, b3, b4, b5⟩ := hflR _ _ hc
              have hl : get L'.roots k = none := by
                cases hl : get L'.roots k with
                | none => rfl
                | some x =>
                  have := ((k11 k (.inr (by rw [hl]; rfl))).2 q b1 b3 b4).1
                  rw [this] at b5; simp at b5
              rw [hl]
              simp only
              cases hy : get Y.roots k with
              | none => rfl
              | some y =>
                exfalso
                rcases pickL_some (k6 _ _ hy) with ⟨q', c1, c2⟩ | ⟨_, c2⟩
                · have hm1 := mask_get (A := ab an ms i) (k := 0) (hRj b1)
                  simp only [Nat.zero_add] at hm1
                  rw [if_neg (by simpa using hnotab q b3)] at hm1
                  have hq' : (mask (ab an ms i) 0 R)[q']? = some ((mask (ab an ms i) 0 R).getD q' []) := by
                    cases hx : (mask (ab an ms i) 0 R)[q']? with
                    | some l => simp [List.getD_eq_getElem?_getD, hx]
                    | none => rw [List.getD_eq_getElem?_getD, hx] at c2; simp [get] at c2
                  have := (hV1 q _ k _ hm1 b5).2 q' _ _ hq' c2
                  subst this
                  exact b3 c1
                · have hm1 := mask_get (A := ab an ms i) (k := 0) (hRj b1)
                  simp only [Nat.zero_add] at hm1
                  rw [if_neg (by simpa using hnotab q b3)] at hm1
                  rw [(hV1 q _ k _ hm1 b5).1] at c2; simp at c2
            | none =>
              simp only [hc] at h
              have := k9 k v h
              rw [get_append] at this
              cases hl : get L'.roots k with
              | some u => rw [hl] at this; exact this
              | none =>
                rw [hl] at this
                simp only at this ⊢
                rw [this]
      | flat k1 k2 k3 k4 k5 =>
        rename_i a x r p off t old c t2 h
        rw [hgi] at k2 k3 k4 k5
        subst k1
        refine ⟨_, _, _, hg, Imp.refl _, .run trivial (k2 _ ⟨hsubE, hsubR⟩ rfl), ?_⟩
        refine imp_get (fun k v h => ?_) (fun k v h => ?_) rfl
        · rw [get_append] at h
          cases hc : get (catA f 0 (mask (ab an ms (i + 1)) 0 E)) k with
          | some u => simp only [hc, Option.some.injEq] at h; subst h; simp only [get_append]; rw [hupE _ _ hc]
          | none => simp only [hc] at h; exact hsubE _ _ (k3 _ _ h)
        · rw [get_append] at h
          cases hc : get (catA f 0 (mask (ab an ms (i + 1)) 0 R)) k with
          | some u =>
            simp only [hc, Option.some.injEq] at h; subst h
            obtain ⟨q, b1, b2, b3, b4, b5⟩ := hflR _ _ hc
            have hkr : r ≠ k := by
              intro e2; subst e2
              rcases k5 q b1 with h | h
              · rw [h] at b5; simp at b5
              · exact b3 h
            simp only [get_set, if_neg hkr, get_append]
            rw [hupR _ _ hc]
          | none =>
            simp only [hc] at h
            have := k4 k v h
            simp only [get_set] at this ⊢
            split
            · rename_i e2; rw [if_pos e2] at this; exact this
            · rename_i e2; rw [if_neg e2] at this; exact hsubR _ _ this
    · -- an operation that adds
      have hci : cnt (fun k => f k || k == j) ms = cnt f ms := by
        have : ∀ l : List Nat, (∀ m ∈ l, m ≠ j) → cnt (fun k => f k || k == j) l = cnt f l := by
          intro l
          induction l with
          | nil => intro _; rfl
          | cons m l ih =>
            intro h
            have h1 := h m (by simp)
            simp only [cnt, ih fun m hm => h m (by simp [hm]), beq_eq_false_iff_ne.2 h1, Bool.or_false]
        exact this ms fun m hm e => hjm (e ▸ hm)
      generalize hi0 : cnt f ms = i at *
      have hsp : span an ms j i := by
        refine ⟨hcle, fun k hk hkm => hpre k hk (hanj _ hkm), fun hjab => ?_⟩
        have := habf i (Nat.le_refl _) j hjab
        rw [hfj] at this; simp at this
      obtain ⟨g, hg, hl, hfA⟩ := hadd j hj hjm i hsp
      obtain ⟨hU1, hV1⟩ := hU i hcle
      have hab1 : (ab an ms i).contains j = false := by simpa using hsp.2.2
      have hmE := mask_get (A := ab an ms i) (k := 0) (hEj hj)
      have hmR := mask_get (A := ab an ms i) (k := 0) (hRj hj)
      simp only [Nat.zero_add, hab1, Bool.false_eq_true, if_false] at hmE hmR
      have hSf : stM an ms Z E R par f = ⟨catA f 0 (mask (ab an ms i) 0 E) ++ (Z i).env, catA f 0 (mask (ab an ms i) 0 R) ++ (Z i).roots, par⟩ := by simp only [stM, hi0]
      have hSf' : stM an ms Z E R par (fun k => f k || k == j) = ⟨catA (fun k => f k || k == j) 0 (mask (ab an ms i) 0 E) ++ (Z i).env, catA (fun k => f k || k == j) 0 (mask (ab an ms i) 0 R) ++ (Z i).roots, par⟩ := by simp only [stM, hci]
      rw [hSf, hSf']
      have hsub : Sub ⟨pickL (mask (ab an ms i) 0 E) (an.getD j []) (Z i).env, pickL (mask (ab an ms i) 0 R) (an.getD j []) (Z i).roots, par⟩ ⟨catA f 0 (mask (ab an ms i) 0 E) ++ (Z i).env, catA f 0 (mask (ab an ms i) 0 R) ++ (Z i).roots, par⟩ :=
        ⟨fun _ _ h => pickL_sub hU1 hanj h, fun _ _ h => pickL_sub hV1 hanj h⟩
      have hfre : freshA ⟨catA f 0 (mask (ab an ms i) 0 E) ++ (Z i).env, catA f 0 (mask (ab an ms i) 0 R) ++ (Z i).roots, par⟩ (R.getD j []) := by
        refine freshA_all (fun r h1 h2 => ?_) hfA (fun x hx => ⟨?_, ?_, rfl⟩)
        · simp only [fresh, Bool.and_eq_true, Option.isNone_iff_eq_none] at h1 ⊢
          exact ⟨⟨h2.1, h2.2.1⟩, h1.2⟩
        · obtain ⟨a, ha⟩ := get_mem hx
          simp only [get_append]
          cases hc' : get (catA f 0 (mask (ab an ms i) 0 R)) x.1 with
          | none => exact (hV1 j _ _ a hmR ha).1
          | some b =>
            exfalso
            obtain ⟨q, l, q1, q2, q3⟩ := catA_some hc'
            have := (hV1 j _ _ a hmR ha).2 q l b q1 q3
            subst this
            simp only [Nat.zero_add] at q2
            rw [hfj] at q2; simp at q2
        · simp only [noRefE_append, Bool.and_eq_true]
          have hfs : ∀ {rs : List (Nat × T)}, freshA ⟨(Z i).env, (Z i).roots, par⟩ rs → x ∈ rs → fresh ⟨(Z i).env, (Z i).roots, par⟩ x.1 = true := by
            intro rs
            induction rs with
            | nil => intro _ h; simp at h
            | cons y rs ihr =>
              intro h1 h2
              rcases List.mem_cons.1 h2 with rfl | h2
              · exact h1.1
              · exact ihr h1.2.2 h2
          have hf0 := hfs hfA hx
          simp only [fresh, Bool.and_eq_true] at hf0
          refine ⟨noRefE_cat _ 0 fun q l q1 q2 => ?_, hf0.1.2⟩
          simp only [Nat.zero_add] at q2
          obtain ⟨l', c1, c2⟩ := mask_some q1
          simp only [Nat.zero_add] at c2
          split at c2
          · subst c2; rfl
          · subst c2
            obtain ⟨b1, b2⟩ := hlE c1
            rw [← b2]
            refine hfr j hj q b1 (fun e => by subst e; rw [hfj] at q2; simp at q2) ?_ x hx
            cases hcj : (an.getD q []).contains j with
            | false => rfl
            | true =>
              exfalso
              have := hcl q q2 j (by simpa using hcj)
              rw [hfj] at this; simp at this
      exact ⟨g, _, _, hg, Imp.refl _, loc_step hl hsub hfre, imp_get (fun _ _ h => catA_one hU1 hmE h) (fun _ _ h => catA_one hV1 hmR h) rfl⟩
  · intro i hi hl
    exfalso
    simp [Array.getD_eq_getD_getElem?, Array.getElem?_replicate, hi] at hl
  · intro j hj hl
    exfalso
    simp [Array.getD_eq_getD_getElem?, Array.getElem?_replicate, show j < es.length by omega] at hl
  · have e0 : (fun k => (Array.replicate es.length false).getD k false && decide (k < n)) = fun _ => false := by
      funext k
      simp only [Array.getD_eq_getD_getElem?, Array.getElem?_replicate]
      split <;> simp
    rw [e0]; exact hi
end
end Go.Proofs.YtdhclelfnbjikaaT

/- Trees: a region in any order with operations that move and store among those that only add, as conditions, which simp reckons. No condition. -/
set_option linter.unusedVariables false
set_option linter.unusedSimpArgs false
namespace Go.Proofs.YtdhclelfnbjikaaT
open Go

/-- how an operation that moves or stores is done: beside what the roots σ are named by; or a flat cell -/
inductive Mu where
  | framed (σ : List Nat)
  | flat
  | many (σ X : List Nat)
structure Stg where
  m : Option Nat
  A : List Nat
  env : List (Nat × V)
  roots : List (Nat × T)
  N : List Nat
  X : List Nat
instance : Inhabited Stg := ⟨⟨none, [], [], [], [], []⟩⟩

def pSt (P : Program) (par : List W) (E : List (List (Nat × V))) (R : List (List (Nat × T))) (ks : List Nat) (g : Gop) (b : Nat) : Stg → (List (Nat × V) → List (Nat × T) → Prop) → Prop
  | ⟨_, A, env, roots, _, _⟩, K => pL (pickL (mask A 0 E) ks env) fun e => pL (pickL (mask A 0 R) ks roots) fun r => ga P g ⟨e, r, par⟩ b K
def AtS (P : Program) (par : List W) (E : List (List (Nat × V))) (R : List (List (Nat × T))) (ks : List Nat) (g : Gop) (z : Stg) (e : List (Nat × V)) (r : List (Nat × T)) : Prop :=
  (∃ d v, g.d = some d ∧ e = [(d, v)]) ∧ Loc P g ⟨pickL (mask z.A 0 E) ks z.env, pickL (mask z.A 0 R) ks z.roots, par⟩ e r
section
variable {P : Program} {par : List W} {E : List (List (Nat × V))} {R : List (List (Nat × T))} {ks : List Nat} {g : Gop} {b : Nat}
theorem pSt_ok {z : Stg} {K} (h : pSt P par E R ks g b z K) : ∃ e r, AtS P par E R ks g z e r ∧ K e r := by
  obtain ⟨m, A, env, roots, N, X⟩ := z
  simp only [pSt, pL] at h
  obtain ⟨d, v, rs, h1, h2, h3⟩ := ga_ok h
  exact ⟨_, _, ⟨⟨d, v, h1, rfl⟩, h2⟩, h3⟩
def reS (P : Program) (par : List W) (E : List (List (Nat × V))) (R : List (List (Nat × T))) (ks : List Nat) (g : Gop) (b : Nat) (e : List (Nat × V)) (r : List (Nat × T)) : List Stg → Prop → Prop
  | [], K => K
  | z :: zs, K => pSt P par E R ks g b z fun e' r' => need (e' = e ∧ r' = r) (reS P par E R ks g b e r zs K)
theorem reS_ok {e : List (Nat × V)} {r : List (Nat × T)} {K : Prop} : ∀ {zs : List Stg}, reS P par E R ks g b e r zs K → (∀ z ∈ zs, AtS P par E R ks g z e r) ∧ K
  | [], h => ⟨by simp, h⟩
  | z :: zs, h => by
    obtain ⟨e', r', h1, ⟨rfl, rfl⟩, h2⟩ := pSt_ok h
    obtain ⟨h3, h4⟩ := reS_ok h2
    exact ⟨fun z' hz => (List.mem_cons.1 hz).elim (fun e => e ▸ h1) (h3 z'), h4⟩
def inM (ks : List Nat) : Stg → Bool
  | ⟨none, _, _, _, _, _⟩ => false
  | ⟨some m, _, _, _, _, _⟩ => ks.contains m
def addM (P : Program) (par : List W) (E : List (List (Nat × V))) (R : List (List (Nat × T))) (ks : List Nat) (g : Gop) (b : Nat) : List Stg → (List (Nat × V) → List (Nat × T) → Prop) → Prop
  | [], _ => False
  | [z], K => pSt P par E R ks g b z K
  | z :: z' :: zs, K => pI (inM ks z') (addM P par E R ks g b (z' :: zs) K) (pSt P par E R ks g b z fun e r => reS P par E R ks g b e r (z' :: zs) (K e r))
theorem addM_ok {K} : ∀ {zs : List Stg}, addM P par E R ks g b zs K → ∃ e r, K e r ∧ (∃ d v, g.d = some d ∧ e = [(d, v)]) ∧ ∀ (i : Nat) (z : Stg), zs[i]? = some z → (∀ (i' : Nat) (z' : Stg), i < i' → zs[i']? = some z' → inM ks z' = false) → AtS P par E R ks g z e r
  | [], h => h.elim
  | [z], h => by
    obtain ⟨e, r, h1, h2⟩ := pSt_ok h
    refine ⟨e, r, h2, h1.1, fun i z' hi _ => ?_⟩
    cases i with
    | zero => simp only [List.getElem?_cons_zero, Option.some.injEq] at hi; exact hi ▸ h1
    | succ i => simp at hi
  | z :: z' :: zs, h => by
    simp only [addM] at h
    cases hm : inM ks z' with
    | true =>
      rw [hm] at h
      obtain ⟨e, r, h1, h2, h3⟩ := addM_ok (zs := z' :: zs) h
      refine ⟨e, r, h1, h2, fun i z0 hi hl => ?_⟩
      cases i with
      | zero => have := hl 1 z' (by omega) rfl; rw [hm] at this; simp at this
      | succ i => exact h3 i z0 (by simpa using hi) fun i' z1 hlt hi' => hl (i' + 1) z1 (by omega) (by simpa using hi')
    | false =>
      rw [hm] at h
      obtain ⟨e, r, h1, h2⟩ := pSt_ok h
      obtain ⟨h3, h4⟩ := reS_ok h2
      refine ⟨e, r, h4, h1.1, fun i z0 hi _ => ?_⟩
      cases i with
      | zero => simp only [List.getElem?_cons_zero, Option.some.injEq] at hi; exact hi ▸ h1
      | succ i => exact h3 z0 (List.mem_of_getElem? (by simpa using hi))
end

def baseOf : List (Nat × T) → Nat
  | [] => 0
  | [(r, _)] => r
  | _ :: l => baseOf l
/-- the operations before, done at a new stage -/
def reM (P : Program) (an : List (List Nat)) (par : List W) (ms : List Nat) (E0 : List (List (Nat × V))) (R0 : List (List (Nat × T))) (z : Stg) : Nat → List Gop → List (List (Nat × V)) → List (List (Nat × T)) → Prop → Prop
  | j, g :: gs, e :: E, r :: R, K => pI (z.A.contains j || ms.contains j) (reM P an par ms E0 R0 z (j + 1) gs E R K)
      (pL (getN an j) fun ks => pSt P par E0 R0 ks g (baseOf r) z fun e' r' => need (e' = e ∧ r' = r) (reM P an par ms E0 R0 z (j + 1) gs E R K))
  | _, _, _, _, K => K
theorem reM_ok {P : Program} {an : List (List Nat)} {par : List W} {ms : List Nat} {E0 : List (List (Nat × V))} {R0 : List (List (Nat × T))} {z : Stg} {K : Prop} : ∀ {gs : List Gop} {E : List (List (Nat × V))} {R : List (List (Nat × T))} {j : Nat}, reM P an par ms E0 R0 z j gs E R K → E.length ≤ gs.length → R.length = E.length →
    K ∧ ∀ i g, i < E.length → gs[i]? = some g → j + i ∉ z.A → j + i ∉ ms → AtS P par E0 R0 (an.getD (j + i) []) g z (E.getD i []) (R.getD i [])
  | gs, [], R, j, h, hl, hr => by
    refine ⟨?_, fun i g hi => by simp at hi⟩
    cases gs <;> simpa only [reM] using h
  | [], e :: E, R, j, h, hl, hr => by simp at hl
  | g :: gs, e :: E, [], j, h, hl, hr => by simp at hr
  | g :: gs, e :: E, r :: R, j, h, hl, hr => by
    simp only [reM] at h
    simp only [List.length_cons, Nat.add_le_add_iff_right, Nat.add_right_cancel_iff] at hl hr
    cases hc : (z.A.contains j || ms.contains j) with
    | true =>
      rw [hc] at h
      obtain ⟨h1, h2⟩ := reM_ok h hl hr
      refine ⟨h1, fun i g' hi hg hA hm => ?_⟩
      cases i with
      | zero => simp at hc; rcases hc with hc | hc <;> simp_all
      | succ i =>
        have := h2 i g' (by simpa using hi) (by simpa using hg) (by rwa [show j + 1 + i = j + (i + 1) by omega]) (by rwa [show j + 1 + i = j + (i + 1) by omega])
        rw [show j + (i + 1) = j + 1 + i by omega]
        simpa using this
    | false =>
      rw [hc] at h
      simp only [pI_false, pL, getN_eq] at h
      obtain ⟨e', r', h1, ⟨rfl, rfl⟩, h2⟩ := pSt_ok h
      obtain ⟨h3, h4⟩ := reM_ok h2 hl hr
      refine ⟨h3, fun i g' hi hg hA hm => ?_⟩
      cases i with
      | zero =>
        simp only [List.getElem?_cons_zero, Option.some.injEq] at hg; subst hg
        simpa using h1
      | succ i =>
        have := h4 i g' (by simpa using hi) (by simpa using hg) (by rwa [show j + 1 + i = j + (i + 1) by omega]) (by rwa [show j + 1 + i = j + (i + 1) by omega])
        rw [show j + (i + 1) = j + 1 + i by omega]
        simpa using this

theorem reM_nil {P : Program} {an : List (List Nat)} {par : List W} {ms : List Nat} {E0 : List (List (Nat × V))} {R0 : List (List (Nat × T))} {z : Stg} {K : Prop} {gs : List Gop} {R : List (List (Nat × T))} {j : Nat} : reM P an par ms E0 R0 z j gs [] R K = K := by cases gs <;> rfl
/-- what names none, some of the roots -/
def noS (σ : List Nat) (v : V) : Bool := σ.all fun r => noRefV r v
def inE (σ : List Nat) : List (Nat × V) → List (Nat × V)
  | [] => []
  | (k, v) :: l => cond (noS σ v) ((k, v) :: inE σ l) (del (inE σ l) k)
def outE (σ : List Nat) : List (Nat × V) → List (Nat × V)
  | [] => []
  | (k, v) :: l => cond (noS σ v) (del (outE σ l) k) ((k, v) :: outE σ l)
def inR (σ : List Nat) : List (Nat × T) → List (Nat × T)
  | [] => []
  | (k, v) :: l => cond (σ.contains k) (inR σ l) ((k, v) :: inR σ l)
def outR (σ : List Nat) : List (Nat × T) → List (Nat × T)
  | [] => []
  | (k, v) :: l => cond (σ.contains k) ((k, v) :: outR σ l) (outR σ l)
theorem inE_get {σ : List Nat} {k : Nat} {v : V} : ∀ {l : List (Nat × V)}, get (inE σ l) k = some v → get l k = some v
  | [], h => h
  | (i, u) :: l, h => by
    simp only [inE] at h
    cases hn : noS σ u with
    | true =>
      rw [hn] at h
      simp only [cond_true, get] at h ⊢
      split at h
      · rename_i e; rw [if_pos e]; exact h
      · rename_i e; rw [if_neg e]; exact inE_get h
    | false =>
      rw [hn] at h
      simp only [cond_false, get_del] at h
      split at h
      · simp at h
      · rename_i e; simp only [get, if_neg e]; exact inE_get h
theorem outE_get {σ : List Nat} {k : Nat} {v : V} : ∀ {l : List (Nat × V)}, get (outE σ l) k = some v → get l k = some v
  | [], h => h
  | (i, u) :: l, h => by
    simp only [outE] at h
    cases hn : noS σ u with
    | false =>
      rw [hn] at h
      simp only [cond_false, get] at h ⊢
      split at h
      · rename_i e; rw [if_pos e]; exact h
      · rename_i e; rw [if_neg e]; exact outE_get h
    | true =>
      rw [hn] at h
      simp only [cond_true, get_del] at h
      split at h
      · simp at h
      · rename_i e; simp only [get, if_neg e]; exact outE_get h
theorem inR_get {σ : List Nat} {k : Nat} : ∀ {l : List (Nat × T)}, get (inR σ l) k = if σ.contains k then none else get l k
  | [] => by simp [inR, get]
  | (i, u) :: l => by
    simp only [inR]
    cases hn : σ.contains i with
    | true =>
      simp only [cond_true, inR_get (l := l), get]
      by_cases e : i = k
      · subst e; simp only [hn, if_true]
      · simp only [if_neg e]
    | false =>
      simp only [cond_false, get, inR_get (l := l)]
      by_cases e : i = k
      · subst e; simp only [hn, if_true, Bool.false_eq_true, if_false]
      · simp only [if_neg e]
theorem outR_get {σ : List Nat} {k : Nat} : ∀ {l : List (Nat × T)}, get (outR σ l) k = if σ.contains k then get l k else none
  | [] => by simp [outR, get]
  | (i, u) :: l => by
    simp only [outR]
    cases hn : σ.contains i with
    | false =>
      simp only [cond_false, outR_get (l := l), get]
      by_cases e : i = k
      · subst e; simp only [hn, Bool.false_eq_true, if_false]
      · simp only [if_neg e]
    | true =>
      simp only [cond_true, get, outR_get (l := l)]
      by_cases e : i = k
      · subst e; simp only [hn, if_true]
      · simp only [if_neg e]

def flatC : H → Option T
  | .int k n => some (.int k n)
  | .bool b => some (.bool b)
  | .str b => some (.str b)
  | _ => none
theorem flatC_ok {h : H} {c : T} (hc : flatC h = some c) : (∀ roots, CellT roots h c) ∧ isOb c = false ∧ ∀ roots, live roots h = true := by
  cases h <;> simp only [flatC, Option.some.injEq, reduceCtorEq] at hc <;> subst hc
  · exact ⟨fun _ => .int, rfl, fun _ => rfl⟩
  · exact ⟨fun _ => .bool, rfl, fun _ => rfl⟩
  · exact ⟨fun _ => .str, rfl, fun _ => rfl⟩
/-- the floats' places -/
def flD (A ms : List Nat) : Nat → List Gop → List Nat
  | _, [] => []
  | k, ⟨_, d, _⟩ :: gs => cond (A.contains k || ms.contains k) (flD A ms (k + 1) gs) (d.getD 0 :: flD A ms (k + 1) gs)
theorem flD_mem {A ms : List Nat} : ∀ {gs : List Gop} {k i : Nat} {g : Gop} {d : Nat}, gs[i]? = some g → k + i ∉ A → k + i ∉ ms → g.d = some d → d ∈ flD A ms k gs
  | [], k, i, g, d, h, _, _, _ => by simp at h
  | ⟨_, d0, _⟩ :: gs, k, 0, g, d, h, hA, hm, hd => by
    simp only [List.getElem?_cons_zero, Option.some.injEq] at h; subst h
    simp only at hd; subst hd
    have h1 : A.contains k = false := by simpa using hA
    have h2 : ms.contains k = false := by simpa using hm
    simp only [flD, h1, h2, Bool.or_self, cond_false, Option.getD_some, List.mem_cons, true_or]
  | ⟨_, d0, _⟩ :: gs, k, i + 1, g, d, h, hA, hm, hd => by
    have := flD_mem (A := A) (ms := ms) (gs := gs) (k := k + 1) (i := i) (by simpa using h) (by rwa [show k + 1 + i = k + (i + 1) by omega]) (by rwa [show k + 1 + i = k + (i + 1) by omega]) hd
    simp only [flD]
    cases A.contains k || ms.contains k <;> simp [this]

def avA (eY : List (Nat × V)) (rY : List (Nat × T)) : List Nat → Bool
  | [] => true
  | r :: N => noRefE r eY && (get rY r).isNone && avA eY rY N
theorem avA_all {eY : List (Nat × V)} {rY : List (Nat × T)} : ∀ {N : List Nat}, avA eY rY N = N.all fun r => noRefE r eY && (get rY r).isNone
  | [] => rfl
  | r :: N => by simp only [avA, List.all_cons, avA_all (N := N)]
def noneA (e : List (Nat × V)) : List Nat → Bool
  | [] => true
  | d :: l => (get e d).isNone && noneA e l
theorem noneA_all {e : List (Nat × V)} : ∀ {l : List Nat}, noneA e l = l.all fun d => (get e d).isNone
  | [] => rfl
  | d :: l => by simp only [noneA, List.all_cons, noneA_all (l := l)]
/-- X are operations ahead of the j-th, and no ancestors of it -/
def okX (ks : List Nat) (j : Nat) : List Nat → Prop → Prop
  | [], K => K
  | q :: X, K => need (q < j) (need (ks.contains q = false) (okX ks j X K))
theorem okX_ok {ks : List Nat} {j : Nat} : ∀ {X : List Nat} {K : Prop}, okX ks j X K → (∀ q ∈ X, q < j ∧ q ∉ ks) ∧ K
  | [], K, h => ⟨by simp, h⟩
  | q :: X, K, h => by
    obtain ⟨h1, h2, h3⟩ := h
    obtain ⟨h4, h5⟩ := okX_ok h3
    refine ⟨fun q' hq => ?_, h5⟩
    rcases List.mem_cons.1 hq with rfl | hq
    · exact ⟨h1, by simpa using h2⟩
    · exact h4 q' hq
/-- the same step beside what some of X gave -/
def sideX (P : Program) (i : I) (d : Option Nat) (E : List (List (Nat × V))) (rL : List (Nat × T)) (par : List W) (eL : List (Nat × V)) (s' : St) : List Nat → List (Nat × V) → Prop → Prop
  | [], xs, K => si P i d ⟨eL ++ xs, rL, par⟩ fun s'' => need (s'' = ⟨s'.env ++ xs, s'.roots, s'.par⟩) K
  | q :: X, xs, K => pL (xs ++ getN E q) fun xs' => sideX P i d E rL par eL s' X xs' (sideX P i d E rL par eL s' X xs K)
theorem sideX_ok {P : Program} {i : I} {d : Option Nat} {E : List (List (Nat × V))} {rL : List (Nat × T)} {par : List W} {eL : List (Nat × V)} {s' : St} : ∀ {X : List Nat} {xs : List (Nat × V)} {K : Prop}, sideX P i d E rL par eL s' X xs K → K ∧ ∀ sub : Nat → Bool, GStep P ⟨none, d, i⟩ ⟨eL ++ (xs ++ catX sub E X), rL, par⟩ ⟨s'.env ++ (xs ++ catX sub E X), s'.roots, s'.par⟩
  | [], xs, K, h => by
    simp only [sideX] at h
    obtain ⟨s'', h1, rfl, h2⟩ := si_ok h
    exact ⟨h2, fun sub => by simp only [catX, List.append_nil]; exact .run trivial h1⟩
  | q :: X, xs, K, h => by
    simp only [sideX, pL, getN_eq] at h
    obtain ⟨h1, h2⟩ := sideX_ok h
    obtain ⟨h3, h4⟩ := sideX_ok h1
    refine ⟨h3, fun sub => ?_⟩
    cases hs : sub q with
    | true => simpa only [catX, hs, if_true, List.append_assoc] using h2 sub
    | false => simpa only [catX, hs, Bool.false_eq_true, if_false, List.nil_append] using h4 sub
def mutM (P : Program) (par : List W) (ms : List Nat) (gs0 : List Gop) (E : List (List (Nat × V))) (R : List (List (Nat × T))) (ks : List Nat) (j : Nat) : Gop → Mu → Stg → (Stg → Prop) → Prop
  | ⟨none, d, i⟩, .framed σ, ⟨_, A, env, roots, _, _⟩, K => pL (pickL (mask A 0 E) ks env) fun e => pL (pickL (mask A 0 R) ks roots) fun r => pL (inE σ e) fun eL => pL (outE σ e) fun eY => pL (inR σ r) fun rL => pL (outR σ r) fun rY =>
      si P i d ⟨eL, rL, par⟩ fun s' => need (s'.par = par) (pL (rL.map (·.1) ++ s'.roots.map (·.1)) fun N => need (avA eY rY N = true)
        (pL (s'.env ++ eY) fun e' => pL (s'.roots ++ rY) fun r' => need (noneA e' (flD ks ms 0 gs0) = true) (K ⟨some j, ks, e', r', N, []⟩)))
  | ⟨none, d, i⟩, .many σ X, ⟨_, A, env, roots, _, _⟩, K => pL (pickL (mask A 0 E) ks env) fun e => pL (pickL (mask A 0 R) ks roots) fun r => pL (inE σ e) fun eL => pL (outE σ e) fun eY => pL (inR σ r) fun rL => pL (outR σ r) fun rY =>
      si P i d ⟨eL, rL, par⟩ fun s' => need (s'.par = par) (okX ks j X (sideX P i d E rL par eL s' X [] (pL (rL.map (·.1) ++ s'.roots.map (·.1)) fun N => need (avA eY rY N = true)
        (pL (s'.env ++ eY) fun e' => pL (s'.roots ++ rY) fun r' => need (noneA e' (flD ks ms 0 gs0) = true) (K ⟨some j, ks, e', r', N, X⟩)))))
  | ⟨none, none, .store 1 a x⟩, .flat, ⟨_, A, env, roots, _, _⟩, K => pL (pickL (mask A 0 E) ks env) fun e => pL (pickL (mask A 0 R) ks roots) fun r =>
      pHp (ev ⟨e, r, par⟩ a) fun q p off => pW (ev ⟨e, r, par⟩ x) fun v => match v with
        | .one h => pO (flatC h) fun c => pO (get r q) fun t => pO (sub t (p ++ [off])) fun old => need (isOb old = false) (pO (upd c t (p ++ [off])) fun t2 => pL (set r q t2) fun r' => need (noneA e (flD ks ms 0 gs0) = true) (K ⟨some j, ks, e, r', [], []⟩))
        | _ => False
  | _, _, _, _ => False
/-- what is known of it, but for the floats -/
inductive Pre (P : Program) (par : List W) (E : List (List (Nat × V))) (R : List (List (Nat × T))) (ks : List Nat) (g : Gop) (z z' : Stg) : Prop
  | framed {L L' Y : St} {X : List Nat} : (∀ sub : Nat → Bool, GStep P g ⟨L.env ++ catX sub E X, L.roots, L.par⟩ ⟨L'.env ++ catX sub E X, L'.roots, L'.par⟩) → L'.par = par →
      (∀ k v, get L.env k = some v → get (pickL (mask z.A 0 E) ks z.env) k = some v) → (∀ k v, get L.roots k = some v → get (pickL (mask z.A 0 R) ks z.roots) k = some v) →
      (∀ k v, get Y.env k = some v → get (pickL (mask z.A 0 E) ks z.env) k = some v) → (∀ k v, get Y.roots k = some v → get (pickL (mask z.A 0 R) ks z.roots) k = some v) →
      L.par = par → z'.env = L'.env ++ Y.env → z'.roots = L'.roots ++ Y.roots → (∀ r, (get L.roots r).isSome = true ∨ (get L'.roots r).isSome = true → r ∈ z'.N ∧ Av Y r) → z'.X = X → (∀ q ∈ X, q < E.length ∧ q ∉ ks) → Pre P par E R ks g z z'
  | flat {a x : X} {r : Nat} {t2 : T} : g = ⟨none, none, .store 1 a x⟩ → (∀ w, Sub ⟨pickL (mask z.A 0 E) ks z.env, pickL (mask z.A 0 R) ks z.roots, par⟩ w → w.par = par → OpR P (.store 1 a x) none w { w with roots := set w.roots r t2 }) →
      z'.env = pickL (mask z.A 0 E) ks z.env → z'.roots = set (pickL (mask z.A 0 R) ks z.roots) r t2 → Pre P par E R ks g z z'
theorem mem_get {α : Type} {r : Nat} : ∀ {l : List (Nat × α)}, (get l r).isSome = true → r ∈ l.map (·.1)
  | [], h => by simp [get] at h
  | (k, v) :: l, h => by
    simp only [get] at h
    split at h
    · rename_i e; simp [e]
    · simp [mem_get h]
theorem framed_ok {P : Program} {par : List W} {E : List (List (Nat × V))} {R : List (List (Nat × T))} {ks : List Nat} {z : Stg} {d : Option Nat} {i : I} {j : Nat} {σ X : List Nat} {s' : St} (hpar : s'.par = par) (hX : ∀ q ∈ X, q < E.length ∧ q ∉ ks) (h1 : ∀ sub : Nat → Bool, GStep P ⟨none, d, i⟩ ⟨inE σ (pickL (mask z.A 0 E) ks z.env) ++ catX sub E X, inR σ (pickL (mask z.A 0 R) ks z.roots), par⟩ ⟨s'.env ++ catX sub E X, s'.roots, s'.par⟩)
    (h3 : ((List.map (·.1) (inR σ (pickL (mask z.A 0 R) ks z.roots)) ++ List.map (·.1) s'.roots).all fun r => noRefE r (outE σ (pickL (mask z.A 0 E) ks z.env)) && (get (outR σ (pickL (mask z.A 0 R) ks z.roots)) r).isNone) = true) :
    Pre P par E R ks ⟨none, d, i⟩ z ⟨some j, ks, s'.env ++ outE σ (pickL (mask z.A 0 E) ks z.env), s'.roots ++ outR σ (pickL (mask z.A 0 R) ks z.roots), List.map (·.1) (inR σ (pickL (mask z.A 0 R) ks z.roots)) ++ List.map (·.1) s'.roots, X⟩ := by
  refine .framed (L := ⟨_, _, par⟩) (L' := s') (Y := ⟨outE σ (pickL (mask z.A 0 E) ks z.env), outR σ (pickL (mask z.A 0 R) ks z.roots), par⟩) (X := X) h1 hpar (fun k v h => inE_get h) (fun k v h => ?_) (fun k v h => outE_get h) (fun k v h => ?_) rfl rfl rfl (fun r hr => ?_) rfl hX
  · rw [inR_get] at h
    split at h
    · simp at h
    · exact h
  · simp only [outR_get] at h
    split at h
    · exact h
    · simp at h
  · have hN : r ∈ List.map (·.1) (inR σ (pickL (mask z.A 0 R) ks z.roots)) ++ List.map (·.1) s'.roots := by
      rcases hr with hr | hr
      · exact List.mem_append.2 (.inl (mem_get hr))
      · exact List.mem_append.2 (.inr (mem_get hr))
    refine ⟨hN, ?_⟩
    have := List.all_eq_true.1 h3 r hN
    simp only [Bool.and_eq_true, Option.isNone_iff_eq_none] at this
    exact ⟨this.2, this.1⟩
theorem mutM_ok {P : Program} {par : List W} {ms : List Nat} {gs0 : List Gop} {E : List (List (Nat × V))} {R : List (List (Nat × T))} {ks : List Nat} {j : Nat} {g : Gop} {mu : Mu} {z : Stg} {K : Stg → Prop} (hEj : E.length = j) (h : mutM P par ms gs0 E R ks j g mu z K) :
    ∃ z', K z' ∧ z'.m = some j ∧ z'.A = ks ∧ (∀ d ∈ flD ks ms 0 gs0, get z'.env d = none) ∧ Pre P par E R ks g z z' := by
  unfold mutM at h
  split at h
  · rename_i d i σ m A env roots N X0
    simp only [pL] at h
    obtain ⟨s', h1, h2, h3, h4, h5⟩ := si_ok h
    rw [avA_all] at h3
    rw [noneA_all] at h4
    refine ⟨_, h5, rfl, rfl, fun d hd => by simpa using List.all_eq_true.1 h4 d hd, ?_⟩
    exact framed_ok h2 (by simp) (fun sub => by simp only [catX, List.append_nil]; exact .run trivial h1) h3
  · rename_i d i σ X m A env roots N X0
    simp only [pL] at h
    obtain ⟨s', h1, h2, h3⟩ := si_ok h
    obtain ⟨h4, h5⟩ := okX_ok h3
    obtain ⟨⟨h6, h7, h8⟩, h9⟩ := sideX_ok h5
    rw [avA_all] at h6
    rw [noneA_all] at h7
    refine ⟨_, h8, rfl, rfl, fun d hd => by simpa using List.all_eq_true.1 h7 d hd, ?_⟩
    exact framed_ok h2 (fun q hq => by rw [hEj]; exact h4 q hq) (fun sub => by simpa only [List.nil_append] using h9 sub) h6
  · rename_i a x m A env roots N X0
    simp only [pL] at h
    obtain ⟨q, p, off, h1, h2⟩ := pHp_ok h
    obtain ⟨v, h3, h4⟩ := pW_ok h2
    split at h4
    · rename_i hh
      obtain ⟨c, h5, h6⟩ := pO_ok h4
      obtain ⟨t, h7, h8⟩ := pO_ok h6
      obtain ⟨old, h9, h10, h11⟩ := pO_ok h8
      obtain ⟨t2, h12, h13, h14⟩ := pO_ok h11
      rw [noneA_all] at h13
      obtain ⟨c1, c2, c3⟩ := flatC_ok h5
      refine ⟨_, h14, rfl, rfl, fun d hd => by simpa using List.all_eq_true.1 h13 d hd, ?_⟩
      refine .flat (r := q) (t2 := t2) rfl (fun w hw hp => ?_) rfl rfl
      have g1 : get w.roots q = some t := hw.roots _ _ h7
      exact OpR.store (ev_mono hw h1) (ev_mono hw h3) g1 (by simp [W.cells, c3]) rfl (Grab.cell (c1 _) (Grab.nil w)) (PutL.cons (PutC.flat g1 h9 h10 h12) (PutL.nil _))
    · exact h4.elim
  · exact h.elim

/-- all of them -/
def dmx (P : Program) (an : List (List Nat)) (par : List W) (ms : List Nat) (gs0 : List Gop) (K : List (List (Nat × V)) → List (List (Nat × T)) → List Stg → Stg → Prop) : List Gop → Nat → Nat → List (Nat × Mu) → List (List (Nat × V)) → List (List (Nat × T)) → List Stg → Stg → Prop
  | [], _, _, _, E, R, zs, z => K E R zs z
  | g :: gs, j, b, [], E, R, zs, z => pL (getN an j) fun ks => pL (zs ++ [z]) fun zz => addM P par E R ks g b zz fun e r => pN (b + r.length) fun b' => pL (E ++ [e]) fun E' => pL (R ++ [r]) fun R' => pN (j + 1) fun j' => dmx P an par ms gs0 K gs j' b' [] E' R' zs z
  | g :: gs, j, b, (m, md) :: mu, E, R, zs, z => pL (getN an j) fun ks => pI (j == m)
      (mutM P par ms gs0 E R ks j g md z fun z' => reM P an par ms E R z' 0 gs0 E R (pN (max b (newR ⟨z'.env, z'.roots, par⟩)) fun b' => pL (E ++ [[]]) fun E' => pL (R ++ [[]]) fun R' => pL (zs ++ [z]) fun zs' => pN (j + 1) fun j' => dmx P an par ms gs0 K gs j' b' mu E' R' zs' z'))
      (pL (zs ++ [z]) fun zz => addM P par E R ks g b zz fun e r => pN (b + r.length) fun b' => pL (E ++ [e]) fun E' => pL (R ++ [r]) fun R' => pN (j + 1) fun j' => dmx P an par ms gs0 K gs j' b' ((m, md) :: mu) E' R' zs z)

/-- what is known behind the first j operations -/
structure MI (P : Program) (an : List (List Nat)) (par : List W) (ms : List Nat) (gs0 : List Gop) (j : Nat) (mu : List (Nat × Mu)) (E : List (List (Nat × V))) (R : List (List (Nat × T))) (b0 : Stg) (Zs : List Stg) : Prop where
  hE : E.length = j
  hR : R.length = j
  hZ : ∃ dn : List Nat, ms = dn ++ mu.map (·.1) ∧ Zs.length = dn.length + 1
  stg : ∀ (i : Nat) (z : Stg), Zs[i + 1]? = some z → z.m = some (ms.getD i 0) ∧ z.A = an.getD (ms.getD i 0) [] ∧ (∀ d ∈ flD z.A ms 0 gs0, get z.env d = none) ∧ ms.getD i 0 < j ∧
    ∃ z0 g, Zs[i]? = some z0 ∧ gs0[ms.getD i 0]? = some g ∧ Pre P par E R (an.getD (ms.getD i 0) []) g z0 z
  stg0 : Zs[0]? = some b0
  add : ∀ (q : Nat) (g : Gop), q < j → q ∉ ms → gs0[q]? = some g → (∃ d v, g.d = some d ∧ E.getD q [] = [(d, v)]) ∧ ∀ (i : Nat) (z : Stg), Zs[i]? = some z → (∀ (i' : Nat) (z' : Stg), i < i' → Zs[i']? = some z' → inM (an.getD q []) z' = false) → q ∉ z.A → AtS P par E R (an.getD q []) g z (E.getD q []) (R.getD q [])
  mt : ∀ q, q < j → q ∈ ms → E.getD q [] = [] ∧ R.getD q [] = []
theorem maskA {α : Type} {A : List Nat} : ∀ {E E' : List (List α)} {k : Nat}, mask A k (E ++ E') = mask A k E ++ mask A (k + E.length) E'
  | [], E', k => by simp [mask]
  | e :: E, E', k => by
    simp only [List.cons_append, mask, List.length_cons]
    rw [maskA, show k + 1 + E.length = k + (E.length + 1) by omega]
theorem maskL {α : Type} {A : List Nat} : ∀ {E : List (List α)} {k : Nat}, (mask A k E).length = E.length
  | [], k => rfl
  | e :: E, k => by simp [mask, maskL]
theorem pick_grow {α : Type} {A : List Nat} {E E' : List (List (Nat × α))} {ks : List Nat} {b : List (Nat × α)} (h : ∀ k ∈ ks, k < E.length) : pickL (mask A 0 (E ++ E')) ks b = pickL (mask A 0 E) ks b := by
  rw [maskA]; exact pickL_ext (by simpa [maskL] using h)
theorem AtS.grow {P : Program} {par : List W} {E E' : List (List (Nat × V))} {R R' : List (List (Nat × T))} {ks : List Nat} {g : Gop} {z : Stg} {e : List (Nat × V)} {r : List (Nat × T)} (h : AtS P par E R ks g z e r) (hE : ∀ k ∈ ks, k < E.length) (hR : ∀ k ∈ ks, k < R.length) : AtS P par (E ++ E') (R ++ R') ks g z e r := by
  unfold AtS at h ⊢
  rw [pick_grow hE, pick_grow hR]; exact h
theorem catX_grow {sub : Nat → Bool} {E E' : List (List (Nat × V))} : ∀ {X : List Nat}, (∀ q ∈ X, q < E.length) → catX sub (E ++ E') X = catX sub E X
  | [], _ => rfl
  | q :: X, h => by
    have h1 := h q List.mem_cons_self
    simp only [catX]
    rw [catX_grow fun q' hq => h q' (List.mem_cons_of_mem _ hq)]
    simp only [List.getD_eq_getElem?_getD, List.getElem?_append_left h1]
theorem Pre.grow {P : Program} {par : List W} {E E' : List (List (Nat × V))} {R R' : List (List (Nat × T))} {ks : List Nat} {g : Gop} {z z' : Stg} (h : Pre P par E R ks g z z') (hE : ∀ k ∈ ks, k < E.length) (hR : ∀ k ∈ ks, k < R.length) : Pre P par (E ++ E') (R ++ R') ks g z z' := by
  cases h with
  | framed k1 k2 k3 k4 k5 k6 k7 k8 k9 k10 k11 k12 => exact .framed (fun sub => by rw [catX_grow fun q hq => (k12 q hq).1]; exact k1 sub) k2 (by rw [pick_grow hE]; exact k3) (by rw [pick_grow hR]; exact k4) (by rw [pick_grow hE]; exact k5) (by rw [pick_grow hR]; exact k6) k7 k8 k9 k10 k11 (fun q hq => ⟨by have := (k12 q hq).1; simp only [List.length_append]; omega, (k12 q hq).2⟩)
  | flat k1 k2 k3 k4 => exact .flat k1 (by rw [pick_grow hE, pick_grow hR]; exact k2) (by rw [pick_grow hE]; exact k3) (by rw [pick_grow hR]; exact k4)
theorem getD_app {α : Type} {l m : List (List α)} {i : Nat} (h : i < l.length) : (l ++ m).getD i [] = l.getD i [] := by
  simp [List.getD_eq_getElem?_getD, List.getElem?_append_left h]
theorem getD_end {α : Type} {l : List (List α)} {x : List α} {i : Nat} (h : i = l.length) : (l ++ [x]).getD i [] = x := by
  subst h; simp [List.getD_eq_getElem?_getD]

section
variable {P : Program} {an : List (List Nat)} {par : List W} {ms : List Nat} {gs0 : List Gop} {b0 : Stg} {K : List (List (Nat × V)) → List (List (Nat × T)) → List Stg → Stg → Prop} (hlt : ∀ j, ∀ k ∈ an.getD j [], k < j) (hnod : ms.Nodup)
include hlt hnod
/-- one that adds -/
theorem MI.more {j : Nat} {mu : List (Nat × Mu)} {E : List (List (Nat × V))} {R : List (List (Nat × T))} {Zs : List Stg} (h : MI P an par ms gs0 j mu E R b0 Zs) {g : Gop} (hg : gs0[j]? = some g) (hm : j ∉ ms) {e : List (Nat × V)} {r : List (Nat × T)} (hd : ∃ d v, g.d = some d ∧ e = [(d, v)])
    (ha : ∀ (i : Nat) (z : Stg), Zs[i]? = some z → (∀ (i' : Nat) (z' : Stg), i < i' → Zs[i']? = some z' → inM (an.getD j []) z' = false) → AtS P par E R (an.getD j []) g z e r) : MI P an par ms gs0 (j + 1) mu (E ++ [e]) (R ++ [r]) b0 Zs where
  hE := by simp [h.hE]
  hR := by simp [h.hR]
  hZ := h.hZ
  stg i z hz := by
    obtain ⟨h1, h2, h3, h4, z0, g0, h5, h6, h7⟩ := h.stg i z hz
    exact ⟨h1, h2, h3, by omega, z0, g0, h5, h6, h7.grow (fun k hk => by have := hlt _ k hk; rw [h.hE]; omega) (fun k hk => by have := hlt _ k hk; rw [h.hR]; omega)⟩
  stg0 := h.stg0
  add q g' hq hqm hg' := by
    by_cases e1 : q < j
    · obtain ⟨h1, h2⟩ := h.add q g' e1 hqm hg'
      rw [getD_app (by rw [h.hE]; omega), getD_app (by rw [h.hR]; omega)]
      exact ⟨h1, fun i z hz hl hA => (h2 i z hz hl hA).grow (fun k hk => by have := hlt _ k hk; rw [h.hE]; omega) (fun k hk => by have := hlt _ k hk; rw [h.hR]; omega)⟩
    · obtain rfl : q = j := by omega
      rw [hg] at hg'; obtain rfl := Option.some.inj hg'
      rw [getD_end (by rw [h.hE]), getD_end (by rw [h.hR])]
      exact ⟨hd, fun i z hz hl _ => (ha i z hz hl).grow (fun k hk => by have := hlt _ k hk; rw [h.hE]; omega) (fun k hk => by have := hlt _ k hk; rw [h.hR]; omega)⟩
  mt q hq hqm := by
    have : q ≠ j := fun e => hm (e ▸ hqm)
    rw [getD_app (by rw [h.hE]; omega), getD_app (by rw [h.hR]; omega)]
    exact h.mt q (by omega) hqm
/-- one that moves or stores -/
theorem MI.stage {j : Nat} {md : Mu} {mu : List (Nat × Mu)} {E : List (List (Nat × V))} {R : List (List (Nat × T))} {zs : List Stg} {z z' : Stg} (h : MI P an par ms gs0 j ((j, md) :: mu) E R b0 (zs ++ [z])) {g : Gop} (hg : gs0[j]? = some g) (h1 : z'.m = some j) (h2 : z'.A = an.getD j []) (h3 : ∀ d ∈ flD (an.getD j []) ms 0 gs0, get z'.env d = none)
    (h4 : Pre P par E R (an.getD j []) g z z') (ha : ∀ (i : Nat) (g : Gop), i < E.length → gs0[i]? = some g → i ∉ z'.A → i ∉ ms → AtS P par E R (an.getD i []) g z' (E.getD i []) (R.getD i [])) : MI P an par ms gs0 (j + 1) mu (E ++ [[]]) (R ++ [[]]) b0 (zs ++ [z] ++ [z']) := by
  obtain ⟨dn, hd1, hd2⟩ := h.hZ
  have hzl : zs.length = dn.length := by simpa using hd2
  have hjd : ms.getD dn.length 0 = j := by rw [hd1]; simp [List.getD_eq_getElem?_getD]
  have hdn : ∀ i, i < dn.length → ms.getD i 0 ≠ j := fun i hi e => by
    have : i = dn.length := by
      refine (List.getElem_inj (h₀ := by rw [hd1]; simp; omega) (h₁ := by rw [hd1]; simp) hnod).1 ?_
      have e1 : ms.getD i 0 = ms[i]'(by rw [hd1]; simp; omega) := by rw [List.getD_eq_getElem?_getD, List.getElem?_eq_getElem (by rw [hd1]; simp; omega)]; rfl
      have e2 : ms.getD dn.length 0 = ms[dn.length]'(by rw [hd1]; simp) := by rw [List.getD_eq_getElem?_getD, List.getElem?_eq_getElem (by rw [hd1]; simp)]; rfl
      rw [← e1, ← e2, e, hjd]
    omega
  have hold : ∀ {i : Nat} {x : Stg}, (zs ++ [z] ++ [z'])[i]? = some x → i ≤ zs.length → (zs ++ [z])[i]? = some x := fun {i x} hx hi => by
    rw [List.getElem?_append_left (by simp; omega)] at hx; exact hx
  have hnew : ∀ {x : Stg}, (zs ++ [z] ++ [z'])[zs.length + 1]? = some x → x = z' := fun {x} hx => by
    rw [List.getElem?_append_right (by simp)] at hx
    simpa using hx.symm
  have hlen : ∀ {i : Nat} {x : Stg}, (zs ++ [z] ++ [z'])[i]? = some x → i ≤ zs.length ∨ i = zs.length + 1 := fun {i x} hx => by
    have := (List.getElem?_eq_some_iff.1 hx).1
    simp at this; omega
  have gE : ∀ q, q ≤ j → ∀ k ∈ an.getD q [], k < E.length := fun q hq k hk => by have := hlt _ k hk; rw [h.hE]; omega
  have gR : ∀ q, q ≤ j → ∀ k ∈ an.getD q [], k < R.length := fun q hq k hk => by have := hlt _ k hk; rw [h.hR]; omega
  refine ⟨by simp [h.hE], by simp [h.hR], ⟨dn ++ [j], by simpa using hd1, by simp [hzl]⟩, ?_, ?_, ?_, ?_⟩
  · intro i x hx
    rcases hlen hx with hi | hi
    · obtain ⟨k1, k2, k3, k4, z0, g0, k5, k6, k7⟩ := h.stg i x (hold hx hi)
      refine ⟨k1, k2, k3, by omega, z0, g0, ?_, k6, k7.grow (gE _ (by omega)) (gR _ (by omega))⟩
      have hb := (List.getElem?_eq_some_iff.1 k5).1
      rw [List.getElem?_append_left hb]; exact k5
    · obtain rfl : i = dn.length := by omega
      have := hnew (by rwa [hi] at hx)
      subst this
      rw [hjd]
      refine ⟨h1, h2, by rw [h2]; exact h3, by omega, z, g, ?_, hg, h4.grow (gE _ (Nat.le_refl _)) (gR _ (Nat.le_refl _))⟩
      rw [← hzl]; simp
  · have := h.stg0
    rw [List.getElem?_append_left (by simp)]; exact this
  · intro q g' hq hqm hg'
    have hqj : q < j := by
      have : q ≠ j := fun e => hqm (by rw [e, hd1]; simp)
      omega
    obtain ⟨k1, k2⟩ := h.add q g' hqj hqm hg'
    rw [getD_app (by rw [h.hE]; omega), getD_app (by rw [h.hR]; omega)]
    refine ⟨k1, fun i x hx hl hA => ?_⟩
    rcases hlen hx with hi | hi
    · exact (k2 i x (hold hx hi) (fun i' x' hlt' hx' => hl i' x' hlt' (by have hb := (List.getElem?_eq_some_iff.1 hx').1; rw [List.getElem?_append_left hb]; exact hx')) hA).grow (gE _ (by omega)) (gR _ (by omega))
    · have := hnew (by rwa [hi] at hx)
      subst this
      exact (ha q g' (by rw [h.hE]; omega) hg' hA hqm).grow (gE _ (by omega)) (gR _ (by omega))
  · intro q hq hqm
    by_cases e : q = j
    · subst e; rw [getD_end (by rw [h.hE]), getD_end (by rw [h.hR])]; exact ⟨rfl, rfl⟩
    · rw [getD_app (by rw [h.hE]; omega), getD_app (by rw [h.hR]; omega)]
      exact h.mt q (by omega) hqm
theorem dmx_ok : ∀ (gs : List Gop) (j b : Nat) (mu : List (Nat × Mu)) (E : List (List (Nat × V))) (R : List (List (Nat × T))) (zs : List Stg) (z : Stg), dmx P an par ms gs0 K gs j b mu E R zs z → gs0.drop j = gs → j ≤ gs0.length → (∀ m ∈ mu, j ≤ m.1) → mu.Pairwise (fun a b => a.1 < b.1) → MI P an par ms gs0 j mu E R b0 (zs ++ [z]) →
    ∃ E R zs z mu, MI P an par ms gs0 gs0.length mu E R b0 (zs ++ [z]) ∧ K E R zs z ∧ ∀ m ∈ mu, gs0.length ≤ m.1
  | [], j, b, mu, E, R, zs, z, h, hgs, hle, hmu, _, hI => by
    have hj : gs0.length ≤ j := by simpa using hgs
    obtain rfl : j = gs0.length := by omega
    exact ⟨E, R, zs, z, mu, hI, by simpa only [dmx] using h, hmu⟩
  | g :: gs, j, b, [], E, R, zs, z, h, hgs, hle, hmu, hp, hI => by
    simp only [dmx, pL, pN, getN_eq] at h
    obtain ⟨e, r, h1, h2, h3⟩ := addM_ok h
    have hlj : j < gs0.length := by
      apply Classical.byContradiction; intro hn
      rw [List.drop_eq_nil_of_le (by omega)] at hgs; simp at hgs
    rw [List.drop_eq_getElem_cons hlj] at hgs
    simp only [List.cons.injEq] at hgs
    have hg : gs0[j]? = some g := by rw [List.getElem?_eq_getElem hlj, hgs.1]
    have hjm : j ∉ ms := fun hm => by
      obtain ⟨dn, hd1, hd2⟩ := hI.hZ
      simp only [List.map_nil, List.append_nil] at hd1
      subst hd1
      obtain ⟨i, hi, e1⟩ := List.getElem_of_mem hm
      have hz : ∃ x, (zs ++ [z])[i + 1]? = some x := ⟨_, List.getElem?_eq_getElem (by omega)⟩
      obtain ⟨x, hx⟩ := hz
      have := (hI.stg i x hx).2.2.2.1
      rw [List.getD_eq_getElem?_getD, List.getElem?_eq_getElem hi] at this
      simp only [Option.getD_some] at this
      omega
    exact dmx_ok gs (j + 1) _ [] _ _ zs z h1 hgs.2 (by omega) (by simp) List.Pairwise.nil (hI.more hlt hnod hg hjm h2 h3)
  | g :: gs, j, b, (m, md) :: mu, E, R, zs, z, h, hgs, hle, hmu, hp, hI => by
    have hlj : j < gs0.length := by
      apply Classical.byContradiction; intro hn
      rw [List.drop_eq_nil_of_le (by omega)] at hgs; simp at hgs
    rw [List.drop_eq_getElem_cons hlj] at hgs
    simp only [List.cons.injEq] at hgs
    have hg : gs0[j]? = some g := by rw [List.getElem?_eq_getElem hlj, hgs.1]
    simp only [dmx, pL, pN, getN_eq] at h
    by_cases hjm : j = m
    · subst hjm
      rw [beq_self_eq_true] at h
      obtain ⟨z', h1, h2, h3, h4, h5⟩ := mutM_ok hI.hE h
      obtain ⟨h6, h7⟩ := reM_ok h1 (by rw [hI.hE]; omega) (by rw [hI.hE, hI.hR])
      rw [List.pairwise_cons] at hp
      refine dmx_ok gs (j + 1) _ mu _ _ (zs ++ [z]) z' h6 hgs.2 (by omega) (fun q hq => hp.1 q hq) hp.2 (hI.stage hlt hnod hg h2 h3 h4 h5 (fun i g' hi hg' hA hm => ?_))
      have := h7 i g' hi hg' (by simpa using hA) (by simpa using hm)
      simpa using this
    · have hb : (j == m) = false := by simpa using hjm
      rw [hb] at h
      obtain ⟨e, r, h1, h2, h3⟩ := addM_ok h
      have hjn : j ∉ ms := fun hm => by
        obtain ⟨dn, hd1, hd2⟩ := hI.hZ
        rw [hd1] at hm
        rcases List.mem_append.1 hm with hm | hm
        · obtain ⟨i, hi, e1⟩ := List.getElem_of_mem hm
          have hz : ∃ x, (zs ++ [z])[i + 1]? = some x := ⟨_, List.getElem?_eq_getElem (by omega)⟩
          obtain ⟨x, hx⟩ := hz
          have := (hI.stg i x hx).2.2.2.1
          rw [hd1, List.getD_eq_getElem?_getD, List.getElem?_append_left hi, List.getElem?_eq_getElem hi] at this
          simp only [Option.getD_some] at this
          omega
        · obtain ⟨q, hq, e1⟩ := List.mem_map.1 hm
          rcases List.mem_cons.1 hq with rfl | hq
          · exact hjm e1.symm
          · have h1 := (List.pairwise_cons.1 hp).1 q hq
            have h2 := hmu (m, md) (by simp)
            simp only at h1 h2
            omega
      refine dmx_ok gs (j + 1) _ ((m, md) :: mu) _ _ zs z h1 hgs.2 (by omega) (fun q hq => ?_) hp (hI.more hlt hnod hg hjn h2 h3)
      have h1 := hmu q hq
      rcases List.mem_cons.1 hq with rfl | hq
      · simp only at h1 ⊢; omega
      · have h2 := (List.pairwise_cons.1 hp).1 q hq
        have h3 := hmu (m, md) (by simp)
        simp only at h2 h3
        omega
end
end Go.Proofs.YtdhclelfnbjikaaT

/- Trees: a region in any order: what simp reckons, and that it is enough. No condition. -/
set_option linter.unusedVariables false
set_option linter.unusedSimpArgs false
namespace Go.Proofs.YtdhclelfnbjikaaT
open Go

def msOk (an : List (List Nat)) : List Nat → Bool
  | [] => true
  | m :: ms => ms.all (fun k => (an.getD k []).contains m) && msOk an ms
def dOf (gs : List Gop) (i : Nat) : Option Nat := match gs[i]? with | some g => g.d | none => none
def okM (es : List (List Nat)) (gs : List Gop) (n : Nat) (an : List (List Nat)) (ms : List Nat) : Bool :=
  gs.length == es.length && decide (0 < n) && decide (n ≤ es.length) && decide (an.length ≤ es.length) && msOk an ms && ms.all (fun m => decide (m < n)) &&
  ((List.range n).all fun i => (List.range n).all fun k => i == k || ms.contains i || ms.contains k || dOf gs i != dOf gs k) &&
  (List.range es.length).all fun i => ((es.getD i []).all fun m => decide (m < i)) && (decide (i < n) || (List.range i).all fun m => (an.getD i []).contains m) &&
    (an.getD i []).all fun m => decide (m < i) && ((es.getD i []).contains m || (es.getD i []).any fun q => (an.getD q []).contains m) && (an.getD m []).all fun q => (an.getD i []).contains q
theorem msOk_at {an : List (List Nat)} : ∀ {ms : List Nat}, msOk an ms = true → ∀ i k, i < k → k < ms.length → ms.getD i 0 ∈ an.getD (ms.getD k 0) []
  | [], _, i, k, _, hk => by simp at hk
  | m :: ms, h, i, k, hik, hk => by
    simp only [msOk, Bool.and_eq_true, List.all_eq_true] at h
    cases k with
    | zero => omega
    | succ k =>
      simp only [List.length_cons, Nat.add_lt_add_iff_right] at hk
      cases i with
      | zero =>
        have := h.1 (ms.getD k 0) (by rw [List.getD_eq_getElem?_getD, List.getElem?_eq_getElem hk]; exact List.getElem_mem _)
        simpa using this
      | succ i => simpa using msOk_at h.2 i k (by omega) hk

/-- what the floats do not name -/
def chkF (an : List (List Nat)) (m : Nat) (A N X : List Nat) : Nat → List (List (Nat × V)) → List (List (Nat × T)) → Bool
  | j, e :: E, r :: R => (A.contains j || (getN an j).contains m || avA (cond (X.contains j) [] e) r N) && chkF an m A N X (j + 1) E R
  | _, _, _ => true
theorem chkF_ok {an : List (List Nat)} {m : Nat} {A N X : List Nat} : ∀ {E : List (List (Nat × V))} {R : List (List (Nat × T))} {j0 : Nat}, chkF an m A N X j0 E R = true → R.length = E.length → ∀ j, j < E.length → j0 + j ∉ A → m ∉ an.getD (j0 + j) [] → ∀ q ∈ N, (j0 + j ∈ X ∨ noRefE q (E.getD j []) = true) ∧ get (R.getD j []) q = none
  | [], R, j0, h, hl, j, hj, _, _, q, hq => by simp at hj
  | e :: E, [], j0, h, hl, j, hj, _, _, q, hq => by simp at hl
  | e :: E, r :: R, j0, h, hl, j, hj, hA, hm, q, hq => by
    simp only [chkF, Bool.and_eq_true, getN_eq] at h
    cases j with
    | zero =>
      have h1 := h.1
      have c1 : A.contains j0 = false := by simpa using hA
      have c2 : (an.getD j0 []).contains m = false := by simpa using hm
      simp only [c1, c2, Bool.false_or, avA_all, List.all_eq_true, Bool.and_eq_true, Option.isNone_iff_eq_none] at h1
      have h2 := h1 q hq
      refine ⟨?_, by simpa using h2.2⟩
      by_cases hx : j0 ∈ X
      · exact .inl hx
      · have c3 : X.contains j0 = false := by simpa using hx
        rw [c3] at h2
        exact .inr (by simpa using h2.1)
    | succ j =>
      have := chkF_ok h.2 (by simpa using hl) j (by simpa using hj) (by rwa [show j0 + 1 + j = j0 + (j + 1) by omega]) (by rwa [show j0 + 1 + j = j0 + (j + 1) by omega]) q hq
      rw [show j0 + 1 + j = j0 + (j + 1) by omega] at this
      simpa using this
theorem chkF_nil {an : List (List Nat)} {m : Nat} {A N X : List Nat} {R : List (List (Nat × T))} {j : Nat} : chkF an m A N X j [] R = true := rfl
def chkS (an : List (List Nat)) (par : List W) (E : List (List (Nat × V))) (R : List (List (Nat × T))) : Stg → Bool
  | ⟨none, A, env, roots, N, X⟩ => frA ⟨env, roots, par⟩ (mask A 0 R).flatten
  | ⟨some m, A, env, roots, N, X⟩ => frA ⟨env, roots, par⟩ (mask A 0 R).flatten && chkF an m A N X 0 E R
def chkSs (an : List (List Nat)) (par : List W) (E : List (List (Nat × V))) (R : List (List (Nat × T))) : List Stg → Bool
  | [] => true
  | z :: zs => chkS an par E R z && chkSs an par E R zs
theorem chkSs_ok {an : List (List Nat)} {par : List W} {E : List (List (Nat × V))} {R : List (List (Nat × T))} : ∀ {zs : List Stg}, chkSs an par E R zs = true → ∀ z ∈ zs, chkS an par E R z = true
  | [], _, z, hz => by simp at hz
  | z0 :: zs, h, z, hz => by
    simp only [chkSs, Bool.and_eq_true] at h
    rcases List.mem_cons.1 hz with rfl | hz
    · exact h.1
    · exact chkSs_ok h.2 z hz
def endM (P : Program) (an : List (List Nat)) (par : List W) (rest : List Gop) (K : St → Prop) (E : List (List (Nat × V))) (R : List (List (Nat × T))) (zs : List Stg) : Stg → Prop
  | ⟨m, A, env, roots, N, X⟩ => need ((nodN (R.flatten.map (·.1)) && frE an R 0 E && chkSs an par E R (zs ++ [⟨m, A, env, roots, N, X⟩])) = true) (pL ((mask A 0 E).flatten ++ env) fun e => pL ((mask A 0 R).flatten ++ roots) fun r => sx P rest K ⟨e, r, par⟩)
theorem mask_sub {α : Type} {A : List Nat} : ∀ {ls : List (List α)} {k : Nat}, List.Sublist (mask A k ls).flatten ls.flatten
  | [], k => List.Sublist.refl _
  | l :: ls, k => by
    simp only [mask, List.flatten_cons]
    split
    · exact (mask_sub (ls := ls) (k := k + 1)).trans (List.sublist_append_right _ _)
    · exact (List.Sublist.refl l).append mask_sub

theorem drawm_go {P : Program} {es : List (List Nat)} {gs : List Gop} {K : St → Prop} {s : St} (n : Nat) (an : List (List Nat)) (mu : List (Nat × Mu)) (ok : okM es gs n an (mu.map (·.1)) = true)
    (h : pL (dropE ((gs.take n).map (·.d)) s.env) fun env => pL (gs.take n) fun g1 => pL (gs.drop n) fun g2 => pL (mu.map (·.1)) fun ms => pN (newR ⟨env, s.roots, s.par⟩) fun b => dmx P an s.par ms g1 (endM P an s.par g2 K) g1 0 b mu [] [] [] ⟨none, [], env, s.roots, [], []⟩) : drawG P es gs K s := by
  simp only [okM, Bool.and_eq_true, beq_iff_eq, decide_eq_true_eq, List.all_eq_true, List.mem_range, Bool.or_eq_true] at ok
  obtain ⟨⟨⟨⟨⟨⟨⟨hlen, hn0⟩, hn⟩, hal⟩, hmsk⟩, hmn⟩, hdis⟩, hall⟩ := ok
  simp only [pL, pN] at h
  generalize henv : dropE ((gs.take n).map (·.d)) s.env = env at h
  generalize hms : mu.map (·.1) = ms at *
  have hdrop : ∀ i a, get env i = some a → get s.env i = some a ∧ some i ∉ (gs.take n).map (·.d) := fun i a hi => by rw [← henv] at hi; exact dropE_get hi
  have hln : (gs.take n).length = n := by simp [hlen, hn]
  have hall' : ∀ j, ∀ m ∈ an.getD j [], m < j ∧ ((es.getD j []).contains m = true ∨ ((es.getD j []).any fun q => (an.getD q []).contains m) = true) ∧ ∀ q ∈ an.getD m [], q ∈ an.getD j [] := fun j m hm => by
    by_cases hj : j < es.length
    · have := (hall j hj).2 m hm
      exact ⟨this.1.1, this.1.2, fun q hq => by simpa using this.2 q hq⟩
    · rw [List.getD_eq_getElem?_getD, List.getElem?_eq_none (by omega)] at hm; simp at hm
  have hlt : ∀ j, ∀ k ∈ an.getD j [], k < j := fun j k hk => (hall' j k hk).1
  have hord := msOk_at hmsk
  have hmslt : ∀ i k, i < k → k < ms.length → ms.getD i 0 < ms.getD k 0 := fun i k h1 h2 => hlt _ _ (hord i k h1 h2)
  have hmsg : ∀ i (hi : i < ms.length), ms.getD i 0 = ms[i] := fun i hi => by rw [List.getD_eq_getElem?_getD, List.getElem?_eq_getElem hi]; rfl
  have hnod : ms.Nodup := by
    rw [List.nodup_iff_pairwise_ne, List.pairwise_iff_getElem]
    intro i k hi hk hik e
    have := hmslt i k hik hk
    rw [hmsg i hi, hmsg k hk] at this
    omega
  have hpw : mu.Pairwise (fun a b => a.1 < b.1) := by
    have : (mu.map fun a : Nat × Mu => a.1).Pairwise (· < ·) := by
      rw [hms, List.pairwise_iff_getElem]
      intro i k hi hk hik
      have := hmslt i k hik hk
      rwa [hmsg i hi, hmsg k hk] at this
    exact List.pairwise_map.1 this
  obtain ⟨E, R, zs, z, mu', hI, hK, hmu'⟩ := dmx_ok (b0 := ⟨none, [], env, s.roots, [], []⟩) hlt hnod _ _ _ _ _ _ _ _ h rfl (by omega) (fun _ _ => Nat.zero_le _) hpw
    ⟨rfl, rfl, ⟨[], by simpa using hms.symm, rfl⟩, fun i z hz => by simp at hz, rfl, fun q g hq => by omega, fun q hq => by omega⟩
  rw [hln] at hI hmu'
  obtain ⟨dn, hd1, hd2⟩ := hI.hZ
  have hmu0 : mu' = [] := by
    cases mu' with
    | nil => rfl
    | cons q mu' =>
      have h1 := hmu' q (by simp)
      have h2 := hmn q.1 (by rw [hd1]; simp)
      omega
  subst hmu0
  simp only [List.map_nil, List.append_nil] at hd1
  subst hd1
  generalize hZs : zs ++ [z] = Zs at hI hd2
  obtain ⟨zm, zA, zenv, zroots, zN, zX⟩ := z
  simp only [endM, hZs] at hK
  obtain ⟨hchk, hK⟩ := hK
  simp only [Bool.and_eq_true] at hchk
  obtain ⟨⟨c1, c3⟩, c2⟩ := hchk
  simp only [pL] at hK
  obtain ⟨s1, ho, hk1⟩ := sx_ok _ _ _ hK
  refine ⟨s1, ?_, hk1⟩
  let Z : Nat → St := fun i => ⟨(Zs.getD i default).env, (Zs.getD i default).roots, s.par⟩
  have hZi : ∀ i, i ≤ ms.length → Zs[i]? = some (Zs.getD i default) := fun i hi => by
    rw [List.getD_eq_getElem?_getD, List.getElem?_eq_getElem (by omega)]; rfl
  have hmemZ : ∀ i, i ≤ ms.length → Zs.getD i default ∈ Zs := fun i hi => List.mem_of_getElem? (hZi i hi)
  have hA : ∀ i, i ≤ ms.length → (Zs.getD i default).A = ab an ms i := fun i hi => by
    cases i with
    | zero => have := hI.stg0; rw [hZi 0 hi] at this; rw [Option.some.inj this]; rfl
    | succ i => exact (hI.stg i _ (hZi _ hi)).2.1
  have hfl : ∀ i, i ≤ ms.length → ∀ q g d, q < n → q ∉ ms → q ∉ ab an ms i → (gs.take n)[q]? = some g → g.d = some d → get (Z i).env d = none := fun i hi q g d hq hqm hqA hg hd => by
    cases i with
    | zero =>
      have h0 := hI.stg0; rw [hZi 0 hi] at h0
      show get (Zs.getD 0 default).env d = none
      rw [Option.some.inj h0]
      cases hc : get env d with
      | none => rfl
      | some c =>
        exfalso
        refine (hdrop d c hc).2 ?_
        rw [← hd]; exact List.mem_map.2 ⟨g, List.mem_of_getElem? hg, rfl⟩
    | succ i =>
      have hs := hI.stg i _ (hZi _ hi)
      exact hs.2.2.1 d (flD_mem (i := q) hg (by rw [Nat.zero_add, hA _ hi]; exact hqA) (by rw [Nat.zero_add]; exact hqm) hd)
  have hgq : ∀ q, q < n → ∃ g, (gs.take n)[q]? = some g ∧ gs[q]? = some g := fun q hq => by
    have : gs[q]? = some (gs[q]'(by omega)) := List.getElem?_eq_getElem (by omega)
    exact ⟨_, by rw [List.getElem?_take_of_lt hq]; exact this, this⟩
  have hEq : ∀ q, q < n → q ∉ ms → ∃ g d v, (gs.take n)[q]? = some g ∧ g.d = some d ∧ E.getD q [] = [(d, v)] := fun q hq hqm => by
    obtain ⟨g, h1, _⟩ := hgq q hq
    obtain ⟨⟨d, v, h2, h3⟩, _⟩ := hI.add q g hq hqm h1
    exact ⟨g, d, v, h1, h2, h3⟩
  have hmE : ∀ {i j : Nat} {l : List (Nat × V)} {k : Nat} {a : V}, (mask (ab an ms i) 0 E)[j]? = some l → get l k = some a → j < n ∧ j ∉ ms ∧ j ∉ ab an ms i ∧ ∃ g v, (gs.take n)[j]? = some g ∧ g.d = some k ∧ E.getD j [] = [(k, v)] := by
    intro i j l k a hj hg
    obtain ⟨l', h1, h2⟩ := mask_some hj
    simp only [Nat.zero_add] at h2
    split at h2
    · subst h2; simp [get] at hg
    · rename_i hc
      subst h2
      have hjn : j < n := by have := (List.getElem?_eq_some_iff.1 h1).1; rw [hI.hE] at this; exact this
      have hl : E.getD j [] = l := by simp [List.getD_eq_getElem?_getD, h1]
      have hjm : j ∉ ms := fun hm => by rw [(hI.mt j hjn hm).1] at hl; subst hl; simp [get] at hg
      obtain ⟨g, d, v, k1, k2, k3⟩ := hEq j hjn hjm
      refine ⟨hjn, hjm, by simpa using hc, g, v, k1, ?_⟩
      rw [hl] at k3; subst k3
      simp only [get] at hg
      split at hg
      · rename_i e; subst e; exact ⟨k2, hl⟩
      · simp at hg
  have hUE : ∀ i, i ≤ ms.length → Uniq (mask (ab an ms i) 0 E) (Z i).env := fun i hi j l k a hj hg => by
    obtain ⟨b1, b2, b3, g, v, b4, b5, b6⟩ := hmE hj hg
    refine ⟨hfl i hi j g k b1 b2 b3 b4 b5, fun j' l' a' hj' hg' => ?_⟩
    obtain ⟨c1, c2, c3, g', v', c4, c5, c6⟩ := hmE hj' hg'
    apply Classical.byContradiction; intro hne
    have := hdis j b1 j' c1
    rcases this with ((h | h) | h) | h
    · exact hne h.symm
    · exact b2 (by simpa using h)
    · exact c2 (by simpa using h)
    · have e1 : dOf gs j = some k := by
        obtain ⟨g0, q1, q2⟩ := hgq j b1
        rw [b4] at q1; obtain rfl := Option.some.inj q1
        simp [dOf, q2, b5]
      have e2 : dOf gs j' = some k := by
        obtain ⟨g0, q1, q2⟩ := hgq j' c1
        rw [c4] at q1; obtain rfl := Option.some.inj q1
        simp [dOf, q2, c5]
      rw [e1, e2] at h; simp at h
  have hfre : ∀ i, i ≤ ms.length → ∀ q ∈ (mask (ab an ms i) 0 R).flatten, fresh ⟨(Z i).env, (Z i).roots, s.par⟩ q.1 = true := fun i hi q hq => by
    have := chkSs_ok c2 _ (hmemZ i hi)
    rw [← hA i hi] at hq
    show fresh ⟨(Zs.getD i default).env, (Zs.getD i default).roots, s.par⟩ q.1 = true
    revert this hq
    cases Zs.getD i default with
    | mk m A env roots N X =>
      intro hq this
      cases m with
      | none => simp only [chkS, frA_all, List.all_eq_true] at this; exact this q hq
      | some m => simp only [chkS, frA_all, Bool.and_eq_true, List.all_eq_true] at this; exact this.1 q hq
  have hR1 : ∀ i, i ≤ ms.length → Uniq (mask (ab an ms i) 0 R) (Z i).roots ∧ ∀ j, freshA ⟨(Z i).env, (Z i).roots, s.par⟩ ((mask (ab an ms i) 0 R).getD j []) := fun i hi =>
    uniq_roots (s := ⟨(Z i).env, (Z i).roots, s.par⟩) ((mask_sub.map _).nodup (nodN_ok c1)) (hfre i hi)
  have hgd : ∀ (i : Nat) (e : List Nat), es[i]? = some e → es.getD i [] = e := fun i e he => by simp [List.getD_eq_getElem?_getD, he]
  have hes : ∀ (i : Nat) (e : List Nat), es[i]? = some e → ∀ m ∈ e, m < i := fun i e he m hm => by
    obtain ⟨b1, e1⟩ := List.getElem?_eq_some_iff.1 he
    exact (hall i b1).1.1 m (by rw [hgd i e he]; exact hm)
  have hend : ∀ (i : Nat) (e : List Nat), n ≤ i → es[i]? = some e → ∀ m, m < i → m ∈ an.getD i [] := fun i e hi he m hm => by
    obtain ⟨b1, e1⟩ := List.getElem?_eq_some_iff.1 he
    rcases (hall i b1).1.2 with h | h
    · omega
    · exact List.contains_iff_mem.1 (h m hm)
  have han : ∀ j e, es[j]? = some e → ∀ m ∈ an.getD j [], m < j ∧ (m ∈ e ∨ ∃ q ∈ e, m ∈ an.getD q []) := fun j e he m hm => by
    have := hall' j m hm
    rw [hgd j e he] at this
    exact ⟨this.1, by simpa using this.2.1⟩
  have hlen' : Zs.length = ms.length + 1 := hd2
  have hlast : Zs.getD ms.length default = ⟨zm, zA, zenv, zroots, zN, zX⟩ := by
    have : zs.length = ms.length := by rw [← hZs] at hlen'; simpa using hlen'
    rw [← hZs, List.getD_eq_getElem?_getD, ← this]; simp
  have hcn : cnt (fun k => decide (k < n)) ms = ms.length := cnt_is (Nat.le_refl _) (fun k hk => decide_eq_true (hmn _ (by rw [hmsg k hk]; exact List.getElem_mem _))) (fun h => by omega)
  have hc0 : cnt (fun _ => false) ms = 0 := by cases ms <;> simp [cnt]
  have hfin : stM an ms Z E R s.par (fun k => decide (k < n)) = ⟨(mask zA 0 E).flatten ++ zenv, (mask zA 0 R).flatten ++ zroots, s.par⟩ := by
    have hz : zA = ab an ms ms.length := by have := hA ms.length (Nat.le_refl _); rw [hlast] at this; exact this
    simp only [stM, hcn, Z, hlast]
    rw [catA_flatten (fun j hj => by rw [maskL, hI.hE] at hj; simpa using hj), catA_flatten (fun j hj => by rw [maskL, hI.hR] at hj; simpa using hj), hz]
  refine any_mut (n := n) (ms := ms) (Z := Z) (E := E) (R := R) (an := an) (par := s.par) hlen hes hend hn han hmn hord ?_ hI.hE hI.hR (fun m hm => hI.mt m (hmn m hm) hm) (fun i hi => ⟨hUE i hi, (hR1 i hi).1⟩) ?_ ?_ ?_ (by rw [hfin]; exact ho) ?_ hn0
  · intro i j hi hj
    cases i with
    | zero => simp [ab] at hj
    | succ i => exact (hall' _ _ (hord i (i + 1) (by omega) hi)).2.2 j hj
  · intro j hj hjm i hsp
    obtain ⟨g, h1, h2⟩ := hgq j hj
    have := (hI.add j g hj hjm h1).2 i _ (hZi i hsp.1) (fun i' z' hlt' hz' => by
      obtain ⟨i', rfl⟩ : ∃ k, i' = k + 1 := ⟨i' - 1, by omega⟩
      have hm := (hI.stg i' z' hz').1
      have hlt2 : i' < ms.length := by have := (List.getElem?_eq_some_iff.1 hz').1; omega
      obtain ⟨m', A', e', r', N', X'⟩ := z'
      simp only at hm; subst hm
      simp only [inM]
      cases hc : (an.getD j []).contains (ms.getD i' 0) with
      | false => rfl
      | true => have := hsp.2.1 i' hlt2 (by simpa using hc); omega) (by rw [hA i hsp.1]; exact hsp.2.2)
    refine ⟨g, h2, ?_, ?_⟩
    · have h3 := this.2
      rw [hA i hsp.1] at h3
      exact h3
    · have h3 := (hR1 i hsp.1).2 j
      have h4 : (mask (ab an ms i) 0 R).getD j [] = R.getD j [] := by
        have hRj : R[j]? = some (R.getD j []) := by simp [List.getD_eq_getElem?_getD, hI.hR, hj]
        have := mask_get (A := ab an ms i) (k := 0) hRj
        simp only [Nat.zero_add] at this
        rw [if_neg (by simpa using hsp.2.2)] at this
        rw [List.getD_eq_getElem?_getD, this]; rfl
      rw [h4] at h3; exact h3
  · intro j hj k hk hkj hc x hx
    have hEk : E[k]? = some (E.getD k []) := by simp [List.getD_eq_getElem?_getD, hI.hE, hk]
    have hRj : R[j]? = some (R.getD j []) := by simp [List.getD_eq_getElem?_getD, hI.hR, hj]
    have := frE_ok c3 k _ hEk
    simp only [Nat.zero_add] at this
    exact frK_ok this j _ hRj (by simpa using Ne.symm hkj) (by simpa using hc) x hx
  · intro i hi
    obtain ⟨k1, k2, k3, k4, z0, g, k5, k6, k7⟩ := hI.stg i _ (hZi (i + 1) (by omega))
    rw [hZi i (by omega)] at k5; obtain rfl := Option.some.inj k5
    have hmi : ms.getD i 0 < n := k4
    obtain ⟨g', h1, h2⟩ := hgq _ hmi
    rw [h1] at k6; obtain rfl := Option.some.inj k6
    refine ⟨g', h2, ?_⟩
    have hkey : ∀ j, j < n → j ∉ an.getD (ms.getD i 0) [] → ∀ k, (get (E.getD j []) k).isSome = true → get (Z (i + 1)).env k = none := fun j hj hja k hk => by
      by_cases hjm : j ∈ ms
      · rw [(hI.mt j hj hjm).1] at hk; simp [get] at hk
      · obtain ⟨g0, d, v, q1, q2, q3⟩ := hEq j hj hjm
        rw [q3] at hk
        simp only [get] at hk
        split at hk
        · rename_i e; subst e; exact hfl (i + 1) (by omega) j g0 d hj hjm (by simpa only [ab] using hja) q1 q2
        · simp at hk
    cases k7 with
    | framed p1 p2 p3 p4 p5 p6 p7 p8 p9 p10 p11 p12 =>
      rename_i L L' Y X
      rw [hA i (by omega)] at p3 p4 p5 p6
      refine .framed (L := L) (L' := L') (Y := Y) (X := X) p1 p2 p3 p4 p5 p6 p7 (fun k v hkv => ?_) (fun k v hkv => ?_) (fun j hj => ?_) (fun r hr => ?_) (fun q hq => ⟨by have := (p12 q hq).1; rw [hI.hE] at this; exact this, (p12 q hq).2⟩)
      · rw [← p8]; exact hkv
      · rw [← p9]; exact hkv
      · by_cases hja : j ∈ an.getD (ms.getD i 0) []
        · exact .inr (.inl hja)
        · refine .inr (.inr fun k hk => ?_)
          have := hkey j hj hja k hk
          have e1 : (Z (i + 1)).env = L'.env ++ Y.env := p8
          rw [e1, get_append] at this
          cases hl : get L'.env k with
          | none => rfl
          | some x => rw [hl] at this; simp at this
      · obtain ⟨hN, hav⟩ := p10 r hr
        refine ⟨hav, fun j hj hja hmj => ?_⟩
        have hc := chkSs_ok c2 _ (hmemZ (i + 1) (by omega))
        revert hc hN k1 k2 p11
        cases Zs.getD (i + 1) default with
        | mk m A env roots N X1 =>
          intro p11 k1 k2 hN hc
          simp only at k1 k2 hN p11
          subst k1; subst k2; subst p11
          simp only [chkS, Bool.and_eq_true] at hc
          have := chkF_ok hc.2 (by rw [hI.hR, hI.hE]) j (by rw [hI.hE]; exact hj) (by rw [Nat.zero_add]; exact hja) (by rw [Nat.zero_add]; exact hmj) r hN
          rw [Nat.zero_add] at this
          exact ⟨this.2, this.1⟩
    | flat p1 p2 p3 p4 =>
      rename_i a x r t2
      rw [hA i (by omega)] at p2 p3 p4
      have hz : get (Z (i + 1)).roots r = some t2 := by
        show get (Zs.getD (i + 1) default).roots r = some t2
        rw [p4, get_set, if_pos rfl]
      refine .flat (k := 0) (r := r) (p := []) (off := 0) (t := t2) (old := t2) (c := t2) (t2 := t2) (h := .nil) p1 p2 (fun k v hkv => by rw [← p3]; exact hkv) (fun k v hkv => by rw [← p4]; exact hkv) (fun j hj => ?_)
      by_cases hja : j ∈ an.getD (ms.getD i 0) []
      · exact .inr hja
      · left
        cases hc : get (R.getD j []) r with
        | none => rfl
        | some t =>
          exfalso
          have hRj : R[j]? = some (R.getD j []) := by simp [List.getD_eq_getElem?_getD, hI.hR, hj]
          have hm := mask_get (A := ab an ms (i + 1)) (k := 0) hRj
          simp only [Nat.zero_add] at hm
          rw [if_neg (by simpa only [ab, List.contains_iff_mem] using hja)] at hm
          have := ((hR1 (i + 1) (by omega)).1 j _ r t hm hc).1
          rw [hz] at this; simp at this
  · have hn' : ∀ {α : Type} (ls : List (List (Nat × α))) (k : Nat), catA (fun _ => false) k ls = [] := by
      intro α ls
      induction ls with
      | nil => intro k; rfl
      | cons l ls ih => intro k; simp [catA, ih]
    have h0 := hI.stg0
    rw [hZi 0 (by omega)] at h0
    simp only [stM, hc0, hn', List.nil_append, Z, Option.some.inj h0]
    exact imp_get (fun i a hi => (hdrop i a hi).1) (fun _ _ h => h) rfl
attribute [go_sem ↓] reM_nil pSt reS addM reM okX sideX mutM dmx endM
attribute [go_sem] Option.getD_some Option.getD_none reM_nil chkF_nil avA noneA pSt reS addM reM okX sideX mutM dmx endM mask inM baseOf noS inE outE inR outR flatC flD chkF chkS chkSs Bool.cond_true Bool.cond_false Bool.or_true Bool.true_or Bool.or_false Bool.false_or List.flatten_cons List.flatten_nil
end Go.Proofs.YtdhclelfnbjikaaT

/- Trees: more of what simp reckons with. No condition. -/
set_option linter.unusedVariables false
set_option linter.unusedSimpArgs false
namespace Go.Proofs.YtdhclelfnbjikaaT
open Go
theorem toRo_int_l {k : IntKind} {l : List Int} : (l.map (T.int k)).map toRo = l.map (T.int k) := by rw [List.map_map]; exact List.map_congr_left fun _ _ => toRo_int ..
theorem toRo_str_l {l : List ByteArray} : (l.map T.str).map toRo = l.map T.str := by rw [List.map_map]; exact List.map_congr_left fun _ _ => toRo_str ..
theorem toRo_bool_l {l : List Bool} : (l.map T.bool).map toRo = l.map T.bool := by rw [List.map_map]; exact List.map_congr_left fun _ _ => toRo_bool ..
attribute [go_sem] false_and and_false or_false false_or or_true true_or not_true_eq_false not_false_eq_true toRo_int_l toRo_str_l toRo_bool_l toRo_sl toRo_bx toRo_int toRo_str toRo_bool toRo_nptr toRo_hole
theorem beq_bool {a b : Bool} : (a == b) = decide (a = b) := by cases a <;> cases b <;> rfl
attribute [go_sem low] beq_bool
theorem take_eq_succ {α : Type} [Inhabited α] {a b : List α} {i : Nat} (ha : i < a.length) (hb : i < b.length) (h : a.take i = b.take i) (e : a.getD i default = b.getD i default) : a.take (i + 1) = b.take (i + 1) := by
  simp only [List.getD_eq_getElem?_getD, List.getElem?_eq_getElem ha, List.getElem?_eq_getElem hb, Option.getD_some] at e
  rw [List.take_add_one, List.take_add_one, h, List.getElem?_eq_getElem ha, List.getElem?_eq_getElem hb, e]
theorem eq_of_take {α : Type} {a b : List α} {n : Nat} (h : a.take n = b.take n) (ha : a.length ≤ n) (hb : b.length ≤ n) : a = b := by
  rwa [List.take_of_length_le ha, List.take_of_length_le hb] at h
/-- a row that is told anew, as far as i -/
def fillL {α : Type} (a : List α) (d : α) (i : Nat) : List α := a.take i ++ List.replicate (a.length - i) d
theorem fillL_len {α : Type} {a : List α} {d : α} {i : Nat} : (fillL a d i).length = a.length := by simp only [fillL, List.length_append, List.length_take, List.length_replicate]; omega
theorem fillL_set {α : Type} [Inhabited α] {a : List α} {d : α} {i : Nat} (h : i < a.length) : (fillL a d i).set i (a.getD i default) = fillL a d (i + 1) := by
  apply List.ext_getElem
  · simp [fillL_len]
  · intro j h1 h2
    simp only [List.length_set, fillL_len] at h1
    simp only [fillL, List.getElem_set, List.getElem_append, List.length_take, List.getElem_take, List.getElem_replicate]
    by_cases e : i = j
    · subst e
      rw [if_pos rfl, dif_pos (by omega)]
      simp [List.getD_eq_getElem?_getD, h]
    · rw [if_neg e]
      by_cases h3 : j < i
      · rw [dif_pos (by omega), dif_pos (by omega)]
      · rw [dif_neg (by omega), dif_neg (by omega)]
theorem rep_flat {α : Type} {n : Nat} {x : α} : (List.replicate n [x]).flatten = List.replicate n x := List.flatten_replicate_singleton
theorem set_map_int {k : IntKind} {l : List Int} {i : Nat} {x : Int} : (l.map (T.int k)).set i (T.int k x) = (l.set i x).map (T.int k) := List.map_set.symm
theorem set_map_str {l : List ByteArray} {i : Nat} {x : ByteArray} : (l.map T.str).set i (T.str x) = (l.set i x).map T.str := List.map_set.symm
theorem set_map_bool {l : List Bool} {i : Nat} {x : Bool} : (l.map T.bool).set i (T.bool x) = (l.set i x).map T.bool := List.map_set.symm
attribute [go_sem] fillL_len fillL_set set_map_int set_map_str set_map_bool rep_flat List.length_set
/-- a row that is written over, as far as i -/
def mixL {α : Type} [Inhabited α] (g : Nat → α) (a : List α) (i : Nat) : List α := (List.range a.length).map fun j => if j < i then g j else a.getD j default
theorem mixL_len {α : Type} [Inhabited α] {g : Nat → α} {a : List α} {i : Nat} : (mixL g a i).length = a.length := by simp [mixL]
theorem mixL_0 {α : Type} [Inhabited α] {g : Nat → α} {a : List α} : mixL g a 0 = a := by
  apply List.ext_getElem
  · simp [mixL]
  · intro j h1 h2; simp [mixL, List.getD_eq_getElem?_getD, h2]
theorem mixL_end {α : Type} [Inhabited α] {g : Nat → α} {a : List α} : mixL g a a.length = (List.range a.length).map g := by
  apply List.ext_getElem
  · simp [mixL]
  · intro j h1 h2; simp only [List.length_map, List.length_range] at h2; simp [mixL, h2]
theorem mixL_set {α : Type} [Inhabited α] {g : Nat → α} {a : List α} {i : Nat} (h : i < a.length) : (mixL g a i).set i (g i) = mixL g a (i + 1) := by
  apply List.ext_getElem
  · simp [mixL]
  · intro j h1 h2
    simp only [mixL, List.getElem_set, List.getElem_map, List.getElem_range]
    by_cases e : i = j
    · subst e; simp
    · rw [if_neg e]
      by_cases h3 : j < i
      · rw [if_pos h3, if_pos (by omega)]
      · rw [if_neg h3, if_neg (by omega)]
theorem range_getD {α : Type} [Inhabited α] {g : Nat → α} {n i : Nat} (h : i < n) : ((List.range n).map g).getD i default = g i := by simp [List.getD_eq_getElem?_getD, h]
attribute [go_sem] mixL_len List.length_range
theorem cut_le {α : Type} {f : α → T} {l : List α} {n : Nat} (h : l.length ≤ n) : cut (l.map f) 0 n = l.map f := cut_all (by simpa using h)
attribute [go_sem] cut_le
theorem imp_T {p : Prop} : (True → p) = p := by simp
theorem imp_F {p : Prop} : (False → p) = True := by simp
theorem noRoL_str {l : List ByteArray} : noRoL (l.map T.str) = true := by
  induction l with
  | nil => rfl
  | cons x l ih => simp only [List.map_cons, noRoL, noRo, ih, Bool.and_self]
theorem noRoL_int {k : IntKind} {l : List Int} : noRoL (l.map (T.int k)) = true := by
  induction l with
  | nil => rfl
  | cons x l ih => simp only [List.map_cons, noRoL, noRo, ih, Bool.and_self]
theorem noRoL_bool {l : List Bool} : noRoL (l.map T.bool) = true := by
  induction l with
  | nil => rfl
  | cons x l ih => simp only [List.map_cons, noRoL, noRo, ih, Bool.and_self]
attribute [go_sem] imp_T imp_F noRoL_str noRoL_int noRoL_bool
/-- a loop, with a measure -/
theorem loop_m {P : Program} {b : Ir} {Q : Ex' → St → Prop} {α : Type} {s : St} (S : α → St) (m : α → Nat) (a : α) (h0 : Imp s (S a)) (h : ∀ a, wx P b (seqK (.hold : FxA fun s1 => ∃ a', m a' < m a ∧ Imp s1 (S a')) (.hold : FxA Q)) (S a)) : loopG P b Q s := by
  obtain ⟨e, s', h1, h2⟩ := loop_go S m h (m a + 1) a (Nat.lt_succ_self _)
  exact ⟨e, s', .imp h0 h1, h2⟩
theorem ba_append {l m : List UInt8} : (⟨l.toArray⟩ : ByteArray) ++ ⟨m.toArray⟩ = ⟨(l ++ m).toArray⟩ := by
  apply ByteArray.ext
  simp [ByteArray.data_append]
theorem bytesT_nil : bytesT [] = some [] := rfl
theorem bytesT_cons {c : UInt8} {l : List T} : bytesT (T.int .u8 (c.toNat : Int) :: l) = (bytesT l).map (c :: ·) := by
  have h : (0 : Int) ≤ c.toNat ∧ (c.toNat : Int) < 256 := ⟨by omega, by have := c.toNat_lt; omega⟩
  simp only [bytesT, if_pos h, Int.toNat_natCast]
  rw [show UInt8.ofNat c.toNat = c from UInt8.ofNat_toNat]
theorem bytesT_map {l : List UInt8} : bytesT (l.map fun c => T.int .u8 (c.toNat : Int)) = some l := by
  induction l with
  | nil => rfl
  | cons c l ih => simp only [List.map_cons, bytesT_cons, ih, Option.map_some]
theorem ex_sl {a : Bool} {b st : Nat} {cs : List T} : (∃ own n0, T.sl a st b cs = T.sl own st n0 cs) = True := eq_true ⟨_, _, rfl⟩
attribute [go_sem] bytesT_nil bytesT_cons bytesT_map ex_sl ba_append List.size_toArray
theorem u8_wrap {x : Int} (h : 0 ≤ x ∧ x < 256) : IntKind.u8.wrap x = x := by
  simp only [IntKind.wrap, IntKind.bits, IntKind.signed, Bool.false_and, Bool.false_eq_true, if_false]
  omega
theorem lt_T {a b : Int} (h : a < b) : (a < b) = True := eq_true h
theorem lt_F {a b : Int} (h : ¬ a < b) : (a < b) = False := eq_false h
theorem le_T {a b : Int} (h : a ≤ b) : (a ≤ b) = True := eq_true h
theorem le_F {a b : Int} (h : ¬ a ≤ b) : (a ≤ b) = False := eq_false h
theorem eq_T {a b : Int} (h : a = b) : (a = b) = True := eq_true h
theorem eq_F {a b : Int} (h : ¬ a = b) : (a = b) = False := eq_false h
theorem and_F {a b c d : Int} (h : ¬ (a ≤ b ∧ c ≤ d)) : (a ≤ b ∧ c ≤ d) = False := eq_false h
theorem res_T {p : Prop} [Decidable p] (h : p) : TV.w (TW.one (T.bool (decide p))) = TV.w (TW.one (T.bool true)) := by rw [decide_eq_true h]
theorem res_F {p : Prop} [Decidable p] (h : ¬ p) : TV.w (TW.one (T.bool (decide p))) = TV.w (TW.one (T.bool false)) := by rw [decide_eq_false h]
theorem all_succ {p : Nat → Prop} {i : Nat} (h : ∀ j, j < i → p j) (hi : p i) : ∀ j, j < i + 1 → p j := fun j hj => by
  rcases Nat.lt_succ_iff_lt_or_eq.1 hj with h3 | rfl
  · exact h j h3
  · exact hi
theorem getD_mem {α : Type} [Inhabited α] {l : List α} {i : Nat} (h : i < l.length) : l.getD i default ∈ l := by
  rw [List.getD_eq_getElem?_getD, List.getElem?_eq_getElem h]; exact List.getElem_mem h
theorem mem_getD {α : Type} [Inhabited α] {l : List α} {x : α} (h : x ∈ l) : ∃ i, i < l.length ∧ l.getD i default = x := by
  obtain ⟨j, hj, e⟩ := List.getElem_of_mem h
  exact ⟨j, hj, by rw [List.getD_eq_getElem?_getD, List.getElem?_eq_getElem hj]; exact e⟩
theorem mapMo_nil {α β : Type} {f : α → Option β} : List.mapM f [] = some [] := rfl
theorem mapMo_cons {α β : Type} {f : α → Option β} {x : α} {l : List α} : List.mapM f (x :: l) = (f x).bind fun a => (List.mapM f l).map (a :: ·) := by
  rw [List.mapM_cons]
  cases f x with
  | none => rfl
  | some a => cases List.mapM f l <;> rfl
attribute [go_sem] mapMo_nil mapMo_cons
theorem mixL_keep {α : Type} [Inhabited α] {g : Nat → α} {a : List α} {i : Nat} (h : g i = a.getD i default) : mixL g a i = mixL g a (i + 1) := by
  apply List.ext_getElem
  · simp [mixL]
  · intro j h1 h2
    simp only [mixL, List.getElem_map, List.getElem_range]
    by_cases e : i = j
    · subst e; simp [h]
    · by_cases h3 : j < i
      · rw [if_pos h3, if_pos (by omega)]
      · rw [if_neg h3, if_neg (by omega)]
theorem mixL_get {α : Type} [Inhabited α] {g : Nat → α} {a : List α} {i : Nat} (h : i < a.length) : (mixL g a i).getD i default = a.getD i default := by
  simp [mixL, List.getD_eq_getElem?_getD, h]
theorem set_map_u8 {l : List UInt8} {i : Nat} {x : UInt8} : (l.map fun c => T.int .u8 (c.toNat : Int)).set i (T.int .u8 (x.toNat : Int)) = (l.set i x).map fun c => T.int .u8 (c.toNat : Int) := List.map_set.symm
theorem ba_len {b : ByteArray} : b.data.toList.length = b.size := by rw [Array.length_toList]; rfl
theorem ba_get {b : ByteArray} {i : Nat} (h : i < b.size) : b[i]? = some (b.data.toList.getD i default) := by
  rw [getElem?_pos b i h]
  congr 1
  rw [List.getD_eq_getElem?_getD, List.getElem?_eq_getElem (by rw [ba_len]; exact h)]
  rfl
theorem u8_bv (a : UInt8) : BitVec.ofInt 8 (a.toNat : Int) = a.toBitVec := by
  rw [BitVec.ofInt_natCast]; exact BitVec.ofNat_toNat ..
theorem u8_xor {a b : UInt8} : IntKind.u8.wrap ((BitVec.ofInt IntKind.u8.bits (a.toNat : Int) ^^^ BitVec.ofInt IntKind.u8.bits (b.toNat : Int)).toNat : Int) = ((a ^^^ b).toNat : Int) := by
  have e : (BitVec.ofInt IntKind.u8.bits (a.toNat : Int) ^^^ BitVec.ofInt IntKind.u8.bits (b.toNat : Int)).toNat = (a ^^^ b).toNat := by
    show (BitVec.ofInt 8 (a.toNat : Int) ^^^ BitVec.ofInt 8 (b.toNat : Int)).toNat = _
    rw [u8_bv, u8_bv]; rfl
  rw [e]
  have := (a ^^^ b).toNat_lt
  exact u8_wrap ⟨by omega, by omega⟩
attribute [go_sem] set_map_u8 ba_get u8_xor
end Go.Proofs.YtdhclelfnbjikaaT
