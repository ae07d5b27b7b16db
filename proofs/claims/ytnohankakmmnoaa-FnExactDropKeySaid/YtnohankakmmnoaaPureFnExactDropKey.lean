/- DropKey of the program and of the reference return the same, for every table that can be read, in new memory, and leave their arguments as they were. -/
import Derived.Test.YtnohankakmmnoaaPFnExactDropKeyx11
set_option maxRecDepth 100000
set_option linter.unusedVariables false
set_option linter.unusedSimpArgs false
namespace Go.Proofs.Ytnohankakmmnoaa.Pure
open Go.Proofs.Ytnohankakmmnoaa Go.RowKit Go.Proofs.Ytnohankakmmnoaa.PFnExactDropKey Go.Proofs.YtnohankakmmnoaaW.PrintWords Go.Proofs.YtnohankakmmnoaaW.PrintLast

theorem wrap_id {x : Int} (h0 : -9223372036854775808 ≤ x) (h1 : x < 9223372036854775808) : wrap64 x = x := by
  unfold wrap64; omega
theorem Ev.pos {α : Type} {c : Prop} [Decidable c] {g f : Nat → Option α} {r : α} (h : c) (k : Ev g r) : Ev (fun n => if c then g n else f n) r := by
  simpa only [if_pos h] using k
theorem Ev.neg {α : Type} {c : Prop} [Decidable c] {g f : Nat → Option α} {r : α} (h : ¬ c) (k : Ev f r) : Ev (fun n => if c then g n else f n) r := by
  simpa only [if_neg h] using k
theorem Ev.val {α : Type} {x : Option α} {r : α} (h : x = some r) : Ev (fun _ => x) r := by
  rw [h]; exact Ev.now r
theorem Ev.end {α : Type} {g : Nat → Option α} {r : α} (h : ∀ k, g (k + 1) = some r) : Ev g r := Ev.step (f := fun _ => some r) h (Ev.now r)
theorem Ev.cbind {α β : Type} {x : Option α} {f : Nat → α → Option β} {a : α} {r : β} (h : x = some a) (k : Ev (fun n => f n a) r) : Ev (fun n => x.bind (f n)) r := by
  subst h; exact k
theorem Ev.uniq {α : Type} {g : Nat → Option α} {r q : α} (h : Ev g r) (k : Ev g q) : r = q := by
  obtain ⟨K, h⟩ := h
  obtain ⟨L, k⟩ := k
  have h1 := h (max K L) (by omega)
  have h2 := k (max K L) (by omega)
  rw [h1] at h2
  exact Option.some.inj h2
theorem Ev.succ {α : Type} {g : Nat → Option α} {r : α} (h : Ev (fun k => g (k + 1)) r) : Ev g r := Ev.step (fun _ => rfl) h

theorem within_eq (a b c : Int) : impl_within.f a b c = some (decide (b ≤ a ∧ a ≤ c)) := by
  by_cases h : b ≤ a <;> simp [impl_within.f, h]

theorem l1In_eq (a b c : Int) : spec_l1In.f a b c = some (decide (b ≤ a ∧ a ≤ c)) := by
  by_cases h : b ≤ a <;> simp [spec_l1In.f, h]

/-- A slice written element by element from another: one induction for all kinds. -/
theorem copy_gen {α β : Type} {L : Nat → List α → List β → Int → Option (List β)} (conv : α → β) (M : Nat) (B : α → Prop)
    (hend : ∀ (x : List α) (y : List β) (i : Int), ¬ i < x.length → Ev (fun k => L k x y i) y)
    (hstep : ∀ (x : List α) (y : List β) (i : Nat) (a : α) (r : List β), i < x.length → i < y.length → x.length ≤ M → x[i]? = some a → B a → Ev (fun k => L k x (y.set i (conv a)) ((i + 1 : Nat) : Int)) r → Ev (fun k => L k x y i) r)
    (rest : List α) : ∀ (pre : List α) (tail : List β), tail.length = rest.length → pre.length + rest.length ≤ M → (∀ a ∈ rest, B a) →
      Ev (fun k => L k (pre ++ rest) (pre.map conv ++ tail) pre.length) ((pre ++ rest).map conv) := by
  induction rest with
  | nil =>
    intro pre tail hl hM hB
    obtain rfl : tail = [] := List.length_eq_zero_iff.1 hl
    simpa using hend pre (pre.map conv) pre.length (by omega)
  | cons a rest ih =>
    intro pre tail hl hM hB
    match tail, hl with
    | b :: tail, hl =>
      simp only [List.length_cons] at hl hM
      have h := ih (pre ++ [a]) tail (by omega) (by simp; omega) (fun x hx => hB x (by simp [hx]))
      simp only [List.append_assoc, List.singleton_append, List.length_append, List.length_singleton, List.map_append, List.map_cons, List.map_nil] at h
      refine hstep _ _ _ a _ (by simp) (by simp) (by simp; omega) (by simp) (hB a (by simp)) ?_
      have e : (List.map conv pre ++ b :: tail).set pre.length (conv a) = List.map conv pre ++ conv a :: tail := by
        rw [List.set_append_right _ _ (by simp)]
        simp
      rw [e]
      simpa using h

/-- what elements cost, together -/
def costs {α : Type} (cost : α → Nat) : List α → Nat
  | [] => 0
  | a :: l => cost a + costs cost l
/-- Marking element by element, and asking for the marks: one induction for all kinds. -/
theorem mark_gen {α : Type} {L : Nat → List α → Int → Int → Option (Int × List α)} {H : Nat → List α → Int → Int → Option Int} (cost : α → Nat) (val : Int → α → α) (B : Int) (M : Nat)
    (hend : ∀ (x : List α) (v i : Int), ¬ i < x.length → Ev (fun k => L k x v i) (v, x)) (hendH : ∀ (x : List α) (v i : Int), ¬ i < x.length → Ev (fun k => H k x v i) v)
    (hstep : ∀ (x : List α) (v : Int) (i : Nat) (a : α) (r : Int × List α), i < x.length → x.length ≤ M → x[i]? = some a → 0 ≤ v → v + cost a ≤ B → Ev (fun k => L k (x.set i (val v a)) (v + cost a) ((i + 1 : Nat) : Int)) r → Ev (fun k => L k x v i) r)
    (hstepH : ∀ (x : List α) (v : Int) (i : Nat) (a : α) (r : Int), i < x.length → x.length ≤ M → x[i]? = some (val v a) → 0 ≤ v → v + cost a ≤ B → Ev (fun k => H k x (v + cost a) ((i + 1 : Nat) : Int)) r → Ev (fun k => H k x v i) r)
    (rest : List α) : ∀ (pre : List α) (v : Int), 0 ≤ v → v + costs cost rest ≤ B → pre.length + rest.length ≤ M →
      ∃ rest' : List α, rest'.length = rest.length ∧ Ev (fun k => L k (pre ++ rest) v pre.length) (v + costs cost rest, pre ++ rest') ∧ Ev (fun k => H k (pre ++ rest') v pre.length) (v + costs cost rest) := by
  induction rest with
  | nil =>
    intro pre v h0 h1 h2
    refine ⟨[], rfl, ?_, ?_⟩
    · simpa [costs] using hend pre v pre.length (by omega)
    · simpa [costs] using hendH pre v pre.length (by omega)
  | cons a rest ih =>
    intro pre v h0 h1 h2
    simp only [costs, List.length_cons] at h1 h2
    push_cast at h1
    obtain ⟨rest', hl, e1, e2⟩ := ih (pre ++ [val v a]) (v + cost a) (by omega) (by omega) (by simp; omega)
    simp only [List.append_assoc, List.singleton_append, List.length_append, List.length_singleton] at e1 e2
    have hs : v + (cost a : Int) + (costs cost rest : Int) = v + (costs cost (a :: rest) : Nat) := by simp only [costs]; push_cast; omega
    rw [hs] at e1 e2
    refine ⟨val v a :: rest', by simp [hl], ?_, ?_⟩
    · refine hstep _ _ _ a _ (by simp) (by simp; omega) (by simp) h0 (by omega) ?_
      simpa using e1
    · refine hstepH _ _ _ a _ (by simp) (by simp; omega) (by simp) h0 (by omega) ?_
      simpa using e2

/-- a number put to its place in a rising list, once -/
def putL : List Int → Int → List Int
  | [], n => [n]
  | a :: t, n => if a < n then a :: putL t n else if a = n then a :: t else n :: a :: t
theorem putL_mem (l : List Int) (n x : Int) : x ∈ putL l n ↔ x = n ∨ x ∈ l := by
  induction l with
  | nil => simp [putL]
  | cons a t ih =>
    unfold putL
    by_cases c : a < n
    · rw [if_pos c, List.mem_cons, ih, List.mem_cons]
      constructor
      · rintro (h | h | h)
        · exact .inr (.inl h)
        · exact .inl h
        · exact .inr (.inr h)
      · rintro (h | h | h)
        · exact .inr (.inl h)
        · exact .inl h
        · exact .inr (.inr h)
    · rw [if_neg c]
      by_cases d : a = n
      · rw [if_pos d, List.mem_cons]
        constructor
        · exact .inr
        · rintro (h | h)
          · exact .inl (h.trans d.symm)
          · exact h
      · rw [if_neg d, List.mem_cons]
theorem putL_sorted {l : List Int} (n : Int) (h : l.Pairwise (· < ·)) : (putL l n).Pairwise (· < ·) := by
  induction l with
  | nil => simp [putL]
  | cons a t ih =>
    obtain ⟨h1, h2⟩ := List.pairwise_cons.1 h
    unfold putL
    by_cases c : a < n
    · rw [if_pos c]
      refine List.pairwise_cons.2 ⟨fun x hx => ?_, ih h2⟩
      rcases (putL_mem t n x).1 hx with rfl | hx
      · exact c
      · exact h1 x hx
    · rw [if_neg c]
      by_cases d : a = n
      · rw [if_pos d]; exact h
      · rw [if_neg d]
        refine List.pairwise_cons.2 ⟨fun x hx => ?_, h⟩
        rcases List.mem_cons.1 hx with rfl | hx
        · omega
        · have := h1 x hx; omega
theorem putL_len (l : List Int) (n : Int) : (putL l n).length ≤ l.length + 1 := by
  induction l with
  | nil => simp [putL]
  | cons a t ih =>
    unfold putL
    split
    · simp; omega
    · split <;> simp
/-- a rising list within bounds is not long -/
theorem sorted_len : ∀ (l : List Int) (lo hi : Int), l.Pairwise (· < ·) → (∀ x ∈ l, lo ≤ x ∧ x < hi) → (l.length : Int) ≤ max 0 (hi - lo) := by
  intro l
  induction l with
  | nil => intro lo hi _ _; simp; omega
  | cons a t ih =>
    intro lo hi h hm
    obtain ⟨h1, h2⟩ := List.pairwise_cons.1 h
    have ha := hm a (by simp)
    have := ih (a + 1) hi h2 (fun x hx => ⟨by have := h1 x hx; omega, (hm x (by simp [hx])).2⟩)
    simp only [List.length_cons]
    omega
/-- two rising lists of the same numbers are one -/
theorem sorted_eq : ∀ (l m : List Int), l.Pairwise (· < ·) → m.Pairwise (· < ·) → (∀ x, x ∈ l ↔ x ∈ m) → l = m := by
  intro l
  induction l with
  | nil => intro m _ _ h; cases m with
    | nil => rfl
    | cons b u => exact absurd ((h b).2 (by simp)) (by simp)
  | cons a t ih =>
    intro m hl hm h
    cases m with
    | nil => exact absurd ((h a).1 (by simp)) (by simp)
    | cons b u =>
      obtain ⟨h1, h2⟩ := List.pairwise_cons.1 hl
      obtain ⟨h3, h4⟩ := List.pairwise_cons.1 hm
      have e : a = b := by
        have x1 := (h a).1 (by simp)
        have x2 := (h b).2 (by simp)
        rcases List.mem_cons.1 x1 with e | x1
        · exact e
        · rcases List.mem_cons.1 x2 with e | x2
          · exact e.symm
          · have := h1 b x2; have := h3 a x1; omega
      subst e
      congr 1
      refine ih u h2 h4 (fun x => ⟨fun hx => ?_, fun hx => ?_⟩)
      · rcases List.mem_cons.1 ((h x).1 (by simp [hx])) with e | e
        · have := h1 x hx; omega
        · exact e
      · rcases List.mem_cons.1 ((h x).2 (by simp [hx])) with e | e
        · have := h3 x hx; omega
        · exact e
theorem rdAt (pre : List Int) (b : Int) (t : List Int) : rd (pre ++ b :: t) (pre.length : Int) = b := by
  simp [rd, List.getD_eq_getElem?_getD]
theorem l1Put_loop (l : List Int) (n : Int) (hl : l.length ≤ 2097152) (rest : List Int) : ∀ pre : List Int, l = pre ++ rest → Ev (fun k => spec_l1Put.l0 k l n (pre.length : Int)) (pre ++ putL rest n) := by
  induction rest with
  | nil =>
    intro pre h
    rw [List.append_nil] at h
    subst h
    refine Ev.end (fun k => ?_)
    rw [spec_l1Put.l0, if_neg (by omega), if_pos (by omega), if_pos (by omega)]
    simp only [Option.bind_some, Int.toNat_natCast, List.take_length, List.drop_length, List.nil_append, List.length_nil, List.append_nil]
    rw [if_pos (by omega), if_pos (by omega), if_pos (by simp; omega)]
    rfl
  | cons b t ih =>
    intro pre h
    have hlen : l.length = pre.length + (t.length + 1) := by rw [h]; simp
    have hb : rd l (pre.length : Int) = b := by rw [h]; exact rdAt pre b t
    have hw : wrap64 ((pre.length : Int) + 1) = ((pre.length + 1 : Nat) : Int) := by rw [wrap_id (by omega) (by omega)]; simp
    unfold putL
    by_cases c : b < n
    · have e := ih (pre ++ [b]) (by rw [h]; simp)
      rw [if_pos c]
      simp only [List.length_append, List.length_singleton, List.append_assoc, List.singleton_append] at e
      exact Ev.step (fun k => by rw [spec_l1Put.l0, if_pos (by omega), if_pos (by omega), hb, if_pos c, hw]) e
    · rw [if_neg c]
      by_cases d : b = n
      · rw [if_pos d, ← h]
        exact Ev.end (fun k => by rw [spec_l1Put.l0, if_pos (by omega), if_pos (by omega), hb, if_neg c, if_pos d])
      · rw [if_neg d]
        refine Ev.end (fun k => ?_)
        rw [spec_l1Put.l0, if_pos (by omega), if_pos (by omega), hb, if_neg c, if_neg d, if_pos (by omega)]
        have e1 : l.take pre.length = pre := by rw [h]; simp
        have e2 : l.drop pre.length = b :: t := by rw [h]; simp
        simp only [Option.bind_some, Int.toNat_natCast, e1, e2, List.nil_append, List.length_nil]
        rw [if_pos (by omega), if_pos (by omega), if_pos (by simp; omega)]
        simp
theorem l1Put_ev (l : List Int) (n : Int) (hl : l.length ≤ 2097152) : Ev (fun k => spec_l1Put.f k l n) (putL l n) := by
  have e := l1Put_loop l n hl l [] rfl
  simpa [spec_l1Put.f] using e
theorem up_compact (d : Array Int) (h : ∀ i j, i ≤ j → j < d.size → d[i]! ≤ d[j]!) : ∀ m, m ≤ d.size → (Lib.compactUpTo d m).Pairwise (· < ·) ∧ (∀ x, x ∈ Lib.compactUpTo d m ↔ ∃ i, i < m ∧ d[i]! = x) := by
  intro m
  induction m with
  | zero => intro _; exact ⟨by simp [Lib.compactUpTo], fun x => by simp [Lib.compactUpTo]⟩
  | succ m ih =>
    intro hm
    obtain ⟨h1, h2⟩ := ih (by omega)
    rw [Lib.compactUpTo_succ]
    by_cases c : Lib.keeps d m = true
    · rw [if_pos c]
      have hk : ∀ x ∈ Lib.compactUpTo d m, x < d[m]! := by
        intro x hx
        obtain ⟨i, hi, rfl⟩ := (h2 x).1 hx
        have hle := h i (m - 1) (by omega) (by omega)
        have hle2 := h (m - 1) m (by omega) (by omega)
        have hne : d[m]! ≠ d[m - 1]! := by
          unfold Lib.keeps at c
          simp only [Bool.or_eq_true, decide_eq_true_eq, bne_iff_ne, beq_iff_eq] at c
          rcases c with c | c
          · omega
          · exact c
        have : d[m - 1]! < d[m]! := by omega
        omega
      refine ⟨List.pairwise_append.2 ⟨h1, by simp, fun a ha b hb => ?_⟩, fun x => ?_⟩
      · have hb2 : b = d[m]! := List.mem_singleton.1 hb
        rw [hb2]; exact hk a ha
      · rw [List.mem_append, h2, List.mem_singleton]
        constructor
        · rintro (⟨i, hi, e⟩ | e)
          · exact ⟨i, by omega, e⟩
          · exact ⟨m, by omega, e.symm⟩
        · rintro ⟨i, hi, e⟩
          by_cases c2 : i = m
          · subst c2; exact Or.inr e.symm
          · exact Or.inl ⟨i, by omega, e⟩
    · rw [if_neg c, List.append_nil]
      have he : 0 < m ∧ d[m]! = d[m - 1]! := by
        unfold Lib.keeps at c
        simp only [Bool.or_eq_true, decide_eq_true_eq, bne_iff_ne, beq_iff_eq, not_or, ne_eq, Decidable.not_not] at c
        exact ⟨by omega, c.2⟩
      refine ⟨h1, fun x => ?_⟩
      rw [h2]
      constructor
      · rintro ⟨i, hi, e⟩; exact ⟨i, by omega, e⟩
      · rintro ⟨i, hi, e⟩
        by_cases c2 : i = m
        · subst c2; exact ⟨i - 1, by omega, by rw [← he.2]; exact e⟩
        · exact ⟨i, by omega, e⟩
theorem compact_sort (l : List Int) : (Lib.compact (l.mergeSort fun x y => decide (x ≤ y))).Pairwise (· < ·) ∧ ∀ x, x ∈ Lib.compact (l.mergeSort fun x y => decide (x ≤ y)) ↔ x ∈ l := by
  have hs : (l.mergeSort fun x y => decide (x ≤ y)).Pairwise (fun a b => decide (a ≤ b) = true) := List.pairwise_mergeSort (fun a b c h1 h2 => by simp only [decide_eq_true_eq] at *; omega) (fun a b => by simp only [Bool.or_eq_true, decide_eq_true_eq]; omega) l
  have hm : ∀ x, x ∈ (l.mergeSort fun x y => decide (x ≤ y)) ↔ x ∈ l := fun x => List.mem_mergeSort
  generalize (l.mergeSort fun x y => decide (x ≤ y)) = s at hs hm
  have hd : ∀ i (hi : i < s.length), s.toArray[i]! = s[i] := fun i hi => by rw [getElem!_pos _ i (by simpa using hi)]; simp
  have h : ∀ i j, i ≤ j → j < s.toArray.size → s.toArray[i]! ≤ s.toArray[j]! := by
    intro i j hij hj
    have hj2 : j < s.length := by simpa using hj
    rw [hd i (by omega), hd j hj2]
    by_cases e : i = j
    · subst e; exact Int.le_refl _
    · have := List.pairwise_iff_getElem.1 hs i j (by omega) hj2 (by omega)
      simpa using this
  obtain ⟨h1, h2⟩ := up_compact s.toArray h s.length (by simp)
  refine ⟨h1, fun x => ?_⟩
  rw [← hm x]
  refine (h2 x).trans ⟨?_, ?_⟩
  · rintro ⟨i, hi, rfl⟩; rw [hd i hi]; exact List.getElem_mem hi
  · intro hx; obtain ⟨i, hi, e⟩ := List.getElem_of_mem hx; exact ⟨i, hi, by rw [hd i hi]; exact e⟩

theorem putL_perm (l : List Int) (n : Int) (h : (putL l n).length = l.length + 1) : (putL l n).Perm (n :: l) := by
  induction l with
  | nil => simp [putL]
  | cons a t ih =>
    unfold putL at h ⊢
    by_cases c : a < n
    · rw [if_pos c] at h ⊢
      have e := ih (by simpa using h)
      exact (e.cons a).trans (List.Perm.swap n a t)
    · rw [if_neg c] at h ⊢
      by_cases d : a = n
      · rw [if_pos d] at h; simp at h
      · rw [if_neg d]
def putF (K acc : List Int) : List Int := K.foldl putL acc
theorem putF_sorted (K : List Int) : ∀ acc : List Int, acc.Pairwise (· < ·) → (putF K acc).Pairwise (· < ·) := by
  induction K with
  | nil => intro acc h; exact h
  | cons n t ih => intro acc h; exact ih _ (putL_sorted n h)
theorem putF_mem (K : List Int) (x : Int) : ∀ acc : List Int, x ∈ putF K acc ↔ x ∈ acc ∨ x ∈ K := by
  induction K with
  | nil => intro acc; simp [putF]
  | cons n t ih =>
    intro acc
    have e := ih (putL acc n)
    rw [putL_mem] at e
    show x ∈ putF t (putL acc n) ↔ _
    rw [e, List.mem_cons]
    constructor
    · rintro ((h | h) | h)
      · exact .inr (.inl h)
      · exact .inl h
      · exact .inr (.inr h)
    · rintro (h | h | h)
      · exact .inl (.inr h)
      · exact .inl (.inl h)
      · exact .inr h
theorem putF_len (K : List Int) : ∀ acc : List Int, (putF K acc).length ≤ acc.length + K.length := by
  induction K with
  | nil => intro acc; simp [putF]
  | cons n t ih =>
    intro acc
    have e := ih (putL acc n)
    have e2 := putL_len acc n
    show (putF t (putL acc n)).length ≤ _
    simp only [List.length_cons]
    omega
theorem putF_perm (K : List Int) : ∀ acc : List Int, (putF K acc).length = acc.length + K.length → (putF K acc).Perm (acc ++ K) := by
  induction K with
  | nil => intro acc _; simp [putF]
  | cons n t ih =>
    intro acc h
    have e2 := putL_len acc n
    have e3 := putF_len t (putL acc n)
    have h' : (putF t (putL acc n)).length = acc.length + (t.length + 1) := h
    have p1 := putL_perm acc n (by omega)
    have p2 := ih (putL acc n) (by omega)
    show (putF t (putL acc n)).Perm _
    refine p2.trans ((p1.append_right t).trans ?_)
    exact (List.perm_middle (l₁ := acc)).symm
theorem sortI_mem (l : List Int) (x : Int) : x ∈ (l.mergeSort fun x y => decide (x ≤ y)) ↔ x ∈ l := List.mem_mergeSort
theorem sortI_up (l : List Int) : (l.mergeSort fun x y => decide (x ≤ y)).Pairwise (fun a b => decide (a ≤ b) = true) :=
  List.pairwise_mergeSort (fun a b c h1 h2 => by simp only [decide_eq_true_eq] at *; omega) (fun a b => by simp only [Bool.or_eq_true, decide_eq_true_eq]; omega) l
/-- keys that are all put are, sorted, what the putting makes -/
theorem sort_eq_putF (K K2 : List Int) (hp : K.Perm K2) (h : (putF K2 []).length = K2.length) : (K.mergeSort fun x y => decide (x ≤ y)) = putF K2 [] := by
  have p := putF_perm K2 [] (by simpa using h)
  rw [List.nil_append] at p
  have s := putF_sorted K2 [] List.Pairwise.nil
  have nd : (putF K2 []).Nodup := s.imp (fun h => by omega)
  have nd2 : (K.mergeSort fun x y => decide (x ≤ y)).Nodup := (List.Perm.nodup_iff ((List.mergeSort_perm K _).trans (hp.trans p.symm))).2 nd
  refine sorted_eq _ _ ?_ s (fun x => ?_)
  · have u := sortI_up K
    have both := List.Pairwise.and u nd2
    exact both.imp (fun h => by have h1 := h.1; have h2 := h.2; simp only [decide_eq_true_eq] at h1; omega)
  · rw [sortI_mem, hp.mem_iff, putF_mem]; simp
/-- so many unlike keys -/
theorem compact_eq_putF (K K2 : List Int) (hp : K.Perm K2) : Lib.compact (K.mergeSort fun x y => decide (x ≤ y)) = putF K2 [] := by
  obtain ⟨h1, h2⟩ := compact_sort K
  refine sorted_eq _ _ h1 (putF_sorted K2 [] List.Pairwise.nil) (fun x => ?_)
  rw [h2, hp.mem_iff, putF_mem]; simp

theorem rd60 (x : List S60) (i : Nat) (a : S60) (h : x[i]? = some a) : rd_T60 x (i : Int) = a := by
  simp [rd_T60, List.getD_eq_getElem?_getD, h]
theorem eqSlotS_loop (l : List S60) (hl : l.length ≤ 4611686018427387904) (d : Nat) : ∀ i : Int, 0 ≤ i → i ≤ l.length → (l.length : Int) - i = d → Ev (fun k => laws_eqSlotS.l0 k l l i) true := by
  induction d with
  | zero => intro i h0 h1 hd; exact Ev.end (fun k => by simp only [laws_eqSlotS.l0]; rw [if_neg (by omega)])
  | succ d ih =>
    intro i h0 h1 hd
    refine Ev.step (fun k => ?_) (ih (i + 1) (by omega) (by omega) (by omega))
    have hw := wrap_id (x := i + 1) (by omega) (by omega)
    rw [laws_eqSlotS.l0, if_pos (by omega), if_pos h0, if_pos (by omega)]
    simp [laws_eqSlot.f, hw]
theorem eqSlotS_same (l : List S60) (hl : l.length ≤ 4611686018427387904) : Ev (fun k => laws_eqSlotS.f k l l) true := by
  unfold laws_eqSlotS.f; exact Ev.pos (by trivial) (eqSlotS_loop l hl l.length 0 (by omega) (by omega) (by omega))
def slotv (v : Int) (_ : S60) : S60 := ⟨Int.tmod v 3 == 0, v + 1, v + 2⟩
theorem markSlotS_ev (l : List S60) (v : Int) (h0 : 0 ≤ v) (h : v + costs (fun _ => 3) l ≤ 1000000000000000000) (hl : l.length ≤ 1000000000000000000) :
    ∃ l' : List S60, l'.length = l.length ∧ Ev (fun k => laws_markSlotS.f k l v) (v + costs (fun _ => 3) l, l') ∧ Ev (fun k => laws_heldSlotS.f k l' v) (v + costs (fun _ => 3) l) := by
  refine mark_gen (L := laws_markSlotS.l0) (H := laws_heldSlotS.l0) (fun _ => 3) slotv 1000000000000000000 1000000000000000000 ?_ ?_ ?_ ?_ l [] v h0 h (by simpa using hl)
  · intro x v i hi; exact Ev.end (fun k => by rw [laws_markSlotS.l0, if_neg hi])
  · intro x v i hi; exact Ev.end (fun k => by rw [laws_heldSlotS.l0, if_neg hi])
  · intro x v i a r hi hM ha hv hB he
    refine Ev.step (fun k => ?_) he
    have hw := wrap_id (x := (i : Int) + 1) (by omega) (by omega)
    have e1 : wrap64 (v + 1) = v + 1 := wrap_id (by omega) (by omega)
    have e2 : wrap64 (v + 1 + 1) = v + 2 := by rw [wrap_id (x := v + 1 + 1) (by omega) (by omega)]; omega
    have e3 : wrap64 (v + 2 + 1) = v + 3 := by rw [wrap_id (x := v + 2 + 1) (by omega) (by omega)]; omega
    rw [laws_markSlotS.l0, if_pos (by omega), if_pos (by omega), hw]
    simp only [Option.bind_some, Int.toNat_natCast, e1, e2, e3]
    have r1 : rd_T60 (x.set i ⟨Int.tmod v 3 == 0, (rd_T60 x i).f1, (rd_T60 x i).f2⟩) i = ⟨Int.tmod v 3 == 0, (rd_T60 x i).f1, (rd_T60 x i).f2⟩ := rd60 _ _ _ (by simp [hi])
    rw [r1]
    simp only [List.set_set]
    rw [rd60 (x.set i _) i ⟨Int.tmod v 3 == 0, v + 1, (rd_T60 x i).f2⟩ (by simp [hi])]
    simp only [slotv]
    push_cast
    rfl
  · intro x v i a r hi hM ha hv hB he
    refine Ev.step (fun k => ?_) he
    have hw := wrap_id (x := (i : Int) + 1) (by omega) (by omega)
    have e1 : wrap64 (v + 1) = v + 1 := wrap_id (by omega) (by omega)
    have e2 : wrap64 (v + 1 + 1) = v + 2 := by rw [wrap_id (x := v + 1 + 1) (by omega) (by omega)]; omega
    have e3 : wrap64 (v + 2 + 1) = v + 3 := by rw [wrap_id (x := v + 2 + 1) (by omega) (by omega)]; omega
    have hr := rd60 x i _ ha
    rw [laws_heldSlotS.l0, if_pos (by omega), if_pos (by omega), hw, hr, e1, e2, e3]
    simp [slotv]

theorem eqTable_same (s : Int) (a b : List S60) (m : Int) (ha : a.length ≤ 4611686018427387904) (hb : b.length ≤ 4611686018427387904) : Ev (fun k => laws_eqTable.f k s a b m s a b m) true := by
  simp only [laws_eqTable.f]
  exact Ev.pos (by trivial) (Ev.bind (eqSlotS_same a ha) (Ev.pos (by trivial) (Ev.bind (eqSlotS_same b hb) (Ev.pos (by trivial) (Ev.pos (by trivial) (Ev.now _))))))

def slotOf (a : S71) : S60 := ⟨a.f0, a.f1, a.f2⟩
theorem rd71 (x : List S71) (i : Nat) (a : S71) (h : x[i]? = some a) : rd_T71 x (i : Int) = a := by
  simp [rd_T71, List.getD_eq_getElem?_getD, h]
theorem toSlotS_ev (l : List S71) (hl : l.length ≤ 1048576) : Ev (fun k => laws_toSlotS.f k l) (l.map slotOf) := by
  have h := copy_gen (L := laws_toSlotS.l0) slotOf 1048576 (fun _ => True) (fun x y i hi => Ev.end (fun k => by rw [laws_toSlotS.l0, if_neg hi]))
    (fun x y i a r hi hy hM ha _ he => Ev.step (fun k => by
      have hw := wrap_id (x := (i : Int) + 1) (by omega) (by omega)
      have hr := rd71 x i a ha
      rw [laws_toSlotS.l0, if_pos (by omega), if_pos (by omega), hr]
      simp only [laws_toSlot.f, Option.bind_some, slotOf]
      rw [if_pos (by omega), hw]
      simp) he) l [] (List.replicate l.length z60) (by simp) (by simpa using hl) (fun _ _ => trivial)
  unfold laws_toSlotS.f
  refine Ev.pos (by omega) (Ev.pos (by simp; omega) ?_)
  simpa using h
theorem toTable_ev (s : Int) (a b : List S71) (m : Int) (ha : a.length ≤ 1048576) (hb : b.length ≤ 1048576) : Ev (fun k => laws_toTable.f k s a b m) (s, a.map slotOf, b.map slotOf, m) := by
  unfold laws_toTable.f
  exact Ev.bind (toSlotS_ev a ha) (Ev.bind (toSlotS_ev b hb) (Ev.now _))
theorem szTable_eq (s : Int) (a b : List S71) (m : Int) (ha : a.length ≤ maxLen) (hb : b.length ≤ maxLen) : ∃ z, laws_szTable.f s a b m 1048576 = some z ∧ (¬ z < 0 → a.length ≤ 1048576 ∧ b.length ≤ 1048576) := by
  have e1 : wrap64 ((1048576 : Int) - a.length) = 1048576 - a.length := wrap_id (by unfold maxLen at ha; omega) (by omega)
  unfold laws_szTable.f laws_szSlotS.f
  rw [e1]
  by_cases h1 : (1048576 : Int) - a.length < 0
  · exact ⟨-1, by simp [h1], by omega⟩
  · have e2 : wrap64 ((1048576 : Int) - a.length - b.length) = 1048576 - a.length - b.length := wrap_id (by unfold maxLen at hb; omega) (by omega)
    rw [if_neg h1, Option.bind_some, if_neg h1, e2]
    by_cases h2 : (1048576 : Int) - a.length - b.length < 0
    · exact ⟨-1, by simp [h2], by omega⟩
    · exact ⟨1048576 - a.length - b.length, by simp [h2], fun _ => ⟨by omega, by omega⟩⟩

def uk (l : List S60) : List Int := (l.filter (fun x => x.f0)).map (fun x => x.f1)
theorem uk_nil : uk [] = [] := rfl
theorem uk_cons (x : S60) (t : List S60) : uk (x :: t) = if x.f0 = true then x.f1 :: uk t else uk t := by
  unfold uk
  by_cases h : x.f0 = true
  · rw [if_pos h, List.filter_cons_of_pos h, List.map_cons]
  · rw [if_neg h, List.filter_cons_of_neg h]
theorem uk_len (l : List S60) : (uk l).length ≤ l.length := by
  unfold uk; rw [List.length_map]; exact List.length_filter_le _ _
def pl1 (s k : Int) : Int := Int.tmod (wrap64 (k + s)) 11
def pl2 (s k : Int) : Int := Int.tmod (wrap64 ((wrap64 (Int.tdiv k 11)) + (wrap64 (3 * s)))) 11
/-- is a slot as it has to be at its place -/
def slotB (s : Int) (right : Bool) (i : Int) (x : S60) : Bool :=
  if x.f0 = true then decide (0 ≤ x.f1 ∧ x.f1 ≤ 9999) && decide (0 ≤ x.f2 ∧ x.f2 ≤ 9999) && decide (i = if right = true then pl2 s x.f1 else pl1 s x.f1) else decide (x.f1 = 0) && decide (x.f2 = 0)
def rowB (s : Int) (right : Bool) : Int → List S60 → Bool
  | _, [] => true
  | i, x :: t => slotB s right i x && rowB s right (i + 1) t
theorem seedS_eq (s : Int) : spec_l12Seed.f s = some (decide (0 ≤ s ∧ s ≤ 99)) := by
  simp only [spec_l12Seed.f, l1In_eq, Option.bind_some]
theorem keyS_eq (s : Int) : spec_l12Key.f s = some (decide (0 ≤ s ∧ s ≤ 9999)) := by
  simp only [spec_l12Key.f, l1In_eq, Option.bind_some]
theorem seedI_eq (s : Int) : impl_isSeed.f s = some (decide (0 ≤ s ∧ s ≤ 99)) := by
  simp only [impl_isSeed.f, within_eq, Option.bind_some]
theorem keyI_eq (s : Int) : impl_isKey.f s = some (decide (0 ≤ s ∧ s ≤ 9999)) := by
  simp only [impl_isKey.f, within_eq, Option.bind_some]
theorem rowS_loop (x1 : List S60) (right : Bool) (L : List S60) (s : Int) (A B : List S60) (m : Int) (hL : L.length ≤ 1048576) (rest : List S60) : ∀ (pre : List S60) (n : Nat), L = pre ++ rest → n ≤ pre.length →
    Ev (fun k => spec_l12Row.l0 k x1 right n L L.length (pre.length : Int) s A B m) (if rowB s right pre.length rest = true then (((n + (uk rest).length : Nat) : Int), ((x1.length : Int) == 11)) else (0, false)) := by
  induction rest with
  | nil =>
    intro pre n h hn
    refine Ev.end (fun k => ?_)
    rw [spec_l12Row.l0, if_neg (by rw [h]; simp), if_pos (by rfl)]
    simp [uk]
  | cons x t ih =>
    intro pre n h hn
    have hlen : L.length = pre.length + (t.length + 1) := by rw [h]; simp
    have hx : rd_T60 L (pre.length : Int) = x := rd60 L pre.length x (by rw [h]; simp)
    have hw : wrap64 ((pre.length : Int) + 1) = ((pre.length + 1 : Nat) : Int) := by rw [wrap_id (by omega) (by omega)]; simp
    have hwn : wrap64 ((n : Int) + 1) = ((n + 1 : Nat) : Int) := by rw [wrap_id (by omega) (by omega)]; simp
    have hb : rowB s right pre.length (x :: t) = (slotB s right pre.length x && rowB s right (pre.length + 1) t) := rfl
    rw [hb]
    by_cases c : x.f0 = true
    · have e := ih (pre ++ [x]) (n + 1) (by rw [h]; simp) (by simp; omega)
      simp only [List.length_append, List.length_singleton] at e
      have go : ∀ p : Int, p = (if right = true then pl2 s x.f1 else pl1 s x.f1) → Ev (fun k => spec_l12Row.j1 k x1 right n pre.length p L L.length pre.length s A B m x.f0 x.f1 x.f2) (if (slotB s right pre.length x && rowB s right (pre.length + 1) t) = true then (((n + (uk (x :: t)).length : Nat) : Int), ((x1.length : Int) == 11)) else (0, false)) := by
        intro p hp
        unfold slotB
        rw [if_pos c, ← hp, uk_cons, if_pos c]
        by_cases c1 : 0 ≤ x.f1 ∧ x.f1 ≤ 9999
        · by_cases c2 : 0 ≤ x.f2 ∧ x.f2 ≤ 9999
          · by_cases c3 : (pre.length : Int) = p
            · rw [decide_eq_true c1, decide_eq_true c2, decide_eq_true c3]
              simp only [Bool.true_and]
              have e2 : ((n + (x.f1 :: uk t).length : Nat) : Int) = ((n + 1 + (uk t).length : Nat) : Int) := by simp; omega
              rw [e2]
              refine Ev.step (fun k => ?_) e
              rw [spec_l12Row.j1, keyS_eq, Option.bind_some, if_pos (decide_eq_true c1), l1In_eq, Option.bind_some, if_pos (decide_eq_true c2), if_pos (by first | exact c3 | exact c3.symm), hwn, hw]
            · rw [decide_eq_false c3]
              simp only [Bool.and_false, Bool.false_and, Bool.false_eq_true, if_false]
              refine Ev.end (fun k => ?_)
              rw [spec_l12Row.j1, keyS_eq, Option.bind_some, if_pos (decide_eq_true c1), l1In_eq, Option.bind_some, if_pos (decide_eq_true c2), if_neg (by first | exact c3 | exact fun h => c3 h.symm)]
          · rw [decide_eq_false c2]
            simp only [Bool.and_false, Bool.false_and, Bool.false_eq_true, if_false]
            refine Ev.end (fun k => ?_)
            rw [spec_l12Row.j1, keyS_eq, Option.bind_some, if_pos (decide_eq_true c1), l1In_eq, Option.bind_some, if_neg (by simpa using c2)]
        · rw [decide_eq_false c1]
          simp only [Bool.false_and, Bool.false_eq_true, if_false]
          refine Ev.end (fun k => ?_)
          rw [spec_l12Row.j1, keyS_eq, Option.bind_some, if_neg (by simpa using c1)]
      cases hr : right with
      | false =>
        rw [hr] at go
        refine Ev.step (f := fun k => spec_l12Row.j1 k x1 false n pre.length (pl1 s x.f1) L L.length pre.length s A B m x.f0 x.f1 x.f2) (fun k => ?_) (go _ (by simp))
        rw [spec_l12Row.l0, if_pos (by omega), if_pos (by omega), if_pos (by omega), hx, if_pos c]
        simp only [spec_l12First.f, Option.bind_some, Bool.false_eq_true, if_false, pl1]
      | true =>
        rw [hr] at go
        refine Ev.step (f := fun k => spec_l12Row.j1 k x1 true n pre.length (pl2 s x.f1) L L.length pre.length s A B m x.f0 x.f1 x.f2) (fun k => ?_) (go _ (by simp))
        rw [spec_l12Row.l0, if_pos (by omega), if_pos (by omega), if_pos (by omega), hx, if_pos c]
        simp only [spec_l12First.f, spec_l12Second.f, Option.bind_some, if_true, pl2]
    · have e := ih (pre ++ [x]) n (by rw [h]; simp) (by simp; omega)
      simp only [List.length_append, List.length_singleton] at e
      unfold slotB
      rw [if_neg c, uk_cons, if_neg c]
      by_cases c1 : x.f1 = 0
      · by_cases c2 : x.f2 = 0
        · rw [decide_eq_true c1, decide_eq_true c2]
          simp only [Bool.true_and]
          refine Ev.step (fun k => ?_) e
          rw [spec_l12Row.l0, if_pos (by omega), if_pos (by omega), if_pos (by omega), hx, if_neg c, if_pos c1, if_pos c2, hw]
        · rw [decide_eq_false c2]
          simp only [Bool.and_false, Bool.false_and, Bool.false_eq_true, if_false]
          refine Ev.end (fun k => ?_)
          rw [spec_l12Row.l0, if_pos (by omega), if_pos (by omega), if_pos (by omega), hx, if_neg c, if_pos c1, if_neg c2]
      · rw [decide_eq_false c1]
        simp only [Bool.false_and, Bool.false_eq_true, if_false]
        refine Ev.end (fun k => ?_)
        rw [spec_l12Row.l0, if_pos (by omega), if_pos (by omega), if_pos (by omega), hx, if_neg c, if_neg c1]
theorem rowS_ev (right : Bool) (L : List S60) (s : Int) (A B : List S60) (m : Int) (hL : L.length ≤ 1048576) :
    Ev (fun k => spec_l12Row.f k s A B m L right) (if rowB s right 0 L = true then (((uk L).length : Int), ((L.length : Int) == 11)) else (0, false)) := by
  have e := rowS_loop L right L s A B m hL L [] 0 rfl (by simp)
  simpa [spec_l12Row.f] using e
theorem keysS_l1 (L : List S60) (hL : L.length ≤ 1048576) (rest : List S60) : ∀ (pre : List S60) (acc : List Int), L = pre ++ rest → acc.length + rest.length ≤ 2097152 →
    Ev (fun k => spec_l12Keys.l1 k acc L L.length (pre.length : Int)) (putF (uk rest) acc) := by
  induction rest with
  | nil => intro pre acc h _; exact Ev.end (fun k => by rw [spec_l12Keys.l1, if_neg (by rw [h]; simp)]; rfl)
  | cons x t ih =>
    intro pre acc h ha
    have hlen : L.length = pre.length + (t.length + 1) := by rw [h]; simp
    have hx : rd_T60 L (pre.length : Int) = x := rd60 L pre.length x (by rw [h]; simp)
    have hw : wrap64 ((pre.length : Int) + 1) = ((pre.length + 1 : Nat) : Int) := by rw [wrap_id (by omega) (by omega)]; simp
    simp only [List.length_cons] at ha
    rw [uk_cons]
    by_cases c : x.f0 = true
    · have e := ih (pre ++ [x]) (putL acc x.f1) (by rw [h]; simp) (by have := putL_len acc x.f1; omega)
      simp only [List.length_append, List.length_singleton] at e
      rw [if_pos c]
      refine Ev.step (f := fun k => (spec_l1Put.f k acc x.f1).bind fun y => spec_l12Keys.l1 k y L L.length ((pre.length + 1 : Nat) : Int)) (fun k => ?_) (Ev.bind (l1Put_ev acc x.f1 (by omega)) e)
      rw [spec_l12Keys.l1, if_pos (by omega), if_pos (by omega), if_pos (by omega), hx, if_pos c, hw]
    · have e := ih (pre ++ [x]) acc (by rw [h]; simp) (by omega)
      simp only [List.length_append, List.length_singleton] at e
      rw [if_neg c]
      exact Ev.step (fun k => by rw [spec_l12Keys.l1, if_pos (by omega), if_pos (by omega), if_pos (by omega), hx, if_neg c, hw]) e
theorem keysS_l0 (s : Int) (A R : List S60) (m : Int) (L : List S60) (hL : L.length ≤ 1048576) (hR : R.length ≤ 1048576) (rest : List S60) : ∀ (pre : List S60) (acc : List Int), L = pre ++ rest → acc.length + rest.length ≤ 1048576 →
    Ev (fun k => spec_l12Keys.l0 k acc L L.length (pre.length : Int) s A R m) (putF (uk R) (putF (uk rest) acc)) := by
  induction rest with
  | nil =>
    intro pre acc h ha
    have e := keysS_l1 R hR R [] acc rfl (by simp at ha; omega)
    exact Ev.step (fun k => by rw [spec_l12Keys.l0, if_neg (by rw [h]; simp)]; rfl) e
  | cons x t ih =>
    intro pre acc h ha
    have hlen : L.length = pre.length + (t.length + 1) := by rw [h]; simp
    have hx : rd_T60 L (pre.length : Int) = x := rd60 L pre.length x (by rw [h]; simp)
    have hw : wrap64 ((pre.length : Int) + 1) = ((pre.length + 1 : Nat) : Int) := by rw [wrap_id (by omega) (by omega)]; simp
    simp only [List.length_cons] at ha
    rw [uk_cons]
    by_cases c : x.f0 = true
    · have e := ih (pre ++ [x]) (putL acc x.f1) (by rw [h]; simp) (by have := putL_len acc x.f1; omega)
      simp only [List.length_append, List.length_singleton] at e
      rw [if_pos c]
      refine Ev.step (f := fun k => (spec_l1Put.f k acc x.f1).bind fun y => spec_l12Keys.l0 k y L L.length ((pre.length + 1 : Nat) : Int) s A R m) (fun k => ?_) (Ev.bind (l1Put_ev acc x.f1 (by omega)) e)
      rw [spec_l12Keys.l0, if_pos (by omega), if_pos (by omega), if_pos (by omega), hx, if_pos c, hw]
    · have e := ih (pre ++ [x]) acc (by rw [h]; simp) (by omega)
      simp only [List.length_append, List.length_singleton] at e
      rw [if_neg c]
      exact Ev.step (fun k => by rw [spec_l12Keys.l0, if_pos (by omega), if_pos (by omega), if_pos (by omega), hx, if_neg c, hw]) e
theorem keysS_ev (s : Int) (L R : List S60) (m : Int) (hL : L.length ≤ 1048576) (hR : R.length ≤ 1048576) : Ev (fun k => spec_l12Keys.f k s L R m) (putF (uk R) (putF (uk L) [])) := by
  have e := keysS_l0 s L R m L hL hR L [] [] rfl (by simpa using hL)
  simpa [spec_l12Keys.f] using e
/-- a good table -/
def goodT (s : Int) (L R : List S60) (m : Int) : Bool :=
  decide (0 ≤ s ∧ s ≤ 99) && (decide (L.length = 11) && (decide (R.length = 11) && (rowB s false 0 L && (rowB s true 0 R && (decide (m = ((uk L).length + (uk R).length : Nat)) && decide (((putF (uk R) (putF (uk L) [])).length : Int) = m))))))
theorem goodTable_spec (s : Int) (L R : List S60) (m : Int) (hL : L.length ≤ 1048576) (hR : R.length ≤ 1048576) : Ev (fun k => spec_GoodTable.f k s L R m) (goodT s L R m) := by
  unfold spec_GoodTable.f goodT
  refine Ev.cbind (seedS_eq s) ?_
  by_cases h0 : 0 ≤ s ∧ s ≤ 99
  case neg => rw [decide_eq_false h0]; exact Ev.neg (by simp) (by simpa using Ev.now false)
  rw [decide_eq_true h0, Bool.true_and]
  refine Ev.pos rfl (Ev.bind (rowS_ev false L s L R m hL) (Ev.bind (rowS_ev true R s L R m hR) ?_))
  by_cases h1 : rowB s false 0 L = true
  case neg =>
    have h1' : rowB s false 0 L = false := by simpa using h1
    simp only [h1', Bool.false_and, Bool.and_false, Bool.false_eq_true, if_false]
    exact Ev.now _
  by_cases h2 : rowB s true 0 R = true
  case neg =>
    have h2' : rowB s true 0 R = false := by simpa using h2
    simp only [h1, h2', Bool.false_and, Bool.and_false, Bool.false_eq_true, if_false, if_true]
    by_cases q : ((L.length : Int) == 11) = true
    · exact Ev.pos q (Ev.now _)
    · exact Ev.neg q (Ev.now _)
  simp only [h1, h2, Bool.true_and, if_true]
  by_cases q1 : L.length = 11
  case neg =>
    rw [decide_eq_false q1, Bool.false_and]
    exact Ev.neg (by simp; omega) (Ev.now _)
  by_cases q2 : R.length = 11
  case neg =>
    rw [decide_eq_false q2, Bool.false_and, Bool.and_false]
    exact Ev.pos (by simp; omega) (Ev.neg (by simp; omega) (Ev.now _))
  rw [decide_eq_true q1, decide_eq_true q2, Bool.true_and, Bool.true_and]
  have u1 := uk_len L
  have u2 := uk_len R
  have hw : wrap64 (((uk L).length : Int) + ((uk R).length : Int)) = ((uk L).length + (uk R).length : Nat) := by rw [wrap_id (by omega) (by omega)]; simp
  refine Ev.pos (by simp; omega) (Ev.pos (by simp; omega) ?_)
  rw [hw]
  by_cases q3 : m = ((uk L).length + (uk R).length : Nat)
  case neg =>
    rw [decide_eq_false q3, Bool.false_and]
    exact Ev.neg (fun h => q3 h.symm) (Ev.now _)
  rw [decide_eq_true q3, Bool.true_and]
  refine Ev.pos q3.symm (Ev.bind (keysS_ev s L R m hL hR) ?_)
  have e : (((putF (uk R) (putF (uk L) [])).length : Int) == m) = decide (((putF (uk R) (putF (uk L) [])).length : Int) = m) := by
    by_cases z : ((putF (uk R) (putF (uk L) [])).length : Int) = m <;> simp [z]
  rw [e]
  exact Ev.now _
/-- the keys of two rows, place by place -/
def inter : List S60 → List S60 → List Int
  | a :: t, b :: u => uk [a, b] ++ inter t u
  | _, _ => []
theorem inter_perm : ∀ (L R : List S60), L.length = R.length → (inter L R).Perm (uk L ++ uk R) := by
  intro L
  induction L with
  | nil => intro R h; cases R with
    | nil => exact List.Perm.refl _
    | cons b u => simp at h
  | cons a t ih =>
    intro R h
    cases R with
    | nil => simp at h
    | cons b u =>
      have p := ih u (by simpa using h)
      have e1 : uk (a :: t) = uk [a] ++ uk t := by rw [uk_cons, uk_cons, uk_nil]; by_cases c : a.f0 = true <;> simp [c]
      have e2 : uk (b :: u) = uk [b] ++ uk u := by rw [uk_cons, uk_cons, uk_nil]; by_cases c : b.f0 = true <;> simp [c]
      have e3 : uk [a, b] = uk [a] ++ uk [b] := by rw [uk_cons, uk_cons, uk_cons, uk_nil]; by_cases c : a.f0 = true <;> simp [c]
      show (uk [a, b] ++ inter t u).Perm _
      rw [e1, e2, e3, List.append_assoc, List.append_assoc]
      refine List.Perm.append_left _ ?_
      refine (p.append_left (uk [b])).trans ?_
      rw [← List.append_assoc, ← List.append_assoc]
      exact List.Perm.append_right _ List.perm_append_comm
theorem uk_two (a b : S60) : (uk [a, b]).length ≤ 2 := uk_len [a, b]
theorem keysI_l1 (s : Int) (L R : List S60) (m : Int) (i : Int) (a b : S60) (acc r : List Int) (ha : acc.length ≤ 100000)
    (h : Ev (fun k => impl_keysIn.l0 k (acc ++ uk [a, b]) (wrap64 (i + 1)) s L R m) r) : Ev (fun k => impl_keysIn.l1 k acc i [a, b] 2 0 s L R m) r := by
  have w1 : wrap64 ((0 : Int) + 1) = 1 := wrap_id (by omega) (by omega)
  have w2 : wrap64 ((1 : Int) + 1) = 2 := wrap_id (by omega) (by omega)
  have r0 : rd_T60 [a, b] 0 = a := rfl
  have r1 : rd_T60 [a, b] 1 = b := rfl
  have e3 : uk [a, b] = uk [a] ++ uk [b] := by rw [uk_cons, uk_cons, uk_cons, uk_nil]; by_cases c : a.f0 = true <;> simp [c]
  have s2 : ∀ acc2 : List Int, acc2.length ≤ 100001 → Ev (fun k => impl_keysIn.l0 k (acc2 ++ uk [b]) (wrap64 (i + 1)) s L R m) r → Ev (fun k => impl_keysIn.l1 k acc2 i [a, b] 2 1 s L R m) r := by
    intro acc2 h2 e
    have s3 : ∀ acc3 : List Int, Ev (fun k => impl_keysIn.l0 k acc3 (wrap64 (i + 1)) s L R m) r → Ev (fun k => impl_keysIn.l1 k acc3 i [a, b] 2 2 s L R m) r :=
      fun acc3 e => Ev.step (fun k => by rw [impl_keysIn.l1, if_neg (by omega)]) e
    rw [uk_cons, uk_nil] at e
    by_cases c : b.f0 = true
    · rw [if_pos c] at e
      exact Ev.step (fun k => by rw [impl_keysIn.l1, if_pos (by omega), if_pos (by omega), if_pos (by simp), r1, if_pos c, if_pos (by omega), w2]) (s3 _ e)
    · rw [if_neg c, List.append_nil] at e
      exact Ev.step (fun k => by rw [impl_keysIn.l1, if_pos (by omega), if_pos (by omega), if_pos (by simp), r1, if_neg c, w2]) (s3 _ e)
  rw [e3, ← List.append_assoc, uk_cons, uk_nil] at h
  by_cases c : a.f0 = true
  · rw [if_pos c] at h
    exact Ev.step (fun k => by rw [impl_keysIn.l1, if_pos (by omega), if_pos (by omega), if_pos (by simp), r0, if_pos c, if_pos (by omega), w1]) (s2 _ (by simp; omega) h)
  · rw [if_neg c, List.append_nil] at h
    exact Ev.step (fun k => by rw [impl_keysIn.l1, if_pos (by omega), if_pos (by omega), if_pos (by simp), r0, if_neg c, w1]) (s2 _ (by omega) h)
theorem keysI_l0 (s : Int) (L R : List S60) (m : Int) (hL : L.length = 11) (hR : R.length = 11) (rest : List S60) : ∀ (rest2 pre pre2 : List S60) (acc : List Int), L = pre ++ rest → R = pre2 ++ rest2 → pre.length = pre2.length → acc.length ≤ 2 * pre.length →
    Ev (fun k => impl_keysIn.l0 k acc (pre.length : Int) s L R m) ((acc ++ inter rest rest2).mergeSort fun x y => decide (x ≤ y)) := by
  induction rest with
  | nil =>
    intro rest2 pre pre2 acc h1 h2 hp ha
    have hlen : pre.length = 11 := by rw [h1] at hL; simpa using hL
    refine Ev.end (fun k => ?_)
    rw [impl_keysIn.l0, if_neg (by omega)]
    simp only [slices_Sort_int_int.f, inter, List.append_nil]
    rw [if_pos (by omega)]
    rfl
  | cons a t ih =>
    intro rest2 pre pre2 acc h1 h2 hp ha
    have hl1 : L.length = pre.length + (t.length + 1) := by rw [h1]; simp
    have hl2 : R.length = pre2.length + rest2.length := by rw [h2]; simp
    cases rest2 with
    | nil => simp at hl2; omega
    | cons b u =>
      have hx : rd_T60 L (pre.length : Int) = a := rd60 L pre.length a (by rw [h1]; simp)
      have hy : rd_T60 R (pre.length : Int) = b := rd60 R pre.length b (by rw [h2, hp]; simp)
      have hw : wrap64 ((pre.length : Int) + 1) = ((pre.length + 1 : Nat) : Int) := by rw [wrap_id (by omega) (by omega)]; simp
      have u2 := uk_two a b
      have e := ih u (pre ++ [a]) (pre2 ++ [b]) (acc ++ uk [a, b]) (by rw [h1]; simp) (by rw [h2]; simp) (by simp [hp]) (by simp; omega)
      simp only [List.length_append, List.length_singleton, List.append_assoc] at e
      have e2 := keysI_l1 s L R m pre.length a b acc _ (by omega) (by rw [hw]; exact e)
      refine Ev.step (fun k => ?_) e2
      rw [impl_keysIn.l0, if_pos (by omega), if_pos (by omega), if_pos (by omega), if_pos (by omega), hx, hy]
      rfl
theorem keysI_ev (s : Int) (L R : List S60) (m : Int) (hL : L.length = 11) (hR : R.length = 11) : Ev (fun k => impl_keysIn.f k s L R m) ((inter L R).mergeSort fun x y => decide (x ≤ y)) := by
  have e := keysI_l0 s L R m hL hR L R [] [] [] rfl rfl rfl (by simp)
  simpa [impl_keysIn.f] using e
theorem goodI_l1 (s : Int) (L R : List S60) (m : Int) (i : Int) (a b : S60) (q : Int) (x : S60) (right : Bool) (q0 : 0 ≤ q) (q1 : q < 2) (hx : rd_T60 [a, b] q = x) (hr : (rd [pl1 s x.f1, pl2 s x.f1] q) = if right = true then pl2 s x.f1 else pl1 s x.f1) (r : Bool)
    (h : Ev (fun k => impl_GoodTable.l1 k i i [a, b] 2 (wrap64 (q + 1)) s L R m) r) : Ev (fun k => impl_GoodTable.l1 k i i [a, b] 2 q s L R m) (slotB s right i x && r) := by
  unfold slotB
  by_cases c : x.f0 = true
  · rw [if_pos c]
    have bad : Ev (fun k => impl_GoodTable.j3 k i q i [a, b] 2 q true s L R m x.f0 x.f1 x.f2) false := Ev.end (fun k => by rw [impl_GoodTable.j3, if_pos rfl])
    by_cases c1 : 0 ≤ x.f1 ∧ x.f1 ≤ 9999
    · by_cases c2 : 0 ≤ x.f2 ∧ x.f2 ≤ 9999
      · rw [decide_eq_true c1, decide_eq_true c2]
        simp only [Bool.true_and]
        refine Ev.step (f := fun k => impl_GoodTable.j3 k i q i [a, b] 2 q false s L R m x.f0 x.f1 x.f2) (fun k => ?_) ?_
        · rw [impl_GoodTable.l1, if_pos q1, if_pos q0, if_pos (by simpa using q1), hx, if_pos c, keyI_eq, Option.bind_some, if_pos (decide_eq_true c1), within_eq, Option.bind_some, decide_eq_true c2]
          rfl
        · by_cases c3 : i = if right = true then pl2 s x.f1 else pl1 s x.f1
          · rw [decide_eq_true c3, Bool.true_and]
            refine Ev.step (fun k => ?_) h
            rw [impl_GoodTable.j3, if_neg (by simp)]
            simp only [impl_placesOf.f, Option.bind_some]
            rw [if_pos q0, if_pos (by simpa using q1)]
            exact if_pos (c3.trans hr.symm)
          · rw [decide_eq_false c3, Bool.false_and]
            refine Ev.end (fun k => ?_)
            rw [impl_GoodTable.j3, if_neg (by simp)]
            simp only [impl_placesOf.f, Option.bind_some]
            rw [if_pos q0, if_pos (by simpa using q1)]
            exact if_neg (fun h => c3 (h.trans hr))
      · rw [decide_eq_false c2]
        simp only [Bool.and_false, Bool.false_and]
        refine Ev.step (fun k => ?_) bad
        rw [impl_GoodTable.l1, if_pos q1, if_pos q0, if_pos (by simpa using q1), hx, if_pos c, keyI_eq, Option.bind_some, if_pos (decide_eq_true c1), within_eq, Option.bind_some, decide_eq_false c2]
        rfl
    · rw [decide_eq_false c1]
      simp only [Bool.false_and]
      refine Ev.step (fun k => ?_) bad
      rw [impl_GoodTable.l1, if_pos q1, if_pos q0, if_pos (by simpa using q1), hx, if_pos c, keyI_eq, Option.bind_some, if_neg (by simpa using c1)]
  · rw [if_neg c]
    have cf : x.f0 = false := by simpa using c
    by_cases c1 : x.f1 = 0
    · by_cases c2 : x.f2 = 0
      · rw [decide_eq_true c1, decide_eq_true c2]
        simp only [Bool.true_and]
        refine Ev.step (fun k => ?_) h
        rw [impl_GoodTable.l1, if_pos q1, if_pos q0, if_pos (by simpa using q1), hx, if_neg c, if_neg (by simp [cf, c1, c2])]
      · rw [decide_eq_false c2]
        simp only [Bool.and_false, Bool.false_and]
        refine Ev.end (fun k => ?_)
        rw [impl_GoodTable.l1, if_pos q1, if_pos q0, if_pos (by simpa using q1), hx, if_neg c, if_pos (by simp [cf, c1, c2])]
    · rw [decide_eq_false c1]
      simp only [Bool.false_and]
      refine Ev.end (fun k => ?_)
      rw [impl_GoodTable.l1, if_pos q1, if_pos q0, if_pos (by simpa using q1), hx, if_neg c, if_pos (by simp [cf, c1])]
theorem goodI_l0 (s : Int) (L R : List S60) (m : Int) (hL : L.length = 11) (hR : R.length = 11) (c : Bool) (hk : Ev (fun k => (impl_keysIn.f k s L R m).bind fun t217 => if m = (t217.length : Int) then ((slices_Compact_int_int.f t217).bind fun t220 => some ((t220.length : Int) == m)) else some false) c) (rest : List S60) :
    ∀ (rest2 pre pre2 : List S60), L = pre ++ rest → R = pre2 ++ rest2 → pre.length = pre2.length → Ev (fun k => impl_GoodTable.l0 k (pre.length : Int) s L R m) (rowB s false pre.length rest && (rowB s true pre.length rest2 && c)) := by
  induction rest with
  | nil =>
    intro rest2 pre pre2 h1 h2 hp
    have hlen : pre.length = 11 := by rw [h1] at hL; simpa using hL
    have hl2 : R.length = pre2.length + rest2.length := by rw [h2]; simp
    have : rest2 = [] := List.eq_nil_of_length_eq_zero (by omega)
    subst this
    simp only [rowB, Bool.true_and]
    exact Ev.step (fun k => by rw [impl_GoodTable.l0, if_neg (by omega)]) hk
  | cons a t ih =>
    intro rest2 pre pre2 h1 h2 hp
    have hl1 : L.length = pre.length + (t.length + 1) := by rw [h1]; simp
    have hl2 : R.length = pre2.length + rest2.length := by rw [h2]; simp
    cases rest2 with
    | nil => simp at hl2; omega
    | cons b u =>
      have hx : rd_T60 L (pre.length : Int) = a := rd60 L pre.length a (by rw [h1]; simp)
      have hy : rd_T60 R (pre.length : Int) = b := rd60 R pre.length b (by rw [h2, hp]; simp)
      have hw : wrap64 ((pre.length : Int) + 1) = ((pre.length + 1 : Nat) : Int) := by rw [wrap_id (by omega) (by omega)]; simp
      have w1 : wrap64 ((0 : Int) + 1) = 1 := wrap_id (by omega) (by omega)
      have w2 : wrap64 ((1 : Int) + 1) = 2 := wrap_id (by omega) (by omega)
      have e := ih u (pre ++ [a]) (pre2 ++ [b]) (by rw [h1]; simp) (by rw [h2]; simp) (by simp [hp])
      simp only [List.length_append, List.length_singleton] at e
      have e3 : Ev (fun k => impl_GoodTable.l1 k pre.length pre.length [a, b] 2 2 s L R m) (rowB s false (pre.length + 1 : Nat) t && (rowB s true (pre.length + 1 : Nat) u && c)) :=
        Ev.step (fun k => by rw [impl_GoodTable.l1, if_neg (by omega), hw]) e
      have e2 := goodI_l1 s L R m pre.length a b 1 b true (by omega) (by omega) rfl rfl _ (by rw [w2]; exact e3)
      have e1 := goodI_l1 s L R m pre.length a b 0 a false (by omega) (by omega) rfl rfl _ (by rw [w1]; exact e2)
      have eb : (rowB s false pre.length (a :: t) && (rowB s true pre.length (b :: u) && c)) = (slotB s false pre.length a && (slotB s true pre.length b && (rowB s false (pre.length + 1 : Nat) t && (rowB s true (pre.length + 1 : Nat) u && c)))) := by
        simp only [rowB]
        push_cast
        cases slotB s false pre.length a <;> cases slotB s true pre.length b <;> simp
      rw [eb]
      refine Ev.step (fun k => ?_) e1
      rw [impl_GoodTable.l0, if_pos (by omega), if_pos (by omega), if_pos (by omega), if_pos (by omega), hx, hy]
      rfl
theorem putF_app (K K2 acc : List Int) : putF (K ++ K2) acc = putF K2 (putF K acc) := by unfold putF; rw [List.foldl_append]
theorem goodTable_impl (s : Int) (L R : List S60) (m : Int) (hL : L.length ≤ 1048576) (hR : R.length ≤ 1048576) : Ev (fun k => impl_GoodTable.f k s L R m) (goodT s L R m) := by
  unfold impl_GoodTable.f goodT
  refine Ev.cbind (seedI_eq s) ?_
  have bad : Ev (fun k => impl_GoodTable.j0 k true s L R m) false := Ev.end (fun k => by rw [impl_GoodTable.j0, if_pos rfl])
  by_cases h0 : 0 ≤ s ∧ s ≤ 99
  case neg => rw [decide_eq_false h0]; exact Ev.neg (by simp) (by simpa using bad)
  rw [decide_eq_true h0, Bool.true_and]
  refine Ev.pos rfl ?_
  by_cases q1 : L.length = 11
  case neg => rw [decide_eq_false q1, Bool.false_and]; exact Ev.neg (by omega) bad
  refine Ev.pos (by omega) ?_
  rw [decide_eq_true q1, Bool.true_and]
  by_cases q2 : R.length = 11
  case neg =>
    rw [decide_eq_false q2, Bool.false_and]
    have : ((R.length : Int) != 11) = true := by simp; omega
    rw [this]; exact bad
  have : ((R.length : Int) != 11) = false := by simp; omega
  rw [this, decide_eq_true q2, Bool.true_and]
  have hp := inter_perm L R (by omega)
  have hk : Ev (fun k => (impl_keysIn.f k s L R m).bind fun t217 => if m = (t217.length : Int) then ((slices_Compact_int_int.f t217).bind fun t220 => some ((t220.length : Int) == m)) else some false) (decide (m = ((uk L).length + (uk R).length : Nat)) && decide (((putF (uk R) (putF (uk L) [])).length : Int) = m)) := by
    refine Ev.bind (keysI_ev s L R m q1 q2) ?_
    have el : ((inter L R).mergeSort fun x y => decide (x ≤ y)).length = (uk L).length + (uk R).length := by rw [List.length_mergeSort, hp.length_eq, List.length_append]
    have ec := compact_eq_putF (inter L R) (uk L ++ uk R) hp
    rw [putF_app] at ec
    rw [el]
    by_cases q3 : m = ((uk L).length + (uk R).length : Nat)
    case neg => rw [decide_eq_false q3, Bool.false_and]; exact Ev.neg q3 (Ev.now _)
    rw [decide_eq_true q3, Bool.true_and]
    refine Ev.pos q3 ?_
    unfold slices_Compact_int_int.f
    rw [ec]
    refine Ev.cbind rfl ?_
    have e : (((putF (uk R) (putF (uk L) [])).length : Int) == m) = decide (((putF (uk R) (putF (uk L) [])).length : Int) = m) := by
      by_cases z : ((putF (uk R) (putF (uk L) [])).length : Int) = m <;> simp [z]
    rw [e]
    exact Ev.now _
  have e := goodI_l0 s L R m q1 q2 _ hk L R [] [] rfl rfl rfl
  exact Ev.step (fun k => by rw [impl_GoodTable.j0, if_neg (by simp)]; rfl) e

theorem goodT_has {s : Int} {L R : List S60} {m : Int} (h : goodT s L R m = true) : (0 ≤ s ∧ s ≤ 99) ∧ L.length = 11 ∧ R.length = 11 ∧ rowB s false 0 L = true ∧ rowB s true 0 R = true ∧ m = ((uk L).length + (uk R).length : Nat) ∧ ((putF (uk R) (putF (uk L) [])).length : Int) = m := by
  simp only [goodT, Bool.and_eq_true, decide_eq_true_eq] at h
  exact h

theorem pl_range {s key : Int} (hs : 0 ≤ s ∧ s ≤ 99) (hk : 0 ≤ key ∧ key ≤ 9999) : (0 ≤ pl1 s key ∧ pl1 s key < 11) ∧ (0 ≤ pl2 s key ∧ pl2 s key < 11) := by
  unfold pl1 pl2
  rw [wrap_id (x := key + s) (by omega) (by omega)]
  have e1 : Int.tdiv key 11 = key / 11 := Int.tdiv_eq_ediv_of_nonneg hk.1
  rw [e1, wrap_id (x := key / 11) (by omega) (by omega), wrap_id (x := 3 * s) (by omega) (by omega), wrap_id (x := key / 11 + 3 * s) (by omega) (by omega)]
  rw [Int.tmod_eq_emod_of_nonneg (by omega), Int.tmod_eq_emod_of_nonneg (by omega)]
  omega
theorem atS_ev (s : Int) (L R : List S60) (m key : Int) (a0 : 0 ≤ pl1 s key) (a1 : pl1 s key < L.length) (b0 : 0 ≤ pl2 s key) (b1 : pl2 s key < R.length) :
    Ev (fun k => spec_l12At.f k s L R m key) (if impl_Table_find.hit (rd_T60 L (pl1 s key)) key = true then (pl1 s key, false, true) else if impl_Table_find.hit (rd_T60 R (pl2 s key)) key = true then (pl2 s key, true, true) else (0, false, false)) := by
  have tail : impl_Table_find.hit (rd_T60 L (pl1 s key)) key ≠ true → Ev (fun k => spec_l12At.j0 k key (pl1 s key) false s L R m) (if impl_Table_find.hit (rd_T60 L (pl1 s key)) key = true then (pl1 s key, false, true) else if impl_Table_find.hit (rd_T60 R (pl2 s key)) key = true then (pl2 s key, true, true) else (0, false, false)) := by
    intro hn
    rw [if_neg hn]
    refine Ev.end (fun k => ?_)
    rw [spec_l12At.j0, if_neg (by simp)]
    have e : spec_l12Second.f s key = some (pl2 s key) := rfl
    rw [e, Option.bind_some, if_pos b0, if_pos b1]
    unfold impl_Table_find.hit
    cases hu : (rd_T60 R (pl2 s key)).f0 with
    | false => simp
    | true =>
      by_cases hk : (rd_T60 R (pl2 s key)).f1 = key
      · simp [hk]
      · simp [hk]
  unfold spec_l12At.f
  have e : spec_l12First.f s key = some (pl1 s key) := rfl
  refine Ev.cbind e (Ev.pos a0 (Ev.pos a1 ?_))
  cases hu : (rd_T60 L (pl1 s key)).f0 with
  | false =>
    exact Ev.neg (by simp) (tail (by unfold impl_Table_find.hit; rw [hu]; simp))
  | true =>
    refine Ev.pos rfl ?_
    by_cases hk : (rd_T60 L (pl1 s key)).f1 = key
    · have h1 : ((rd_T60 L (pl1 s key)).f1 == key) = true := by simpa using hk
      rw [h1]
      rw [if_pos (by unfold impl_Table_find.hit; rw [hu, h1]; rfl)]
      exact Ev.end (fun k => by rw [spec_l12At.j0, if_pos rfl])
    · have h1 : ((rd_T60 L (pl1 s key)).f1 == key) = false := by simpa using hk
      rw [h1]
      exact tail (by unfold impl_Table_find.hit; rw [hu, h1]; simp)

theorem ownS_eq (s : Int) (L R : List S60) (m : Int) (hL : L.length ≤ 1048576) (hR : R.length ≤ 1048576) : spec_l12Own.f s L R m = some (s, L, R, m) := by
  unfold spec_l12Own.f
  simp only [Option.bind_some, List.length_nil, List.nil_append, Nat.zero_add]
  rw [if_pos (by omega), if_pos (by omega)]
theorem ownI_eq (s : Int) (L R : List S60) (m : Int) (hL : L.length ≤ 1048576) (hR : R.length ≤ 1048576) (l0 : 0 < L.length) (r0 : 0 < R.length) : impl_ownTable.f s L R m = some (s, L, R, m) := by
  unfold impl_ownTable.f impl_Slot.f
  rw [if_pos l0, if_pos (by omega), Option.bind_some, if_pos r0, if_pos (by omega), Option.bind_some]
theorem op_eq (s : Int) (L R : List S60) (m key : Int) (hL : L.length ≤ 1048576) (hR : R.length ≤ 1048576) : ∃ (s' : Int) (L' R' : List S60) (m' : Int) (b : Bool), L'.length ≤ 1048576 ∧ R'.length ≤ 1048576 ∧ Ev (fun k => spec_DropKey.f k s L R m key) (s', L', R', m', b) ∧ Ev (fun k => impl_DropKey.f k s L R m key) (s', L', R', m', b) := by
  unfold spec_DropKey.f impl_DropKey.f
  have e1 := goodTable_spec s L R m hL hR
  have e2 := goodTable_impl s L R m hL hR
  have bad : Ev (fun k => spec_DropKey.j0 k key true s L R m) (0, [], [], 0, false) := Ev.end (fun k => by rw [spec_DropKey.j0, if_pos rfl])
  cases g : goodT s L R m with
  | false =>
    rw [g] at e1 e2
    exact ⟨0, [], [], 0, false, by simp, by simp, Ev.bind e1 (Ev.neg (by simp) bad), Ev.bind e2 (Ev.neg (by simp) (Ev.now _))⟩
  | true =>
    rw [g] at e1 e2
    by_cases hk : 0 ≤ key ∧ key ≤ 9999
    · obtain ⟨hs, h1, h2, _⟩ := goodT_has g
      obtain ⟨⟨a0, a1⟩, b0, b1⟩ := pl_range hs hk
      have a1' : pl1 s key < (L.length : Int) := by omega
      have b1' : pl2 s key < (R.length : Int) := by omega
      have es := atS_ev s L R m key a0 a1' b0 b1'
      have ep : impl_placesOf.f s key = some (pl1 s key, pl2 s key) := rfl
      have oS := ownS_eq s L R m hL hR
      have oI := ownI_eq s L R m hL hR (by omega) (by omega)
      have kS : spec_l12Key.f key = some true := by rw [keyS_eq, decide_eq_true hk]
      have kI : impl_isKey.f key = some true := by rw [keyI_eq, decide_eq_true hk]
      have step : ∀ (r : Int × List S60 × List S60 × Int × Bool) (q : Int × List S60 × List S60 × Int × Bool), Ev (fun k => spec_l12Drop.f k s L R m key) q → r = (if q.2.2.2.2 = true then (q.1, q.2.1, q.2.2.1, q.2.2.2.1, true) else (0, [], [], 0, false)) → Ev (fun k => spec_DropKey.j0 k key false s L R m) r := by
        intro r q h hr
        subst hr
        refine Ev.step (f := fun k => (spec_l12Own.f s L R m).bind fun bt244 => ((spec_l12Drop.f k bt244.1 bt244.2.1 bt244.2.2.1 bt244.2.2.2 key).bind fun bt252 => (if bt252.2.2.2.2 = true then (some (bt252.1, bt252.2.1, bt252.2.2.1, bt252.2.2.2.1, true)) else (some (0, ([] : List (S60)), ([] : List (S60)), 0, false))))) (fun k => by rw [spec_DropKey.j0, if_neg (by simp)]) (Ev.cbind oS (Ev.bind h ?_))
        by_cases c : q.2.2.2.2 = true
        · simp only [if_pos c]; exact Ev.now _
        · simp only [if_neg c]; exact Ev.now _
      have iD : ∀ r, impl_drop.f s L R m key = some r → Ev (fun k => (impl_isKey.f key).bind fun t313 => (if t313 = true then ((impl_drop.f s L R m key).bind fun bt314 => (some (bt314.1, bt314.2.1, bt314.2.2.1, bt314.2.2.2.1, bt314.2.2.2.2))) else (some (0, ([] : List (S60)), ([] : List (S60)), 0, false)))) r :=
        fun r h => Ev.cbind kI (Ev.pos rfl (Ev.cbind h (Ev.now _)))
      by_cases c1 : impl_Table_find.hit (rd_T60 L (pl1 s key)) key = true
      · rw [if_pos c1] at es
        have hd : impl_drop.f s L R m key = some (s, L.set (pl1 s key).toNat ⟨false, 0, 0⟩, R, wrap64 (m - 1), true) := by
          unfold impl_drop.f impl_drop_L.f
          rw [oI, Option.bind_some, ep, Option.bind_some]
          simp only
          rw [if_pos a0, if_pos a1', if_pos b0, if_pos b1', if_pos c1]
        have hS : Ev (fun k => spec_l12Drop.f k s L R m key) (s, L.set (pl1 s key).toNat ⟨false, 0, 0⟩, R, wrap64 (m - 1), true) := by
          unfold spec_l12Drop.f
          exact Ev.bind es (Ev.pos rfl (Ev.neg (by simp) (Ev.pos a0 (Ev.pos a1' (Ev.now _)))))
        exact ⟨s, _, R, wrap64 (m - 1), true, by rw [List.length_set]; exact hL, hR, Ev.bind e1 (Ev.pos rfl (Ev.cbind kS (step _ _ hS rfl))), Ev.bind e2 (Ev.pos rfl (iD _ hd))⟩
      rw [if_neg c1] at es
      by_cases c2 : impl_Table_find.hit (rd_T60 R (pl2 s key)) key = true
      · rw [if_pos c2] at es
        have hd : impl_drop.f s L R m key = some (s, L, R.set (pl2 s key).toNat ⟨false, 0, 0⟩, wrap64 (m - 1), true) := by
          have hL0 : impl_drop_L.f 0 s L R m key = none := by
            unfold impl_drop_L.f
            rw [oI, Option.bind_some, ep, Option.bind_some]
            simp only
            rw [if_pos a0, if_pos a1', if_pos b0, if_pos b1', if_neg c1]
          have hR0 : impl_drop_R.f 0 s L R m key = some (s, L, R.set (pl2 s key).toNat ⟨false, 0, 0⟩, wrap64 (m - 1), true) := by
            unfold impl_drop_R.f
            rw [oI, Option.bind_some, ep, Option.bind_some]
            simp only
            rw [if_pos a0, if_pos a1', if_pos b0, if_pos b1', if_pos c1, if_pos c2]
          unfold impl_drop.f
          rw [hL0]
          simp only
          rw [hR0]
        have hS : Ev (fun k => spec_l12Drop.f k s L R m key) (s, L, R.set (pl2 s key).toNat ⟨false, 0, 0⟩, wrap64 (m - 1), true) := by
          unfold spec_l12Drop.f
          exact Ev.bind es (Ev.pos rfl (Ev.pos rfl (Ev.pos b0 (Ev.pos b1' (Ev.now _)))))
        exact ⟨s, L, _, wrap64 (m - 1), true, hL, by rw [List.length_set]; exact hR, Ev.bind e1 (Ev.pos rfl (Ev.cbind kS (step _ _ hS rfl))), Ev.bind e2 (Ev.pos rfl (iD _ hd))⟩
      rw [if_neg c2] at es
      have hd : impl_drop.f s L R m key = some (0, [], [], 0, false) := by
        have hL0 : impl_drop_L.f 0 s L R m key = none := by
          unfold impl_drop_L.f
          rw [oI, Option.bind_some, ep, Option.bind_some]
          simp only
          rw [if_pos a0, if_pos a1', if_pos b0, if_pos b1', if_neg c1]
        have hR0 : impl_drop_R.f 0 s L R m key = none := by
          unfold impl_drop_R.f
          rw [oI, Option.bind_some, ep, Option.bind_some]
          simp only
          rw [if_pos a0, if_pos a1', if_pos b0, if_pos b1', if_pos c1, if_neg c2]
        unfold impl_drop.f
        rw [hL0]
        simp only
        rw [hR0]
        simp only
        unfold impl_drop_N.f
        rw [oI, Option.bind_some, ep, Option.bind_some]
        simp only
        rw [if_pos a0, if_pos a1', if_pos b0, if_pos b1', if_pos c1, if_pos c2]
      have hS : Ev (fun k => spec_l12Drop.f k s L R m key) (s, L, R, m, false) := by
        unfold spec_l12Drop.f
        exact Ev.bind es (Ev.neg (by simp) (Ev.now _))
      exact ⟨0, [], [], 0, false, by simp, by simp, Ev.bind e1 (Ev.pos rfl (Ev.cbind kS (step _ _ hS (by simp)))), Ev.bind e2 (Ev.pos rfl (iD _ hd))⟩
    · have kS : spec_l12Key.f key = some false := by rw [keyS_eq, decide_eq_false hk]
      have kI : impl_isKey.f key = some false := by rw [keyI_eq, decide_eq_false hk]
      exact ⟨0, [], [], 0, false, by simp, by simp, Ev.bind e1 (Ev.pos rfl (Ev.cbind kS bad)), Ev.bind e2 (Ev.pos rfl (Ev.cbind kI (Ev.neg (by simp) (Ev.now _))))⟩
theorem costs3 (l : List S60) : costs (fun _ => 3) l = 3 * l.length := by
  induction l with
  | nil => rfl
  | cons a l ih => simp [costs, ih]; omega
theorem markTable_both (s : Int) (a b : List S60) (m : Int) (ha : a.length ≤ 1048576) (hb : b.length ≤ 1048576) : ∃ (q : Int) (a' b' : List S60), Ev (fun k => laws_markTable.f k s a b m 1) (q, a', b') ∧ Ev (fun k => laws_heldTable.f k s a' b' m 1) q ∧ ¬ q < 0 := by
  obtain ⟨u2, l2, m2, q2⟩ := markSlotS_ev a 1 (by omega) (by rw [costs3]; omega) (by omega)
  obtain ⟨u3, l3, m3, q3⟩ := markSlotS_ev b (1 + costs (fun _ => 3) a) (by omega) (by rw [costs3, costs3]; omega) (by omega)
  refine ⟨_, u2, u3, by unfold laws_markTable.f; exact Ev.bind m2 (Ev.bind m3 (Ev.now _)), ?_, by omega⟩
  unfold laws_heldTable.f; exact Ev.bind q2 (Ev.neg (by omega) (Ev.bind q3 (Ev.neg (by omega) (Ev.now _))))

theorem FnExactDropKey : laws_FnExactDropKey.Pure := by
  intro s a b m key _ ha hb _ _
  refine Ev.rounds (g := fun k => laws_FnExactDropKey.f k s a b m key) (r := true) ?_
  unfold laws_FnExactDropKey.f
  obtain ⟨z, hz, hl⟩ := szTable_eq s a b m ha.1 hb.1
  refine Ev.cbind hz ?_
  by_cases hn : z < 0
  · exact Ev.pos hn (Ev.now _)
  obtain ⟨h1, h2⟩ := hl hn
  have ht := toTable_ev s a b m h1 h2
  have n1 : (a.map slotOf).length ≤ 1048576 := by simpa using h1
  have n2 : (b.map slotOf).length ≤ 1048576 := by simpa using h2
  generalize a.map slotOf = L at ht n1
  generalize b.map slotOf = R at ht n2
  have he := eqTable_same s L R m (by omega) (by omega)
  obtain ⟨s', L', R', m', ok, l1, l2, e1, e2⟩ := op_eq s L R m key n1 n2
  have he2 := eqTable_same s' L' R' m' (by omega) (by omega)
  obtain ⟨q, a1, b1, hm, _, hq⟩ := markTable_both s L R m n1 n2
  obtain ⟨q', a1', b1', hm', hh', hq'⟩ := markTable_both s' L' R' m' l1 l2
  exact Ev.neg hn (Ev.bind ht (Ev.bind e1 (Ev.bind ht (Ev.bind e2 (Ev.bind he2 (Ev.pos rfl (Ev.neg (by simp) (Ev.bind ht (Ev.bind he (Ev.pos rfl (Ev.bind hm (Ev.neg hq (Ev.bind he2 (Ev.pos rfl (Ev.neg (by simp) (Ev.bind hm' (Ev.bind hh' (Ev.neg hq' (Ev.neg (by simp) (Ev.bind ht (Ev.bind e2 (Ev.bind he2 (Ev.pos rfl (Ev.neg (by simp) (Ev.bind hh' (Ev.neg hq' (Ev.neg (by simp) (Ev.now _))))))))))))))))))))))))))))

end Go.Proofs.Ytnohankakmmnoaa.Pure
