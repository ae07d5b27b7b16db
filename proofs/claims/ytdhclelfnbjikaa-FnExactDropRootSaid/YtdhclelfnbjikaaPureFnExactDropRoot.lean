/- DropRoot of the program answers as the reference for all arguments. No condition. -/
import Derived.Test.YtdhclelfnbjikaaPFnExactDropRootx11
set_option maxRecDepth 100000
set_option linter.unusedVariables false
set_option linter.unusedSimpArgs false
namespace Go.Proofs.Ytdhclelfnbjikaa.Pure
open Go.Proofs.Ytdhclelfnbjikaa Go.RowKit Go.Proofs.Ytdhclelfnbjikaa.PFnExactDropRoot Go.Proofs.YtdhclelfnbjikaaW.PrintWords Go.Proofs.YtdhclelfnbjikaaW.PrintLast

theorem wrap_id {x : Int} (h0 : -9223372036854775808 ≤ x) (h1 : x < 9223372036854775808) : wrap64 x = x := by
  unfold wrap64; omega
theorem Ev.pos {α : Type} {c : Prop} [Decidable c] {g f : Nat → Option α} {r : α} (h : c) (k : Ev g r) : Ev (fun n => if c then g n else f n) r := by
  simpa only [if_pos h] using k
theorem Ev.neg {α : Type} {c : Prop} [Decidable c] {g f : Nat → Option α} {r : α} (h : ¬ c) (k : Ev f r) : Ev (fun n => if c then g n else f n) r := by
  simpa only [if_neg h] using k
theorem Ev.val {α : Type} {x : Option α} {r : α} (h : x = some r) : Ev (fun _ => x) r := by
  rw [h]; exact Ev.now r
theorem Ev.end {α : Type} {g : Nat → Option α} {r : α} (h : ∀ k, g (k + 1) = some r) : Ev g r := Ev.step (f := fun _ => some r) h (Ev.now r)
theorem Ev.cbind {α β : Type} {x : Option α} {f : Nat → α → Option β} {a : α} {r : β} (h : x = some a) (k : Ev (fun n => f n a) r) : Ev (fun n => x.bind (f n)) r := by
  subst h; exact k
theorem Ev.uniq {α : Type} {g : Nat → Option α} {r q : α} (h : Ev g r) (k : Ev g q) : r = q := by
  obtain ⟨K, h⟩ := h
  obtain ⟨L, k⟩ := k
  have h1 := h (max K L) (by omega)
  have h2 := k (max K L) (by omega)
  rw [h1] at h2
  exact Option.some.inj h2
theorem Ev.succ {α : Type} {g : Nat → Option α} {r : α} (h : Ev (fun k => g (k + 1)) r) : Ev g r := Ev.step (fun _ => rfl) h

theorem within_eq (a b c : Int) : impl_within.f a b c = some (decide (b ≤ a ∧ a ≤ c)) := by
  by_cases h : b ≤ a <;> simp [impl_within.f, h]

theorem eqIntS_loop (l : List Int) (hl : l.length ≤ 4611686018427387904) (d : Nat) : ∀ i : Int, 0 ≤ i → i ≤ l.length → (l.length : Int) - i = d → Ev (fun k => laws_eqIntS.l0 k l l i) true := by
  induction d with
  | zero => intro i h0 h1 hd; exact Ev.end (fun k => by simp only [laws_eqIntS.l0]; rw [if_neg (by omega)])
  | succ d ih =>
    intro i h0 h1 hd
    refine Ev.step (fun k => ?_) (ih (i + 1) (by omega) (by omega) (by omega))
    have hw := wrap_id (x := i + 1) (by omega) (by omega)
    rw [laws_eqIntS.l0, if_pos (by omega), if_pos h0, if_pos (by omega), if_pos rfl, hw]
theorem eqIntS_same (l : List Int) (hl : l.length ≤ 4611686018427387904) : Ev (fun k => laws_eqIntS.f k l l) true := by
  unfold laws_eqIntS.f; exact Ev.pos (by trivial) (eqIntS_loop l hl l.length 0 (by omega) (by omega) (by omega))


/-- A slice written element by element from another: one induction for all kinds. -/
theorem copy_gen {α β : Type} {L : Nat → List α → List β → Int → Option (List β)} (conv : α → β) (M : Nat) (B : α → Prop)
    (hend : ∀ (x : List α) (y : List β) (i : Int), ¬ i < x.length → Ev (fun k => L k x y i) y)
    (hstep : ∀ (x : List α) (y : List β) (i : Nat) (a : α) (r : List β), i < x.length → i < y.length → x.length ≤ M → x[i]? = some a → B a → Ev (fun k => L k x (y.set i (conv a)) ((i + 1 : Nat) : Int)) r → Ev (fun k => L k x y i) r)
    (rest : List α) : ∀ (pre : List α) (tail : List β), tail.length = rest.length → pre.length + rest.length ≤ M → (∀ a ∈ rest, B a) →
      Ev (fun k => L k (pre ++ rest) (pre.map conv ++ tail) pre.length) ((pre ++ rest).map conv) := by
  induction rest with
  | nil =>
    intro pre tail hl hM hB
    obtain rfl : tail = [] := List.length_eq_zero_iff.1 hl
    simpa using hend pre (pre.map conv) pre.length (by omega)
  | cons a rest ih =>
    intro pre tail hl hM hB
    match tail, hl with
    | b :: tail, hl =>
      simp only [List.length_cons] at hl hM
      have h := ih (pre ++ [a]) tail (by omega) (by simp; omega) (fun x hx => hB x (by simp [hx]))
      simp only [List.append_assoc, List.singleton_append, List.length_append, List.length_singleton, List.map_append, List.map_cons, List.map_nil] at h
      refine hstep _ _ _ a _ (by simp) (by simp) (by simp; omega) (by simp) (hB a (by simp)) ?_
      have e : (List.map conv pre ++ b :: tail).set pre.length (conv a) = List.map conv pre ++ conv a :: tail := by
        rw [List.set_append_right _ _ (by simp)]
        simp
      rw [e]
      simpa using h

theorem toIntS_ev (l : List Int) (hl : l.length ≤ 35184372088832) : Ev (fun k => laws_toIntS.f k l) l := by
  have h := copy_gen (L := laws_toIntS.l0) (fun a => a) 35184372088832 (fun _ => True) (fun x y i hi => Ev.end (fun k => by rw [laws_toIntS.l0, if_neg hi]))
    (fun x y i a r hi hy hM ha _ he => Ev.step (fun k => by
      have hw := wrap_id (x := (i : Int) + 1) (by omega) (by omega)
      have hr : rd x i = a := by simp [rd, rdOf, List.getD_eq_getElem?_getD, ha]
      rw [laws_toIntS.l0, if_pos (by omega), if_pos (by omega), if_pos (by omega), hr, hw]
      simp) he) l [] (List.replicate l.length 0) (by simp) (by simpa using hl) (fun _ _ => trivial)
  unfold laws_toIntS.f
  refine Ev.pos (by omega) (Ev.pos (by simpa using hl) ?_)
  simpa using h


theorem szIntS_ev (l : List Int) (hM : l.length ≤ maxLen) (v : Int) (h0 : 0 ≤ v) (h1 : v ≤ 1048576) :
    ∃ r, laws_szIntS.f l v = some r ∧ r ≤ v ∧ -1 ≤ r ∧ (0 ≤ r → l.length ≤ 1048576) := by
  unfold laws_szIntS.f
  have e : wrap64 (v - (l.length : Int)) = v - l.length := by unfold maxLen at hM; exact wrap_id (by omega) (by omega)
  rw [e]
  by_cases hn : v - (l.length : Int) < 0
  · exact ⟨-1, if_pos hn, by omega, by omega, fun h => by omega⟩
  · exact ⟨v - l.length, if_neg hn, by omega, by omega, fun _ => by omega⟩

theorem sz_gen {α : Type} {L : Nat → List α → Int → Int → Option Int} (Q B : α → Prop) (M : Nat)
    (hend : ∀ (x : List α) (v i : Int), ¬ i < x.length → Ev (fun k => L k x v i) v)
    (hstep : ∀ (x : List α) (v : Int) (i : Nat) (a : α), i < x.length → x.length ≤ M → x[i]? = some a → Q a → 0 ≤ v → v ≤ 1048576 → ∃ r, r ≤ v ∧ -1 ≤ r ∧ (0 ≤ r → B a) ∧ (r < 0 → Ev (fun k => L k x v i) (-1)) ∧ (0 ≤ r → ∀ q, Ev (fun k => L k x r ((i + 1 : Nat) : Int)) q → Ev (fun k => L k x v i) q))
    (rest : List α) : ∀ (pre : List α) (v : Int), 0 ≤ v → v ≤ 1048576 → pre.length + rest.length ≤ M → (∀ a ∈ rest, Q a) →
      ∃ r, Ev (fun k => L k (pre ++ rest) v pre.length) r ∧ r ≤ v ∧ -1 ≤ r ∧ (0 ≤ r → ∀ a ∈ rest, B a) := by
  induction rest with
  | nil => intro pre v h0 h1 hM hQ; exact ⟨v, hend _ _ _ (by simp), by omega, by omega, fun _ a ha => by cases ha⟩
  | cons a rest ih =>
    intro pre v h0 h1 hM hQ
    simp only [List.length_cons] at hM
    obtain ⟨r, r1, r2, r3, r4, r5⟩ := hstep (pre ++ a :: rest) v pre.length a (by simp) (by simp; omega) (by simp) (hQ a (by simp)) h0 h1
    by_cases hr : r < 0
    · exact ⟨-1, r4 hr, by omega, by omega, fun h => by omega⟩
    · obtain ⟨q, e, q1, q2, q3⟩ := ih (pre ++ [a]) r (by omega) (by omega) (by simp; omega) (fun x hx => hQ x (by simp [hx]))
      simp only [List.append_assoc, List.singleton_append, List.length_append, List.length_singleton] at e
      refine ⟨q, r5 (by omega) q e, by omega, q2, fun h x hx => ?_⟩
      rcases List.mem_cons.1 hx with rfl | hx
      · exact r3 (by omega)
      · exact q3 h x hx

/-- what elements cost, together -/
def costs {α : Type} (cost : α → Nat) : List α → Nat
  | [] => 0
  | a :: l => cost a + costs cost l
/-- Marking element by element, and asking for the marks: one induction for all kinds. -/
theorem mark_gen {α : Type} {L : Nat → List α → Int → Int → Option (Int × List α)} {H : Nat → List α → Int → Int → Option Int} (cost : α → Nat) (val : Int → α → α) (B : Int) (M : Nat)
    (hend : ∀ (x : List α) (v i : Int), ¬ i < x.length → Ev (fun k => L k x v i) (v, x)) (hendH : ∀ (x : List α) (v i : Int), ¬ i < x.length → Ev (fun k => H k x v i) v)
    (hstep : ∀ (x : List α) (v : Int) (i : Nat) (a : α) (r : Int × List α), i < x.length → x.length ≤ M → x[i]? = some a → 0 ≤ v → v + cost a ≤ B → Ev (fun k => L k (x.set i (val v a)) (v + cost a) ((i + 1 : Nat) : Int)) r → Ev (fun k => L k x v i) r)
    (hstepH : ∀ (x : List α) (v : Int) (i : Nat) (a : α) (r : Int), i < x.length → x.length ≤ M → x[i]? = some (val v a) → 0 ≤ v → v + cost a ≤ B → Ev (fun k => H k x (v + cost a) ((i + 1 : Nat) : Int)) r → Ev (fun k => H k x v i) r)
    (rest : List α) : ∀ (pre : List α) (v : Int), 0 ≤ v → v + costs cost rest ≤ B → pre.length + rest.length ≤ M →
      ∃ rest' : List α, rest'.length = rest.length ∧ Ev (fun k => L k (pre ++ rest) v pre.length) (v + costs cost rest, pre ++ rest') ∧ Ev (fun k => H k (pre ++ rest') v pre.length) (v + costs cost rest) := by
  induction rest with
  | nil =>
    intro pre v h0 h1 h2
    refine ⟨[], rfl, ?_, ?_⟩
    · simpa [costs] using hend pre v pre.length (by omega)
    · simpa [costs] using hendH pre v pre.length (by omega)
  | cons a rest ih =>
    intro pre v h0 h1 h2
    simp only [costs, List.length_cons] at h1 h2
    push_cast at h1
    obtain ⟨rest', hl, e1, e2⟩ := ih (pre ++ [val v a]) (v + cost a) (by omega) (by omega) (by simp; omega)
    simp only [List.append_assoc, List.singleton_append, List.length_append, List.length_singleton] at e1 e2
    have hs : v + (cost a : Int) + (costs cost rest : Int) = v + (costs cost (a :: rest) : Nat) := by simp only [costs]; push_cast; omega
    rw [hs] at e1 e2
    refine ⟨val v a :: rest', by simp [hl], ?_, ?_⟩
    · refine hstep _ _ _ a _ (by simp) (by simp; omega) (by simp) h0 (by omega) ?_
      simpa using e1
    · refine hstepH _ _ _ a _ (by simp) (by simp; omega) (by simp) h0 (by omega) ?_
      simpa using e2

/-- what marking makes of numbers -/
def ints (v : Int) : Nat → List Int
  | 0 => []
  | n + 1 => v :: ints (v + 1) n
theorem ints_length (v : Int) (n : Nat) : (ints v n).length = n := by
  induction n generalizing v with
  | zero => rfl
  | succ n ih => simp [ints, ih]
theorem markIntS_loop (rest : List Int) : ∀ (pre : List Int) (v : Int), 0 ≤ v → v + rest.length ≤ 4611686018427387904 → pre.length + rest.length ≤ 4611686018427387904 →
    Ev (fun k => laws_markIntS.l0 k (pre ++ rest) v pre.length) (v + rest.length, pre ++ ints v rest.length) := by
  induction rest with
  | nil => intro pre v h0 h1 h2; exact Ev.end (fun k => by simp only [laws_markIntS.l0]; rw [if_neg (by simp)]; simp [ints])
  | cons a rest ih =>
    intro pre v h0 h1 h2
    simp only [List.length_cons] at h1 h2
    have := ih (pre ++ [v]) (v + 1) (by omega) (by push_cast at h1 ⊢; omega) (by simp; omega)
    simp only [List.append_assoc, List.singleton_append, List.length_append, List.length_singleton] at this
    rw [show (v + 1 + (rest.length : Int)) = v + ((a :: rest).length : Int) by simp; omega] at this
    refine Ev.step (fun k => ?_) this
    rw [laws_markIntS.l0]
    rw [if_pos (by simp; omega), if_pos (by omega), wrap_id (x := v + 1) (by omega) (by push_cast at h1; omega), wrap_id (x := (pre.length : Int) + 1) (by omega) (by omega)]
    simp
theorem heldIntS_loop (n : Nat) : ∀ (pre : List Int) (v : Int), 0 ≤ v → v + n ≤ 4611686018427387904 → pre.length + n ≤ 4611686018427387904 →
    Ev (fun k => laws_heldIntS.l0 k (pre ++ ints v n) v pre.length) (v + n) := by
  induction n with
  | zero => intro pre v h0 h1 h2; exact Ev.end (fun k => by simp only [laws_heldIntS.l0]; rw [if_neg (by simp [ints])]; simp)
  | succ n ih =>
    intro pre v h0 h1 h2
    have := ih (pre ++ [v]) (v + 1) (by omega) (by push_cast at h1 ⊢; omega) (by simp; omega)
    simp only [List.append_assoc, List.singleton_append, List.length_append, List.length_singleton] at this
    rw [show (v + 1 + (n : Int)) = v + ((n + 1 : Nat) : Int) by push_cast; omega] at this
    show Ev (fun k => laws_heldIntS.l0 k (pre ++ (v :: ints (v + 1) n)) v pre.length) _
    refine Ev.step (fun k => ?_) this
    rw [laws_heldIntS.l0]
    rw [if_pos (by simp; omega), if_pos (by omega), if_pos (by simp [rd, List.getD_eq_getElem?_getD]), wrap_id (x := v + 1) (by omega) (by push_cast at h1; omega), wrap_id (x := (pre.length : Int) + 1) (by omega) (by omega)]
    simp
theorem markIntS_ev (l : List Int) (v : Int) (h0 : 0 ≤ v) (h : v + l.length ≤ 4611686018427387904) : Ev (fun k => laws_markIntS.f k l v) (v + l.length, ints v l.length) :=
  markIntS_loop l [] v h0 h (by simp; omega)
theorem heldIntS_ev (n : Nat) (v : Int) (h0 : 0 ≤ v) (h : v + n ≤ 4611686018427387904) : Ev (fun k => laws_heldIntS.f k (ints v n) v) (v + n) :=
  heldIntS_loop n [] v h0 h (by simp; omega)

theorem eq_gen {α : Type} {L : Nat → List α → List α → Int → Option Bool} (B : α → Prop) (M : Nat)
    (hend : ∀ (x : List α) (i : Int), ¬ i < x.length → Ev (fun k => L k x x i) true)
    (hstep : ∀ (x : List α) (i : Nat) (a : α), i < x.length → x.length ≤ M → x[i]? = some a → B a → Ev (fun k => L k x x ((i + 1 : Nat) : Int)) true → Ev (fun k => L k x x i) true)
    (rest : List α) : ∀ (pre : List α), pre.length + rest.length ≤ M → (∀ a ∈ rest, B a) → Ev (fun k => L k (pre ++ rest) (pre ++ rest) pre.length) true := by
  induction rest with
  | nil => intro pre hM hB; exact hend _ _ (by simp)
  | cons a rest ih =>
    intro pre hM hB
    simp only [List.length_cons] at hM
    have h := ih (pre ++ [a]) (by simp; omega) (fun x hx => hB x (by simp [hx]))
    simp only [List.append_assoc, List.singleton_append, List.length_append, List.length_singleton] at h
    exact hstep _ _ a (by simp) (by simp; omega) (by simp) (hB a (by simp)) h

theorem rd65 (x : List S60) (i : Nat) (a : S60) (h : x[i]? = some a) : rd_T60 x (i : Int) = a := by
  simp [rd_T60, List.getD_eq_getElem?_getD, h]
theorem rd88 (x : List S69) (i : Nat) (a : S69) (h : x[i]? = some a) : rd_T69 x (i : Int) = a := by
  simp [rd_T69, List.getD_eq_getElem?_getD, h]
def QB (z : S69) : Prop := (z.f0.length ≤ maxLen ∧ ∀ y ∈ z.f0, (Lit.int .i64 y).wf = true) ∧ True
theorem szNodeS_ev (l : List S69) (hM : l.length ≤ maxLen) (hq : ∀ y ∈ l, QB y) (v : Int) (h0 : 0 ≤ v) (h1 : v ≤ 1048576) :
    ∃ r, Ev (fun k => laws_szNodeS.f k l v) r ∧ r ≤ v ∧ -1 ≤ r ∧ (0 ≤ r → l.length ≤ 1048576 ∧ ∀ a ∈ l, a.f0.length ≤ 1048576) := by
  unfold laws_szNodeS.f
  have e : wrap64 (v - (l.length : Int)) = v - l.length := by unfold maxLen at hM; exact wrap_id (by omega) (by omega)
  rw [e]
  by_cases hn : v - (l.length : Int) < 0
  · exact ⟨-1, Ev.pos hn (Ev.now _), by omega, by omega, fun h => by omega⟩
  · obtain ⟨r, g, r1, r2, r3⟩ := sz_gen (L := laws_szNodeS.l0) QB (fun a => a.f0.length ≤ 1048576) 9223372036854775807
      (fun x v i hi => Ev.end (fun k => by rw [laws_szNodeS.l0, if_neg hi]))
      (fun x v i a hi hM ha hQ h0 h1 => by
        obtain ⟨r, e, r1, r2, r3⟩ := szIntS_ev a.f0 hQ.1.1 v h0 h1
        have hr := rd88 x i a ha
        have hw : wrap64 ((i : Int) + 1) = ((i + 1 : Nat) : Int) := by rw [wrap_id (by omega) (by omega)]; simp
        refine ⟨r, r1, r2, r3, fun hn => Ev.end (fun k => ?_), fun hn q he => Ev.step (fun k => ?_) he⟩
        · rw [laws_szNodeS.l0, if_pos (by omega), if_pos (by omega), hr]
          unfold laws_szNode.f
          rw [e]; simp only [Option.bind_some]; rw [if_pos hn]; rfl
        · rw [laws_szNodeS.l0, if_pos (by omega), if_pos (by omega), hr]
          unfold laws_szNode.f
          rw [e]; simp only [Option.bind_some]; rw [if_neg (by omega)]; simp only [Option.bind_some]; rw [if_neg (by omega), hw]) l [] (v - l.length) (by omega) (by omega) (by simp; omega) hq
    exact ⟨r, Ev.neg hn g, by omega, r2, fun h => ⟨by omega, r3 h⟩⟩
/-- a node as the program has it -/
def brOf (z : S69) : S60 := ⟨z.f0, z.f1⟩
theorem toNodeS_ev (bs : List S69) (l0 : bs.length ≤ 1048576) (lb : ∀ a ∈ bs, a.f0.length ≤ 1048576) : Ev (fun k => laws_toNodeS.f k bs) (bs.map brOf) := by
  have h := copy_gen (L := laws_toNodeS.l0) brOf 8796093022208 (fun a => a.f0.length ≤ 1048576) (fun x y i hi => Ev.end (fun k => by rw [laws_toNodeS.l0, if_neg hi]))
    (fun x y i a r hi hy hM ha hB he => by
      have hw : wrap64 ((i : Int) + 1) = ((i + 1 : Nat) : Int) := by rw [wrap_id (by omega) (by omega)]; simp
      have hr := rd88 x i a ha
      have ht : Ev (fun k => laws_toNode.f k a.f0 a.f1) (a.f0, a.f1) := by
        unfold laws_toNode.f; exact Ev.bind (toIntS_ev a.f0 (by omega)) (Ev.now _)
      refine Ev.step (f := fun k => (laws_toNode.f k a.f0 a.f1).bind fun b => laws_toNodeS.l0 k x (y.set i ⟨b.1, b.2⟩) ((i + 1 : Nat) : Int)) (fun k => ?_) (Ev.bind ht he)
      rw [laws_toNodeS.l0, if_pos (by omega), if_pos (by omega), hr, hw]
      congr 1
      funext b
      rw [if_pos (by omega)]
      simp) bs [] (List.replicate bs.length z60) (by simp) (by simp; omega) lb
  unfold laws_toNodeS.f
  refine Ev.pos (by omega) (Ev.pos (by simp; omega) ?_)
  simpa using h

theorem eqNodeS_same (bs : List S60) (l0 : bs.length ≤ 1048576) (lb : ∀ a ∈ bs, a.f0.length ≤ 1048576) : Ev (fun k => laws_eqNodeS.f k bs bs) true := by
  have h := eq_gen (L := laws_eqNodeS.l0) (fun a => a.f0.length ≤ 1048576) 1048576 (fun x i hi => Ev.end (fun k => by rw [laws_eqNodeS.l0, if_neg hi]))
    (fun x i a hi hM ha hB he => by
      have hw : wrap64 ((i : Int) + 1) = ((i + 1 : Nat) : Int) := by rw [wrap_id (by omega) (by omega)]; simp
      have hr := rd65 x i a ha
      have ht : Ev (fun k => laws_eqNode.f k a.f0 a.f1 a.f0 a.f1) true := by
        unfold laws_eqNode.f; exact Ev.bind (eqIntS_same a.f0 (by omega)) (Ev.pos (by trivial) (Ev.neg (by simp) (Ev.now _)))
      refine Ev.step (f := fun k => (laws_eqNode.f k a.f0 a.f1 a.f0 a.f1).bind fun b => if b = true then laws_eqNodeS.l0 k x x ((i + 1 : Nat) : Int) else some false) (fun k => ?_) (Ev.bind ht (Ev.pos (by trivial) he))
      rw [laws_eqNodeS.l0, if_pos (by omega), if_pos (by omega), if_pos (by omega), hr, hw]) bs [] (by simp; omega) lb
  unfold laws_eqNodeS.f
  refine Ev.pos rfl ?_
  simpa using h

/-- is a number a node's that is there, below n -/
def upB (ns : List S60) (n : Int) (x : Int) : Bool := decide (0 ≤ x ∧ x < n) && !(rd_T60 ns x).f1
def nsB (ns : List S60) : List S60 → Int → Bool
  | [], _ => true
  | b :: t, i => b.f0.all (upB ns i) && decide (b.f0.length ≤ 6) && !(b.f1 && decide (0 < b.f0.length)) && nsB ns t (i + 1)
def goodN (ns : List S60) (rs : List Int) : Bool := nsB ns ns 0 && rs.all (upB ns ns.length) && decide (ns.length ≤ 14) && decide (rs.length ≤ 6)
theorem bad_eq (ns : List S60) (n x : Int) (h0 : 0 ≤ n) (h1 : n ≤ ns.length) (hl : ns.length ≤ 1048576) : impl_areNodes.bad ns (wrap64 (n - 1)) x = some (!upB ns n x) := by
  have e : wrap64 (n - 1) = n - 1 := wrap_id (by omega) (by omega)
  unfold impl_areNodes.bad upB
  rw [e]
  simp only [within_eq, Option.bind_some, decide_eq_true_eq]
  by_cases d : 0 ≤ x ∧ x < n
  · rw [if_pos (by omega), if_pos d.1, if_pos (by omega)]
    simp [d]
  · rw [if_neg (by omega)]
    simp [d]
theorem all_eq (ns : List S60) (hl : ns.length ≤ 1048576) (rest : List S60) : ∀ pre : List S60, ns = pre ++ rest → impl_areNodes.all ns rest pre.length = some (nsB ns rest pre.length) := by
  induction rest with
  | nil => intro pre h; rfl
  | cons b t ih =>
    intro pre h
    have hlen : ns.length = pre.length + (t.length + 1) := by rw [h]; simp
    have ha : Op.anyO (impl_areNodes.bad ns (wrap64 ((pre.length : Int) - 1))) b.f0 = some (b.f0.any (fun x => !upB ns pre.length x)) :=
      Op.anyO_total (fun x _ => bad_eq ns _ x (by omega) (by omega) hl)
    have hn := ih (pre ++ [b]) (by rw [h]; simp)
    simp only [List.length_append, List.length_singleton] at hn
    unfold impl_areNodes.all nsB
    rw [ha]
    by_cases c : b.f0.length ≤ 6
    · rw [if_neg (by omega)]
      by_cases g : b.f1 = true ∧ (b.f0.length : Int) > 0
      · rw [if_pos g]
        have g2 : 0 < b.f0.length := by omega
        simp [g.1, g2]
      · rw [if_neg g]
        have g2 : (b.f1 && decide (0 < b.f0.length)) = false := by
          cases hf : b.f1 with
          | false => rfl
          | true => simp only [Bool.true_and]; exact decide_eq_false (fun h2 => g ⟨hf, by omega⟩)
        simp only [Option.bind_some, g2, Bool.not_false, Bool.and_true]
        by_cases d : b.f0.all (upB ns pre.length) = true
        · have : b.f0.any (fun x => !upB ns pre.length x) = false := by rw [← Bool.not_eq_true]; simpa using d
          rw [this, d]
          simpa [c] using hn
        · have : b.f0.any (fun x => !upB ns pre.length x) = true := by simpa using d
          rw [this]
          simp only [Bool.not_eq_true] at d
          simp [d]
    · rw [if_pos (by omega)]
      simp [c]
theorem areNodes_eq (ns : List S60) (rs : List Int) (hl : ns.length ≤ 1048576) : impl_areNodes.f ns rs = some (goodN ns rs) := by
  unfold impl_areNodes.f goodN
  by_cases c1 : ns.length ≤ 14
  · rw [if_neg (by omega)]
    by_cases c2 : rs.length ≤ 6
    · rw [if_neg (by omega)]
      have h := all_eq ns hl ns [] rfl
      simp only [List.length_nil, Int.natCast_zero] at h
      rw [h]
      simp only [Option.bind_some]
      cases hb : nsB ns ns 0 with
      | false => simp
      | true =>
        simp only [if_true]
        rw [Op.anyO_total (q := fun x => !upB ns ns.length x) (fun x _ => bad_eq ns _ x (by omega) (Int.le_refl _) hl)]
        simp [c1, c2, List.any_eq_not_all_not]
    · rw [if_pos (by omega)]; simp [c2]
  · rw [if_pos (by omega)]; simp [c1]
theorem sN2 (ns : List S60) (rs : List Int) (hl : ns.length ≤ 1048576) (hv : rs.length ≤ 1048576) (rest : List Int) : ∀ pre : List Int, rs = pre ++ rest →
    Ev (fun k => spec_l10Nodes.l2 k ns rs rs rs.length pre.length) (rest.all (upB ns ns.length) && decide (ns.length ≤ 14) && decide (rs.length ≤ 6)) := by
  induction rest with
  | nil =>
    intro pre h
    refine Ev.end (fun k => ?_)
    rw [spec_l10Nodes.l2, if_neg (by rw [h]; simp)]
    by_cases c : ns.length ≤ 14
    · rw [if_pos (by omega)]; simp [c]; omega
    · rw [if_neg (by omega)]; simp [c]
  | cons v t ih =>
    intro pre h
    have hr : rd rs (pre.length : Int) = v := by rw [h]; simp [rd, List.getD_eq_getElem?_getD]
    have hlen : rs.length = pre.length + (t.length + 1) := by rw [h]; simp
    have hw : wrap64 ((pre.length : Int) + 1) = ((pre.length + 1 : Nat) : Int) := by rw [wrap_id (by omega) (by omega)]; simp
    have hn := ih (pre ++ [v]) (by rw [h]; simp)
    simp only [List.length_append, List.length_singleton] at hn
    simp only [List.all_cons]
    by_cases d : 0 ≤ v ∧ v < ns.length
    · cases f : (rd_T60 ns v).f1 with
      | true =>
        have e : upB ns ns.length v = false := by simp [upB, f]
        rw [e, Bool.false_and, Bool.false_and, Bool.false_and]
        exact Ev.end (fun k => by rw [spec_l10Nodes.l2, if_pos (by omega), if_pos (by omega), if_pos (by omega), hr, if_neg (by omega), if_neg (by omega), if_pos d.1, if_pos d.2, if_pos f])
      | false =>
        have e : upB ns ns.length v = true := by simp [upB, d, f]
        rw [e, Bool.true_and]
        exact Ev.step (fun k => by rw [spec_l10Nodes.l2, if_pos (by omega), if_pos (by omega), if_pos (by omega), hr, if_neg (by omega), if_neg (by omega), if_pos d.1, if_pos d.2, if_neg (by simp [f]), hw]) hn
    · have e : upB ns ns.length v = false := by simp only [upB, d, decide_false, Bool.false_and]
      rw [e, Bool.false_and, Bool.false_and, Bool.false_and]
      by_cases g : v < 0
      · exact Ev.end (fun k => by rw [spec_l10Nodes.l2, if_pos (by omega), if_pos (by omega), if_pos (by omega), hr, if_pos g])
      · exact Ev.end (fun k => by rw [spec_l10Nodes.l2, if_pos (by omega), if_pos (by omega), if_pos (by omega), hr, if_neg g, if_pos (by omega)])
theorem sN1 (ns : List S60) (rs : List Int) (hl : ns.length ≤ 1048576) (i : Int) (h0 : 0 ≤ i) (h1 : i < ns.length) (ks : List Int) (gone : Bool) (hk : ks.length ≤ 1048576) (r : Bool) (hnext : Ev (fun k => spec_l10Nodes.l0 k ns rs ns ns.length (i + 1)) r) (rest : List Int) :
    ∀ pre : List Int, ks = pre ++ rest → Ev (fun k => spec_l10Nodes.l1 k ns rs i ns ns.length i ks ks.length pre.length ks gone) (rest.all (upB ns i) && decide (ks.length ≤ 6) && !(gone && decide (0 < ks.length)) && r) := by
  have hwi : wrap64 (i + 1) = i + 1 := wrap_id (by omega) (by omega)
  induction rest with
  | nil =>
    intro pre h
    by_cases c : ks.length ≤ 6
    · cases gone with
      | false =>
        have e : (List.all [] (upB ns i) && decide (ks.length ≤ 6) && !(false && decide (0 < ks.length)) && r) = r := by simp [c]
        rw [e]
        exact Ev.step (fun k => by rw [spec_l10Nodes.l1, if_neg (by rw [h]; simp), if_neg (by omega), if_neg (by simp), hwi]) hnext
      | true =>
        by_cases z : 0 < ks.length
        · have e : (List.all [] (upB ns i) && decide (ks.length ≤ 6) && !(true && decide (0 < ks.length)) && r) = false := by simp [z]
          rw [e]
          exact Ev.end (fun k => by rw [spec_l10Nodes.l1, if_neg (by rw [h]; simp), if_neg (by omega), if_pos rfl, if_pos (by omega)])
        · have e : (List.all [] (upB ns i) && decide (ks.length ≤ 6) && !(true && decide (0 < ks.length)) && r) = r := by simp [c, z]
          rw [e]
          exact Ev.step (fun k => by rw [spec_l10Nodes.l1, if_neg (by rw [h]; simp), if_neg (by omega), if_pos rfl, if_neg (by omega), hwi]) hnext
    · have e : (List.all [] (upB ns i) && decide (ks.length ≤ 6) && !(gone && decide (0 < ks.length)) && r) = false := by simp [c]
      rw [e]
      exact Ev.end (fun k => by rw [spec_l10Nodes.l1, if_neg (by rw [h]; simp), if_pos (by omega)])
  | cons v t ih =>
    intro pre h
    have hr : rd ks (pre.length : Int) = v := by rw [h]; simp [rd, List.getD_eq_getElem?_getD]
    have hlen : ks.length = pre.length + (t.length + 1) := by rw [h]; simp
    have hw : wrap64 ((pre.length : Int) + 1) = ((pre.length + 1 : Nat) : Int) := by rw [wrap_id (by omega) (by omega)]; simp
    have hn := ih (pre ++ [v]) (by rw [h]; simp)
    simp only [List.length_append, List.length_singleton] at hn
    simp only [List.all_cons]
    by_cases d : 0 ≤ v ∧ v < i
    · cases f : (rd_T60 ns v).f1 with
      | true =>
        have e : upB ns i v = false := by simp [upB, f]
        rw [e, Bool.false_and, Bool.false_and, Bool.false_and, Bool.false_and]
        exact Ev.end (fun k => by rw [spec_l10Nodes.l1, if_pos (by omega), if_pos (by omega), if_pos (by omega), hr, if_neg (by omega), if_neg (by omega), if_pos d.1, if_pos (by omega), if_pos f])
      | false =>
        have e : upB ns i v = true := by simp [upB, d, f]
        rw [e, Bool.true_and]
        exact Ev.step (fun k => by rw [spec_l10Nodes.l1, if_pos (by omega), if_pos (by omega), if_pos (by omega), hr, if_neg (by omega), if_neg (by omega), if_pos d.1, if_pos (by omega), if_neg (by simp [f]), hw]) hn
    · have e : upB ns i v = false := by simp only [upB, d, decide_false, Bool.false_and]
      rw [e, Bool.false_and, Bool.false_and, Bool.false_and, Bool.false_and]
      by_cases g : v < 0
      · exact Ev.end (fun k => by rw [spec_l10Nodes.l1, if_pos (by omega), if_pos (by omega), if_pos (by omega), hr, if_pos g])
      · exact Ev.end (fun k => by rw [spec_l10Nodes.l1, if_pos (by omega), if_pos (by omega), if_pos (by omega), hr, if_neg g, if_pos (by omega)])
theorem sN0 (ns : List S60) (rs : List Int) (hl : ns.length ≤ 1048576) (hv : rs.length ≤ 1048576) (hk : ∀ a ∈ ns, a.f0.length ≤ 1048576) (rest : List S60) : ∀ pre : List S60, ns = pre ++ rest →
    Ev (fun k => spec_l10Nodes.l0 k ns rs ns ns.length pre.length) (nsB ns rest pre.length && (rs.all (upB ns ns.length) && decide (ns.length ≤ 14) && decide (rs.length ≤ 6))) := by
  induction rest with
  | nil =>
    intro pre h
    have h2 := sN2 ns rs hl hv rs [] rfl
    simp only [nsB, Bool.true_and]
    exact Ev.step (fun k => by rw [spec_l10Nodes.l0, if_neg (by rw [h]; simp)]) (by simpa using h2)
  | cons b t ih =>
    intro pre h
    have hlen : ns.length = pre.length + (t.length + 1) := by rw [h]; simp
    have hb : rd_T60 ns (pre.length : Int) = b := rd65 ns pre.length b (by rw [h]; simp)
    have hn := ih (pre ++ [b]) (by rw [h]; simp)
    simp only [List.length_append, List.length_singleton] at hn
    have h1 := sN1 ns rs hl pre.length (by omega) (by omega) b.f0 b.f1 (hk b (by rw [h]; simp)) _ (by simpa using hn) b.f0 [] rfl
    simp only [nsB, Bool.and_assoc] at h1 ⊢
    refine Ev.step (fun k => ?_) h1
    rw [spec_l10Nodes.l0, if_pos (by omega), if_pos (by omega), if_pos (by omega), hb]
    simp
theorem l10Nodes_eq (ns : List S60) (rs : List Int) (hl : ns.length ≤ 1048576) (hv : rs.length ≤ 1048576) (hk : ∀ a ∈ ns, a.f0.length ≤ 1048576) : Ev (fun k => spec_l10Nodes.f k ns rs) (goodN ns rs) := by
  have h := sN0 ns rs hl hv hk ns [] rfl
  unfold spec_l10Nodes.f goodN
  simpa [Bool.and_assoc] using h

/-- one more at each of the places -/
def incs (x : List Int) : List Int → List Int
  | [] => x
  | k :: t => incs (x.set k.toNat (wrap64 (rd x k + 1))) t
theorem incs_length (ks : List Int) : ∀ x, (incs x ks).length = x.length := by
  induction ks with
  | nil => intro x; rfl
  | cons k t ih => intro x; simp [incs, ih]
def incsN (x : List Int) : List S60 → List Int
  | [] => x
  | b :: t => incsN (incs x b.f0) t
theorem incsN_length (bs : List S60) : ∀ x, (incsN x bs).length = x.length := by
  induction bs with
  | nil => intro x; rfl
  | cons b t ih => intro x; simp [incsN, ih, incs_length]
def countsN (ns : List S60) (rs : List Int) : List Int := incsN (incs (List.replicate ns.length 0) rs) ns
theorem countsN_length (ns : List S60) (rs : List Int) : (countsN ns rs).length = ns.length := by simp [countsN, incsN_length, incs_length]
theorem cSame : ∀ k, (∀ a b c d e, spec_l10Counts.l0 k a b c d e = impl_countsOf.l0 k a b c d e) ∧ (∀ a b c d, spec_l10Counts.l1 k a b c d = impl_countsOf.l1 k a b c d) ∧ (∀ a b c d e f g, spec_l10Counts.l2 k a b c d e f g = impl_countsOf.l2 k a b c d e f g) := by
  intro k
  induction k with
  | zero => exact ⟨fun _ _ _ _ _ => by rw [spec_l10Counts.l0, impl_countsOf.l0], fun _ _ _ _ => by rw [spec_l10Counts.l1, impl_countsOf.l1], fun _ _ _ _ _ _ _ => by rw [spec_l10Counts.l2, impl_countsOf.l2]⟩
  | succ k ih =>
    obtain ⟨h0, h1, h2⟩ := ih
    exact ⟨fun _ _ _ _ _ => by rw [spec_l10Counts.l0, impl_countsOf.l0, h0, h1], fun _ _ _ _ => by rw [spec_l10Counts.l1, impl_countsOf.l1, h2], fun _ _ _ _ _ _ _ => by rw [spec_l10Counts.l2, impl_countsOf.l2, h2, h1]⟩
theorem c2 (bs : List S60) (n i : Int) (ks : List Int) (hk : ks.length ≤ 1048576) (hi : 0 ≤ i) (hi2 : i < 9223372036854775807) (r : List Int) (rest : List Int) : ∀ (pre : List Int) (x : List Int), ks = pre ++ rest → (∀ z ∈ rest, 0 ≤ z ∧ z < x.length) →
    Ev (fun k => impl_countsOf.l1 k (incs x rest) bs n (i + 1)) r → Ev (fun k => impl_countsOf.l2 k x bs n i ks ks.length pre.length) r := by
  have hwi : wrap64 (i + 1) = i + 1 := wrap_id (by omega) (by omega)
  induction rest with
  | nil => intro pre x h _ hn; exact Ev.step (fun k => by rw [impl_countsOf.l2, if_neg (by rw [h]; simp), hwi]; rfl) hn
  | cons v t ih =>
    intro pre x h hz hn
    have hr : rd ks (pre.length : Int) = v := by rw [h]; simp [rd, List.getD_eq_getElem?_getD]
    have hlen : ks.length = pre.length + (t.length + 1) := by rw [h]; simp
    have hw : wrap64 ((pre.length : Int) + 1) = ((pre.length + 1 : Nat) : Int) := by rw [wrap_id (by omega) (by omega)]; simp
    have hv := hz v (by simp)
    have e := ih (pre ++ [v]) (x.set v.toNat (wrap64 (rd x v + 1))) (by rw [h]; simp) (fun z hz2 => by simpa using hz z (by simp [hz2])) hn
    simp only [List.length_append, List.length_singleton] at e
    exact Ev.step (fun k => by rw [impl_countsOf.l2, if_pos (by omega), if_pos (by omega), if_pos (by omega), hr, if_pos hv.1, if_pos hv.2, hw]) e
theorem c1 (bs : List S60) (hb : bs.length ≤ 1048576) (hk : ∀ a ∈ bs, a.f0.length ≤ 1048576) (rest : List S60) : ∀ (pre : List S60) (x : List Int), bs = pre ++ rest → (∀ b ∈ rest, ∀ z ∈ b.f0, 0 ≤ z ∧ z < x.length) →
    Ev (fun k => impl_countsOf.l1 k x bs bs.length pre.length) (incsN x rest) := by
  induction rest with
  | nil => intro pre x h _; exact Ev.end (fun k => by rw [impl_countsOf.l1, if_neg (by rw [h]; simp)]; rfl)
  | cons b t ih =>
    intro pre x h hz
    have hlen : bs.length = pre.length + (t.length + 1) := by rw [h]; simp
    have hr : rd_T60 bs (pre.length : Int) = b := rd65 bs pre.length b (by rw [h]; simp)
    have e := ih (pre ++ [b]) (incs x b.f0) (by rw [h]; simp) (fun c hc z hz2 => by rw [incs_length]; exact hz c (by simp [hc]) z hz2)
    simp only [List.length_append, List.length_singleton] at e
    have e2 := c2 bs bs.length pre.length b.f0 (hk b (by rw [h]; simp)) (by omega) (by omega) (incsN (incs x b.f0) t) b.f0 [] x rfl (hz b (by simp)) (by simpa using e)
    refine Ev.step (fun k => ?_) e2
    rw [impl_countsOf.l1, if_pos (by omega), if_pos (by omega), if_pos (by omega), hr]
    rfl
theorem c0 (bs : List S60) (r : List Int) (rs : List Int) (hr : rs.length ≤ 1048576) (rest : List Int) : ∀ (pre : List Int) (x : List Int), rs = pre ++ rest → (∀ z ∈ rest, 0 ≤ z ∧ z < x.length) →
    Ev (fun k => impl_countsOf.l1 k (incs x rest) bs bs.length 0) r → Ev (fun k => impl_countsOf.l0 k bs x rs rs.length pre.length) r := by
  induction rest with
  | nil => intro pre x h _ hn; exact Ev.step (fun k => by rw [impl_countsOf.l0, if_neg (by rw [h]; simp)]; rfl) hn
  | cons v t ih =>
    intro pre x h hz hn
    have hv2 : rd rs (pre.length : Int) = v := by rw [h]; simp [rd, List.getD_eq_getElem?_getD]
    have hlen : rs.length = pre.length + (t.length + 1) := by rw [h]; simp
    have hw : wrap64 ((pre.length : Int) + 1) = ((pre.length + 1 : Nat) : Int) := by rw [wrap_id (by omega) (by omega)]; simp
    have hv := hz v (by simp)
    have e := ih (pre ++ [v]) (x.set v.toNat (wrap64 (rd x v + 1))) (by rw [h]; simp) (fun z hz2 => by simpa using hz z (by simp [hz2])) hn
    simp only [List.length_append, List.length_singleton] at e
    exact Ev.step (fun k => by rw [impl_countsOf.l0, if_pos (by omega), if_pos (by omega), if_pos (by omega), hv2, if_pos hv.1, if_pos hv.2, hw]) e
theorem nsB_holds (ns : List S60) (rest : List S60) : ∀ i : Int, nsB ns rest i = true → i + rest.length ≤ ns.length → ∀ b ∈ rest, ∀ z ∈ b.f0, 0 ≤ z ∧ z < ns.length := by
  induction rest with
  | nil => intro i _ _ b hb; simp at hb
  | cons b t ih =>
    intro i h hi c hc z hz
    simp only [nsB, Bool.and_eq_true] at h
    simp only [List.length_cons] at hi
    push_cast at hi
    rcases List.mem_cons.1 hc with rfl | hc
    · have h1 := List.all_eq_true.1 h.1.1.1 z hz
      simp only [upB, Bool.and_eq_true, decide_eq_true_eq] at h1
      omega
    · exact ih (i + 1) h.2 (by omega) c hc z hz
theorem countsOf_ev (ns : List S60) (rs : List Int) (hl : ns.length ≤ 1048576) (hv : rs.length ≤ 1048576) (hk : ∀ a ∈ ns, a.f0.length ≤ 1048576) (g : goodN ns rs = true) : Ev (fun k => impl_countsOf.f k ns rs) (countsN ns rs) := by
  simp only [goodN, Bool.and_eq_true, decide_eq_true_eq] at g
  have hn := nsB_holds ns ns 0 g.1.1.1 (by omega)
  have hr : ∀ z ∈ rs, 0 ≤ z ∧ z < ns.length := by
    intro z hz
    have h1 := List.all_eq_true.1 g.1.1.2 z hz
    simp only [upB, Bool.and_eq_true, decide_eq_true_eq] at h1
    exact h1.1
  unfold impl_countsOf.f
  refine Ev.pos (by omega) (Ev.pos (by omega) ?_)
  have e1 := c1 ns hl hk ns [] (incs (List.replicate ns.length 0) rs) rfl (by simpa [incs_length] using hn)
  have e0 := c0 ns (countsN ns rs) rs hv rs [] (List.replicate ns.length 0) rfl (by simpa using hr) (by simpa [countsN] using e1)
  simpa using e0
theorem l10Counts_ev (ns : List S60) (rs : List Int) (hl : ns.length ≤ 1048576) (hv : rs.length ≤ 1048576) (hk : ∀ a ∈ ns, a.f0.length ≤ 1048576) (g : goodN ns rs = true) : Ev (fun k => spec_l10Counts.f k ns rs) (countsN ns rs) := by
  have h := countsOf_ev ns rs hl hv hk g
  obtain ⟨K, hK⟩ := h
  refine ⟨K, fun k hk2 => ?_⟩
  have h1 := hK k hk2
  unfold impl_countsOf.f at h1
  unfold spec_l10Counts.f
  simpa only [(cSame k).1] using h1

theorem eqSame : ∀ k a b c d, spec_l1Same.l0 k a b c d = slices_Equal_int_int.l0 k a b c d := by
  intro k
  induction k with
  | zero => intro _ _ _ _; rw [spec_l1Same.l0, slices_Equal_int_int.l0]
  | succ k ih => intro _ _ _ _; rw [spec_l1Same.l0, slices_Equal_int_int.l0, ih]
theorem equal_loop (s : List Int) : ∀ (t p q : List Int), s.length = t.length → p.length = q.length → p.length + s.length ≤ 1048576 → Ev (fun k => slices_Equal_int_int.l0 k (p ++ s) (q ++ t) ((p.length + s.length : Nat) : Int) p.length) (decide (s = t)) := by
  induction s with
  | nil =>
    intro t p q h1 h2 h3
    have ht : t = [] := List.eq_nil_of_length_eq_zero h1.symm
    subst ht
    exact Ev.end (fun k => by rw [slices_Equal_int_int.l0, if_neg (by simp)]; rfl)
  | cons a s ih =>
    intro t p q h1 h2 h3
    cases t with
    | nil => simp at h1
    | cons b t =>
      simp only [List.length_cons] at h1 h3
      have e := ih t (p ++ [a]) (q ++ [b]) (by omega) (by simp [h2]) (by simp; omega)
      simp only [List.append_assoc, List.singleton_append, List.length_append, List.length_singleton] at e
      rw [show p.length + 1 + s.length = p.length + (a :: s).length by simp; omega] at e
      have r1 : rd (p ++ a :: s) (p.length : Int) = a := by simp [rd, List.getD_eq_getElem?_getD]
      have r2 : rd (q ++ b :: t) (p.length : Int) = b := by rw [h2]; simp [rd, List.getD_eq_getElem?_getD]
      have hw : wrap64 ((p.length : Int) + 1) = ((p.length + 1 : Nat) : Int) := by rw [wrap_id (by omega) (by omega)]; simp
      have g1 : (p.length : Int) < ((p.length + (a :: s).length : Nat) : Int) := by simp; omega
      have g2 : (p.length : Int) < ((p ++ a :: s).length : Int) := by simp; omega
      have g3 : (p.length : Int) < ((q ++ b :: t).length : Int) := by simp; omega
      have g0 : 0 ≤ (p.length : Int) := by omega
      by_cases c : a = b
      · have hd : decide (a :: s = b :: t) = decide (s = t) := by subst c; simp
        rw [hd]
        exact Ev.step (fun k => by rw [slices_Equal_int_int.l0, if_pos g1, if_pos g0, if_pos g2, if_pos g3, r1, r2, if_pos c, hw]) e
      · have hd : decide (a :: s = b :: t) = false := by simp [c]
        rw [hd]
        exact Ev.end (fun k => by rw [slices_Equal_int_int.l0, if_pos g1, if_pos g0, if_pos g2, if_pos g3, r1, r2, if_neg c])
theorem equal_ev (x y : List Int) (hx : x.length ≤ 1048576) : Ev (fun k => slices_Equal_int_int.f k x y) (decide (x = y)) := by
  unfold slices_Equal_int_int.f
  by_cases h : x.length = y.length
  · have e := equal_loop x y [] [] h rfl (by simpa using hx)
    exact Ev.pos (by omega) (by simpa using e)
  · have hd : decide (x = y) = false := decide_eq_false (fun e => h (by rw [e]))
    rw [hd]
    exact Ev.neg (by omega) (Ev.now _)
theorem same_ev (x y : List Int) (hx : x.length ≤ 1048576) : Ev (fun k => spec_l1Same.f k x y) (decide (x = y)) := by
  obtain ⟨K, hK⟩ := equal_ev x y hx
  refine ⟨K, fun k hk => ?_⟩
  have h1 := hK k hk
  unfold slices_Equal_int_int.f at h1
  unfold spec_l1Same.f
  simpa only [eqSame] using h1
/-- is each node gone, or named -/
def liveB (cs : List Int) : List S60 → Int → Bool
  | [], _ => true
  | b :: t, i => (b.f1 || !decide (rd cs i = 0)) && liveB cs t (i + 1)
def goodG (ns : List S60) (rs cs : List Int) : Bool := goodN ns rs && decide (cs = countsN ns rs) && liveB cs ns 0
theorem gSame : ∀ k a b c d e f, spec_GoodGraph.l0 k a b c d e f = impl_GoodGraph.l0 k a b c d e f := by
  intro k
  induction k with
  | zero => intro _ _ _ _ _ _; rw [spec_GoodGraph.l0, impl_GoodGraph.l0]
  | succ k ih => intro _ _ _ _ _ _; rw [spec_GoodGraph.l0, impl_GoodGraph.l0]; simp only [ih]
theorem live_loop (ns : List S60) (rs cs : List Int) (hl : ns.length ≤ 1048576) (hc : cs.length = ns.length) (rest : List S60) : ∀ pre : List S60, ns = pre ++ rest → Ev (fun k => impl_GoodGraph.l0 k ns ns.length pre.length ns rs cs) (liveB cs rest pre.length) := by
  induction rest with
  | nil => intro pre h; exact Ev.end (fun k => by rw [impl_GoodGraph.l0, if_neg (by rw [h]; simp)]; rfl)
  | cons b t ih =>
    intro pre h
    have hlen : ns.length = pre.length + (t.length + 1) := by rw [h]; simp
    have hb : rd_T60 ns (pre.length : Int) = b := rd65 ns pre.length b (by rw [h]; simp)
    have hw : wrap64 ((pre.length : Int) + 1) = ((pre.length + 1 : Nat) : Int) := by rw [wrap_id (by omega) (by omega)]; simp
    have e := ih (pre ++ [b]) (by rw [h]; simp)
    simp only [List.length_append, List.length_singleton] at e
    cases f : b.f1 with
    | true =>
      have hd : liveB cs (b :: t) pre.length = liveB cs t ((pre.length + 1 : Nat) : Int) := by simp [liveB, f]
      rw [hd]
      exact Ev.step (fun k => by rw [impl_GoodGraph.l0, if_pos (by omega), if_pos (by omega), if_pos (by omega), hb, if_pos f, hw]) e
    | false =>
      by_cases z : rd cs (pre.length : Int) = 0
      · have hd : liveB cs (b :: t) pre.length = false := by simp [liveB, f, z]
        rw [hd]
        exact Ev.end (fun k => by rw [impl_GoodGraph.l0, if_pos (by omega), if_pos (by omega), if_pos (by omega), hb, if_neg (by simp [f]), if_pos (by omega), if_pos z])
      · have hd : liveB cs (b :: t) pre.length = liveB cs t ((pre.length + 1 : Nat) : Int) := by simp [liveB, z]
        rw [hd]
        exact Ev.step (fun k => by rw [impl_GoodGraph.l0, if_pos (by omega), if_pos (by omega), if_pos (by omega), hb, if_neg (by simp [f]), if_pos (by omega), if_neg z, hw]) e
theorem goodGraph_impl (ns : List S60) (rs cs : List Int) (hl : ns.length ≤ 1048576) (hv : rs.length ≤ 1048576) (hc : cs.length ≤ 1048576) (hk : ∀ a ∈ ns, a.f0.length ≤ 1048576) : Ev (fun k => impl_GoodGraph.f k ns rs cs) (goodG ns rs cs) := by
  unfold impl_GoodGraph.f goodG
  have hi := areNodes_eq ns rs hl
  cases g : goodN ns rs with
  | false =>
    rw [g] at hi
    refine Ev.cbind hi (Ev.neg (by simp) (Ev.succ ?_))
    simp only [impl_GoodGraph.j0]
    exact Ev.pos (by trivial) (by simpa using Ev.now false)
  | true =>
    rw [g] at hi
    refine Ev.cbind hi (Ev.pos rfl (Ev.bind (countsOf_ev ns rs hl hv hk g) (Ev.bind (equal_ev cs _ hc) (Ev.succ ?_))))
    simp only [impl_GoodGraph.j0]
    by_cases e : cs = countsN ns rs
    · have h := live_loop ns rs cs hl (by rw [e, countsN_length]) ns [] rfl
      exact Ev.neg (by simp [e]) (by simpa [e] using h)
    · exact Ev.pos (by simp [e]) (by simpa [e] using Ev.now false)
theorem goodGraph_spec (ns : List S60) (rs cs : List Int) (hl : ns.length ≤ 1048576) (hv : rs.length ≤ 1048576) (hc : cs.length ≤ 1048576) (hk : ∀ a ∈ ns, a.f0.length ≤ 1048576) : Ev (fun k => spec_GoodGraph.f k ns rs cs) (goodG ns rs cs) := by
  unfold spec_GoodGraph.f goodG
  have hi := l10Nodes_eq ns rs hl hv hk
  cases g : goodN ns rs with
  | false =>
    rw [g] at hi
    refine Ev.bind hi (Ev.neg (by simp) (Ev.succ ?_))
    simp only [spec_GoodGraph.j0]
    exact Ev.pos (by trivial) (by simpa using Ev.now false)
  | true =>
    rw [g] at hi
    refine Ev.bind hi (Ev.pos rfl (Ev.bind (l10Counts_ev ns rs hl hv hk g) (Ev.bind (same_ev cs _ hc) (Ev.succ ?_))))
    simp only [spec_GoodGraph.j0, gSame]
    by_cases e : cs = countsN ns rs
    · have h := live_loop ns rs cs hl (by rw [e, countsN_length]) ns [] rfl
      exact Ev.neg (by simp [e]) (by simpa [e] using h)
    · exact Ev.pos (by simp [e]) (by simpa [e] using Ev.now false)

theorem Ev.map_ {α β : Type} {g : Nat → Option α} {r : α} (f : α → β) (h : Ev g r) : Ev (fun k => (g k).map f) (f r) := by
  obtain ⟨K, hK⟩ := h
  exact ⟨K, fun k hk => by show (g k).map f = _; rw [hK k hk]; rfl⟩
/-- the marked branches; what they cost -/
def mkB (v : Int) : List S60 → List S60
  | [] => []
  | b :: t => ⟨ints v b.f0.length, Int.tmod (v + b.f0.length) 3 == 0⟩ :: mkB (v + b.f0.length + 1) t
def szB : List S60 → Nat
  | [] => 0
  | b :: t => b.f0.length + 1 + szB t
theorem szB_le (l : List S60) (h : ∀ a ∈ l, a.f0.length ≤ 1048576) : szB l ≤ l.length * 1048577 := by
  induction l with
  | nil => simp [szB]
  | cons b t ih =>
    have h1 := h b (by simp)
    have h2 := ih (fun a ha => h a (by simp [ha]))
    simp only [szB, List.length_cons]
    omega
theorem mkB_length (l : List S60) : ∀ v, (mkB v l).length = l.length := by
  induction l with
  | nil => intro v; rfl
  | cons b t ih => intro v; simp [mkB, ih]
theorem szB_len (l : List S60) : l.length ≤ szB l := by
  induction l with
  | nil => simp [szB]
  | cons b t ih => simp only [szB, List.length_cons]; omega
theorem markNodeS_ev (l : List S60) : ∀ v : Int, 0 ≤ v → v + szB l ≤ 4611686018427387904 → Ev (fun k => laws_markNodeS.f k l v) (v + szB l, mkB v l) := by
  induction l with
  | nil => intro v h0 h1; simpa [szB, mkB, laws_markNodeS.f] using Ev.now (v, ([] : List S60))
  | cons b t ih =>
    intro v h0 h1
    simp only [szB] at h1
    push_cast at h1
    have e := ih (v + b.f0.length + 1) (by omega) (by omega)
    have hs : v + ((szB (b :: t) : Nat) : Int) = v + b.f0.length + 1 + szB t := by simp only [szB]; push_cast; omega
    rw [hs]
    simp only [laws_markNodeS.f]
    refine Ev.bind (markIntS_ev b.f0 v h0 (by omega)) ?_
    rw [wrap_id (x := v + (b.f0.length : Int) + 1) (by omega) (by omega)]
    exact Ev.map_ _ e
theorem heldNodeS_loop (rest : List S60) : ∀ (pre : List S60) (v : Int), 0 ≤ v → v + szB rest ≤ 4611686018427387904 → pre.length + rest.length ≤ 4611686018427387904 →
    Ev (fun k => laws_heldNodeS.l0 k (pre ++ mkB v rest) v pre.length) (v + szB rest) := by
  induction rest with
  | nil => intro pre v h0 h1 h2; exact Ev.end (fun k => by rw [laws_heldNodeS.l0, if_neg (by simp [mkB])]; simp [szB])
  | cons b t ih =>
    intro pre v h0 h1 h2
    simp only [szB] at h1
    push_cast at h1
    simp only [List.length_cons] at h2
    have hs : v + ((szB (b :: t) : Nat) : Int) = v + b.f0.length + 1 + szB t := by simp only [szB]; push_cast; omega
    rw [hs]
    have e := ih (pre ++ [⟨ints v b.f0.length, Int.tmod (v + b.f0.length) 3 == 0⟩]) (v + b.f0.length + 1) (by omega) (by omega) (by simp; omega)
    simp only [List.append_assoc, List.singleton_append, List.length_append, List.length_singleton] at e
    have hr : rd_T60 (pre ++ mkB v (b :: t)) (pre.length : Int) = ⟨ints v b.f0.length, Int.tmod (v + b.f0.length) 3 == 0⟩ := rd65 _ _ _ (by simp [mkB])
    refine Ev.step (f := fun k => (laws_heldIntS.f k (ints v b.f0.length) v).bind fun z => if z < 0 then some (-1) else if (((Int.tmod (v + b.f0.length) 3 == 0) != (Int.tmod z 3 == 0)) = true) then some (-1) else laws_heldNodeS.l0 k (pre ++ mkB v (b :: t)) (wrap64 (z + 1)) (wrap64 ((pre.length : Int) + 1))) (fun k => ?_) ?_
    · rw [laws_heldNodeS.l0, if_pos (by simp [mkB]; omega), if_pos (by omega), hr]
    · refine Ev.bind (heldIntS_ev b.f0.length v h0 (by omega)) (Ev.neg (by omega) (Ev.neg (by simp) ?_))
      rw [wrap_id (x := v + (b.f0.length : Int) + 1) (by omega) (by omega), wrap_id (x := (pre.length : Int) + 1) (by omega) (by omega)]
      exact e

theorem szGraph_ev (bs : List S69) (rs cs : List Int) (q0 : bs.length ≤ maxLen ∧ ∀ y ∈ bs, QB y) (q1 : rs.length ≤ maxLen) (q2 : cs.length ≤ maxLen) :
    ∃ r, Ev (fun k => laws_szGraph.f k bs rs cs 1048576) r ∧ (¬ r < 0 → bs.length ≤ 1048576 ∧ (∀ a ∈ bs, a.f0.length ≤ 1048576) ∧ rs.length ≤ 1048576 ∧ cs.length ≤ 1048576) := by
  unfold laws_szGraph.f
  obtain ⟨r0, e0, a0, m0, n0⟩ := szNodeS_ev bs q0.1 q0.2 1048576 (by omega) (by omega)
  by_cases h0 : r0 < 0
  · exact ⟨-1, Ev.bind e0 (Ev.pos h0 (Ev.now _)), fun h => by omega⟩
  obtain ⟨r1, e1, a1, m1, n1⟩ := szIntS_ev rs q1 r0 (by omega) (by omega)
  by_cases h1 : r1 < 0
  · exact ⟨-1, Ev.bind e0 (Ev.neg h0 (Ev.cbind e1 (Ev.pos h1 (Ev.now _)))), fun h => by omega⟩
  obtain ⟨r2, e2, a2, m2, n2⟩ := szIntS_ev cs q2 r1 (by omega) (by omega)
  by_cases h2 : r2 < 0
  · exact ⟨-1, Ev.bind e0 (Ev.neg h0 (Ev.cbind e1 (Ev.neg h1 (Ev.cbind e2 (Ev.pos h2 (Ev.now _)))))), fun h => by omega⟩
  exact ⟨r2, Ev.bind e0 (Ev.neg h0 (Ev.cbind e1 (Ev.neg h1 (Ev.cbind e2 (Ev.neg h2 (Ev.now _)))))), fun _ => ⟨(n0 (by omega)).1, (n0 (by omega)).2, n1 (by omega), n2 (by omega)⟩⟩
theorem toGraph_ev (bs : List S69) (rs cs : List Int) (l0 : bs.length ≤ 1048576) (lb : ∀ a ∈ bs, a.f0.length ≤ 1048576) (l1 : rs.length ≤ 1048576) (l2 : cs.length ≤ 1048576) : Ev (fun k => laws_toGraph.f k bs rs cs) (bs.map brOf, rs, cs) := by
  unfold laws_toGraph.f
  exact Ev.bind (toNodeS_ev bs l0 lb) (Ev.bind (toIntS_ev rs (by omega)) (Ev.bind (toIntS_ev cs (by omega)) (Ev.now _)))
theorem eqGraph_same (ns : List S60) (rs cs : List Int) (l0 : ns.length ≤ 1048576) (lb : ∀ a ∈ ns, a.f0.length ≤ 1048576) (l1 : rs.length ≤ 1048576) (l2 : cs.length ≤ 1048576) : Ev (fun k => laws_eqGraph.f k ns rs cs ns rs cs) true := by
  unfold laws_eqGraph.f
  exact Ev.bind (eqNodeS_same ns l0 lb) (Ev.pos rfl (Ev.bind (eqIntS_same rs (by omega)) (Ev.pos rfl (Ev.bind (eqIntS_same cs (by omega)) (Ev.pos rfl (Ev.now _))))))
theorem markGraph_ev' (ns : List S60) (rs cs : List Int) (l0 : ns.length ≤ 1048576) (lb : ∀ a ∈ ns, a.f0.length ≤ 1048576) (l1 : rs.length ≤ 1048576) (l2 : cs.length ≤ 1048576) :
    ∃ (m : Int) (ns' : List S60) (rs' cs' : List Int), Ev (fun k => laws_markGraph.f k ns rs cs 1) (m, ns', rs', cs') ∧ ¬ m < 0 := by
  have hz := szB_le ns lb
  refine ⟨1 + szB ns + rs.length + cs.length, mkB 1 ns, ints (1 + szB ns) rs.length, ints (1 + szB ns + rs.length) cs.length, ?_, by omega⟩
  unfold laws_markGraph.f
  exact Ev.bind (markNodeS_ev ns 1 (by omega) (by omega)) (Ev.bind (markIntS_ev rs (1 + szB ns) (by omega) (by omega)) (Ev.bind (markIntS_ev cs (1 + szB ns + rs.length) (by omega) (by omega)) (Ev.now _)))
theorem markGraph_ev (ns : List S60) (rs cs : List Int) (l0 : ns.length ≤ 1048576) (lb : ∀ a ∈ ns, a.f0.length ≤ 1048576) (l1 : rs.length ≤ 1048576) (l2 : cs.length ≤ 1048576) :
    ∃ (m : Int) (ns' : List S60) (rs' cs' : List Int), Ev (fun k => laws_markGraph.f k ns rs cs 1) (m, ns', rs', cs') ∧ ¬ m < 0 ∧ Ev (fun k => laws_heldGraph.f k ns' rs' cs' 1) m := by
  have hz := szB_le ns lb
  have hn := szB_len ns
  refine ⟨1 + szB ns + rs.length + cs.length, mkB 1 ns, ints (1 + szB ns) rs.length, ints (1 + szB ns + rs.length) cs.length, ?_, by omega, ?_⟩
  · unfold laws_markGraph.f
    exact Ev.bind (markNodeS_ev ns 1 (by omega) (by omega)) (Ev.bind (markIntS_ev rs (1 + szB ns) (by omega) (by omega)) (Ev.bind (markIntS_ev cs (1 + szB ns + rs.length) (by omega) (by omega)) (Ev.now _)))
  · unfold laws_heldGraph.f laws_heldNodeS.f
    have e := heldNodeS_loop ns [] 1 (by omega) (by omega) (by simp; omega)
    exact Ev.bind (by simpa using e) (Ev.neg (by omega) (Ev.bind (heldIntS_ev rs.length (1 + szB ns) (by omega) (by omega)) (Ev.neg (by omega) (Ev.bind (heldIntS_ev cs.length (1 + szB ns + rs.length) (by omega) (by omega)) (Ev.neg (by omega) (Ev.now _))))))

theorem clone_eq (l : List Int) (h : l.length ≤ 1048576) : slices_Clone_int_int.f l = some l := by
  unfold slices_Clone_int_int.f
  rw [if_pos (by omega)]
theorem ownNodes_loop (ns : List S60) (hl : ns.length ≤ 1048576) (hk : ∀ a ∈ ns, a.f0.length ≤ 1048576) (rest : List S60) : ∀ pre : List S60, ns = pre ++ rest → Ev (fun k => impl_ownNodes.l0 k pre ns ns.length pre.length) ns := by
  induction rest with
  | nil => intro pre h; exact Ev.end (fun k => by rw [impl_ownNodes.l0, if_neg (by rw [h]; simp)]; rw [h]; simp)
  | cons b t ih =>
    intro pre h
    have hlen : ns.length = pre.length + (t.length + 1) := by rw [h]; simp
    have hb : rd_T60 ns (pre.length : Int) = b := rd65 ns pre.length b (by rw [h]; simp)
    have hw : wrap64 ((pre.length : Int) + 1) = ((pre.length + 1 : Nat) : Int) := by rw [wrap_id (by omega) (by omega)]; simp
    have e := ih (pre ++ [b]) (by rw [h]; simp)
    simp only [List.length_append, List.length_singleton] at e
    have hc := clone_eq b.f0 (hk b (by rw [h]; simp))
    exact Ev.step (fun k => by rw [impl_ownNodes.l0, if_pos (by omega), if_pos (by omega), if_pos (by omega), hb, hc, Option.bind_some, if_pos (by omega), hw]) e
theorem ownGraph_ev (ns : List S60) (rs cs : List Int) (hl : ns.length ≤ 1048576) (hk : ∀ a ∈ ns, a.f0.length ≤ 1048576) (h1 : rs.length ≤ 1048576) (h2 : cs.length ≤ 1048576) : Ev (fun k => impl_ownGraph.f k ns rs cs) (ns, rs, cs) := by
  unfold impl_ownGraph.f impl_ownNodes.f
  have e := ownNodes_loop ns hl hk ns [] rfl
  exact Ev.bind (by simpa using e) (Ev.cbind (clone_eq rs h1) (Ev.cbind (clone_eq cs h2) (Ev.now _)))
theorem l10Own_loop (ns : List S60) (rs cs : List Int) (hl : ns.length ≤ 1048576) (hk : ∀ a ∈ ns, a.f0.length ≤ 1048576) (rest : List S60) : ∀ pre : List S60, ns = pre ++ rest → Ev (fun k => spec_l10Own.l0 k ns ns.length pre.length pre rs cs) (ns, rs, cs) := by
  induction rest with
  | nil => intro pre h; exact Ev.end (fun k => by rw [spec_l10Own.l0, if_neg (by rw [h]; simp)]; rw [h]; simp)
  | cons b t ih =>
    intro pre h
    have hlen : ns.length = pre.length + (t.length + 1) := by rw [h]; simp
    have hb : rd_T60 ns (pre.length : Int) = b := rd65 ns pre.length b (by rw [h]; simp)
    have hw : wrap64 ((pre.length : Int) + 1) = ((pre.length + 1 : Nat) : Int) := by rw [wrap_id (by omega) (by omega)]; simp
    have e := ih (pre ++ [b]) (by rw [h]; simp)
    simp only [List.length_append, List.length_singleton] at e
    have hc := hk b (by rw [h]; simp)
    refine Ev.step (fun k => ?_) e
    rw [spec_l10Own.l0, if_pos (by omega), if_pos (by omega), if_pos (by omega), hb, Option.bind_some, if_pos (by simp; omega), if_pos (by omega), hw]
    rfl
theorem l10Own_ev (ns : List S60) (rs cs : List Int) (hl : ns.length ≤ 1048576) (hk : ∀ a ∈ ns, a.f0.length ≤ 1048576) (h1 : rs.length ≤ 1048576) (h2 : cs.length ≤ 1048576) : Ev (fun k => spec_l10Own.f k ns rs cs) (ns, rs, cs) := by
  unfold spec_l10Own.f
  have e := l10Own_loop ns rs cs hl hk ns [] rfl
  refine Ev.cbind rfl (Ev.pos (by simp; omega) (Ev.cbind rfl (Ev.pos (by simp; omega) ?_)))
  simpa using e

/-- a number put to its place in a rising list, once -/
def putL : List Int → Int → List Int
  | [], n => [n]
  | a :: t, n => if a < n then a :: putL t n else if a = n then a :: t else n :: a :: t
theorem putL_mem (l : List Int) (n x : Int) : x ∈ putL l n ↔ x = n ∨ x ∈ l := by
  induction l with
  | nil => simp [putL]
  | cons a t ih =>
    unfold putL
    by_cases c : a < n
    · rw [if_pos c, List.mem_cons, ih, List.mem_cons]
      constructor
      · rintro (h | h | h)
        · exact .inr (.inl h)
        · exact .inl h
        · exact .inr (.inr h)
      · rintro (h | h | h)
        · exact .inr (.inl h)
        · exact .inl h
        · exact .inr (.inr h)
    · rw [if_neg c]
      by_cases d : a = n
      · rw [if_pos d, List.mem_cons]
        constructor
        · exact .inr
        · rintro (h | h)
          · exact .inl (h.trans d.symm)
          · exact h
      · rw [if_neg d, List.mem_cons]
theorem putL_sorted {l : List Int} (n : Int) (h : l.Pairwise (· < ·)) : (putL l n).Pairwise (· < ·) := by
  induction l with
  | nil => simp [putL]
  | cons a t ih =>
    obtain ⟨h1, h2⟩ := List.pairwise_cons.1 h
    unfold putL
    by_cases c : a < n
    · rw [if_pos c]
      refine List.pairwise_cons.2 ⟨fun x hx => ?_, ih h2⟩
      rcases (putL_mem t n x).1 hx with rfl | hx
      · exact c
      · exact h1 x hx
    · rw [if_neg c]
      by_cases d : a = n
      · rw [if_pos d]; exact h
      · rw [if_neg d]
        refine List.pairwise_cons.2 ⟨fun x hx => ?_, h⟩
        rcases List.mem_cons.1 hx with rfl | hx
        · omega
        · have := h1 x hx; omega
theorem putL_len (l : List Int) (n : Int) : (putL l n).length ≤ l.length + 1 := by
  induction l with
  | nil => simp [putL]
  | cons a t ih =>
    unfold putL
    split
    · simp; omega
    · split <;> simp
/-- a rising list within bounds is not long -/
theorem sorted_len : ∀ (l : List Int) (lo hi : Int), l.Pairwise (· < ·) → (∀ x ∈ l, lo ≤ x ∧ x < hi) → (l.length : Int) ≤ max 0 (hi - lo) := by
  intro l
  induction l with
  | nil => intro lo hi _ _; simp; omega
  | cons a t ih =>
    intro lo hi h hm
    obtain ⟨h1, h2⟩ := List.pairwise_cons.1 h
    have ha := hm a (by simp)
    have := ih (a + 1) hi h2 (fun x hx => ⟨by have := h1 x hx; omega, (hm x (by simp [hx])).2⟩)
    simp only [List.length_cons]
    omega
/-- two rising lists of the same numbers are one -/
theorem sorted_eq : ∀ (l m : List Int), l.Pairwise (· < ·) → m.Pairwise (· < ·) → (∀ x, x ∈ l ↔ x ∈ m) → l = m := by
  intro l
  induction l with
  | nil => intro m _ _ h; cases m with
    | nil => rfl
    | cons b u => exact absurd ((h b).2 (by simp)) (by simp)
  | cons a t ih =>
    intro m hl hm h
    cases m with
    | nil => exact absurd ((h a).1 (by simp)) (by simp)
    | cons b u =>
      obtain ⟨h1, h2⟩ := List.pairwise_cons.1 hl
      obtain ⟨h3, h4⟩ := List.pairwise_cons.1 hm
      have e : a = b := by
        have x1 := (h a).1 (by simp)
        have x2 := (h b).2 (by simp)
        rcases List.mem_cons.1 x1 with e | x1
        · exact e
        · rcases List.mem_cons.1 x2 with e | x2
          · exact e.symm
          · have := h1 b x2; have := h3 a x1; omega
      subst e
      congr 1
      refine ih u h2 h4 (fun x => ⟨fun hx => ?_, fun hx => ?_⟩)
      · rcases List.mem_cons.1 ((h x).1 (by simp [hx])) with e | e
        · have := h1 x hx; omega
        · exact e
      · rcases List.mem_cons.1 ((h x).2 (by simp [hx])) with e | e
        · have := h3 x hx; omega
        · exact e
theorem rdAt (pre : List Int) (b : Int) (t : List Int) : rd (pre ++ b :: t) (pre.length : Int) = b := by
  simp [rd, List.getD_eq_getElem?_getD]
/-- what is come to from the roots -/
def Rch (ns : List S60) (rs : List Int) (x : Int) : Prop := ∀ S : Int → Prop, (∀ y ∈ rs, S y) → (∀ y z, S y → z ∈ (rd_T60 ns y).f0 → S z) → S x
theorem Rch.root {ns : List S60} {rs : List Int} {x : Int} (h : x ∈ rs) : Rch ns rs x := fun _ h1 _ => h1 x h
theorem Rch.hold {ns : List S60} {rs : List Int} {x z : Int} (h : Rch ns rs x) (hz : z ∈ (rd_T60 ns x).f0) : Rch ns rs z := fun S h1 h2 => h2 _ _ (h S h1 h2) hz
theorem Rch.least {ns : List S60} {rs : List Int} {x : Int} (h : Rch ns rs x) (S : Int → Prop) (h1 : ∀ y ∈ rs, S y) (h2 : ∀ y z, S y → z ∈ (rd_T60 ns y).f0 → S z) : S x := h S h1 h2
theorem nsB_at (ns : List S60) (rest : List S60) : ∀ pre : List S60, ns = pre ++ rest → nsB ns rest pre.length = true → ∀ i : Int, pre.length ≤ i → i < ns.length →
    (rd_T60 ns i).f0.length ≤ 6 ∧ (∀ x ∈ (rd_T60 ns i).f0, 0 ≤ x ∧ x < i ∧ (rd_T60 ns x).f1 = false) ∧ ((rd_T60 ns i).f1 = true → (rd_T60 ns i).f0 = []) := by
  induction rest with
  | nil => intro pre h hb i h0 h1; rw [h] at h1; simp at h1; omega
  | cons b t ih =>
    intro pre h hb i h0 h1
    have hr : rd_T60 ns (pre.length : Int) = b := rd65 ns pre.length b (by rw [h]; simp)
    simp only [nsB, Bool.and_eq_true, decide_eq_true_eq] at hb
    obtain ⟨⟨⟨hb1, hb2⟩, hb3⟩, hb4⟩ := hb
    by_cases e : i = pre.length
    · subst e
      rw [hr]
      refine ⟨hb2, fun x hx => ?_, fun hg => ?_⟩
      · have := List.all_eq_true.1 hb1 x hx
        simp only [upB, Bool.and_eq_true, decide_eq_true_eq, Bool.not_eq_true'] at this
        exact ⟨this.1.1, this.1.2, this.2⟩
      · rw [hg] at hb3
        have : b.f0.length = 0 := by simpa using hb3
        exact List.eq_nil_of_length_eq_zero this
    · exact ih (pre ++ [b]) (by rw [h]; simp) (by simpa using hb4) i (by simp; omega) h1
structure GN (ns : List S60) (rs : List Int) : Prop where
  nn : ns.length ≤ 14
  nr : rs.length ≤ 6
  six : ∀ i : Int, 0 ≤ i → i < ns.length → (rd_T60 ns i).f0.length ≤ 6
  up : ∀ i : Int, 0 ≤ i → i < ns.length → ∀ x ∈ (rd_T60 ns i).f0, 0 ≤ x ∧ x < i ∧ (rd_T60 ns x).f1 = false
  gone : ∀ i : Int, 0 ≤ i → i < ns.length → (rd_T60 ns i).f1 = true → (rd_T60 ns i).f0 = []
  root : ∀ x ∈ rs, 0 ≤ x ∧ x < ns.length ∧ (rd_T60 ns x).f1 = false
theorem goodN_GN {ns : List S60} {rs : List Int} (h : goodN ns rs = true) : GN ns rs := by
  simp only [goodN, Bool.and_eq_true, decide_eq_true_eq] at h
  obtain ⟨⟨⟨h1, h2⟩, h3⟩, h4⟩ := h
  have H := nsB_at ns ns [] rfl h1
  refine ⟨h3, h4, fun i a b => (H i (by simpa using a) b).1, fun i a b => (H i (by simpa using a) b).2.1, fun i a b => (H i (by simpa using a) b).2.2, fun x hx => ?_⟩
  have := List.all_eq_true.1 h2 x hx
  simp only [upB, Bool.and_eq_true, decide_eq_true_eq, Bool.not_eq_true'] at this
  exact ⟨this.1.1, this.1.2, this.2⟩
theorem Rch.range {ns : List S60} {rs : List Int} (G : GN ns rs) {x : Int} (h : Rch ns rs x) : 0 ≤ x ∧ x < ns.length :=
  h.least (fun x => 0 ≤ x ∧ x < ns.length) (fun y hy => ⟨(G.root y hy).1, (G.root y hy).2.1⟩) (fun y z hy hz => ⟨(G.up y hy.1 hy.2 z hz).1, by have := (G.up y hy.1 hy.2 z hz).2.1; omega⟩)
/-! the reference's way: backwards -/
theorem puts_mem (l : List Int) : ∀ (out : List Int) (x : Int), x ∈ l.foldl putL out ↔ x ∈ l ∨ x ∈ out := by
  induction l with
  | nil => intro out x; simp
  | cons a t ih =>
    intro out x
    rw [List.foldl_cons, ih, putL_mem, List.mem_cons]
    constructor
    · rintro (h | h | h)
      · exact .inl (.inr h)
      · exact .inl (.inl h)
      · exact .inr h
    · rintro ((h | h) | h)
      · exact .inr (.inl h)
      · exact .inl h
      · exact .inr (.inr h)
theorem puts_sorted (l : List Int) : ∀ out : List Int, out.Pairwise (· < ·) → (l.foldl putL out).Pairwise (· < ·) := by
  induction l with
  | nil => intro out h; exact h
  | cons a t ih => intro out h; exact ih _ (putL_sorted a h)
theorem puts_len (l : List Int) : ∀ out : List Int, (l.foldl putL out).length ≤ out.length + l.length := by
  induction l with
  | nil => intro out; simp
  | cons a t ih => intro out; have := ih (putL out a); have := putL_len out a; simp only [List.foldl_cons, List.length_cons]; omega
def backL (ns : List S60) : Nat → List Int → List Int
  | 0, out => out
  | d + 1, out => backL ns d (if (d : Int) ∈ out then (rd_T60 ns d).f0.foldl putL out else out)
theorem back_sorted (ns : List S60) (d : Nat) : ∀ out : List Int, out.Pairwise (· < ·) → (backL ns d out).Pairwise (· < ·) := by
  induction d with
  | zero => intro out h; exact h
  | succ d ih => intro out h; unfold backL; split; exact ih _ (puts_sorted _ _ h); exact ih _ h
theorem back_sub (ns : List S60) (d : Nat) : ∀ (out : List Int) (x : Int), x ∈ out → x ∈ backL ns d out := by
  induction d with
  | zero => intro out x h; exact h
  | succ d ih => intro out x h; unfold backL; split; exact ih _ _ ((puts_mem _ _ _).2 (.inr h)); exact ih _ _ h
theorem back_rch {ns : List S60} {rs : List Int} (d : Nat) : ∀ out : List Int, (∀ x ∈ out, Rch ns rs x) → ∀ x ∈ backL ns d out, Rch ns rs x := by
  induction d with
  | zero => intro out h; exact h
  | succ d ih =>
    intro out h
    unfold backL
    split
    · rename_i hd
      refine ih _ (fun x hx => ?_)
      rcases (puts_mem _ _ _).1 hx with hx | hx
      · exact (h _ hd).hold hx
      · exact h x hx
    · exact ih _ h
theorem back_closed {ns : List S60} {rs : List Int} (G : GN ns rs) (d : Nat) : ∀ out : List Int, (d : Int) ≤ ns.length → (∀ x ∈ out, 0 ≤ x ∧ x < ns.length) → (∀ y ∈ out, (d : Int) ≤ y → ∀ z ∈ (rd_T60 ns y).f0, z ∈ out) → ∀ y ∈ backL ns d out, ∀ z ∈ (rd_T60 ns y).f0, z ∈ backL ns d out := by
  induction d with
  | zero => intro out _ hr h y hy; exact h y hy (hr y hy).1
  | succ d ih =>
    intro out hd hr h
    unfold backL
    by_cases c : (d : Int) ∈ out
    · rw [if_pos c]
      refine ih _ (by omega) (fun x hx => ?_) (fun y hy hdy z hz => ?_)
      · rcases (puts_mem _ _ _).1 hx with hx | hx
        · have := G.up d (by omega) (by omega) x hx; omega
        · exact hr x hx
      · rcases (puts_mem _ _ _).1 hy with hy | hy
        · have := G.up d (by omega) (by omega) y hy; omega
        · by_cases e : y = d
          · subst e; exact (puts_mem _ _ _).2 (.inl hz)
          · exact (puts_mem _ _ _).2 (.inr (h y hy (by omega) z hz))
    · rw [if_neg c]
      refine ih _ (by omega) hr (fun y hy hdy z hz => h y hy ?_ z hz)
      have : y ≠ d := by rintro rfl; exact c hy
      omega
def reachF (ns : List S60) (rs : List Int) : List Int := backL ns ns.length (rs.foldl putL [])
theorem reachF_mem {ns : List S60} {rs : List Int} (G : GN ns rs) (x : Int) : x ∈ reachF ns rs ↔ Rch ns rs x := by
  constructor
  · exact back_rch _ _ (fun y hy => by rcases (puts_mem _ _ _).1 hy with hy | hy; exact Rch.root hy; simp at hy) x
  · intro h
    refine h.least (fun x => x ∈ reachF ns rs) (fun y hy => back_sub _ _ _ _ ((puts_mem _ _ _).2 (.inl hy))) (fun y z hy hz => ?_)
    refine back_closed G ns.length _ (by omega) (fun x hx => ?_) (fun y hy h2 => ?_) y hy z hz
    · rcases (puts_mem _ _ _).1 hx with hx | hx
      · exact ⟨(G.root x hx).1, (G.root x hx).2.1⟩
      · simp at hx
    · rcases (puts_mem _ _ _).1 hy with hx | hx
      · have := (G.root y hx).2.1; omega
      · simp at hx
theorem reachF_sorted (ns : List S60) (rs : List Int) : (reachF ns rs).Pairwise (· < ·) := back_sorted _ _ _ (puts_sorted _ _ (by simp))
theorem reachF_len {ns : List S60} {rs : List Int} (G : GN ns rs) : (reachF ns rs).length ≤ 14 := by
  have := sorted_len (reachF ns rs) 0 ns.length (reachF_sorted ns rs) (fun x hx => ((reachF_mem G x).1 hx).range G)
  have := G.nn
  omega
/-- the places of what is true -/
def trueF : List Bool → Int → List Int
  | [], _ => []
  | b :: t, i => if b = true then i :: trueF t (i + 1) else trueF t (i + 1)
theorem trueF_mem (l : List Bool) : ∀ (i x : Int), x ∈ trueF l i ↔ i ≤ x ∧ x < i + l.length ∧ rdOf false l (x - i) = true := by
  induction l with
  | nil => intro i x; simp [trueF]; omega
  | cons b t ih =>
    intro i x
    have key : i + 1 ≤ x → rdOf false (b :: t) (x - i) = rdOf false t (x - (i + 1)) := by
      intro h
      have : (x - i).toNat = (x - (i + 1)).toNat + 1 := by omega
      simp [rdOf, this]
    have k0 : rdOf false (b :: t) (i - i) = b := by simp [rdOf]
    unfold trueF
    simp only [List.length_cons]
    by_cases c : b = true
    · rw [if_pos c, List.mem_cons, ih]
      constructor
      · rintro (rfl | ⟨h1, h2, h3⟩)
        · exact ⟨by omega, by omega, by rw [k0]; exact c⟩
        · exact ⟨by omega, by omega, by rw [key h1]; exact h3⟩
      · rintro ⟨h1, h2, h3⟩
        by_cases e : x = i
        · exact .inl e
        · exact .inr ⟨by omega, by omega, by rw [← key (by omega)]; exact h3⟩
    · rw [if_neg c, ih]
      constructor
      · rintro ⟨h1, h2, h3⟩
        exact ⟨by omega, by omega, by rw [key h1]; exact h3⟩
      · rintro ⟨h1, h2, h3⟩
        have e : x ≠ i := by rintro rfl; rw [k0] at h3; exact c h3
        exact ⟨by omega, by omega, by rw [← key (by omega)]; exact h3⟩
theorem trueF_sorted (l : List Bool) : ∀ i : Int, (trueF l i).Pairwise (· < ·) := by
  induction l with
  | nil => intro i; simp [trueF]
  | cons b t ih =>
    intro i
    unfold trueF
    split
    · refine List.pairwise_cons.2 ⟨fun x hx => ?_, ih _⟩
      have := (trueF_mem t (i + 1) x).1 hx
      omega
    · exact ih _
theorem trueF_reach {ns : List S60} {rs : List Int} (G : GN ns rs) {r : List Bool} (hl : r.length = ns.length) (h : ∀ x : Int, 0 ≤ x → x < ns.length → (rdOf false r x = true ↔ Rch ns rs x)) : trueF r 0 = reachF ns rs := by
  refine sorted_eq _ _ (trueF_sorted r 0) (reachF_sorted ns rs) (fun x => ?_)
  rw [trueF_mem, reachF_mem G]
  simp only [Int.zero_add, Int.sub_zero]
  constructor
  · rintro ⟨h1, h2, h3⟩
    exact (h x h1 (by omega)).1 h3
  · intro hx
    have := hx.range G
    exact ⟨this.1, by omega, (h x this.1 this.2).2 hx⟩

/-- nodes that hold six at most, all below themselves -/
def HN (ns : List S60) : Prop := ∀ (i : Nat) (a : S60), ns[i]? = some a → a.f0.length ≤ 6 ∧ ∀ x ∈ a.f0, 0 ≤ x ∧ x < (i : Int)
theorem HN.set {ns : List S60} (h : HN ns) (v : Nat) : HN (ns.set v ⟨[], true⟩) := by
  intro i a ha
  rw [List.getElem?_set] at ha
  by_cases c : v = i
  · rw [if_pos c] at ha
    by_cases c2 : v < ns.length
    · rw [if_pos c2] at ha; have := Option.some.inj ha; subst this; simp
    · rw [if_neg c2] at ha; simp at ha
  · rw [if_neg c] at ha; exact h i a ha
theorem HN.six {ns : List S60} (h : HN ns) : ∀ a ∈ ns, a.f0.length ≤ 1048576 := by
  intro a ha
  obtain ⟨i, hi⟩ := List.getElem?_of_mem ha
  have := (h i a hi).1
  omega
theorem less_ev (v : Nat) : ∀ (ns : List S60) (cs gl : List Int), ns.length ≤ 14 → cs.length = ns.length → HN ns → v < ns.length → gl.length + 7 ^ v ≤ 1000000000000 →
    ∃ (ns' : List S60) (cs' gl' : List Int), Ev (fun k => spec_l10Less.f k ns cs gl (v : Int)) (ns', cs', gl') ∧ ns'.length = ns.length ∧ cs'.length = cs.length ∧ HN ns' ∧ gl'.length ≤ gl.length + 7 ^ v := by
  induction v using Nat.strongRecOn with
  | _ v ih =>
    intro ns cs gl hn hc hh hv hg
    have hp : 1 ≤ 7 ^ v := by first | exact Nat.pow_pos (by omega) | exact Nat.pos_pow_of_pos _ (by omega) | exact Nat.pos_of_ne_zero (by simp)
    by_cases c0 : 0 < wrap64 (rd cs v - 1)
    · exact ⟨ns, cs.set v (wrap64 (rd cs v - 1)), gl, Ev.end (fun k => by rw [spec_l10Less.f, if_pos (by omega), if_pos (by omega), if_pos c0, Int.toNat_natCast]), rfl, by simp, hh, by omega⟩
    · obtain ⟨b, hb⟩ : ∃ b, ns[v]? = some b := ⟨ns[v], List.getElem?_eq_getElem hv⟩
      have hr : rd_T60 ns (v : Int) = b := rd65 ns v b hb
      obtain ⟨h6, hx⟩ := hh v b hb
      have run : ∀ (hs : List Int), (∀ x ∈ hs, 0 ≤ x ∧ x < (v : Int)) → ∀ (n1 : List S60) (c1 g1 : List Int), n1.length = ns.length → c1.length = cs.length → HN n1 → g1.length + hs.length * 7 ^ (v - 1) ≤ 1000000000000 →
          ∃ (ns' : List S60) (cs' gl' : List Int), Ev (fun k => spec_l10Less.run (fun a b c d => spec_l10Less.f k a b c d) hs n1 c1 g1) (ns', cs', gl') ∧ ns'.length = ns.length ∧ cs'.length = cs.length ∧ HN ns' ∧ gl'.length ≤ g1.length + hs.length * 7 ^ (v - 1) := by
        intro hs
        induction hs with
        | nil => intro _ n1 c1 g1 a1 a2 a3 a4; exact ⟨n1, c1, g1, Ev.now _, a1, a2, a3, by simp⟩
        | cons x t iht =>
          intro hx2 n1 c1 g1 a1 a2 a3 a4
          obtain ⟨x0, x1⟩ := hx2 x (by simp)
          obtain ⟨y, rfl⟩ := Int.eq_ofNat_of_zero_le x0
          have hle : 7 ^ y ≤ 7 ^ (v - 1) := Nat.pow_le_pow_right (by omega) (by omega)
          simp only [List.length_cons, Nat.succ_mul] at a4
          obtain ⟨n2, c2, g2, e1, b1, b2, b3, b4⟩ := ih y (by omega) n1 c1 g1 (by omega) (by omega) a3 (by omega) (by omega)
          obtain ⟨n3, c3, g3, e2, d1, d2, d3, d4⟩ := iht (fun z hz => hx2 z (by simp [hz])) n2 c2 g2 (by omega) (by omega) b3 (by omega)
          refine ⟨n3, c3, g3, ?_, d1, d2, d3, by simp only [List.length_cons, Nat.succ_mul]; omega⟩
          simp only [spec_l10Less.run]
          exact Ev.bind e1 e2
      have hmul : b.f0.length * 7 ^ (v - 1) ≤ 6 * 7 ^ (v - 1) := Nat.mul_le_mul_right _ h6
      have hpow : b.f0.length * 7 ^ (v - 1) + 1 ≤ 7 ^ v := by
        rcases Nat.eq_zero_or_pos v with rfl | hpos
        · have : b.f0 = [] := by
            cases hb0 : b.f0 with
            | nil => rfl
            | cons z t => have := hx z (by rw [hb0]; simp); omega
          rw [this]; simp
        · have e : 7 ^ v = 7 ^ (v - 1) * 7 := by rw [← Nat.pow_succ]; congr 1; omega
          have : 1 ≤ 7 ^ (v - 1) := by first | exact Nat.pow_pos (by omega) | exact Nat.pos_pow_of_pos _ (by omega) | exact Nat.pos_of_ne_zero (by simp)
          omega
      obtain ⟨n2, c2, g2, e1, b1, b2, b3, b4⟩ := run b.f0 hx (ns.set v ⟨[], true⟩) (cs.set v (wrap64 (rd cs v - 1))) (gl ++ [(v : Int)]) (by simp) (by simp) (hh.set v) (by simp; omega)
      refine ⟨n2, c2, g2, ?_, b1, b2, b3, by simp at b4; omega⟩
      exact Ev.step (fun k => by rw [spec_l10Less.f, if_pos (by omega), if_pos (by omega), if_neg c0, if_pos (by omega), if_pos (by omega), hr, Int.toNat_natCast]) e1
theorem GN.hn {ns : List S60} {rs : List Int} (G : GN ns rs) : HN ns := by
  intro i a ha
  have hi : i < ns.length := (List.getElem?_eq_some_iff.1 ha).1
  have hr := rd65 ns i a ha
  have h6 := G.six i (by omega) (by omega)
  have hu := G.up i (by omega) (by omega)
  rw [hr] at h6 hu
  exact ⟨h6, fun x hx => ⟨(hu x hx).1, (hu x hx).2.1⟩⟩
theorem without_eq (l : List Int) (a : Int) (hl : l.length ≤ 1048576) (h0 : 0 ≤ a) (h1 : a < l.length) : spec_l10Without.f l a = some (l.take a.toNat ++ l.drop (a + 1).toNat) := by
  have hw : wrap64 (a + 1) = a + 1 := wrap_id (by omega) (by omega)
  unfold spec_l10Without.f
  simp only [Option.bind_some, List.length_nil, List.nil_append, hw]
  have t2 : (l.drop (a + 1).toNat).length ≤ l.length := by simp
  have t3 : (l.take a.toNat).length ≤ l.length := by simp; omega
  rw [if_pos h0, if_pos (by omega), if_pos (by omega), if_pos (by omega), if_pos (by omega), if_pos (by omega)]
theorem delete_eq (l : List Int) (a : Int) (hl : l.length ≤ 1048576) (h0 : 0 ≤ a) (h1 : a < l.length) : slices_Delete_int_int.f l a (wrap64 (a + 1)) = some (l.take a.toNat ++ l.drop (a + 1).toNat) := by
  have hw : wrap64 (a + 1) = a + 1 := wrap_id (by omega) (by omega)
  unfold slices_Delete_int_int.f
  rw [hw, if_pos h0, if_pos (by omega), if_pos (by omega)]
theorem op_eq (ns : List S60) (rs cs : List Int) (a : Int) (hl : ns.length ≤ 1048576) (hk : ∀ a ∈ ns, a.f0.length ≤ 1048576) (hv : rs.length ≤ 1048576) (hc : cs.length ≤ 1048576) :
    ∃ (n' : List S60) (r' c' l : List Int) (b : Bool), n'.length ≤ 1048576 ∧ (∀ a ∈ n', a.f0.length ≤ 1048576) ∧ r'.length ≤ 1048576 ∧ c'.length ≤ 1048576 ∧ l.length ≤ 2000000000000 ∧ Ev (fun k => spec_DropRoot.f k ns rs cs a) (n', r', c', l, b) ∧ Ev (fun k => impl_DropRoot.f k ns rs cs a) (n', r', c', l, b) := by
  unfold spec_DropRoot.f impl_DropRoot.f
  have hs := goodGraph_spec ns rs cs hl hv hc hk
  have hi := goodGraph_impl ns rs cs hl hv hc hk
  have hw : wrap64 ((rs.length : Int) - 1) = rs.length - 1 := wrap_id (by omega) (by omega)
  cases g : goodG ns rs cs with
  | false =>
    rw [g] at hs hi
    exact ⟨[], [], [], [], false, by simp, by simp, by simp, by simp, by simp, Ev.bind hs (Ev.pos rfl (Ev.now _)), Ev.bind hi (Ev.pos rfl (Ev.now _))⟩
  | true =>
    rw [g] at hs hi
    have gn : goodN ns rs = true := by simp only [goodG, Bool.and_eq_true] at g; exact g.1.1
    have G := goodN_GN gn
    have hcl : cs.length = ns.length := by
      simp only [goodG, Bool.and_eq_true, decide_eq_true_eq] at g
      rw [g.1.2, countsN_length]
    by_cases q : 0 ≤ a ∧ a < rs.length
    · obtain ⟨q0, q1⟩ := q
      have hm : rd rs a ∈ rs := by
        have hlt : a.toNat < rs.length := by omega
        have : rd rs a = rs[a.toNat] := by simp [rd, List.getD_eq_getElem?_getD, hlt]
        rw [this]; exact List.getElem_mem hlt
      obtain ⟨r0, r1, _⟩ := G.root _ hm
      obtain ⟨y, hy⟩ := Int.eq_ofNat_of_zero_le r0
      have hn14 := G.nn
      have hp : 7 ^ y ≤ 7 ^ 13 := Nat.pow_le_pow_right (by omega) (by omega)
      obtain ⟨n', c', l', e1, b1, b2, b3, b4⟩ := less_ev y ns cs [] hn14 hcl G.hn (by omega) (by simp; omega)
      rw [← hy] at e1
      have w1 := without_eq rs a hv q0 q1
      have w2 := delete_eq rs a hv q0 q1
      have hrl : (rs.take a.toNat ++ rs.drop (a + 1).toNat).length ≤ 1048576 := by simp; omega
      have o1 := l10Own_ev ns rs cs hl hk hv hc
      have o2 := ownGraph_ev ns rs cs hl hk hv hc
      have o3 := l10Own_ev n' (rs.take a.toNat ++ rs.drop (a + 1).toNat) c' (by omega) b3.six hrl (by omega)
      refine ⟨n', rs.take a.toNat ++ rs.drop (a + 1).toNat, c', l', true, by omega, b3.six, hrl, by omega, by simp at b4; omega, ?_, ?_⟩
      · exact Ev.bind hs (Ev.neg (by simp) (Ev.neg (by omega) (Ev.neg (by omega) (Ev.bind o1 (Ev.pos q0 (Ev.pos (by simpa using q1) (Ev.cbind w1 (Ev.bind e1 (Ev.bind o3 (Ev.now _))))))))))
      · exact Ev.bind hi (Ev.neg (by simp) (Ev.cbind (within_eq _ _ _) (Ev.neg (by rw [hw]; simp; omega) (Ev.bind o2 (Ev.cbind w2 (Ev.pos q0 (Ev.pos (by simpa using q1) (Ev.bind e1 (Ev.now _)))))))))
    · refine ⟨[], [], [], [], false, by simp, by simp, by simp, by simp, by simp, ?_, ?_⟩
      · by_cases q0 : a < 0
        · exact Ev.bind hs (Ev.neg (by simp) (Ev.pos q0 (Ev.now _)))
        · exact Ev.bind hs (Ev.neg (by simp) (Ev.neg q0 (Ev.pos (by omega) (Ev.now _))))
      · exact Ev.bind hi (Ev.neg (by simp) (Ev.cbind (within_eq _ _ _) (Ev.pos (by rw [hw]; simp; omega) (Ev.now _))))

theorem markGraph_evB (ns : List S60) (rs cs : List Int) (l0 : ns.length ≤ 1048576) (lb : ∀ a ∈ ns, a.f0.length ≤ 1048576) (l1 : rs.length ≤ 1048576) (l2 : cs.length ≤ 1048576) :
    ∃ (m : Int) (ns' : List S60) (rs' cs' : List Int), Ev (fun k => laws_markGraph.f k ns rs cs 1) (m, ns', rs', cs') ∧ 0 ≤ m ∧ m ≤ 1152921504606846976 ∧ Ev (fun k => laws_heldGraph.f k ns' rs' cs' 1) m := by
  have hz := szB_le ns lb
  have hn := szB_len ns
  refine ⟨1 + szB ns + rs.length + cs.length, mkB 1 ns, ints (1 + szB ns) rs.length, ints (1 + szB ns + rs.length) cs.length, ?_, by omega, by omega, ?_⟩
  · unfold laws_markGraph.f
    exact Ev.bind (markNodeS_ev ns 1 (by omega) (by omega)) (Ev.bind (markIntS_ev rs (1 + szB ns) (by omega) (by omega)) (Ev.bind (markIntS_ev cs (1 + szB ns + rs.length) (by omega) (by omega)) (Ev.now _)))
  · unfold laws_heldGraph.f laws_heldNodeS.f
    have e := heldNodeS_loop ns [] 1 (by omega) (by omega) (by simp; omega)
    exact Ev.bind (by simpa using e) (Ev.neg (by omega) (Ev.bind (heldIntS_ev rs.length (1 + szB ns) (by omega) (by omega)) (Ev.neg (by omega) (Ev.bind (heldIntS_ev cs.length (1 + szB ns + rs.length) (by omega) (by omega)) (Ev.neg (by omega) (Ev.now _))))))

theorem FnExactDropRoot : laws_FnExactDropRoot.Pure := by
  intro b0 rs cs a q0 q1 q2 _
  refine Ev.rounds (g := fun k => laws_FnExactDropRoot.f k b0 rs cs a) (r := true) ?_
  unfold laws_FnExactDropRoot.f
  obtain ⟨z, hz, hl⟩ := szGraph_ev b0 rs cs q0 q1.1 q2.1
  by_cases hn : z < 0
  · exact Ev.bind hz (Ev.pos hn (Ev.now _))
  obtain ⟨l0, lb, l1, l2⟩ := hl hn
  have ht := toGraph_ev b0 rs cs l0 lb l1 l2
  have m0 : (b0.map brOf).length ≤ 1048576 := by simpa using l0
  have mb : ∀ a ∈ b0.map brOf, a.f0.length ≤ 1048576 := by intro a ha; obtain ⟨c, hc, rfl⟩ := List.mem_map.1 ha; exact lb c hc
  generalize b0.map brOf = ns at ht m0 mb
  have hp := eqGraph_same ns rs cs m0 mb l1 l2
  obtain ⟨n', r', c', l, b, p0, pb, p1, p2, pl, e1, e2⟩ := op_eq ns rs cs a m0 mb l1 l2
  have he := eqGraph_same n' r' c' p0 pb p1 p2
  have hi := eqIntS_same l (by omega)
  obtain ⟨mk, nk, rk, ck, hk, hk0⟩ := markGraph_ev' ns rs cs m0 mb l1 l2
  obtain ⟨m, n2, r2, c2, hm, hm0, hm1, hh⟩ := markGraph_evB n' r' c' p0 pb p1 p2
  have hmi := markIntS_ev l m hm0 (by omega)
  have hhi := heldIntS_ev l.length m hm0 (by omega)
  exact Ev.bind hz (Ev.neg hn (Ev.bind ht (Ev.bind e1 (Ev.bind ht (Ev.bind e2 (Ev.bind he (Ev.pos rfl (Ev.bind hi (Ev.pos rfl (Ev.neg (by simp) (Ev.bind ht (Ev.bind hp (Ev.pos rfl (Ev.bind hk (Ev.neg hk0 (Ev.bind he (Ev.pos rfl (Ev.bind hi (Ev.pos rfl (Ev.neg (by simp) (Ev.bind hm (Ev.bind hmi (Ev.bind hh (Ev.neg (by omega) (Ev.bind hhi (Ev.neg (by omega) (Ev.neg (by simp) (Ev.bind ht (Ev.bind e2 (Ev.bind he (Ev.pos rfl (Ev.bind hi (Ev.pos rfl (Ev.neg (by simp) (Ev.bind hh (Ev.neg (by omega) (Ev.bind hhi (Ev.neg (by omega) (Ev.neg (by simp) (Ev.now _))))))))))))))))))))))))))))))))))))))))

end Go.Proofs.Ytdhclelfnbjikaa.Pure
