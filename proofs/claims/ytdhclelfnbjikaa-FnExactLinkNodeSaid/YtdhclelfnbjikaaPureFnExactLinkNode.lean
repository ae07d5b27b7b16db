/- LinkNode of the program answers as the reference for all arguments. No condition. -/
import Derived.Test.YtdhclelfnbjikaaPFnExactLinkNodex12
set_option maxRecDepth 100000
set_option linter.unusedVariables false
set_option linter.unusedSimpArgs false
namespace Go.Proofs.Ytdhclelfnbjikaa.Pure
open Go.Proofs.Ytdhclelfnbjikaa Go.RowKit Go.Proofs.Ytdhclelfnbjikaa.PFnExactLinkNode Go.Proofs.YtdhclelfnbjikaaW.PrintWords Go.Proofs.YtdhclelfnbjikaaW.PrintLast

theorem wrap_id {x : Int} (h0 : -9223372036854775808 ≤ x) (h1 : x < 9223372036854775808) : wrap64 x = x := by
  unfold wrap64; omega
theorem Ev.pos {α : Type} {c : Prop} [Decidable c] {g f : Nat → Option α} {r : α} (h : c) (k : Ev g r) : Ev (fun n => if c then g n else f n) r := by
  simpa only [if_pos h] using k
theorem Ev.neg {α : Type} {c : Prop} [Decidable c] {g f : Nat → Option α} {r : α} (h : ¬ c) (k : Ev f r) : Ev (fun n => if c then g n else f n) r := by
  simpa only [if_neg h] using k
theorem Ev.val {α : Type} {x : Option α} {r : α} (h : x = some r) : Ev (fun _ => x) r := by
  rw [h]; exact Ev.now r
theorem Ev.end {α : Type} {g : Nat → Option α} {r : α} (h : ∀ k, g (k + 1) = some r) : Ev g r := Ev.step (f := fun _ => some r) h (Ev.now r)
theorem Ev.cbind {α β : Type} {x : Option α} {f : Nat → α → Option β} {a : α} {r : β} (h : x = some a) (k : Ev (fun n => f n a) r) : Ev (fun n => x.bind (f n)) r := by
  subst h; exact k
theorem Ev.uniq {α : Type} {g : Nat → Option α} {r q : α} (h : Ev g r) (k : Ev g q) : r = q := by
  obtain ⟨K, h⟩ := h
  obtain ⟨L, k⟩ := k
  have h1 := h (max K L) (by omega)
  have h2 := k (max K L) (by omega)
  rw [h1] at h2
  exact Option.some.inj h2
theorem Ev.succ {α : Type} {g : Nat → Option α} {r : α} (h : Ev (fun k => g (k + 1)) r) : Ev g r := Ev.step (fun _ => rfl) h

theorem within_eq (a b c : Int) : impl_within.f a b c = some (decide (b ≤ a ∧ a ≤ c)) := by
  by_cases h : b ≤ a <;> simp [impl_within.f, h]

theorem eqIntS_loop (l : List Int) (hl : l.length ≤ 4611686018427387904) (d : Nat) : ∀ i : Int, 0 ≤ i → i ≤ l.length → (l.length : Int) - i = d → Ev (fun k => laws_eqIntS.l0 k l l i) true := by
  induction d with
  | zero => intro i h0 h1 hd; exact Ev.end (fun k => by simp only [laws_eqIntS.l0]; rw [if_neg (by omega)])
  | succ d ih =>
    intro i h0 h1 hd
    refine Ev.step (fun k => ?_) (ih (i + 1) (by omega) (by omega) (by omega))
    have hw := wrap_id (x := i + 1) (by omega) (by omega)
    rw [laws_eqIntS.l0, if_pos (by omega), if_pos h0, if_pos (by omega), if_pos rfl, hw]
theorem eqIntS_same (l : List Int) (hl : l.length ≤ 4611686018427387904) : Ev (fun k => laws_eqIntS.f k l l) true := by
  unfold laws_eqIntS.f; exact Ev.pos (by trivial) (eqIntS_loop l hl l.length 0 (by omega) (by omega) (by omega))


/-- A slice written element by element from another: one induction for all kinds. -/
theorem copy_gen {α β : Type} {L : Nat → List α → List β → Int → Option (List β)} (conv : α → β) (M : Nat) (B : α → Prop)
    (hend : ∀ (x : List α) (y : List β) (i : Int), ¬ i < x.length → Ev (fun k => L k x y i) y)
    (hstep : ∀ (x : List α) (y : List β) (i : Nat) (a : α) (r : List β), i < x.length → i < y.length → x.length ≤ M → x[i]? = some a → B a → Ev (fun k => L k x (y.set i (conv a)) ((i + 1 : Nat) : Int)) r → Ev (fun k => L k x y i) r)
    (rest : List α) : ∀ (pre : List α) (tail : List β), tail.length = rest.length → pre.length + rest.length ≤ M → (∀ a ∈ rest, B a) →
      Ev (fun k => L k (pre ++ rest) (pre.map conv ++ tail) pre.length) ((pre ++ rest).map conv) := by
  induction rest with
  | nil =>
    intro pre tail hl hM hB
    obtain rfl : tail = [] := List.length_eq_zero_iff.1 hl
    simpa using hend pre (pre.map conv) pre.length (by omega)
  | cons a rest ih =>
    intro pre tail hl hM hB
    match tail, hl with
    | b :: tail, hl =>
      simp only [List.length_cons] at hl hM
      have h := ih (pre ++ [a]) tail (by omega) (by simp; omega) (fun x hx => hB x (by simp [hx]))
      simp only [List.append_assoc, List.singleton_append, List.length_append, List.length_singleton, List.map_append, List.map_cons, List.map_nil] at h
      refine hstep _ _ _ a _ (by simp) (by simp) (by simp; omega) (by simp) (hB a (by simp)) ?_
      have e : (List.map conv pre ++ b :: tail).set pre.length (conv a) = List.map conv pre ++ conv a :: tail := by
        rw [List.set_append_right _ _ (by simp)]
        simp
      rw [e]
      simpa using h

theorem toIntS_ev (l : List Int) (hl : l.length ≤ 35184372088832) : Ev (fun k => laws_toIntS.f k l) l := by
  have h := copy_gen (L := laws_toIntS.l0) (fun a => a) 35184372088832 (fun _ => True) (fun x y i hi => Ev.end (fun k => by rw [laws_toIntS.l0, if_neg hi]))
    (fun x y i a r hi hy hM ha _ he => Ev.step (fun k => by
      have hw := wrap_id (x := (i : Int) + 1) (by omega) (by omega)
      have hr : rd x i = a := by simp [rd, rdOf, List.getD_eq_getElem?_getD, ha]
      rw [laws_toIntS.l0, if_pos (by omega), if_pos (by omega), if_pos (by omega), hr, hw]
      simp) he) l [] (List.replicate l.length 0) (by simp) (by simpa using hl) (fun _ _ => trivial)
  unfold laws_toIntS.f
  refine Ev.pos (by omega) (Ev.pos (by simpa using hl) ?_)
  simpa using h


theorem szIntS_ev (l : List Int) (hM : l.length ≤ maxLen) (v : Int) (h0 : 0 ≤ v) (h1 : v ≤ 1048576) :
    ∃ r, laws_szIntS.f l v = some r ∧ r ≤ v ∧ -1 ≤ r ∧ (0 ≤ r → l.length ≤ 1048576) := by
  unfold laws_szIntS.f
  have e : wrap64 (v - (l.length : Int)) = v - l.length := by unfold maxLen at hM; exact wrap_id (by omega) (by omega)
  rw [e]
  by_cases hn : v - (l.length : Int) < 0
  · exact ⟨-1, if_pos hn, by omega, by omega, fun h => by omega⟩
  · exact ⟨v - l.length, if_neg hn, by omega, by omega, fun _ => by omega⟩

theorem sz_gen {α : Type} {L : Nat → List α → Int → Int → Option Int} (Q B : α → Prop) (M : Nat)
    (hend : ∀ (x : List α) (v i : Int), ¬ i < x.length → Ev (fun k => L k x v i) v)
    (hstep : ∀ (x : List α) (v : Int) (i : Nat) (a : α), i < x.length → x.length ≤ M → x[i]? = some a → Q a → 0 ≤ v → v ≤ 1048576 → ∃ r, r ≤ v ∧ -1 ≤ r ∧ (0 ≤ r → B a) ∧ (r < 0 → Ev (fun k => L k x v i) (-1)) ∧ (0 ≤ r → ∀ q, Ev (fun k => L k x r ((i + 1 : Nat) : Int)) q → Ev (fun k => L k x v i) q))
    (rest : List α) : ∀ (pre : List α) (v : Int), 0 ≤ v → v ≤ 1048576 → pre.length + rest.length ≤ M → (∀ a ∈ rest, Q a) →
      ∃ r, Ev (fun k => L k (pre ++ rest) v pre.length) r ∧ r ≤ v ∧ -1 ≤ r ∧ (0 ≤ r → ∀ a ∈ rest, B a) := by
  induction rest with
  | nil => intro pre v h0 h1 hM hQ; exact ⟨v, hend _ _ _ (by simp), by omega, by omega, fun _ a ha => by cases ha⟩
  | cons a rest ih =>
    intro pre v h0 h1 hM hQ
    simp only [List.length_cons] at hM
    obtain ⟨r, r1, r2, r3, r4, r5⟩ := hstep (pre ++ a :: rest) v pre.length a (by simp) (by simp; omega) (by simp) (hQ a (by simp)) h0 h1
    by_cases hr : r < 0
    · exact ⟨-1, r4 hr, by omega, by omega, fun h => by omega⟩
    · obtain ⟨q, e, q1, q2, q3⟩ := ih (pre ++ [a]) r (by omega) (by omega) (by simp; omega) (fun x hx => hQ x (by simp [hx]))
      simp only [List.append_assoc, List.singleton_append, List.length_append, List.length_singleton] at e
      refine ⟨q, r5 (by omega) q e, by omega, q2, fun h x hx => ?_⟩
      rcases List.mem_cons.1 hx with rfl | hx
      · exact r3 (by omega)
      · exact q3 h x hx

/-- what elements cost, together -/
def costs {α : Type} (cost : α → Nat) : List α → Nat
  | [] => 0
  | a :: l => cost a + costs cost l
/-- Marking element by element, and asking for the marks: one induction for all kinds. -/
theorem mark_gen {α : Type} {L : Nat → List α → Int → Int → Option (Int × List α)} {H : Nat → List α → Int → Int → Option Int} (cost : α → Nat) (val : Int → α → α) (B : Int) (M : Nat)
    (hend : ∀ (x : List α) (v i : Int), ¬ i < x.length → Ev (fun k => L k x v i) (v, x)) (hendH : ∀ (x : List α) (v i : Int), ¬ i < x.length → Ev (fun k => H k x v i) v)
    (hstep : ∀ (x : List α) (v : Int) (i : Nat) (a : α) (r : Int × List α), i < x.length → x.length ≤ M → x[i]? = some a → 0 ≤ v → v + cost a ≤ B → Ev (fun k => L k (x.set i (val v a)) (v + cost a) ((i + 1 : Nat) : Int)) r → Ev (fun k => L k x v i) r)
    (hstepH : ∀ (x : List α) (v : Int) (i : Nat) (a : α) (r : Int), i < x.length → x.length ≤ M → x[i]? = some (val v a) → 0 ≤ v → v + cost a ≤ B → Ev (fun k => H k x (v + cost a) ((i + 1 : Nat) : Int)) r → Ev (fun k => H k x v i) r)
    (rest : List α) : ∀ (pre : List α) (v : Int), 0 ≤ v → v + costs cost rest ≤ B → pre.length + rest.length ≤ M →
      ∃ rest' : List α, rest'.length = rest.length ∧ Ev (fun k => L k (pre ++ rest) v pre.length) (v + costs cost rest, pre ++ rest') ∧ Ev (fun k => H k (pre ++ rest') v pre.length) (v + costs cost rest) := by
  induction rest with
  | nil =>
    intro pre v h0 h1 h2
    refine ⟨[], rfl, ?_, ?_⟩
    · simpa [costs] using hend pre v pre.length (by omega)
    · simpa [costs] using hendH pre v pre.length (by omega)
  | cons a rest ih =>
    intro pre v h0 h1 h2
    simp only [costs, List.length_cons] at h1 h2
    push_cast at h1
    obtain ⟨rest', hl, e1, e2⟩ := ih (pre ++ [val v a]) (v + cost a) (by omega) (by omega) (by simp; omega)
    simp only [List.append_assoc, List.singleton_append, List.length_append, List.length_singleton] at e1 e2
    have hs : v + (cost a : Int) + (costs cost rest : Int) = v + (costs cost (a :: rest) : Nat) := by simp only [costs]; push_cast; omega
    rw [hs] at e1 e2
    refine ⟨val v a :: rest', by simp [hl], ?_, ?_⟩
    · refine hstep _ _ _ a _ (by simp) (by simp; omega) (by simp) h0 (by omega) ?_
      simpa using e1
    · refine hstepH _ _ _ a _ (by simp) (by simp; omega) (by simp) h0 (by omega) ?_
      simpa using e2

/-- what marking makes of numbers -/
def ints (v : Int) : Nat → List Int
  | 0 => []
  | n + 1 => v :: ints (v + 1) n
theorem ints_length (v : Int) (n : Nat) : (ints v n).length = n := by
  induction n generalizing v with
  | zero => rfl
  | succ n ih => simp [ints, ih]
theorem markIntS_loop (rest : List Int) : ∀ (pre : List Int) (v : Int), 0 ≤ v → v + rest.length ≤ 4611686018427387904 → pre.length + rest.length ≤ 4611686018427387904 →
    Ev (fun k => laws_markIntS.l0 k (pre ++ rest) v pre.length) (v + rest.length, pre ++ ints v rest.length) := by
  induction rest with
  | nil => intro pre v h0 h1 h2; exact Ev.end (fun k => by simp only [laws_markIntS.l0]; rw [if_neg (by simp)]; simp [ints])
  | cons a rest ih =>
    intro pre v h0 h1 h2
    simp only [List.length_cons] at h1 h2
    have := ih (pre ++ [v]) (v + 1) (by omega) (by push_cast at h1 ⊢; omega) (by simp; omega)
    simp only [List.append_assoc, List.singleton_append, List.length_append, List.length_singleton] at this
    rw [show (v + 1 + (rest.length : Int)) = v + ((a :: rest).length : Int) by simp; omega] at this
    refine Ev.step (fun k => ?_) this
    rw [laws_markIntS.l0]
    rw [if_pos (by simp; omega), if_pos (by omega), wrap_id (x := v + 1) (by omega) (by push_cast at h1; omega), wrap_id (x := (pre.length : Int) + 1) (by omega) (by omega)]
    simp
theorem heldIntS_loop (n : Nat) : ∀ (pre : List Int) (v : Int), 0 ≤ v → v + n ≤ 4611686018427387904 → pre.length + n ≤ 4611686018427387904 →
    Ev (fun k => laws_heldIntS.l0 k (pre ++ ints v n) v pre.length) (v + n) := by
  induction n with
  | zero => intro pre v h0 h1 h2; exact Ev.end (fun k => by simp only [laws_heldIntS.l0]; rw [if_neg (by simp [ints])]; simp)
  | succ n ih =>
    intro pre v h0 h1 h2
    have := ih (pre ++ [v]) (v + 1) (by omega) (by push_cast at h1 ⊢; omega) (by simp; omega)
    simp only [List.append_assoc, List.singleton_append, List.length_append, List.length_singleton] at this
    rw [show (v + 1 + (n : Int)) = v + ((n + 1 : Nat) : Int) by push_cast; omega] at this
    show Ev (fun k => laws_heldIntS.l0 k (pre ++ (v :: ints (v + 1) n)) v pre.length) _
    refine Ev.step (fun k => ?_) this
    rw [laws_heldIntS.l0]
    rw [if_pos (by simp; omega), if_pos (by omega), if_pos (by simp [rd, List.getD_eq_getElem?_getD]), wrap_id (x := v + 1) (by omega) (by push_cast at h1; omega), wrap_id (x := (pre.length : Int) + 1) (by omega) (by omega)]
    simp
theorem markIntS_ev (l : List Int) (v : Int) (h0 : 0 ≤ v) (h : v + l.length ≤ 4611686018427387904) : Ev (fun k => laws_markIntS.f k l v) (v + l.length, ints v l.length) :=
  markIntS_loop l [] v h0 h (by simp; omega)
theorem heldIntS_ev (n : Nat) (v : Int) (h0 : 0 ≤ v) (h : v + n ≤ 4611686018427387904) : Ev (fun k => laws_heldIntS.f k (ints v n) v) (v + n) :=
  heldIntS_loop n [] v h0 h (by simp; omega)

theorem eq_gen {α : Type} {L : Nat → List α → List α → Int → Option Bool} (B : α → Prop) (M : Nat)
    (hend : ∀ (x : List α) (i : Int), ¬ i < x.length → Ev (fun k => L k x x i) true)
    (hstep : ∀ (x : List α) (i : Nat) (a : α), i < x.length → x.length ≤ M → x[i]? = some a → B a → Ev (fun k => L k x x ((i + 1 : Nat) : Int)) true → Ev (fun k => L k x x i) true)
    (rest : List α) : ∀ (pre : List α), pre.length + rest.length ≤ M → (∀ a ∈ rest, B a) → Ev (fun k => L k (pre ++ rest) (pre ++ rest) pre.length) true := by
  induction rest with
  | nil => intro pre hM hB; exact hend _ _ (by simp)
  | cons a rest ih =>
    intro pre hM hB
    simp only [List.length_cons] at hM
    have h := ih (pre ++ [a]) (by simp; omega) (fun x hx => hB x (by simp [hx]))
    simp only [List.append_assoc, List.singleton_append, List.length_append, List.length_singleton] at h
    exact hstep _ _ a (by simp) (by simp; omega) (by simp) (hB a (by simp)) h

theorem rd65 (x : List S60) (i : Nat) (a : S60) (h : x[i]? = some a) : rd_T60 x (i : Int) = a := by
  simp [rd_T60, List.getD_eq_getElem?_getD, h]
theorem rd88 (x : List S69) (i : Nat) (a : S69) (h : x[i]? = some a) : rd_T69 x (i : Int) = a := by
  simp [rd_T69, List.getD_eq_getElem?_getD, h]
def QB (z : S69) : Prop := (z.f0.length ≤ maxLen ∧ ∀ y ∈ z.f0, (Lit.int .i64 y).wf = true) ∧ True
theorem szNodeS_ev (l : List S69) (hM : l.length ≤ maxLen) (hq : ∀ y ∈ l, QB y) (v : Int) (h0 : 0 ≤ v) (h1 : v ≤ 1048576) :
    ∃ r, Ev (fun k => laws_szNodeS.f k l v) r ∧ r ≤ v ∧ -1 ≤ r ∧ (0 ≤ r → l.length ≤ 1048576 ∧ ∀ a ∈ l, a.f0.length ≤ 1048576) := by
  unfold laws_szNodeS.f
  have e : wrap64 (v - (l.length : Int)) = v - l.length := by unfold maxLen at hM; exact wrap_id (by omega) (by omega)
  rw [e]
  by_cases hn : v - (l.length : Int) < 0
  · exact ⟨-1, Ev.pos hn (Ev.now _), by omega, by omega, fun h => by omega⟩
  · obtain ⟨r, g, r1, r2, r3⟩ := sz_gen (L := laws_szNodeS.l0) QB (fun a => a.f0.length ≤ 1048576) 9223372036854775807
      (fun x v i hi => Ev.end (fun k => by rw [laws_szNodeS.l0, if_neg hi]))
      (fun x v i a hi hM ha hQ h0 h1 => by
        obtain ⟨r, e, r1, r2, r3⟩ := szIntS_ev a.f0 hQ.1.1 v h0 h1
        have hr := rd88 x i a ha
        have hw : wrap64 ((i : Int) + 1) = ((i + 1 : Nat) : Int) := by rw [wrap_id (by omega) (by omega)]; simp
        refine ⟨r, r1, r2, r3, fun hn => Ev.end (fun k => ?_), fun hn q he => Ev.step (fun k => ?_) he⟩
        · rw [laws_szNodeS.l0, if_pos (by omega), if_pos (by omega), hr]
          unfold laws_szNode.f
          rw [e]; simp only [Option.bind_some]; rw [if_pos hn]; rfl
        · rw [laws_szNodeS.l0, if_pos (by omega), if_pos (by omega), hr]
          unfold laws_szNode.f
          rw [e]; simp only [Option.bind_some]; rw [if_neg (by omega)]; simp only [Option.bind_some]; rw [if_neg (by omega), hw]) l [] (v - l.length) (by omega) (by omega) (by simp; omega) hq
    exact ⟨r, Ev.neg hn g, by omega, r2, fun h => ⟨by omega, r3 h⟩⟩
/-- a node as the program has it -/
def brOf (z : S69) : S60 := ⟨z.f0, z.f1⟩
theorem toNodeS_ev (bs : List S69) (l0 : bs.length ≤ 1048576) (lb : ∀ a ∈ bs, a.f0.length ≤ 1048576) : Ev (fun k => laws_toNodeS.f k bs) (bs.map brOf) := by
  have h := copy_gen (L := laws_toNodeS.l0) brOf 8796093022208 (fun a => a.f0.length ≤ 1048576) (fun x y i hi => Ev.end (fun k => by rw [laws_toNodeS.l0, if_neg hi]))
    (fun x y i a r hi hy hM ha hB he => by
      have hw : wrap64 ((i : Int) + 1) = ((i + 1 : Nat) : Int) := by rw [wrap_id (by omega) (by omega)]; simp
      have hr := rd88 x i a ha
      have ht : Ev (fun k => laws_toNode.f k a.f0 a.f1) (a.f0, a.f1) := by
        unfold laws_toNode.f; exact Ev.bind (toIntS_ev a.f0 (by omega)) (Ev.now _)
      refine Ev.step (f := fun k => (laws_toNode.f k a.f0 a.f1).bind fun b => laws_toNodeS.l0 k x (y.set i ⟨b.1, b.2⟩) ((i + 1 : Nat) : Int)) (fun k => ?_) (Ev.bind ht he)
      rw [laws_toNodeS.l0, if_pos (by omega), if_pos (by omega), hr, hw]
      congr 1
      funext b
      rw [if_pos (by omega)]
      simp) bs [] (List.replicate bs.length z60) (by simp) (by simp; omega) lb
  unfold laws_toNodeS.f
  refine Ev.pos (by omega) (Ev.pos (by simp; omega) ?_)
  simpa using h

theorem eqNodeS_same (bs : List S60) (l0 : bs.length ≤ 1048576) (lb : ∀ a ∈ bs, a.f0.length ≤ 1048576) : Ev (fun k => laws_eqNodeS.f k bs bs) true := by
  have h := eq_gen (L := laws_eqNodeS.l0) (fun a => a.f0.length ≤ 1048576) 1048576 (fun x i hi => Ev.end (fun k => by rw [laws_eqNodeS.l0, if_neg hi]))
    (fun x i a hi hM ha hB he => by
      have hw : wrap64 ((i : Int) + 1) = ((i + 1 : Nat) : Int) := by rw [wrap_id (by omega) (by omega)]; simp
      have hr := rd65 x i a ha
      have ht : Ev (fun k => laws_eqNode.f k a.f0 a.f1 a.f0 a.f1) true := by
        unfold laws_eqNode.f; exact Ev.bind (eqIntS_same a.f0 (by omega)) (Ev.pos (by trivial) (Ev.neg (by simp) (Ev.now _)))
      refine Ev.step (f := fun k => (laws_eqNode.f k a.f0 a.f1 a.f0 a.f1).bind fun b => if b = true then laws_eqNodeS.l0 k x x ((i + 1 : Nat) : Int) else some false) (fun k => ?_) (Ev.bind ht (Ev.pos (by trivial) he))
      rw [laws_eqNodeS.l0, if_pos (by omega), if_pos (by omega), if_pos (by omega), hr, hw]) bs [] (by simp; omega) lb
  unfold laws_eqNodeS.f
  refine Ev.pos rfl ?_
  simpa using h

/-- is a number a node's that is there, below n -/
def upB (ns : List S60) (n : Int) (x : Int) : Bool := decide (0 ≤ x ∧ x < n) && !(rd_T60 ns x).f1
def nsB (ns : List S60) : List S60 → Int → Bool
  | [], _ => true
  | b :: t, i => b.f0.all (upB ns i) && decide (b.f0.length ≤ 6) && !(b.f1 && decide (0 < b.f0.length)) && nsB ns t (i + 1)
def goodN (ns : List S60) (rs : List Int) : Bool := nsB ns ns 0 && rs.all (upB ns ns.length) && decide (ns.length ≤ 14) && decide (rs.length ≤ 6)
theorem bad_eq (ns : List S60) (n x : Int) (h0 : 0 ≤ n) (h1 : n ≤ ns.length) (hl : ns.length ≤ 1048576) : impl_areNodes.bad ns (wrap64 (n - 1)) x = some (!upB ns n x) := by
  have e : wrap64 (n - 1) = n - 1 := wrap_id (by omega) (by omega)
  unfold impl_areNodes.bad upB
  rw [e]
  simp only [within_eq, Option.bind_some, decide_eq_true_eq]
  by_cases d : 0 ≤ x ∧ x < n
  · rw [if_pos (by omega), if_pos d.1, if_pos (by omega)]
    simp [d]
  · rw [if_neg (by omega)]
    simp [d]
theorem all_eq (ns : List S60) (hl : ns.length ≤ 1048576) (rest : List S60) : ∀ pre : List S60, ns = pre ++ rest → impl_areNodes.all ns rest pre.length = some (nsB ns rest pre.length) := by
  induction rest with
  | nil => intro pre h; rfl
  | cons b t ih =>
    intro pre h
    have hlen : ns.length = pre.length + (t.length + 1) := by rw [h]; simp
    have ha : Op.anyO (impl_areNodes.bad ns (wrap64 ((pre.length : Int) - 1))) b.f0 = some (b.f0.any (fun x => !upB ns pre.length x)) :=
      Op.anyO_total (fun x _ => bad_eq ns _ x (by omega) (by omega) hl)
    have hn := ih (pre ++ [b]) (by rw [h]; simp)
    simp only [List.length_append, List.length_singleton] at hn
    unfold impl_areNodes.all nsB
    rw [ha]
    by_cases c : b.f0.length ≤ 6
    · rw [if_neg (by omega)]
      by_cases g : b.f1 = true ∧ (b.f0.length : Int) > 0
      · rw [if_pos g]
        have g2 : 0 < b.f0.length := by omega
        simp [g.1, g2]
      · rw [if_neg g]
        have g2 : (b.f1 && decide (0 < b.f0.length)) = false := by
          cases hf : b.f1 with
          | false => rfl
          | true => simp only [Bool.true_and]; exact decide_eq_false (fun h2 => g ⟨hf, by omega⟩)
        simp only [Option.bind_some, g2, Bool.not_false, Bool.and_true]
        by_cases d : b.f0.all (upB ns pre.length) = true
        · have : b.f0.any (fun x => !upB ns pre.length x) = false := by rw [← Bool.not_eq_true]; simpa using d
          rw [this, d]
          simpa [c] using hn
        · have : b.f0.any (fun x => !upB ns pre.length x) = true := by simpa using d
          rw [this]
          simp only [Bool.not_eq_true] at d
          simp [d]
    · rw [if_pos (by omega)]
      simp [c]
theorem areNodes_eq (ns : List S60) (rs : List Int) (hl : ns.length ≤ 1048576) : impl_areNodes.f ns rs = some (goodN ns rs) := by
  unfold impl_areNodes.f goodN
  by_cases c1 : ns.length ≤ 14
  · rw [if_neg (by omega)]
    by_cases c2 : rs.length ≤ 6
    · rw [if_neg (by omega)]
      have h := all_eq ns hl ns [] rfl
      simp only [List.length_nil, Int.natCast_zero] at h
      rw [h]
      simp only [Option.bind_some]
      cases hb : nsB ns ns 0 with
      | false => simp
      | true =>
        simp only [if_true]
        rw [Op.anyO_total (q := fun x => !upB ns ns.length x) (fun x _ => bad_eq ns _ x (by omega) (Int.le_refl _) hl)]
        simp [c1, c2, List.any_eq_not_all_not]
    · rw [if_pos (by omega)]; simp [c2]
  · rw [if_pos (by omega)]; simp [c1]
theorem sN2 (ns : List S60) (rs : List Int) (hl : ns.length ≤ 1048576) (hv : rs.length ≤ 1048576) (rest : List Int) : ∀ pre : List Int, rs = pre ++ rest →
    Ev (fun k => spec_l10Nodes.l2 k ns rs rs rs.length pre.length) (rest.all (upB ns ns.length) && decide (ns.length ≤ 14) && decide (rs.length ≤ 6)) := by
  induction rest with
  | nil =>
    intro pre h
    refine Ev.end (fun k => ?_)
    rw [spec_l10Nodes.l2, if_neg (by rw [h]; simp)]
    by_cases c : ns.length ≤ 14
    · rw [if_pos (by omega)]; simp [c]; omega
    · rw [if_neg (by omega)]; simp [c]
  | cons v t ih =>
    intro pre h
    have hr : rd rs (pre.length : Int) = v := by rw [h]; simp [rd, List.getD_eq_getElem?_getD]
    have hlen : rs.length = pre.length + (t.length + 1) := by rw [h]; simp
    have hw : wrap64 ((pre.length : Int) + 1) = ((pre.length + 1 : Nat) : Int) := by rw [wrap_id (by omega) (by omega)]; simp
    have hn := ih (pre ++ [v]) (by rw [h]; simp)
    simp only [List.length_append, List.length_singleton] at hn
    simp only [List.all_cons]
    by_cases d : 0 ≤ v ∧ v < ns.length
    · cases f : (rd_T60 ns v).f1 with
      | true =>
        have e : upB ns ns.length v = false := by simp [upB, f]
        rw [e, Bool.false_and, Bool.false_and, Bool.false_and]
        exact Ev.end (fun k => by rw [spec_l10Nodes.l2, if_pos (by omega), if_pos (by omega), if_pos (by omega), hr, if_neg (by omega), if_neg (by omega), if_pos d.1, if_pos d.2, if_pos f])
      | false =>
        have e : upB ns ns.length v = true := by simp [upB, d, f]
        rw [e, Bool.true_and]
        exact Ev.step (fun k => by rw [spec_l10Nodes.l2, if_pos (by omega), if_pos (by omega), if_pos (by omega), hr, if_neg (by omega), if_neg (by omega), if_pos d.1, if_pos d.2, if_neg (by simp [f]), hw]) hn
    · have e : upB ns ns.length v = false := by simp only [upB, d, decide_false, Bool.false_and]
      rw [e, Bool.false_and, Bool.false_and, Bool.false_and]
      by_cases g : v < 0
      · exact Ev.end (fun k => by rw [spec_l10Nodes.l2, if_pos (by omega), if_pos (by omega), if_pos (by omega), hr, if_pos g])
      · exact Ev.end (fun k => by rw [spec_l10Nodes.l2, if_pos (by omega), if_pos (by omega), if_pos (by omega), hr, if_neg g, if_pos (by omega)])
theorem sN1 (ns : List S60) (rs : List Int) (hl : ns.length ≤ 1048576) (i : Int) (h0 : 0 ≤ i) (h1 : i < ns.length) (ks : List Int) (gone : Bool) (hk : ks.length ≤ 1048576) (r : Bool) (hnext : Ev (fun k => spec_l10Nodes.l0 k ns rs ns ns.length (i + 1)) r) (rest : List Int) :
    ∀ pre : List Int, ks = pre ++ rest → Ev (fun k => spec_l10Nodes.l1 k ns rs i ns ns.length i ks ks.length pre.length ks gone) (rest.all (upB ns i) && decide (ks.length ≤ 6) && !(gone && decide (0 < ks.length)) && r) := by
  have hwi : wrap64 (i + 1) = i + 1 := wrap_id (by omega) (by omega)
  induction rest with
  | nil =>
    intro pre h
    by_cases c : ks.length ≤ 6
    · cases gone with
      | false =>
        have e : (List.all [] (upB ns i) && decide (ks.length ≤ 6) && !(false && decide (0 < ks.length)) && r) = r := by simp [c]
        rw [e]
        exact Ev.step (fun k => by rw [spec_l10Nodes.l1, if_neg (by rw [h]; simp), if_neg (by omega), if_neg (by simp), hwi]) hnext
      | true =>
        by_cases z : 0 < ks.length
        · have e : (List.all [] (upB ns i) && decide (ks.length ≤ 6) && !(true && decide (0 < ks.length)) && r) = false := by simp [z]
          rw [e]
          exact Ev.end (fun k => by rw [spec_l10Nodes.l1, if_neg (by rw [h]; simp), if_neg (by omega), if_pos rfl, if_pos (by omega)])
        · have e : (List.all [] (upB ns i) && decide (ks.length ≤ 6) && !(true && decide (0 < ks.length)) && r) = r := by simp [c, z]
          rw [e]
          exact Ev.step (fun k => by rw [spec_l10Nodes.l1, if_neg (by rw [h]; simp), if_neg (by omega), if_pos rfl, if_neg (by omega), hwi]) hnext
    · have e : (List.all [] (upB ns i) && decide (ks.length ≤ 6) && !(gone && decide (0 < ks.length)) && r) = false := by simp [c]
      rw [e]
      exact Ev.end (fun k => by rw [spec_l10Nodes.l1, if_neg (by rw [h]; simp), if_pos (by omega)])
  | cons v t ih =>
    intro pre h
    have hr : rd ks (pre.length : Int) = v := by rw [h]; simp [rd, List.getD_eq_getElem?_getD]
    have hlen : ks.length = pre.length + (t.length + 1) := by rw [h]; simp
    have hw : wrap64 ((pre.length : Int) + 1) = ((pre.length + 1 : Nat) : Int) := by rw [wrap_id (by omega) (by omega)]; simp
    have hn := ih (pre ++ [v]) (by rw [h]; simp)
    simp only [List.length_append, List.length_singleton] at hn
    simp only [List.all_cons]
    by_cases d : 0 ≤ v ∧ v < i
    · cases f : (rd_T60 ns v).f1 with
      | true =>
        have e : upB ns i v = false := by simp [upB, f]
        rw [e, Bool.false_and, Bool.false_and, Bool.false_and, Bool.false_and]
        exact Ev.end (fun k => by rw [spec_l10Nodes.l1, if_pos (by omega), if_pos (by omega), if_pos (by omega), hr, if_neg (by omega), if_neg (by omega), if_pos d.1, if_pos (by omega), if_pos f])
      | false =>
        have e : upB ns i v = true := by simp [upB, d, f]
        rw [e, Bool.true_and]
        exact Ev.step (fun k => by rw [spec_l10Nodes.l1, if_pos (by omega), if_pos (by omega), if_pos (by omega), hr, if_neg (by omega), if_neg (by omega), if_pos d.1, if_pos (by omega), if_neg (by simp [f]), hw]) hn
    · have e : upB ns i v = false := by simp only [upB, d, decide_false, Bool.false_and]
      rw [e, Bool.false_and, Bool.false_and, Bool.false_and, Bool.false_and]
      by_cases g : v < 0
      · exact Ev.end (fun k => by rw [spec_l10Nodes.l1, if_pos (by omega), if_pos (by omega), if_pos (by omega), hr, if_pos g])
      · exact Ev.end (fun k => by rw [spec_l10Nodes.l1, if_pos (by omega), if_pos (by omega), if_pos (by omega), hr, if_neg g, if_pos (by omega)])
theorem sN0 (ns : List S60) (rs : List Int) (hl : ns.length ≤ 1048576) (hv : rs.length ≤ 1048576) (hk : ∀ a ∈ ns, a.f0.length ≤ 1048576) (rest : List S60) : ∀ pre : List S60, ns = pre ++ rest →
    Ev (fun k => spec_l10Nodes.l0 k ns rs ns ns.length pre.length) (nsB ns rest pre.length && (rs.all (upB ns ns.length) && decide (ns.length ≤ 14) && decide (rs.length ≤ 6))) := by
  induction rest with
  | nil =>
    intro pre h
    have h2 := sN2 ns rs hl hv rs [] rfl
    simp only [nsB, Bool.true_and]
    exact Ev.step (fun k => by rw [spec_l10Nodes.l0, if_neg (by rw [h]; simp)]) (by simpa using h2)
  | cons b t ih =>
    intro pre h
    have hlen : ns.length = pre.length + (t.length + 1) := by rw [h]; simp
    have hb : rd_T60 ns (pre.length : Int) = b := rd65 ns pre.length b (by rw [h]; simp)
    have hn := ih (pre ++ [b]) (by rw [h]; simp)
    simp only [List.length_append, List.length_singleton] at hn
    have h1 := sN1 ns rs hl pre.length (by omega) (by omega) b.f0 b.f1 (hk b (by rw [h]; simp)) _ (by simpa using hn) b.f0 [] rfl
    simp only [nsB, Bool.and_assoc] at h1 ⊢
    refine Ev.step (fun k => ?_) h1
    rw [spec_l10Nodes.l0, if_pos (by omega), if_pos (by omega), if_pos (by omega), hb]
    simp
theorem l10Nodes_eq (ns : List S60) (rs : List Int) (hl : ns.length ≤ 1048576) (hv : rs.length ≤ 1048576) (hk : ∀ a ∈ ns, a.f0.length ≤ 1048576) : Ev (fun k => spec_l10Nodes.f k ns rs) (goodN ns rs) := by
  have h := sN0 ns rs hl hv hk ns [] rfl
  unfold spec_l10Nodes.f goodN
  simpa [Bool.and_assoc] using h

/-- one more at each of the places -/
def incs (x : List Int) : List Int → List Int
  | [] => x
  | k :: t => incs (x.set k.toNat (wrap64 (rd x k + 1))) t
theorem incs_length (ks : List Int) : ∀ x, (incs x ks).length = x.length := by
  induction ks with
  | nil => intro x; rfl
  | cons k t ih => intro x; simp [incs, ih]
def incsN (x : List Int) : List S60 → List Int
  | [] => x
  | b :: t => incsN (incs x b.f0) t
theorem incsN_length (bs : List S60) : ∀ x, (incsN x bs).length = x.length := by
  induction bs with
  | nil => intro x; rfl
  | cons b t ih => intro x; simp [incsN, ih, incs_length]
def countsN (ns : List S60) (rs : List Int) : List Int := incsN (incs (List.replicate ns.length 0) rs) ns
theorem countsN_length (ns : List S60) (rs : List Int) : (countsN ns rs).length = ns.length := by simp [countsN, incsN_length, incs_length]
theorem cSame : ∀ k, (∀ a b c d e, spec_l10Counts.l0 k a b c d e = impl_countsOf.l0 k a b c d e) ∧ (∀ a b c d, spec_l10Counts.l1 k a b c d = impl_countsOf.l1 k a b c d) ∧ (∀ a b c d e f g, spec_l10Counts.l2 k a b c d e f g = impl_countsOf.l2 k a b c d e f g) := by
  intro k
  induction k with
  | zero => exact ⟨fun _ _ _ _ _ => by rw [spec_l10Counts.l0, impl_countsOf.l0], fun _ _ _ _ => by rw [spec_l10Counts.l1, impl_countsOf.l1], fun _ _ _ _ _ _ _ => by rw [spec_l10Counts.l2, impl_countsOf.l2]⟩
  | succ k ih =>
    obtain ⟨h0, h1, h2⟩ := ih
    exact ⟨fun _ _ _ _ _ => by rw [spec_l10Counts.l0, impl_countsOf.l0, h0, h1], fun _ _ _ _ => by rw [spec_l10Counts.l1, impl_countsOf.l1, h2], fun _ _ _ _ _ _ _ => by rw [spec_l10Counts.l2, impl_countsOf.l2, h2, h1]⟩
theorem c2 (bs : List S60) (n i : Int) (ks : List Int) (hk : ks.length ≤ 1048576) (hi : 0 ≤ i) (hi2 : i < 9223372036854775807) (r : List Int) (rest : List Int) : ∀ (pre : List Int) (x : List Int), ks = pre ++ rest → (∀ z ∈ rest, 0 ≤ z ∧ z < x.length) →
    Ev (fun k => impl_countsOf.l1 k (incs x rest) bs n (i + 1)) r → Ev (fun k => impl_countsOf.l2 k x bs n i ks ks.length pre.length) r := by
  have hwi : wrap64 (i + 1) = i + 1 := wrap_id (by omega) (by omega)
  induction rest with
  | nil => intro pre x h _ hn; exact Ev.step (fun k => by rw [impl_countsOf.l2, if_neg (by rw [h]; simp), hwi]; rfl) hn
  | cons v t ih =>
    intro pre x h hz hn
    have hr : rd ks (pre.length : Int) = v := by rw [h]; simp [rd, List.getD_eq_getElem?_getD]
    have hlen : ks.length = pre.length + (t.length + 1) := by rw [h]; simp
    have hw : wrap64 ((pre.length : Int) + 1) = ((pre.length + 1 : Nat) : Int) := by rw [wrap_id (by omega) (by omega)]; simp
    have hv := hz v (by simp)
    have e := ih (pre ++ [v]) (x.set v.toNat (wrap64 (rd x v + 1))) (by rw [h]; simp) (fun z hz2 => by simpa using hz z (by simp [hz2])) hn
    simp only [List.length_append, List.length_singleton] at e
    exact Ev.step (fun k => by rw [impl_countsOf.l2, if_pos (by omega), if_pos (by omega), if_pos (by omega), hr, if_pos hv.1, if_pos hv.2, hw]) e
theorem c1 (bs : List S60) (hb : bs.length ≤ 1048576) (hk : ∀ a ∈ bs, a.f0.length ≤ 1048576) (rest : List S60) : ∀ (pre : List S60) (x : List Int), bs = pre ++ rest → (∀ b ∈ rest, ∀ z ∈ b.f0, 0 ≤ z ∧ z < x.length) →
    Ev (fun k => impl_countsOf.l1 k x bs bs.length pre.length) (incsN x rest) := by
  induction rest with
  | nil => intro pre x h _; exact Ev.end (fun k => by rw [impl_countsOf.l1, if_neg (by rw [h]; simp)]; rfl)
  | cons b t ih =>
    intro pre x h hz
    have hlen : bs.length = pre.length + (t.length + 1) := by rw [h]; simp
    have hr : rd_T60 bs (pre.length : Int) = b := rd65 bs pre.length b (by rw [h]; simp)
    have e := ih (pre ++ [b]) (incs x b.f0) (by rw [h]; simp) (fun c hc z hz2 => by rw [incs_length]; exact hz c (by simp [hc]) z hz2)
    simp only [List.length_append, List.length_singleton] at e
    have e2 := c2 bs bs.length pre.length b.f0 (hk b (by rw [h]; simp)) (by omega) (by omega) (incsN (incs x b.f0) t) b.f0 [] x rfl (hz b (by simp)) (by simpa using e)
    refine Ev.step (fun k => ?_) e2
    rw [impl_countsOf.l1, if_pos (by omega), if_pos (by omega), if_pos (by omega), hr]
    rfl
theorem c0 (bs : List S60) (r : List Int) (rs : List Int) (hr : rs.length ≤ 1048576) (rest : List Int) : ∀ (pre : List Int) (x : List Int), rs = pre ++ rest → (∀ z ∈ rest, 0 ≤ z ∧ z < x.length) →
    Ev (fun k => impl_countsOf.l1 k (incs x rest) bs bs.length 0) r → Ev (fun k => impl_countsOf.l0 k bs x rs rs.length pre.length) r := by
  induction rest with
  | nil => intro pre x h _ hn; exact Ev.step (fun k => by rw [impl_countsOf.l0, if_neg (by rw [h]; simp)]; rfl) hn
  | cons v t ih =>
    intro pre x h hz hn
    have hv2 : rd rs (pre.length : Int) = v := by rw [h]; simp [rd, List.getD_eq_getElem?_getD]
    have hlen : rs.length = pre.length + (t.length + 1) := by rw [h]; simp
    have hw : wrap64 ((pre.length : Int) + 1) = ((pre.length + 1 : Nat) : Int) := by rw [wrap_id (by omega) (by omega)]; simp
    have hv := hz v (by simp)
    have e := ih (pre ++ [v]) (x.set v.toNat (wrap64 (rd x v + 1))) (by rw [h]; simp) (fun z hz2 => by simpa using hz z (by simp [hz2])) hn
    simp only [List.length_append, List.length_singleton] at e
    exact Ev.step (fun k => by rw [impl_countsOf.l0, if_pos (by omega), if_pos (by omega), if_pos (by omega), hv2, if_pos hv.1, if_pos hv.2, hw]) e
theorem nsB_holds (ns : List S60) (rest : List S60) : ∀ i : Int, nsB ns rest i = true → i + rest.length ≤ ns.length → ∀ b ∈ rest, ∀ z ∈ b.f0, 0 ≤ z ∧ z < ns.length := by
  induction rest with
  | nil => intro i _ _ b hb; simp at hb
  | cons b t ih =>
    intro i h hi c hc z hz
    simp only [nsB, Bool.and_eq_true] at h
    simp only [List.length_cons] at hi
    push_cast at hi
    rcases List.mem_cons.1 hc with rfl | hc
    · have h1 := List.all_eq_true.1 h.1.1.1 z hz
      simp only [upB, Bool.and_eq_true, decide_eq_true_eq] at h1
      omega
    · exact ih (i + 1) h.2 (by omega) c hc z hz
theorem countsOf_ev (ns : List S60) (rs : List Int) (hl : ns.length ≤ 1048576) (hv : rs.length ≤ 1048576) (hk : ∀ a ∈ ns, a.f0.length ≤ 1048576) (g : goodN ns rs = true) : Ev (fun k => impl_countsOf.f k ns rs) (countsN ns rs) := by
  simp only [goodN, Bool.and_eq_true, decide_eq_true_eq] at g
  have hn := nsB_holds ns ns 0 g.1.1.1 (by omega)
  have hr : ∀ z ∈ rs, 0 ≤ z ∧ z < ns.length := by
    intro z hz
    have h1 := List.all_eq_true.1 g.1.1.2 z hz
    simp only [upB, Bool.and_eq_true, decide_eq_true_eq] at h1
    exact h1.1
  unfold impl_countsOf.f
  refine Ev.pos (by omega) (Ev.pos (by omega) ?_)
  have e1 := c1 ns hl hk ns [] (incs (List.replicate ns.length 0) rs) rfl (by simpa [incs_length] using hn)
  have e0 := c0 ns (countsN ns rs) rs hv rs [] (List.replicate ns.length 0) rfl (by simpa using hr) (by simpa [countsN] using e1)
  simpa using e0
theorem l10Counts_ev (ns : List S60) (rs : List Int) (hl : ns.length ≤ 1048576) (hv : rs.length ≤ 1048576) (hk : ∀ a ∈ ns, a.f0.length ≤ 1048576) (g : goodN ns rs = true) : Ev (fun k => spec_l10Counts.f k ns rs) (countsN ns rs) := by
  have h := countsOf_ev ns rs hl hv hk g
  obtain ⟨K, hK⟩ := h
  refine ⟨K, fun k hk2 => ?_⟩
  have h1 := hK k hk2
  unfold impl_countsOf.f at h1
  unfold spec_l10Counts.f
  simpa only [(cSame k).1] using h1

theorem eqSame : ∀ k a b c d, spec_l1Same.l0 k a b c d = slices_Equal_int_int.l0 k a b c d := by
  intro k
  induction k with
  | zero => intro _ _ _ _; rw [spec_l1Same.l0, slices_Equal_int_int.l0]
  | succ k ih => intro _ _ _ _; rw [spec_l1Same.l0, slices_Equal_int_int.l0, ih]
theorem equal_loop (s : List Int) : ∀ (t p q : List Int), s.length = t.length → p.length = q.length → p.length + s.length ≤ 1048576 → Ev (fun k => slices_Equal_int_int.l0 k (p ++ s) (q ++ t) ((p.length + s.length : Nat) : Int) p.length) (decide (s = t)) := by
  induction s with
  | nil =>
    intro t p q h1 h2 h3
    have ht : t = [] := List.eq_nil_of_length_eq_zero h1.symm
    subst ht
    exact Ev.end (fun k => by rw [slices_Equal_int_int.l0, if_neg (by simp)]; rfl)
  | cons a s ih =>
    intro t p q h1 h2 h3
    cases t with
    | nil => simp at h1
    | cons b t =>
      simp only [List.length_cons] at h1 h3
      have e := ih t (p ++ [a]) (q ++ [b]) (by omega) (by simp [h2]) (by simp; omega)
      simp only [List.append_assoc, List.singleton_append, List.length_append, List.length_singleton] at e
      rw [show p.length + 1 + s.length = p.length + (a :: s).length by simp; omega] at e
      have r1 : rd (p ++ a :: s) (p.length : Int) = a := by simp [rd, List.getD_eq_getElem?_getD]
      have r2 : rd (q ++ b :: t) (p.length : Int) = b := by rw [h2]; simp [rd, List.getD_eq_getElem?_getD]
      have hw : wrap64 ((p.length : Int) + 1) = ((p.length + 1 : Nat) : Int) := by rw [wrap_id (by omega) (by omega)]; simp
      have g1 : (p.length : Int) < ((p.length + (a :: s).length : Nat) : Int) := by simp; omega
      have g2 : (p.length : Int) < ((p ++ a :: s).length : Int) := by simp; omega
      have g3 : (p.length : Int) < ((q ++ b :: t).length : Int) := by simp; omega
      have g0 : 0 ≤ (p.length : Int) := by omega
      by_cases c : a = b
      · have hd : decide (a :: s = b :: t) = decide (s = t) := by subst c; simp
        rw [hd]
        exact Ev.step (fun k => by rw [slices_Equal_int_int.l0, if_pos g1, if_pos g0, if_pos g2, if_pos g3, r1, r2, if_pos c, hw]) e
      · have hd : decide (a :: s = b :: t) = false := by simp [c]
        rw [hd]
        exact Ev.end (fun k => by rw [slices_Equal_int_int.l0, if_pos g1, if_pos g0, if_pos g2, if_pos g3, r1, r2, if_neg c])
theorem equal_ev (x y : List Int) (hx : x.length ≤ 1048576) : Ev (fun k => slices_Equal_int_int.f k x y) (decide (x = y)) := by
  unfold slices_Equal_int_int.f
  by_cases h : x.length = y.length
  · have e := equal_loop x y [] [] h rfl (by simpa using hx)
    exact Ev.pos (by omega) (by simpa using e)
  · have hd : decide (x = y) = false := decide_eq_false (fun e => h (by rw [e]))
    rw [hd]
    exact Ev.neg (by omega) (Ev.now _)
theorem same_ev (x y : List Int) (hx : x.length ≤ 1048576) : Ev (fun k => spec_l1Same.f k x y) (decide (x = y)) := by
  obtain ⟨K, hK⟩ := equal_ev x y hx
  refine ⟨K, fun k hk => ?_⟩
  have h1 := hK k hk
  unfold slices_Equal_int_int.f at h1
  unfold spec_l1Same.f
  simpa only [eqSame] using h1
/-- is each node gone, or named -/
def liveB (cs : List Int) : List S60 → Int → Bool
  | [], _ => true
  | b :: t, i => (b.f1 || !decide (rd cs i = 0)) && liveB cs t (i + 1)
def goodG (ns : List S60) (rs cs : List Int) : Bool := goodN ns rs && decide (cs = countsN ns rs) && liveB cs ns 0
theorem gSame : ∀ k a b c d e f, spec_GoodGraph.l0 k a b c d e f = impl_GoodGraph.l0 k a b c d e f := by
  intro k
  induction k with
  | zero => intro _ _ _ _ _ _; rw [spec_GoodGraph.l0, impl_GoodGraph.l0]
  | succ k ih => intro _ _ _ _ _ _; rw [spec_GoodGraph.l0, impl_GoodGraph.l0]; simp only [ih]
theorem live_loop (ns : List S60) (rs cs : List Int) (hl : ns.length ≤ 1048576) (hc : cs.length = ns.length) (rest : List S60) : ∀ pre : List S60, ns = pre ++ rest → Ev (fun k => impl_GoodGraph.l0 k ns ns.length pre.length ns rs cs) (liveB cs rest pre.length) := by
  induction rest with
  | nil => intro pre h; exact Ev.end (fun k => by rw [impl_GoodGraph.l0, if_neg (by rw [h]; simp)]; rfl)
  | cons b t ih =>
    intro pre h
    have hlen : ns.length = pre.length + (t.length + 1) := by rw [h]; simp
    have hb : rd_T60 ns (pre.length : Int) = b := rd65 ns pre.length b (by rw [h]; simp)
    have hw : wrap64 ((pre.length : Int) + 1) = ((pre.length + 1 : Nat) : Int) := by rw [wrap_id (by omega) (by omega)]; simp
    have e := ih (pre ++ [b]) (by rw [h]; simp)
    simp only [List.length_append, List.length_singleton] at e
    cases f : b.f1 with
    | true =>
      have hd : liveB cs (b :: t) pre.length = liveB cs t ((pre.length + 1 : Nat) : Int) := by simp [liveB, f]
      rw [hd]
      exact Ev.step (fun k => by rw [impl_GoodGraph.l0, if_pos (by omega), if_pos (by omega), if_pos (by omega), hb, if_pos f, hw]) e
    | false =>
      by_cases z : rd cs (pre.length : Int) = 0
      · have hd : liveB cs (b :: t) pre.length = false := by simp [liveB, f, z]
        rw [hd]
        exact Ev.end (fun k => by rw [impl_GoodGraph.l0, if_pos (by omega), if_pos (by omega), if_pos (by omega), hb, if_neg (by simp [f]), if_pos (by omega), if_pos z])
      · have hd : liveB cs (b :: t) pre.length = liveB cs t ((pre.length + 1 : Nat) : Int) := by simp [liveB, z]
        rw [hd]
        exact Ev.step (fun k => by rw [impl_GoodGraph.l0, if_pos (by omega), if_pos (by omega), if_pos (by omega), hb, if_neg (by simp [f]), if_pos (by omega), if_neg z, hw]) e
theorem goodGraph_impl (ns : List S60) (rs cs : List Int) (hl : ns.length ≤ 1048576) (hv : rs.length ≤ 1048576) (hc : cs.length ≤ 1048576) (hk : ∀ a ∈ ns, a.f0.length ≤ 1048576) : Ev (fun k => impl_GoodGraph.f k ns rs cs) (goodG ns rs cs) := by
  unfold impl_GoodGraph.f goodG
  have hi := areNodes_eq ns rs hl
  cases g : goodN ns rs with
  | false =>
    rw [g] at hi
    refine Ev.cbind hi (Ev.neg (by simp) (Ev.succ ?_))
    simp only [impl_GoodGraph.j0]
    exact Ev.pos (by trivial) (by simpa using Ev.now false)
  | true =>
    rw [g] at hi
    refine Ev.cbind hi (Ev.pos rfl (Ev.bind (countsOf_ev ns rs hl hv hk g) (Ev.bind (equal_ev cs _ hc) (Ev.succ ?_))))
    simp only [impl_GoodGraph.j0]
    by_cases e : cs = countsN ns rs
    · have h := live_loop ns rs cs hl (by rw [e, countsN_length]) ns [] rfl
      exact Ev.neg (by simp [e]) (by simpa [e] using h)
    · exact Ev.pos (by simp [e]) (by simpa [e] using Ev.now false)
theorem goodGraph_spec (ns : List S60) (rs cs : List Int) (hl : ns.length ≤ 1048576) (hv : rs.length ≤ 1048576) (hc : cs.length ≤ 1048576) (hk : ∀ a ∈ ns, a.f0.length ≤ 1048576) : Ev (fun k => spec_GoodGraph.f k ns rs cs) (goodG ns rs cs) := by
  unfold spec_GoodGraph.f goodG
  have hi := l10Nodes_eq ns rs hl hv hk
  cases g : goodN ns rs with
  | false =>
    rw [g] at hi
    refine Ev.bind hi (Ev.neg (by simp) (Ev.succ ?_))
    simp only [spec_GoodGraph.j0]
    exact Ev.pos (by trivial) (by simpa using Ev.now false)
  | true =>
    rw [g] at hi
    refine Ev.bind hi (Ev.pos rfl (Ev.bind (l10Counts_ev ns rs hl hv hk g) (Ev.bind (same_ev cs _ hc) (Ev.succ ?_))))
    simp only [spec_GoodGraph.j0, gSame]
    by_cases e : cs = countsN ns rs
    · have h := live_loop ns rs cs hl (by rw [e, countsN_length]) ns [] rfl
      exact Ev.neg (by simp [e]) (by simpa [e] using h)
    · exact Ev.pos (by simp [e]) (by simpa [e] using Ev.now false)

theorem Ev.map_ {α β : Type} {g : Nat → Option α} {r : α} (f : α → β) (h : Ev g r) : Ev (fun k => (g k).map f) (f r) := by
  obtain ⟨K, hK⟩ := h
  exact ⟨K, fun k hk => by show (g k).map f = _; rw [hK k hk]; rfl⟩
/-- the marked branches; what they cost -/
def mkB (v : Int) : List S60 → List S60
  | [] => []
  | b :: t => ⟨ints v b.f0.length, Int.tmod (v + b.f0.length) 3 == 0⟩ :: mkB (v + b.f0.length + 1) t
def szB : List S60 → Nat
  | [] => 0
  | b :: t => b.f0.length + 1 + szB t
theorem szB_le (l : List S60) (h : ∀ a ∈ l, a.f0.length ≤ 1048576) : szB l ≤ l.length * 1048577 := by
  induction l with
  | nil => simp [szB]
  | cons b t ih =>
    have h1 := h b (by simp)
    have h2 := ih (fun a ha => h a (by simp [ha]))
    simp only [szB, List.length_cons]
    omega
theorem mkB_length (l : List S60) : ∀ v, (mkB v l).length = l.length := by
  induction l with
  | nil => intro v; rfl
  | cons b t ih => intro v; simp [mkB, ih]
theorem szB_len (l : List S60) : l.length ≤ szB l := by
  induction l with
  | nil => simp [szB]
  | cons b t ih => simp only [szB, List.length_cons]; omega
theorem markNodeS_ev (l : List S60) : ∀ v : Int, 0 ≤ v → v + szB l ≤ 4611686018427387904 → Ev (fun k => laws_markNodeS.f k l v) (v + szB l, mkB v l) := by
  induction l with
  | nil => intro v h0 h1; simpa [szB, mkB, laws_markNodeS.f] using Ev.now (v, ([] : List S60))
  | cons b t ih =>
    intro v h0 h1
    simp only [szB] at h1
    push_cast at h1
    have e := ih (v + b.f0.length + 1) (by omega) (by omega)
    have hs : v + ((szB (b :: t) : Nat) : Int) = v + b.f0.length + 1 + szB t := by simp only [szB]; push_cast; omega
    rw [hs]
    simp only [laws_markNodeS.f]
    refine Ev.bind (markIntS_ev b.f0 v h0 (by omega)) ?_
    rw [wrap_id (x := v + (b.f0.length : Int) + 1) (by omega) (by omega)]
    exact Ev.map_ _ e
theorem heldNodeS_loop (rest : List S60) : ∀ (pre : List S60) (v : Int), 0 ≤ v → v + szB rest ≤ 4611686018427387904 → pre.length + rest.length ≤ 4611686018427387904 →
    Ev (fun k => laws_heldNodeS.l0 k (pre ++ mkB v rest) v pre.length) (v + szB rest) := by
  induction rest with
  | nil => intro pre v h0 h1 h2; exact Ev.end (fun k => by rw [laws_heldNodeS.l0, if_neg (by simp [mkB])]; simp [szB])
  | cons b t ih =>
    intro pre v h0 h1 h2
    simp only [szB] at h1
    push_cast at h1
    simp only [List.length_cons] at h2
    have hs : v + ((szB (b :: t) : Nat) : Int) = v + b.f0.length + 1 + szB t := by simp only [szB]; push_cast; omega
    rw [hs]
    have e := ih (pre ++ [⟨ints v b.f0.length, Int.tmod (v + b.f0.length) 3 == 0⟩]) (v + b.f0.length + 1) (by omega) (by omega) (by simp; omega)
    simp only [List.append_assoc, List.singleton_append, List.length_append, List.length_singleton] at e
    have hr : rd_T60 (pre ++ mkB v (b :: t)) (pre.length : Int) = ⟨ints v b.f0.length, Int.tmod (v + b.f0.length) 3 == 0⟩ := rd65 _ _ _ (by simp [mkB])
    refine Ev.step (f := fun k => (laws_heldIntS.f k (ints v b.f0.length) v).bind fun z => if z < 0 then some (-1) else if (((Int.tmod (v + b.f0.length) 3 == 0) != (Int.tmod z 3 == 0)) = true) then some (-1) else laws_heldNodeS.l0 k (pre ++ mkB v (b :: t)) (wrap64 (z + 1)) (wrap64 ((pre.length : Int) + 1))) (fun k => ?_) ?_
    · rw [laws_heldNodeS.l0, if_pos (by simp [mkB]; omega), if_pos (by omega), hr]
    · refine Ev.bind (heldIntS_ev b.f0.length v h0 (by omega)) (Ev.neg (by omega) (Ev.neg (by simp) ?_))
      rw [wrap_id (x := v + (b.f0.length : Int) + 1) (by omega) (by omega), wrap_id (x := (pre.length : Int) + 1) (by omega) (by omega)]
      exact e

theorem szGraph_ev (bs : List S69) (rs cs : List Int) (q0 : bs.length ≤ maxLen ∧ ∀ y ∈ bs, QB y) (q1 : rs.length ≤ maxLen) (q2 : cs.length ≤ maxLen) :
    ∃ r, Ev (fun k => laws_szGraph.f k bs rs cs 1048576) r ∧ (¬ r < 0 → bs.length ≤ 1048576 ∧ (∀ a ∈ bs, a.f0.length ≤ 1048576) ∧ rs.length ≤ 1048576 ∧ cs.length ≤ 1048576) := by
  unfold laws_szGraph.f
  obtain ⟨r0, e0, a0, m0, n0⟩ := szNodeS_ev bs q0.1 q0.2 1048576 (by omega) (by omega)
  by_cases h0 : r0 < 0
  · exact ⟨-1, Ev.bind e0 (Ev.pos h0 (Ev.now _)), fun h => by omega⟩
  obtain ⟨r1, e1, a1, m1, n1⟩ := szIntS_ev rs q1 r0 (by omega) (by omega)
  by_cases h1 : r1 < 0
  · exact ⟨-1, Ev.bind e0 (Ev.neg h0 (Ev.cbind e1 (Ev.pos h1 (Ev.now _)))), fun h => by omega⟩
  obtain ⟨r2, e2, a2, m2, n2⟩ := szIntS_ev cs q2 r1 (by omega) (by omega)
  by_cases h2 : r2 < 0
  · exact ⟨-1, Ev.bind e0 (Ev.neg h0 (Ev.cbind e1 (Ev.neg h1 (Ev.cbind e2 (Ev.pos h2 (Ev.now _)))))), fun h => by omega⟩
  exact ⟨r2, Ev.bind e0 (Ev.neg h0 (Ev.cbind e1 (Ev.neg h1 (Ev.cbind e2 (Ev.neg h2 (Ev.now _)))))), fun _ => ⟨(n0 (by omega)).1, (n0 (by omega)).2, n1 (by omega), n2 (by omega)⟩⟩
theorem toGraph_ev (bs : List S69) (rs cs : List Int) (l0 : bs.length ≤ 1048576) (lb : ∀ a ∈ bs, a.f0.length ≤ 1048576) (l1 : rs.length ≤ 1048576) (l2 : cs.length ≤ 1048576) : Ev (fun k => laws_toGraph.f k bs rs cs) (bs.map brOf, rs, cs) := by
  unfold laws_toGraph.f
  exact Ev.bind (toNodeS_ev bs l0 lb) (Ev.bind (toIntS_ev rs (by omega)) (Ev.bind (toIntS_ev cs (by omega)) (Ev.now _)))
theorem eqGraph_same (ns : List S60) (rs cs : List Int) (l0 : ns.length ≤ 1048576) (lb : ∀ a ∈ ns, a.f0.length ≤ 1048576) (l1 : rs.length ≤ 1048576) (l2 : cs.length ≤ 1048576) : Ev (fun k => laws_eqGraph.f k ns rs cs ns rs cs) true := by
  unfold laws_eqGraph.f
  exact Ev.bind (eqNodeS_same ns l0 lb) (Ev.pos rfl (Ev.bind (eqIntS_same rs (by omega)) (Ev.pos rfl (Ev.bind (eqIntS_same cs (by omega)) (Ev.pos rfl (Ev.now _))))))
theorem markGraph_ev' (ns : List S60) (rs cs : List Int) (l0 : ns.length ≤ 1048576) (lb : ∀ a ∈ ns, a.f0.length ≤ 1048576) (l1 : rs.length ≤ 1048576) (l2 : cs.length ≤ 1048576) :
    ∃ (m : Int) (ns' : List S60) (rs' cs' : List Int), Ev (fun k => laws_markGraph.f k ns rs cs 1) (m, ns', rs', cs') ∧ ¬ m < 0 := by
  have hz := szB_le ns lb
  refine ⟨1 + szB ns + rs.length + cs.length, mkB 1 ns, ints (1 + szB ns) rs.length, ints (1 + szB ns + rs.length) cs.length, ?_, by omega⟩
  unfold laws_markGraph.f
  exact Ev.bind (markNodeS_ev ns 1 (by omega) (by omega)) (Ev.bind (markIntS_ev rs (1 + szB ns) (by omega) (by omega)) (Ev.bind (markIntS_ev cs (1 + szB ns + rs.length) (by omega) (by omega)) (Ev.now _)))
theorem markGraph_ev (ns : List S60) (rs cs : List Int) (l0 : ns.length ≤ 1048576) (lb : ∀ a ∈ ns, a.f0.length ≤ 1048576) (l1 : rs.length ≤ 1048576) (l2 : cs.length ≤ 1048576) :
    ∃ (m : Int) (ns' : List S60) (rs' cs' : List Int), Ev (fun k => laws_markGraph.f k ns rs cs 1) (m, ns', rs', cs') ∧ ¬ m < 0 ∧ Ev (fun k => laws_heldGraph.f k ns' rs' cs' 1) m := by
  have hz := szB_le ns lb
  have hn := szB_len ns
  refine ⟨1 + szB ns + rs.length + cs.length, mkB 1 ns, ints (1 + szB ns) rs.length, ints (1 + szB ns + rs.length) cs.length, ?_, by omega, ?_⟩
  · unfold laws_markGraph.f
    exact Ev.bind (markNodeS_ev ns 1 (by omega) (by omega)) (Ev.bind (markIntS_ev rs (1 + szB ns) (by omega) (by omega)) (Ev.bind (markIntS_ev cs (1 + szB ns + rs.length) (by omega) (by omega)) (Ev.now _)))
  · unfold laws_heldGraph.f laws_heldNodeS.f
    have e := heldNodeS_loop ns [] 1 (by omega) (by omega) (by simp; omega)
    exact Ev.bind (by simpa using e) (Ev.neg (by omega) (Ev.bind (heldIntS_ev rs.length (1 + szB ns) (by omega) (by omega)) (Ev.neg (by omega) (Ev.bind (heldIntS_ev cs.length (1 + szB ns + rs.length) (by omega) (by omega)) (Ev.neg (by omega) (Ev.now _))))))

theorem clone_eq (l : List Int) (h : l.length ≤ 1048576) : slices_Clone_int_int.f l = some l := by
  unfold slices_Clone_int_int.f
  rw [if_pos (by omega)]
theorem ownNodes_loop (ns : List S60) (hl : ns.length ≤ 1048576) (hk : ∀ a ∈ ns, a.f0.length ≤ 1048576) (rest : List S60) : ∀ pre : List S60, ns = pre ++ rest → Ev (fun k => impl_ownNodes.l0 k pre ns ns.length pre.length) ns := by
  induction rest with
  | nil => intro pre h; exact Ev.end (fun k => by rw [impl_ownNodes.l0, if_neg (by rw [h]; simp)]; rw [h]; simp)
  | cons b t ih =>
    intro pre h
    have hlen : ns.length = pre.length + (t.length + 1) := by rw [h]; simp
    have hb : rd_T60 ns (pre.length : Int) = b := rd65 ns pre.length b (by rw [h]; simp)
    have hw : wrap64 ((pre.length : Int) + 1) = ((pre.length + 1 : Nat) : Int) := by rw [wrap_id (by omega) (by omega)]; simp
    have e := ih (pre ++ [b]) (by rw [h]; simp)
    simp only [List.length_append, List.length_singleton] at e
    have hc := clone_eq b.f0 (hk b (by rw [h]; simp))
    exact Ev.step (fun k => by rw [impl_ownNodes.l0, if_pos (by omega), if_pos (by omega), if_pos (by omega), hb, hc, Option.bind_some, if_pos (by omega), hw]) e
theorem ownGraph_ev (ns : List S60) (rs cs : List Int) (hl : ns.length ≤ 1048576) (hk : ∀ a ∈ ns, a.f0.length ≤ 1048576) (h1 : rs.length ≤ 1048576) (h2 : cs.length ≤ 1048576) : Ev (fun k => impl_ownGraph.f k ns rs cs) (ns, rs, cs) := by
  unfold impl_ownGraph.f impl_ownNodes.f
  have e := ownNodes_loop ns hl hk ns [] rfl
  exact Ev.bind (by simpa using e) (Ev.cbind (clone_eq rs h1) (Ev.cbind (clone_eq cs h2) (Ev.now _)))
theorem l10Own_loop (ns : List S60) (rs cs : List Int) (hl : ns.length ≤ 1048576) (hk : ∀ a ∈ ns, a.f0.length ≤ 1048576) (rest : List S60) : ∀ pre : List S60, ns = pre ++ rest → Ev (fun k => spec_l10Own.l0 k ns ns.length pre.length pre rs cs) (ns, rs, cs) := by
  induction rest with
  | nil => intro pre h; exact Ev.end (fun k => by rw [spec_l10Own.l0, if_neg (by rw [h]; simp)]; rw [h]; simp)
  | cons b t ih =>
    intro pre h
    have hlen : ns.length = pre.length + (t.length + 1) := by rw [h]; simp
    have hb : rd_T60 ns (pre.length : Int) = b := rd65 ns pre.length b (by rw [h]; simp)
    have hw : wrap64 ((pre.length : Int) + 1) = ((pre.length + 1 : Nat) : Int) := by rw [wrap_id (by omega) (by omega)]; simp
    have e := ih (pre ++ [b]) (by rw [h]; simp)
    simp only [List.length_append, List.length_singleton] at e
    have hc := hk b (by rw [h]; simp)
    refine Ev.step (fun k => ?_) e
    rw [spec_l10Own.l0, if_pos (by omega), if_pos (by omega), if_pos (by omega), hb, Option.bind_some, if_pos (by simp; omega), if_pos (by omega), hw]
    rfl
theorem l10Own_ev (ns : List S60) (rs cs : List Int) (hl : ns.length ≤ 1048576) (hk : ∀ a ∈ ns, a.f0.length ≤ 1048576) (h1 : rs.length ≤ 1048576) (h2 : cs.length ≤ 1048576) : Ev (fun k => spec_l10Own.f k ns rs cs) (ns, rs, cs) := by
  unfold spec_l10Own.f
  have e := l10Own_loop ns rs cs hl hk ns [] rfl
  refine Ev.cbind rfl (Ev.pos (by simp; omega) (Ev.cbind rfl (Ev.pos (by simp; omega) ?_)))
  simpa using e

theorem thereBad_eq (ns : List S60) (x : Int) (hl : ns.length ≤ 1048576) : impl_isThere.bad ns x = some (!upB ns ns.length x) := by
  have h := bad_eq ns ns.length x (by omega) (Int.le_refl _) hl
  unfold impl_areNodes.bad at h
  unfold impl_isThere.bad
  exact h
theorem there_impl (ns : List S60) (rs cs l : List Int) (hl : ns.length ≤ 1048576) (hv : rs.length ≤ 1048576) (hc : cs.length ≤ 1048576) (hk : ∀ a ∈ ns, a.f0.length ≤ 1048576) : Ev (fun k => impl_isThere.f k ns rs cs l) (goodG ns rs cs && l.all (upB ns ns.length)) := by
  unfold impl_isThere.f
  refine Ev.bind (goodGraph_impl ns rs cs hl hv hc hk) ?_
  cases goodG ns rs cs with
  | false => exact Ev.neg (by simp) (by simpa using Ev.now false)
  | true =>
    refine Ev.pos rfl ?_
    rw [Op.anyO_total (q := fun x => !upB ns ns.length x) (fun x _ => thereBad_eq ns x hl)]
    have e : (!l.any (fun x => !upB ns ns.length x)) = l.all (upB ns ns.length) := by rw [List.any_eq_not_all_not]; simp
    simp only [Option.map_some, e, Bool.true_and]
    exact Ev.now _
theorem there_spec (ns : List S60) (rs cs : List Int) (a : Int) (hl : ns.length ≤ 1048576) (hv : rs.length ≤ 1048576) (hc : cs.length ≤ 1048576) (hk : ∀ a ∈ ns, a.f0.length ≤ 1048576) : Ev (fun k => spec_l10There.f k ns rs cs a) (goodG ns rs cs && upB ns ns.length a) := by
  unfold spec_l10There.f
  refine Ev.bind (goodGraph_spec ns rs cs hl hv hc hk) ?_
  cases goodG ns rs cs with
  | false => exact Ev.neg (by simp) (by simpa using Ev.now false)
  | true =>
    refine Ev.pos rfl ?_
    by_cases h0 : 0 ≤ a
    · by_cases h1 : a < ns.length
      · have e : upB ns ns.length a = !(rd_T60 ns a).f1 := by simp [upB, h0, h1]
        rw [e, Bool.true_and]
        exact Ev.pos (by omega) (Ev.pos h1 (Ev.pos h0 (Ev.now _)))
      · have e : upB ns ns.length a = false := by simp [upB, h1]
        rw [e]
        exact Ev.pos (by omega) (Ev.neg h1 (by simpa using Ev.now false))
    · have e : upB ns ns.length a = false := by simp [upB, h0]
      rw [e]
      exact Ev.neg (by omega) (by simpa using Ev.now false)
theorem nsB_len (ns : List S60) (rest : List S60) : ∀ i : Int, nsB ns rest i = true → ∀ b ∈ rest, b.f0.length ≤ 6 := by
  induction rest with
  | nil => intro i _ b hb; simp at hb
  | cons b t ih =>
    intro i h c hc
    simp only [nsB, Bool.and_eq_true, decide_eq_true_eq] at h
    rcases List.mem_cons.1 hc with rfl | hc
    · exact h.1.1.2
    · exact ih (i + 1) h.2 c hc
/-- what a good graph has -/
theorem goodG_has {ns : List S60} {rs cs : List Int} (h : goodG ns rs cs = true) : ns.length ≤ 14 ∧ rs.length ≤ 6 ∧ cs.length = ns.length ∧ ∀ b ∈ ns, b.f0.length ≤ 6 := by
  simp only [goodG, goodN, Bool.and_eq_true, decide_eq_true_eq] at h
  exact ⟨h.1.1.1.2, h.1.1.2, by rw [h.1.2, countsN_length], nsB_len ns ns 0 h.1.1.1.1.1⟩

theorem op_eq (ns : List S60) (rs cs : List Int) (a c : Int) (hl : ns.length ≤ 1048576) (hk : ∀ a ∈ ns, a.f0.length ≤ 1048576) (hv : rs.length ≤ 1048576) (hc : cs.length ≤ 1048576) :
    ∃ (n' : List S60) (r' c' : List Int) (b : Bool), n'.length ≤ 1048576 ∧ (∀ a ∈ n', a.f0.length ≤ 1048576) ∧ r'.length ≤ 1048576 ∧ c'.length ≤ 1048576 ∧ Ev (fun k => spec_LinkNode.f k ns rs cs a c) (n', r', c', b) ∧ Ev (fun k => impl_LinkNode.f k ns rs cs a c) (n', r', c', b) := by
  unfold spec_LinkNode.f impl_LinkNode.f
  have hs := there_spec ns rs cs a hl hv hc hk
  have hs2 := there_spec ns rs cs c hl hv hc hk
  have hi := there_impl ns rs cs [a, c] hl hv hc hk
  have e : [a, c].all (upB ns ns.length) = (upB ns ns.length a && upB ns ns.length c) := by simp
  rw [e] at hi
  cases g : goodG ns rs cs with
  | false =>
    rw [g] at hs hi
    exact ⟨[], [], [], false, by simp, by simp, by simp, by simp, Ev.bind hs (Ev.neg (by simp) (Ev.now _)), Ev.bind hi (Ev.neg (by simp) (Ev.now _))⟩
  | true =>
    rw [g] at hs hs2 hi
    obtain ⟨h1, h2, h3, h4⟩ := goodG_has g
    cases ga : upB ns ns.length a with
    | false =>
      rw [ga] at hs hi
      exact ⟨[], [], [], false, by simp, by simp, by simp, by simp, Ev.bind hs (Ev.neg (by simp) (Ev.now _)), Ev.bind hi (Ev.neg (by simp) (Ev.now _))⟩
    | true =>
      rw [ga] at hs hi
      cases gc : upB ns ns.length c with
      | false =>
        rw [gc] at hs2 hi
        exact ⟨[], [], [], false, by simp, by simp, by simp, by simp, Ev.bind hs (Ev.pos rfl (Ev.bind hs2 (Ev.neg (by simp) (Ev.now _)))), Ev.bind hi (Ev.neg (by simp) (Ev.now _))⟩
      | true =>
        rw [gc] at hs2 hi
        simp only [upB, Bool.and_eq_true, decide_eq_true_eq] at ga gc
        by_cases z : c ≥ a
        · exact ⟨[], [], [], false, by simp, by simp, by simp, by simp, Ev.bind hs (Ev.pos rfl (Ev.bind hs2 (Ev.pos rfl (Ev.pos z (Ev.now _))))), Ev.bind hi (Ev.pos rfl (Ev.pos z (Ev.now _)))⟩
        have hm : rd_T60 ns a ∈ ns := by
          have hlt : a.toNat < ns.length := by omega
          have : rd_T60 ns a = ns[a.toNat] := by
            have := rd65 ns a.toNat ns[a.toNat] (List.getElem?_eq_getElem hlt)
            rwa [Int.toNat_of_nonneg ga.1.1] at this
          rw [this]; exact List.getElem_mem hlt
        have h6 := h4 _ hm
        by_cases y : (rd_T60 ns a).f0.length = 6
        · exact ⟨[], [], [], false, by simp, by simp, by simp, by simp, Ev.bind hs (Ev.pos rfl (Ev.bind hs2 (Ev.pos rfl (Ev.neg z (Ev.pos ga.1.1 (Ev.pos ga.1.2 (Ev.pos (by omega) (Ev.now _)))))))), Ev.bind hi (Ev.pos rfl (Ev.neg z (Ev.pos ga.1.1 (Ev.pos ga.1.2 (Ev.pos (by omega) (Ev.now _))))))⟩
        · refine ⟨ns.set a.toNat ⟨(rd_T60 ns a).f0 ++ [c], (rd_T60 ns a).f1⟩, rs, cs.set c.toNat (wrap64 (rd cs c + 1)), true, by simpa using hl, ?_, hv, by simpa using hc, Ev.bind hs (Ev.pos rfl (Ev.bind hs2 (Ev.pos rfl (Ev.neg z (Ev.pos ga.1.1 (Ev.pos ga.1.2 (Ev.neg (by omega) (Ev.bind (l10Own_ev ns rs cs hl hk hv hc) (Ev.pos ga.1.2 (Ev.pos (by simp only; omega) (Ev.pos gc.1.1 (Ev.pos (by simp only; omega) (Ev.now _))))))))))))), Ev.bind hi (Ev.pos rfl (Ev.neg z (Ev.pos ga.1.1 (Ev.pos ga.1.2 (Ev.neg (by omega) (Ev.bind (ownGraph_ev ns rs cs hl hk hv hc) (Ev.pos ga.1.2 (Ev.pos (by simp only; omega) (Ev.pos gc.1.1 (Ev.pos (by simp only; omega) (Ev.now _)))))))))))⟩
          intro x hx
          rcases List.mem_or_eq_of_mem_set hx with h | rfl
          · exact hk x h
          · simp; omega

theorem FnExactLinkNode : laws_FnExactLinkNode.Pure := by
  intro b0 rs cs a c q0 q1 q2 _ _
  refine Ev.rounds (g := fun k => laws_FnExactLinkNode.f k b0 rs cs a c) (r := true) ?_
  unfold laws_FnExactLinkNode.f
  obtain ⟨z, hz, hl⟩ := szGraph_ev b0 rs cs q0 q1.1 q2.1
  by_cases hn : z < 0
  · exact Ev.bind hz (Ev.pos hn (Ev.now _))
  obtain ⟨l0, lb, l1, l2⟩ := hl hn
  have ht := toGraph_ev b0 rs cs l0 lb l1 l2
  have m0 : (b0.map brOf).length ≤ 1048576 := by simpa using l0
  have mb : ∀ a ∈ b0.map brOf, a.f0.length ≤ 1048576 := by intro a ha; obtain ⟨c, hc, rfl⟩ := List.mem_map.1 ha; exact lb c hc
  generalize b0.map brOf = ns at ht m0 mb
  have hp := eqGraph_same ns rs cs m0 mb l1 l2
  obtain ⟨n', r', c', b, p0, pb, p1, p2, e1, e2⟩ := op_eq ns rs cs a c m0 mb l1 l2
  have he := eqGraph_same n' r' c' p0 pb p1 p2
  obtain ⟨mk, nk, rk, ck, hk, hk0⟩ := markGraph_ev' ns rs cs m0 mb l1 l2
  obtain ⟨m, n2, r2, c2, hm, hm0, hh⟩ := markGraph_ev n' r' c' p0 pb p1 p2
  exact Ev.bind hz (Ev.neg hn (Ev.bind ht (Ev.bind e1 (Ev.bind ht (Ev.bind e2 (Ev.bind he (Ev.pos rfl (Ev.neg (by simp) (Ev.bind ht (Ev.bind hp (Ev.pos rfl (Ev.bind hk (Ev.neg hk0 (Ev.bind he (Ev.pos rfl (Ev.neg (by simp) (Ev.bind hm (Ev.bind hh (Ev.neg hm0 (Ev.neg (by simp) (Ev.bind ht (Ev.bind e2 (Ev.bind he (Ev.pos rfl (Ev.neg (by simp) (Ev.bind hh (Ev.neg hm0 (Ev.neg (by simp) (Ev.now _)))))))))))))))))))))))))))))

end Go.Proofs.Ytdhclelfnbjikaa.Pure
