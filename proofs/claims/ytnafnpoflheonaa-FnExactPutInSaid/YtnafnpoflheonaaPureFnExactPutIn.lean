/- PutIn of the program answers as the reference for all arguments. No condition. -/
import Derived.Test.YtnafnpoflheonaaPFnExactPutInx9
set_option maxRecDepth 100000
set_option linter.unusedVariables false
set_option linter.unusedSimpArgs false
namespace Go.Proofs.Ytnafnpoflheonaa.Pure
open Go.Proofs.Ytnafnpoflheonaa Go.RowKit Go.Proofs.Ytnafnpoflheonaa.PFnExactPutIn Go.Proofs.YtnafnpoflheonaaW.PrintWords Go.Proofs.YtnafnpoflheonaaW.PrintLast

theorem wrap_id {x : Int} (h0 : -9223372036854775808 ≤ x) (h1 : x < 9223372036854775808) : wrap64 x = x := by
  unfold wrap64; omega
theorem Ev.pos {α : Type} {c : Prop} [Decidable c] {g f : Nat → Option α} {r : α} (h : c) (k : Ev g r) : Ev (fun n => if c then g n else f n) r := by
  simpa only [if_pos h] using k
theorem Ev.neg {α : Type} {c : Prop} [Decidable c] {g f : Nat → Option α} {r : α} (h : ¬ c) (k : Ev f r) : Ev (fun n => if c then g n else f n) r := by
  simpa only [if_neg h] using k
theorem Ev.val {α : Type} {x : Option α} {r : α} (h : x = some r) : Ev (fun _ => x) r := by
  rw [h]; exact Ev.now r
theorem Ev.end {α : Type} {g : Nat → Option α} {r : α} (h : ∀ k, g (k + 1) = some r) : Ev g r := Ev.step (f := fun _ => some r) h (Ev.now r)
theorem Ev.cbind {α β : Type} {x : Option α} {f : Nat → α → Option β} {a : α} {r : β} (h : x = some a) (k : Ev (fun n => f n a) r) : Ev (fun n => x.bind (f n)) r := by
  subst h; exact k
theorem Ev.uniq {α : Type} {g : Nat → Option α} {r q : α} (h : Ev g r) (k : Ev g q) : r = q := by
  obtain ⟨K, h⟩ := h
  obtain ⟨L, k⟩ := k
  have h1 := h (max K L) (by omega)
  have h2 := k (max K L) (by omega)
  rw [h1] at h2
  exact Option.some.inj h2
theorem Ev.succ {α : Type} {g : Nat → Option α} {r : α} (h : Ev (fun k => g (k + 1)) r) : Ev g r := Ev.step (fun _ => rfl) h

theorem within_eq (a b c : Int) : impl_within.f a b c = some (decide (b ≤ a ∧ a ≤ c)) := by
  by_cases h : b ≤ a <;> simp [impl_within.f, h]

theorem l1In_eq (a b c : Int) : spec_l1In.f a b c = some (decide (b ≤ a ∧ a ≤ c)) := by
  by_cases h : b ≤ a <;> simp [spec_l1In.f, h]

theorem eqIntS_loop (l : List Int) (hl : l.length ≤ 4611686018427387904) (d : Nat) : ∀ i : Int, 0 ≤ i → i ≤ l.length → (l.length : Int) - i = d → Ev (fun k => laws_eqIntS.l0 k l l i) true := by
  induction d with
  | zero => intro i h0 h1 hd; exact Ev.end (fun k => by simp only [laws_eqIntS.l0]; rw [if_neg (by omega)])
  | succ d ih =>
    intro i h0 h1 hd
    refine Ev.step (fun k => ?_) (ih (i + 1) (by omega) (by omega) (by omega))
    have hw := wrap_id (x := i + 1) (by omega) (by omega)
    rw [laws_eqIntS.l0, if_pos (by omega), if_pos h0, if_pos (by omega), if_pos rfl, hw]
theorem eqIntS_same (l : List Int) (hl : l.length ≤ 4611686018427387904) : Ev (fun k => laws_eqIntS.f k l l) true := by
  unfold laws_eqIntS.f; exact Ev.pos (by trivial) (eqIntS_loop l hl l.length 0 (by omega) (by omega) (by omega))


/-- A slice written element by element from another: one induction for all kinds. -/
theorem copy_gen {α β : Type} {L : Nat → List α → List β → Int → Option (List β)} (conv : α → β) (M : Nat) (B : α → Prop)
    (hend : ∀ (x : List α) (y : List β) (i : Int), ¬ i < x.length → Ev (fun k => L k x y i) y)
    (hstep : ∀ (x : List α) (y : List β) (i : Nat) (a : α) (r : List β), i < x.length → i < y.length → x.length ≤ M → x[i]? = some a → B a → Ev (fun k => L k x (y.set i (conv a)) ((i + 1 : Nat) : Int)) r → Ev (fun k => L k x y i) r)
    (rest : List α) : ∀ (pre : List α) (tail : List β), tail.length = rest.length → pre.length + rest.length ≤ M → (∀ a ∈ rest, B a) →
      Ev (fun k => L k (pre ++ rest) (pre.map conv ++ tail) pre.length) ((pre ++ rest).map conv) := by
  induction rest with
  | nil =>
    intro pre tail hl hM hB
    obtain rfl : tail = [] := List.length_eq_zero_iff.1 hl
    simpa using hend pre (pre.map conv) pre.length (by omega)
  | cons a rest ih =>
    intro pre tail hl hM hB
    match tail, hl with
    | b :: tail, hl =>
      simp only [List.length_cons] at hl hM
      have h := ih (pre ++ [a]) tail (by omega) (by simp; omega) (fun x hx => hB x (by simp [hx]))
      simp only [List.append_assoc, List.singleton_append, List.length_append, List.length_singleton, List.map_append, List.map_cons, List.map_nil] at h
      refine hstep _ _ _ a _ (by simp) (by simp) (by simp; omega) (by simp) (hB a (by simp)) ?_
      have e : (List.map conv pre ++ b :: tail).set pre.length (conv a) = List.map conv pre ++ conv a :: tail := by
        rw [List.set_append_right _ _ (by simp)]
        simp
      rw [e]
      simpa using h

theorem toIntS_ev (l : List Int) (hl : l.length ≤ 35184372088832) : Ev (fun k => laws_toIntS.f k l) l := by
  have h := copy_gen (L := laws_toIntS.l0) (fun a => a) 35184372088832 (fun _ => True) (fun x y i hi => Ev.end (fun k => by rw [laws_toIntS.l0, if_neg hi]))
    (fun x y i a r hi hy hM ha _ he => Ev.step (fun k => by
      have hw := wrap_id (x := (i : Int) + 1) (by omega) (by omega)
      have hr : rd x i = a := by simp [rd, rdOf, List.getD_eq_getElem?_getD, ha]
      rw [laws_toIntS.l0, if_pos (by omega), if_pos (by omega), if_pos (by omega), hr, hw]
      simp) he) l [] (List.replicate l.length 0) (by simp) (by simpa using hl) (fun _ _ => trivial)
  unfold laws_toIntS.f
  refine Ev.pos (by omega) (Ev.pos (by simpa using hl) ?_)
  simpa using h


theorem szIntS_ev (l : List Int) (hM : l.length ≤ maxLen) (v : Int) (h0 : 0 ≤ v) (h1 : v ≤ 1048576) :
    ∃ r, laws_szIntS.f l v = some r ∧ r ≤ v ∧ -1 ≤ r ∧ (0 ≤ r → l.length ≤ 1048576) := by
  unfold laws_szIntS.f
  have e : wrap64 (v - (l.length : Int)) = v - l.length := by unfold maxLen at hM; exact wrap_id (by omega) (by omega)
  rw [e]
  by_cases hn : v - (l.length : Int) < 0
  · exact ⟨-1, if_pos hn, by omega, by omega, fun h => by omega⟩
  · exact ⟨v - l.length, if_neg hn, by omega, by omega, fun _ => by omega⟩

theorem sz_gen {α : Type} {L : Nat → List α → Int → Int → Option Int} (Q B : α → Prop) (M : Nat)
    (hend : ∀ (x : List α) (v i : Int), ¬ i < x.length → Ev (fun k => L k x v i) v)
    (hstep : ∀ (x : List α) (v : Int) (i : Nat) (a : α), i < x.length → x.length ≤ M → x[i]? = some a → Q a → 0 ≤ v → v ≤ 1048576 → ∃ r, r ≤ v ∧ -1 ≤ r ∧ (0 ≤ r → B a) ∧ (r < 0 → Ev (fun k => L k x v i) (-1)) ∧ (0 ≤ r → ∀ q, Ev (fun k => L k x r ((i + 1 : Nat) : Int)) q → Ev (fun k => L k x v i) q))
    (rest : List α) : ∀ (pre : List α) (v : Int), 0 ≤ v → v ≤ 1048576 → pre.length + rest.length ≤ M → (∀ a ∈ rest, Q a) →
      ∃ r, Ev (fun k => L k (pre ++ rest) v pre.length) r ∧ r ≤ v ∧ -1 ≤ r ∧ (0 ≤ r → ∀ a ∈ rest, B a) := by
  induction rest with
  | nil => intro pre v h0 h1 hM hQ; exact ⟨v, hend _ _ _ (by simp), by omega, by omega, fun _ a ha => by cases ha⟩
  | cons a rest ih =>
    intro pre v h0 h1 hM hQ
    simp only [List.length_cons] at hM
    obtain ⟨r, r1, r2, r3, r4, r5⟩ := hstep (pre ++ a :: rest) v pre.length a (by simp) (by simp; omega) (by simp) (hQ a (by simp)) h0 h1
    by_cases hr : r < 0
    · exact ⟨-1, r4 hr, by omega, by omega, fun h => by omega⟩
    · obtain ⟨q, e, q1, q2, q3⟩ := ih (pre ++ [a]) r (by omega) (by omega) (by simp; omega) (fun x hx => hQ x (by simp [hx]))
      simp only [List.append_assoc, List.singleton_append, List.length_append, List.length_singleton] at e
      refine ⟨q, r5 (by omega) q e, by omega, q2, fun h x hx => ?_⟩
      rcases List.mem_cons.1 hx with rfl | hx
      · exact r3 (by omega)
      · exact q3 h x hx

/-- what elements cost, together -/
def costs {α : Type} (cost : α → Nat) : List α → Nat
  | [] => 0
  | a :: l => cost a + costs cost l
/-- Marking element by element, and asking for the marks: one induction for all kinds. -/
theorem mark_gen {α : Type} {L : Nat → List α → Int → Int → Option (Int × List α)} {H : Nat → List α → Int → Int → Option Int} (cost : α → Nat) (val : Int → α → α) (B : Int) (M : Nat)
    (hend : ∀ (x : List α) (v i : Int), ¬ i < x.length → Ev (fun k => L k x v i) (v, x)) (hendH : ∀ (x : List α) (v i : Int), ¬ i < x.length → Ev (fun k => H k x v i) v)
    (hstep : ∀ (x : List α) (v : Int) (i : Nat) (a : α) (r : Int × List α), i < x.length → x.length ≤ M → x[i]? = some a → 0 ≤ v → v + cost a ≤ B → Ev (fun k => L k (x.set i (val v a)) (v + cost a) ((i + 1 : Nat) : Int)) r → Ev (fun k => L k x v i) r)
    (hstepH : ∀ (x : List α) (v : Int) (i : Nat) (a : α) (r : Int), i < x.length → x.length ≤ M → x[i]? = some (val v a) → 0 ≤ v → v + cost a ≤ B → Ev (fun k => H k x (v + cost a) ((i + 1 : Nat) : Int)) r → Ev (fun k => H k x v i) r)
    (rest : List α) : ∀ (pre : List α) (v : Int), 0 ≤ v → v + costs cost rest ≤ B → pre.length + rest.length ≤ M →
      ∃ rest' : List α, rest'.length = rest.length ∧ Ev (fun k => L k (pre ++ rest) v pre.length) (v + costs cost rest, pre ++ rest') ∧ Ev (fun k => H k (pre ++ rest') v pre.length) (v + costs cost rest) := by
  induction rest with
  | nil =>
    intro pre v h0 h1 h2
    refine ⟨[], rfl, ?_, ?_⟩
    · simpa [costs] using hend pre v pre.length (by omega)
    · simpa [costs] using hendH pre v pre.length (by omega)
  | cons a rest ih =>
    intro pre v h0 h1 h2
    simp only [costs, List.length_cons] at h1 h2
    push_cast at h1
    obtain ⟨rest', hl, e1, e2⟩ := ih (pre ++ [val v a]) (v + cost a) (by omega) (by omega) (by simp; omega)
    simp only [List.append_assoc, List.singleton_append, List.length_append, List.length_singleton] at e1 e2
    have hs : v + (cost a : Int) + (costs cost rest : Int) = v + (costs cost (a :: rest) : Nat) := by simp only [costs]; push_cast; omega
    rw [hs] at e1 e2
    refine ⟨val v a :: rest', by simp [hl], ?_, ?_⟩
    · refine hstep _ _ _ a _ (by simp) (by simp; omega) (by simp) h0 (by omega) ?_
      simpa using e1
    · refine hstepH _ _ _ a _ (by simp) (by simp; omega) (by simp) h0 (by omega) ?_
      simpa using e2

/-- what marking makes of numbers -/
def ints (v : Int) : Nat → List Int
  | 0 => []
  | n + 1 => v :: ints (v + 1) n
theorem ints_length (v : Int) (n : Nat) : (ints v n).length = n := by
  induction n generalizing v with
  | zero => rfl
  | succ n ih => simp [ints, ih]
theorem markIntS_loop (rest : List Int) : ∀ (pre : List Int) (v : Int), 0 ≤ v → v + rest.length ≤ 4611686018427387904 → pre.length + rest.length ≤ 4611686018427387904 →
    Ev (fun k => laws_markIntS.l0 k (pre ++ rest) v pre.length) (v + rest.length, pre ++ ints v rest.length) := by
  induction rest with
  | nil => intro pre v h0 h1 h2; exact Ev.end (fun k => by simp only [laws_markIntS.l0]; rw [if_neg (by simp)]; simp [ints])
  | cons a rest ih =>
    intro pre v h0 h1 h2
    simp only [List.length_cons] at h1 h2
    have := ih (pre ++ [v]) (v + 1) (by omega) (by push_cast at h1 ⊢; omega) (by simp; omega)
    simp only [List.append_assoc, List.singleton_append, List.length_append, List.length_singleton] at this
    rw [show (v + 1 + (rest.length : Int)) = v + ((a :: rest).length : Int) by simp; omega] at this
    refine Ev.step (fun k => ?_) this
    rw [laws_markIntS.l0]
    rw [if_pos (by simp; omega), if_pos (by omega), wrap_id (x := v + 1) (by omega) (by push_cast at h1; omega), wrap_id (x := (pre.length : Int) + 1) (by omega) (by omega)]
    simp
theorem heldIntS_loop (n : Nat) : ∀ (pre : List Int) (v : Int), 0 ≤ v → v + n ≤ 4611686018427387904 → pre.length + n ≤ 4611686018427387904 →
    Ev (fun k => laws_heldIntS.l0 k (pre ++ ints v n) v pre.length) (v + n) := by
  induction n with
  | zero => intro pre v h0 h1 h2; exact Ev.end (fun k => by simp only [laws_heldIntS.l0]; rw [if_neg (by simp [ints])]; simp)
  | succ n ih =>
    intro pre v h0 h1 h2
    have := ih (pre ++ [v]) (v + 1) (by omega) (by push_cast at h1 ⊢; omega) (by simp; omega)
    simp only [List.append_assoc, List.singleton_append, List.length_append, List.length_singleton] at this
    rw [show (v + 1 + (n : Int)) = v + ((n + 1 : Nat) : Int) by push_cast; omega] at this
    show Ev (fun k => laws_heldIntS.l0 k (pre ++ (v :: ints (v + 1) n)) v pre.length) _
    refine Ev.step (fun k => ?_) this
    rw [laws_heldIntS.l0]
    rw [if_pos (by simp; omega), if_pos (by omega), if_pos (by simp [rd, List.getD_eq_getElem?_getD]), wrap_id (x := v + 1) (by omega) (by push_cast at h1; omega), wrap_id (x := (pre.length : Int) + 1) (by omega) (by omega)]
    simp
theorem markIntS_ev (l : List Int) (v : Int) (h0 : 0 ≤ v) (h : v + l.length ≤ 4611686018427387904) : Ev (fun k => laws_markIntS.f k l v) (v + l.length, ints v l.length) :=
  markIntS_loop l [] v h0 h (by simp; omega)
theorem heldIntS_ev (n : Nat) (v : Int) (h0 : 0 ≤ v) (h : v + n ≤ 4611686018427387904) : Ev (fun k => laws_heldIntS.f k (ints v n) v) (v + n) :=
  heldIntS_loop n [] v h0 h (by simp; omega)

theorem eq_gen {α : Type} {L : Nat → List α → List α → Int → Option Bool} (B : α → Prop) (M : Nat)
    (hend : ∀ (x : List α) (i : Int), ¬ i < x.length → Ev (fun k => L k x x i) true)
    (hstep : ∀ (x : List α) (i : Nat) (a : α), i < x.length → x.length ≤ M → x[i]? = some a → B a → Ev (fun k => L k x x ((i + 1 : Nat) : Int)) true → Ev (fun k => L k x x i) true)
    (rest : List α) : ∀ (pre : List α), pre.length + rest.length ≤ M → (∀ a ∈ rest, B a) → Ev (fun k => L k (pre ++ rest) (pre ++ rest) pre.length) true := by
  induction rest with
  | nil => intro pre hM hB; exact hend _ _ (by simp)
  | cons a rest ih =>
    intro pre hM hB
    simp only [List.length_cons] at hM
    have h := ih (pre ++ [a]) (by simp; omega) (fun x hx => hB x (by simp [hx]))
    simp only [List.append_assoc, List.singleton_append, List.length_append, List.length_singleton] at h
    exact hstep _ _ a (by simp) (by simp; omega) (by simp) (hB a (by simp)) h

theorem rd65 (x : List S65) (i : Nat) (a : S65) (h : x[i]? = some a) : rd_T65 x (i : Int) = a := by
  simp [rd_T65, List.getD_eq_getElem?_getD, h]
theorem rd88 (x : List S88) (i : Nat) (a : S88) (h : x[i]? = some a) : rd_T88 x (i : Int) = a := by
  simp [rd_T88, List.getD_eq_getElem?_getD, h]
def QB (z : S88) : Prop := (z.f0.length ≤ maxLen ∧ ∀ y ∈ z.f0, (Lit.int .i64 y).wf = true) ∧ True
theorem szBranchS_ev (l : List S88) (hM : l.length ≤ maxLen) (hq : ∀ y ∈ l, QB y) (v : Int) (h0 : 0 ≤ v) (h1 : v ≤ 1048576) :
    ∃ r, Ev (fun k => laws_szBranchS.f k l v) r ∧ r ≤ v ∧ -1 ≤ r ∧ (0 ≤ r → l.length ≤ 1048576 ∧ ∀ a ∈ l, a.f0.length ≤ 1048576) := by
  unfold laws_szBranchS.f
  have e : wrap64 (v - (l.length : Int)) = v - l.length := by unfold maxLen at hM; exact wrap_id (by omega) (by omega)
  rw [e]
  by_cases hn : v - (l.length : Int) < 0
  · exact ⟨-1, Ev.pos hn (Ev.now _), by omega, by omega, fun h => by omega⟩
  · obtain ⟨r, g, r1, r2, r3⟩ := sz_gen (L := laws_szBranchS.l0) QB (fun a => a.f0.length ≤ 1048576) 9223372036854775807
      (fun x v i hi => Ev.end (fun k => by rw [laws_szBranchS.l0, if_neg hi]))
      (fun x v i a hi hM ha hQ h0 h1 => by
        obtain ⟨r, e, r1, r2, r3⟩ := szIntS_ev a.f0 hQ.1.1 v h0 h1
        have hr := rd88 x i a ha
        have hw : wrap64 ((i : Int) + 1) = ((i + 1 : Nat) : Int) := by rw [wrap_id (by omega) (by omega)]; simp
        refine ⟨r, r1, r2, r3, fun hn => Ev.end (fun k => ?_), fun hn q he => Ev.step (fun k => ?_) he⟩
        · rw [laws_szBranchS.l0, if_pos (by omega), if_pos (by omega), hr]
          unfold laws_szBranch.f
          rw [e]; simp only [Option.bind_some]; rw [if_pos hn]; rfl
        · rw [laws_szBranchS.l0, if_pos (by omega), if_pos (by omega), hr]
          unfold laws_szBranch.f
          rw [e]; simp only [Option.bind_some]; rw [if_neg (by omega)]; simp only [Option.bind_some]; rw [if_neg (by omega), hw]) l [] (v - l.length) (by omega) (by omega) (by simp; omega) hq
    exact ⟨r, Ev.neg hn g, by omega, r2, fun h => ⟨by omega, r3 h⟩⟩
theorem szPool_ev (bs : List S88) (vs : List Int) (q0 : bs.length ≤ maxLen ∧ ∀ y ∈ bs, QB y) (q1 : vs.length ≤ maxLen) :
    ∃ r, Ev (fun k => laws_szPool.f k bs vs 1048576) r ∧ (¬ r < 0 → bs.length ≤ 1048576 ∧ (∀ a ∈ bs, a.f0.length ≤ 1048576) ∧ vs.length ≤ 1048576) := by
  unfold laws_szPool.f
  obtain ⟨r0, e0, a0, m0, n0⟩ := szBranchS_ev bs q0.1 q0.2 1048576 (by omega) (by omega)
  by_cases h0 : r0 < 0
  · exact ⟨-1, Ev.bind e0 (Ev.pos h0 (Ev.now _)), fun h => by omega⟩
  obtain ⟨r1, e1, a1, m1, n1⟩ := szIntS_ev vs q1 r0 (by omega) (by omega)
  by_cases h1 : r1 < 0
  · exact ⟨-1, Ev.bind e0 (Ev.neg h0 (Ev.cbind e1 (Ev.pos h1 (Ev.now _)))), fun h => by omega⟩
  exact ⟨r1, Ev.bind e0 (Ev.neg h0 (Ev.cbind e1 (Ev.neg h1 (Ev.now _)))), fun _ => ⟨(n0 (by omega)).1, (n0 (by omega)).2, n1 (by omega)⟩⟩
/-- a branch as the program has it -/
def brOf (z : S88) : S65 := ⟨z.f0, z.f1⟩
theorem toPool_ev (bs : List S88) (vs : List Int) (l0 : bs.length ≤ 1048576) (lb : ∀ a ∈ bs, a.f0.length ≤ 1048576) (l1 : vs.length ≤ 1048576) : Ev (fun k => laws_toPool.f k bs vs) (bs.map brOf, vs) := by
  have h := copy_gen (L := laws_toBranchS.l0) brOf 8796093022208 (fun a => a.f0.length ≤ 1048576) (fun x y i hi => Ev.end (fun k => by rw [laws_toBranchS.l0, if_neg hi]))
    (fun x y i a r hi hy hM ha hB he => by
      have hw : wrap64 ((i : Int) + 1) = ((i + 1 : Nat) : Int) := by rw [wrap_id (by omega) (by omega)]; simp
      have hr := rd88 x i a ha
      have ht : Ev (fun k => laws_toBranch.f k a.f0 a.f1) (a.f0, a.f1) := by
        unfold laws_toBranch.f; exact Ev.bind (toIntS_ev a.f0 (by omega)) (Ev.now _)
      refine Ev.step (f := fun k => (laws_toBranch.f k a.f0 a.f1).bind fun b => laws_toBranchS.l0 k x (y.set i ⟨b.1, b.2⟩) ((i + 1 : Nat) : Int)) (fun k => ?_) (Ev.bind ht he)
      rw [laws_toBranchS.l0, if_pos (by omega), if_pos (by omega), hr, hw]
      congr 1
      funext b
      rw [if_pos (by omega)]
      simp) bs [] (List.replicate bs.length z65) (by simp) (by simp; omega) lb
  unfold laws_toPool.f laws_toBranchS.f
  refine Ev.bind (Ev.pos (by omega) (Ev.pos (by simp; omega) ?_)) (Ev.bind (toIntS_ev vs (by omega)) (Ev.now _))
  simpa using h

theorem eqPool_same (bs : List S65) (vs : List Int) (l0 : bs.length ≤ 1048576) (lb : ∀ a ∈ bs, a.f0.length ≤ 1048576) (l1 : vs.length ≤ 1048576) : Ev (fun k => laws_eqPool.f k bs vs bs vs) true := by
  have h := eq_gen (L := laws_eqBranchS.l0) (fun a => a.f0.length ≤ 1048576) 1048576 (fun x i hi => Ev.end (fun k => by rw [laws_eqBranchS.l0, if_neg hi]))
    (fun x i a hi hM ha hB he => by
      have hw : wrap64 ((i : Int) + 1) = ((i + 1 : Nat) : Int) := by rw [wrap_id (by omega) (by omega)]; simp
      have hr := rd65 x i a ha
      have ht : Ev (fun k => laws_eqBranch.f k a.f0 a.f1 a.f0 a.f1) true := by
        unfold laws_eqBranch.f; exact Ev.bind (eqIntS_same a.f0 (by omega)) (Ev.pos (by trivial) (Ev.neg (by simp) (Ev.now _)))
      refine Ev.step (f := fun k => (laws_eqBranch.f k a.f0 a.f1 a.f0 a.f1).bind fun b => if b = true then laws_eqBranchS.l0 k x x ((i + 1 : Nat) : Int) else some false) (fun k => ?_) (Ev.bind ht (Ev.pos (by trivial) he))
      rw [laws_eqBranchS.l0, if_pos (by omega), if_pos (by omega), if_pos (by omega), hr, hw]) bs [] (by simp; omega) lb
  unfold laws_eqPool.f laws_eqBranchS.f
  refine Ev.bind (Ev.pos rfl ?_) (Ev.pos (by trivial) (Ev.bind (eqIntS_same vs (by omega)) (Ev.pos (by trivial) (Ev.now _))))
  simpa using h

def kidB (bs : List S65) (i : Int) (leaf : Bool) (kid : Int) : Bool :=
  if leaf then decide (0 ≤ kid ∧ kid ≤ 9999) else decide (kid = -1) || (decide (0 ≤ kid ∧ kid < i) && (rd_T65 bs kid).f1)
def brB (bs : List S65) : List S65 → Int → Bool
  | [], _ => true
  | b :: t, i => b.f0.all (kidB bs i b.f1) && decide (b.f0.length = 4) && brB bs t (i + 1)
def verB (bs : List S65) (v : Int) : Bool := decide (v = -1) || (decide (0 ≤ v ∧ v < bs.length) && !(rd_T65 bs v).f1)
def goodP (bs : List S65) (vs : List Int) : Bool := brB bs bs 0 && vs.all (verB bs) && decide (bs.length ≤ 200) && decide (vs.length ≤ 40)
theorem isKid_eq (bs : List S65) (vs : List Int) (i kid : Int) (h0 : 0 ≤ i) (h1 : i < bs.length) (hl : bs.length ≤ 1048576) : impl_isKid.f bs vs i kid = some (kidB bs i (rd_T65 bs i).f1 kid) := by
  have e : wrap64 (i - 1) = i - 1 := wrap_id (by omega) (by omega)
  unfold impl_isKid.f kidB
  rw [if_pos h0, if_pos h1]
  cases hf : (rd_T65 bs i).f1 with
  | true => simp [within_eq]
  | false =>
    simp only [Bool.false_eq_true, if_false]
    by_cases c : kid = -1
    · simp [c]
    · rw [if_neg c, e]
      simp only [within_eq, Option.bind_some, decide_eq_true_eq]
      by_cases d : 0 ≤ kid ∧ kid < i
      · rw [if_pos (by omega), if_pos d.1, if_pos (by omega)]
        simp [c, d]
      · rw [if_neg (by omega)]
        simp [c, d]
theorem ver_eq (bs : List S65) (v : Int) (hl : bs.length ≤ 1048576) : impl_GoodPool.ver bs v = some (!verB bs v) := by
  have e : wrap64 ((bs.length : Int) - 1) = bs.length - 1 := wrap_id (by omega) (by omega)
  unfold impl_GoodPool.ver verB
  by_cases c : v = -1
  · simp [c]
  · rw [if_neg c, e]
    simp only [within_eq, Option.bind_some, decide_eq_true_eq]
    by_cases d : 0 ≤ v ∧ v < bs.length
    · rw [if_pos (by omega), if_pos d.1, if_pos d.2]
      simp [c, d]
    · rw [if_neg (by omega)]
      simp [c, d]
theorem br_eq (bs : List S65) (vs : List Int) (hl : bs.length ≤ 1048576) (rest : List S65) : ∀ pre : List S65, bs = pre ++ rest → impl_GoodPool.br bs vs rest pre.length = some (brB bs rest pre.length) := by
  induction rest with
  | nil => intro pre h; rfl
  | cons b t ih =>
    intro pre h
    have hb : rd_T65 bs (pre.length : Int) = b := rd65 bs pre.length b (by rw [h]; simp)
    have ha : Op.anyO (fun kid => (impl_isKid.f bs vs pre.length kid).map (fun z => !z)) b.f0 = some (b.f0.any (fun kid => !kidB bs pre.length b.f1 kid)) := by
      refine Op.anyO_total (fun x _ => ?_)
      rw [isKid_eq bs vs _ _ (by omega) (by rw [h]; simp; omega) hl, hb]; rfl
    have hn := ih (pre ++ [b]) (by rw [h]; simp)
    simp only [List.length_append, List.length_singleton] at hn
    unfold impl_GoodPool.br brB
    rw [ha]
    by_cases c : b.f0.length = 4
    · rw [if_pos (by omega)]
      simp only [Option.bind_some]
      by_cases d : b.f0.all (kidB bs pre.length b.f1) = true
      · have : b.f0.any (fun kid => !kidB bs pre.length b.f1 kid) = false := by rw [← Bool.not_eq_true]; simpa using d
        rw [this, d]
        simpa [c] using hn
      · have : b.f0.any (fun kid => !kidB bs pre.length b.f1 kid) = true := by simpa using d
        rw [this]
        simp only [Bool.not_eq_true] at d
        simp [d]
    · rw [if_neg (by omega)]
      simp [c]
theorem goodPool_impl (bs : List S65) (vs : List Int) (hl : bs.length ≤ 1048576) : impl_GoodPool.f bs vs = some (goodP bs vs) := by
  unfold impl_GoodPool.f goodP
  by_cases c1 : bs.length ≤ 200
  · rw [if_neg (by omega)]
    by_cases c2 : vs.length ≤ 40
    · rw [if_neg (by omega)]
      have h := br_eq bs vs hl bs [] rfl
      simp only [List.length_nil, Int.natCast_zero] at h
      rw [h]
      simp only [Option.bind_some]
      cases hb : brB bs bs 0 with
      | false => simp
      | true =>
        simp only [if_true]
        rw [Op.anyO_total (q := fun v => !verB bs v) (fun x _ => ver_eq bs x hl)]
        simp [c1, c2, List.any_eq_not_all_not]
    · rw [if_pos (by omega)]; simp [c2]
  · rw [if_pos (by omega)]; simp [c1]
theorem sGP2 (bs : List S65) (vs : List Int) (hl : bs.length ≤ 1048576) (hv : vs.length ≤ 1048576) (rest : List Int) : ∀ pre : List Int, vs = pre ++ rest →
    Ev (fun k => spec_GoodPool.l2 k vs vs.length pre.length bs vs) (rest.all (verB bs) && decide (bs.length ≤ 200) && decide (vs.length ≤ 40)) := by
  induction rest with
  | nil =>
    intro pre h
    refine Ev.end (fun k => ?_)
    rw [spec_GoodPool.l2, if_neg (by rw [h]; simp)]
    by_cases c : bs.length ≤ 200
    · rw [if_pos (by omega)]; simp [c]; omega
    · rw [if_neg (by omega)]; simp [c]
  | cons v t ih =>
    intro pre h
    have hr : rd vs (pre.length : Int) = v := by rw [h]; simp [rd, List.getD_eq_getElem?_getD]
    have hlen : vs.length = pre.length + (t.length + 1) := by rw [h]; simp
    have hw : wrap64 ((pre.length : Int) + 1) = ((pre.length + 1 : Nat) : Int) := by rw [wrap_id (by omega) (by omega)]; simp
    have hn := ih (pre ++ [v]) (by rw [h]; simp)
    simp only [List.length_append, List.length_singleton] at hn
    simp only [List.all_cons]
    by_cases c : v = -1
    · have e : verB bs v = true := by simp [verB, c]
      rw [e, Bool.true_and]
      exact Ev.step (fun k => by rw [spec_GoodPool.l2, if_pos (by omega), if_pos (by omega), if_pos (by omega), hr, if_pos c, hw]) hn
    · by_cases d : 0 ≤ v ∧ v < bs.length
      · cases f : (rd_T65 bs v).f1 with
        | true =>
          have e : verB bs v = false := by simp [verB, c, f]
          rw [e, Bool.false_and, Bool.false_and, Bool.false_and]
          exact Ev.end (fun k => by rw [spec_GoodPool.l2, if_pos (by omega), if_pos (by omega), if_pos (by omega), hr, if_neg c, if_neg (by omega), if_neg (by omega), if_pos d.1, if_pos d.2, if_pos f])
        | false =>
          have e : verB bs v = true := by simp [verB, d, f]
          rw [e, Bool.true_and]
          exact Ev.step (fun k => by rw [spec_GoodPool.l2, if_pos (by omega), if_pos (by omega), if_pos (by omega), hr, if_neg c, if_neg (by omega), if_neg (by omega), if_pos d.1, if_pos d.2, if_neg (by simp [f]), hw]) hn
      · have e : verB bs v = false := by simp only [verB, c, d, decide_false, Bool.false_or, Bool.false_and]
        rw [e, Bool.false_and, Bool.false_and, Bool.false_and]
        by_cases g : v < 0
        · exact Ev.end (fun k => by rw [spec_GoodPool.l2, if_pos (by omega), if_pos (by omega), if_pos (by omega), hr, if_neg c, if_pos g])
        · exact Ev.end (fun k => by rw [spec_GoodPool.l2, if_pos (by omega), if_pos (by omega), if_pos (by omega), hr, if_neg c, if_neg g, if_pos (by omega)])
theorem sGP1 (bs : List S65) (vs : List Int) (hl : bs.length ≤ 1048576) (i : Int) (h0 : 0 ≤ i) (h1 : i < bs.length) (ks : List Int) (leaf : Bool) (hk : ks.length ≤ 1048576) (r : Bool) (hnext : Ev (fun k => spec_GoodPool.l0 k bs bs.length (i + 1) bs vs) r) (rest : List Int) :
    ∀ pre : List Int, ks = pre ++ rest → Ev (fun k => spec_GoodPool.l1 k i bs bs.length i ks ks.length pre.length bs vs ks leaf) (rest.all (kidB bs i leaf) && decide (ks.length = 4) && r) := by
  have hwi : wrap64 (i + 1) = i + 1 := wrap_id (by omega) (by omega)
  induction rest with
  | nil =>
    intro pre h
    by_cases c : ks.length = 4
    · simp only [c, List.all_nil, decide_true, Bool.true_and]
      exact Ev.step (fun k => by rw [spec_GoodPool.l1, if_neg (by rw [← c, h]; simp), if_pos (by omega), hwi]) hnext
    · have e : (List.all [] (kidB bs i leaf) && decide (ks.length = 4) && r) = false := by simp [c]
      rw [e]
      exact Ev.end (fun k => by rw [spec_GoodPool.l1, if_neg (by rw [h]; simp), if_neg (by omega)])
  | cons v t ih =>
    intro pre h
    have hr : rd ks (pre.length : Int) = v := by rw [h]; simp [rd, List.getD_eq_getElem?_getD]
    have hlen : ks.length = pre.length + (t.length + 1) := by rw [h]; simp
    have hw : wrap64 ((pre.length : Int) + 1) = ((pre.length + 1 : Nat) : Int) := by rw [wrap_id (by omega) (by omega)]; simp
    have hn := ih (pre ++ [v]) (by rw [h]; simp)
    simp only [List.length_append, List.length_singleton] at hn
    simp only [List.all_cons]
    have go : ∀ b : Bool, kidB bs i leaf v = b → (b = true → Ev (fun k => spec_GoodPool.l1 k i bs bs.length i ks ks.length pre.length bs vs ks leaf) (t.all (kidB bs i leaf) && decide (ks.length = 4) && r)) → (b = false → Ev (fun k => spec_GoodPool.l1 k i bs bs.length i ks ks.length pre.length bs vs ks leaf) false) →
        Ev (fun k => spec_GoodPool.l1 k i bs bs.length i ks ks.length pre.length bs vs ks leaf) (kidB bs i leaf v && t.all (kidB bs i leaf) && decide (ks.length = 4) && r) := by
      intro b hb ht hf
      rw [hb]
      cases b with
      | true => simpa using ht rfl
      | false => simpa using hf rfl
    refine go _ rfl (fun hb => ?_) (fun hb => ?_)
    · cases leaf with
      | true =>
        have hv : 0 ≤ v ∧ v ≤ 9999 := by simpa [kidB] using hb
        exact Ev.step (fun k => by rw [spec_GoodPool.l1, if_pos (by omega), if_pos (by omega), if_pos (by omega), if_pos rfl, hr, l1In_eq]; simp only [Option.bind_some]; rw [if_pos (by simpa using hv), hw]) hn
      | false =>
        by_cases c : v = -1
        · exact Ev.step (fun k => by rw [spec_GoodPool.l1, if_pos (by omega), if_pos (by omega), if_pos (by omega), if_neg (by simp), hr, if_pos c, hw]) hn
        · have hv : (0 ≤ v ∧ v < i) ∧ (rd_T65 bs v).f1 = true := by simpa [kidB, c] using hb
          exact Ev.step (fun k => by rw [spec_GoodPool.l1, if_pos (by omega), if_pos (by omega), if_pos (by omega), if_neg (by simp), hr, if_neg c, if_neg (by omega), if_neg (by omega), if_pos hv.1.1, if_pos (by omega), if_pos hv.2, hw]) hn
    · cases leaf with
      | true =>
        have hv : ¬ (0 ≤ v ∧ v ≤ 9999) := by simpa [kidB] using hb
        exact Ev.end (fun k => by rw [spec_GoodPool.l1, if_pos (by omega), if_pos (by omega), if_pos (by omega), if_pos rfl, hr, l1In_eq]; simp only [Option.bind_some]; rw [if_neg (by simpa using hv)])
      | false =>
        have hb' : v ≠ -1 ∧ ((0 ≤ v ∧ v < i) → (rd_T65 bs v).f1 = false) := by simpa [kidB] using hb
        by_cases g : v < 0
        · exact Ev.end (fun k => by rw [spec_GoodPool.l1, if_pos (by omega), if_pos (by omega), if_pos (by omega), if_neg (by simp), hr, if_neg hb'.1, if_pos g])
        · by_cases g2 : v ≥ i
          · exact Ev.end (fun k => by rw [spec_GoodPool.l1, if_pos (by omega), if_pos (by omega), if_pos (by omega), if_neg (by simp), hr, if_neg hb'.1, if_neg g, if_pos g2])
          · have hf := hb'.2 ⟨by omega, by omega⟩
            exact Ev.end (fun k => by rw [spec_GoodPool.l1, if_pos (by omega), if_pos (by omega), if_pos (by omega), if_neg (by simp), hr, if_neg hb'.1, if_neg g, if_neg g2, if_pos (by omega), if_pos (by omega), if_neg (by simp [hf])])
theorem sGP0 (bs : List S65) (vs : List Int) (hl : bs.length ≤ 1048576) (hv : vs.length ≤ 1048576) (hk : ∀ a ∈ bs, a.f0.length ≤ 1048576) (rest : List S65) : ∀ pre : List S65, bs = pre ++ rest →
    Ev (fun k => spec_GoodPool.l0 k bs bs.length pre.length bs vs) (brB bs rest pre.length && (vs.all (verB bs) && decide (bs.length ≤ 200) && decide (vs.length ≤ 40))) := by
  induction rest with
  | nil =>
    intro pre h
    have h2 := sGP2 bs vs hl hv vs [] rfl
    simp only [brB, Bool.true_and]
    exact Ev.step (fun k => by rw [spec_GoodPool.l0, if_neg (by rw [h]; simp)]; rfl) h2
  | cons b t ih =>
    intro pre h
    have hlen : bs.length = pre.length + (t.length + 1) := by rw [h]; simp
    have hb : rd_T65 bs (pre.length : Int) = b := rd65 bs pre.length b (by rw [h]; simp)
    have hn := ih (pre ++ [b]) (by rw [h]; simp)
    simp only [List.length_append, List.length_singleton] at hn
    have h1 := sGP1 bs vs hl pre.length (by omega) (by omega) b.f0 b.f1 (hk b (by rw [h]; simp)) _ (by simpa using hn) b.f0 [] rfl
    have h3 := Ev.step (g := fun k => spec_GoodPool.l0 k bs bs.length pre.length bs vs) (fun k => by rw [spec_GoodPool.l0, if_pos (by omega), if_pos (by omega), if_pos (by omega), hb]; rfl) h1
    simpa [brB, Bool.and_assoc] using h3
theorem goodPool_spec (bs : List S65) (vs : List Int) (hl : bs.length ≤ 1048576) (hv : vs.length ≤ 1048576) (hk : ∀ a ∈ bs, a.f0.length ≤ 1048576) : Ev (fun k => spec_GoodPool.f k bs vs) (goodP bs vs) := by
  have h := sGP0 bs vs hl hv hk bs [] rfl
  unfold spec_GoodPool.f goodP
  simpa [Bool.and_assoc] using h

theorem brB_at (bs : List S65) (rest : List S65) : ∀ pre : List S65, bs = pre ++ rest → brB bs rest pre.length = true → ∀ i : Int, pre.length ≤ i → i < bs.length →
    (rd_T65 bs i).f0.length = 4 ∧ ∀ j : Int, 0 ≤ j → j < 4 → kidB bs i (rd_T65 bs i).f1 (rd (rd_T65 bs i).f0 j) = true := by
  induction rest with
  | nil => intro pre h hb i h0 h1; rw [h] at h1; simp at h1; omega
  | cons b t ih =>
    intro pre h hb i h0 h1
    have hr : rd_T65 bs (pre.length : Int) = b := rd65 bs pre.length b (by rw [h]; simp)
    simp only [brB, Bool.and_eq_true, decide_eq_true_eq] at hb
    obtain ⟨⟨hb1, hb2⟩, hb3⟩ := hb
    by_cases e : i = pre.length
    · subst e
      rw [hr]
      refine ⟨hb2, fun j j0 j1 => List.all_eq_true.1 hb1 _ ?_⟩
      have hj : j.toNat < b.f0.length := by omega
      simp [rd, List.getD_eq_getElem?_getD, hj]
    · exact ih (pre ++ [b]) (by rw [h]; simp) (by simpa using hb3) i (by simp; omega) h1
structure GP (bs : List S65) (vs : List Int) : Prop where
  nb : bs.length ≤ 200
  nv : vs.length ≤ 40
  four : ∀ i : Int, 0 ≤ i → i < bs.length → (rd_T65 bs i).f0.length = 4
  kid : ∀ i : Int, 0 ≤ i → i < bs.length → ∀ j : Int, 0 ≤ j → j < 4 → kidB bs i (rd_T65 bs i).f1 (rd (rd_T65 bs i).f0 j) = true
  ver : ∀ i : Int, 0 ≤ i → i < vs.length → verB bs (rd vs i) = true
theorem goodP_GP {bs : List S65} {vs : List Int} (h : goodP bs vs = true) : GP bs vs := by
  simp only [goodP, Bool.and_eq_true, decide_eq_true_eq] at h
  obtain ⟨⟨⟨h1, h2⟩, h3⟩, h4⟩ := h
  refine ⟨h3, h4, fun i i0 i1 => (brB_at bs bs [] rfl h1 i (by simpa using i0) i1).1, fun i i0 i1 => (brB_at bs bs [] rfl h1 i (by simpa using i0) i1).2, fun i i0 i1 => List.all_eq_true.1 h2 _ ?_⟩
  have hi : i.toNat < vs.length := by omega
  simp [rd, List.getD_eq_getElem?_getD, hi]
/-- a version's leaf for a key, and its value -/
def leafP (bs : List S65) (vs : List Int) (v key : Int) : Int := if rd vs v < 0 then -1 else rd (rd_T65 bs (rd vs v)).f0 (key / 4)
def getP (bs : List S65) (vs : List Int) (v key : Int) : Int := if leafP bs vs v key < 0 then 0 else rd (rd_T65 bs (leafP bs vs v key)).f0 (key % 4)
theorem key_div (key : Int) (h0 : 0 ≤ key) (h1 : key ≤ 15) : wrap64 (Int.tdiv key 4) = key / 4 ∧ Int.tmod key 4 = key % 4 := by
  rw [Int.tdiv_eq_ediv_of_nonneg h0, Int.tmod_eq_emod_of_nonneg h0]
  exact ⟨wrap_id (by omega) (by omega), rfl⟩
theorem leaf_ok {bs : List S65} {vs : List Int} (G : GP bs vs) (v key : Int) (v0 : 0 ≤ v) (v1 : v < vs.length) (k0 : 0 ≤ key) (k1 : key ≤ 15) :
    (0 ≤ rd vs v → rd vs v < bs.length ∧ (rd_T65 bs (rd vs v)).f0.length = 4) ∧ (0 ≤ leafP bs vs v key → leafP bs vs v key < bs.length ∧ (rd_T65 bs (leafP bs vs v key)).f0.length = 4) := by
  have hv := G.ver v v0 v1
  have a : 0 ≤ rd vs v → rd vs v < bs.length ∧ (rd_T65 bs (rd vs v)).f1 = false := by
    intro h
    have : rd vs v ≠ -1 := by omega
    simp only [verB, this, decide_false, Bool.false_or, Bool.and_eq_true, decide_eq_true_eq, Bool.not_eq_true'] at hv
    exact ⟨hv.1.2, hv.2⟩
  refine ⟨fun h => ⟨(a h).1, G.four _ h (a h).1⟩, fun h => ?_⟩
  unfold leafP at h ⊢
  by_cases c : rd vs v < 0
  · rw [if_pos c] at h; omega
  · rw [if_neg c] at h ⊢
    have ha := a (by omega)
    have hk := G.kid (rd vs v) (by omega) ha.1 (key / 4) (by omega) (by omega)
    have hne : rd (rd_T65 bs (rd vs v)).f0 (key / 4) ≠ -1 := by omega
    simp only [kidB, ha.2, Bool.false_eq_true, if_false, hne, decide_false, Bool.false_or, Bool.and_eq_true, decide_eq_true_eq] at hk
    have hlt : rd (rd_T65 bs (rd vs v)).f0 (key / 4) < bs.length := by omega
    exact ⟨hlt, G.four _ h hlt⟩
theorem l11Leaf_eq {bs : List S65} {vs : List Int} (G : GP bs vs) (v key : Int) (v0 : 0 ≤ v) (v1 : v < vs.length) (k0 : 0 ≤ key) (k1 : key ≤ 15) : spec_l11Leaf.f bs vs v key = some (leafP bs vs v key) := by
  obtain ⟨a, b⟩ := leaf_ok G v key v0 v1 k0 k1
  obtain ⟨e1, e2⟩ := key_div key k0 k1
  unfold spec_l11Leaf.f leafP
  rw [if_pos v0, if_pos v1, e1]
  by_cases c : rd vs v < 0
  · rw [if_pos c, if_pos c]
  · obtain ⟨a1, a2⟩ := a (by omega)
    rw [if_neg c, if_neg c, if_pos (by omega), if_pos a1, if_pos (by omega), if_pos (by omega)]
theorem isVersion_eq (bs : List S65) (vs l : List Int) (hb : bs.length ≤ 1048576) (hv : vs.length ≤ 1048576) : impl_isVersion.f bs vs l = some (goodP bs vs && l.all (fun v => decide (0 ≤ v ∧ v < vs.length))) := by
  have e : wrap64 ((vs.length : Int) - 1) = vs.length - 1 := wrap_id (by omega) (by omega)
  unfold impl_isVersion.f
  rw [goodPool_impl bs vs hb]
  simp only [Option.bind_some]
  cases goodP bs vs with
  | false => simp
  | true =>
    have h : Op.anyO (impl_isVersion.ver vs.length) l = some (l.any (fun v => !decide (0 ≤ v ∧ v < vs.length))) := by
      refine Op.anyO_total (fun x _ => ?_)
      simp only [impl_isVersion.ver, within_eq, e, Option.bind_some]
      congr 2
      by_cases c : 0 ≤ x ∧ x < vs.length
      · rw [decide_eq_true c, decide_eq_true (by omega)]
      · rw [decide_eq_false c, decide_eq_false (by omega)]
    simp only [if_true, h, Option.map_some, Bool.true_and]
    congr 1
    rw [List.any_eq_not_all_not]
    simp
theorem l11There_eq (bs : List S65) (vs : List Int) (v : Int) (hl : bs.length ≤ 1048576) (hv : vs.length ≤ 1048576) (hk : ∀ a ∈ bs, a.f0.length ≤ 1048576) :
    Ev (fun k => spec_l11There.f k bs vs v) (goodP bs vs && decide (0 ≤ v ∧ v < vs.length)) := by
  unfold spec_l11There.f
  refine Ev.bind (goodPool_spec bs vs hl hv hk) ?_
  cases goodP bs vs with
  | false => exact Ev.neg (by simp) (Ev.now _)
  | true =>
    refine Ev.pos rfl ?_
    by_cases c : 0 ≤ v
    · simpa [c] using Ev.pos (g := fun _ => some (decide (v < (vs.length : Int)))) (f := fun _ => some false) (c := v ≥ 0) c (Ev.now _)
    · simpa [c] using Ev.neg (g := fun _ => some (decide (v < (vs.length : Int)))) (f := fun _ => some false) (c := v ≥ 0) c (Ev.now _)

theorem Ev.map_ {α β : Type} {g : Nat → Option α} {r : α} (f : α → β) (h : Ev g r) : Ev (fun k => (g k).map f) (f r) := by
  obtain ⟨K, hK⟩ := h
  exact ⟨K, fun k hk => by show (g k).map f = _; rw [hK k hk]; rfl⟩
/-- the marked branches; what they cost -/
def mkB (v : Int) : List S65 → List S65
  | [] => []
  | b :: t => ⟨ints v b.f0.length, Int.tmod (v + b.f0.length) 3 == 0⟩ :: mkB (v + b.f0.length + 1) t
def szB : List S65 → Nat
  | [] => 0
  | b :: t => b.f0.length + 1 + szB t
theorem szB_le (l : List S65) (h : ∀ a ∈ l, a.f0.length ≤ 1048576) : szB l ≤ l.length * 1048577 := by
  induction l with
  | nil => simp [szB]
  | cons b t ih =>
    have h1 := h b (by simp)
    have h2 := ih (fun a ha => h a (by simp [ha]))
    simp only [szB, List.length_cons]
    omega
theorem mkB_length (l : List S65) : ∀ v, (mkB v l).length = l.length := by
  induction l with
  | nil => intro v; rfl
  | cons b t ih => intro v; simp [mkB, ih]
theorem szB_len (l : List S65) : l.length ≤ szB l := by
  induction l with
  | nil => simp [szB]
  | cons b t ih => simp only [szB, List.length_cons]; omega
theorem markBranchS_ev (l : List S65) : ∀ v : Int, 0 ≤ v → v + szB l ≤ 4611686018427387904 → Ev (fun k => laws_markBranchS.f k l v) (v + szB l, mkB v l) := by
  induction l with
  | nil => intro v h0 h1; simpa [szB, mkB, laws_markBranchS.f] using Ev.now (v, ([] : List S65))
  | cons b t ih =>
    intro v h0 h1
    simp only [szB] at h1
    push_cast at h1
    have e := ih (v + b.f0.length + 1) (by omega) (by omega)
    have hs : v + ((szB (b :: t) : Nat) : Int) = v + b.f0.length + 1 + szB t := by simp only [szB]; push_cast; omega
    rw [hs]
    simp only [laws_markBranchS.f]
    refine Ev.bind (markIntS_ev b.f0 v h0 (by omega)) ?_
    rw [wrap_id (x := v + (b.f0.length : Int) + 1) (by omega) (by omega)]
    exact Ev.map_ _ e
theorem heldBranchS_loop (rest : List S65) : ∀ (pre : List S65) (v : Int), 0 ≤ v → v + szB rest ≤ 4611686018427387904 → pre.length + rest.length ≤ 4611686018427387904 →
    Ev (fun k => laws_heldBranchS.l0 k (pre ++ mkB v rest) v pre.length) (v + szB rest) := by
  induction rest with
  | nil => intro pre v h0 h1 h2; exact Ev.end (fun k => by rw [laws_heldBranchS.l0, if_neg (by simp [mkB])]; simp [szB])
  | cons b t ih =>
    intro pre v h0 h1 h2
    simp only [szB] at h1
    push_cast at h1
    simp only [List.length_cons] at h2
    have hs : v + ((szB (b :: t) : Nat) : Int) = v + b.f0.length + 1 + szB t := by simp only [szB]; push_cast; omega
    rw [hs]
    have e := ih (pre ++ [⟨ints v b.f0.length, Int.tmod (v + b.f0.length) 3 == 0⟩]) (v + b.f0.length + 1) (by omega) (by omega) (by simp; omega)
    simp only [List.append_assoc, List.singleton_append, List.length_append, List.length_singleton] at e
    have hr : rd_T65 (pre ++ mkB v (b :: t)) (pre.length : Int) = ⟨ints v b.f0.length, Int.tmod (v + b.f0.length) 3 == 0⟩ := rd65 _ _ _ (by simp [mkB])
    refine Ev.step (f := fun k => (laws_heldIntS.f k (ints v b.f0.length) v).bind fun z => if z < 0 then some (-1) else if (((Int.tmod (v + b.f0.length) 3 == 0) != (Int.tmod z 3 == 0)) = true) then some (-1) else laws_heldBranchS.l0 k (pre ++ mkB v (b :: t)) (wrap64 (z + 1)) (wrap64 ((pre.length : Int) + 1))) (fun k => ?_) ?_
    · rw [laws_heldBranchS.l0, if_pos (by simp [mkB]; omega), if_pos (by omega), hr]
    · refine Ev.bind (heldIntS_ev b.f0.length v h0 (by omega)) (Ev.neg (by omega) (Ev.neg (by simp) ?_))
      rw [wrap_id (x := v + (b.f0.length : Int) + 1) (by omega) (by omega), wrap_id (x := (pre.length : Int) + 1) (by omega) (by omega)]
      exact e
theorem markPool_ev (bs : List S65) (vs : List Int) (l0 : bs.length ≤ 1048576) (lb : ∀ a ∈ bs, a.f0.length ≤ 1048576) (l1 : vs.length ≤ 1048576) :
    ∃ (m : Int) (bs' : List S65) (vs' : List Int), Ev (fun k => laws_markPool.f k bs vs 1) (m, bs', vs') ∧ ¬ m < 0 ∧ Ev (fun k => laws_heldPool.f k bs' vs' 1) m := by
  have hz := szB_le bs lb
  have hn := szB_len bs
  refine ⟨1 + szB bs + vs.length, mkB 1 bs, ints (1 + szB bs) vs.length, ?_, by omega, ?_⟩
  · unfold laws_markPool.f
    exact Ev.bind (markBranchS_ev bs 1 (by omega) (by omega)) (Ev.bind (markIntS_ev vs (1 + szB bs) (by omega) (by omega)) (Ev.now _))
  · unfold laws_heldPool.f laws_heldBranchS.f
    have e := heldBranchS_loop bs [] 1 (by omega) (by omega) (by simp; omega)
    exact Ev.bind (by simpa using e) (Ev.neg (by omega) (Ev.bind (heldIntS_ev vs.length (1 + szB bs) (by omega) (by omega)) (Ev.neg (by omega) (Ev.now _))))
theorem markPool_ev' (bs : List S65) (vs : List Int) (l0 : bs.length ≤ 1048576) (lb : ∀ a ∈ bs, a.f0.length ≤ 1048576) (l1 : vs.length ≤ 1048576) :
    ∃ (m : Int) (bs' : List S65) (vs' : List Int), Ev (fun k => laws_markPool.f k bs vs 1) (m, bs', vs') ∧ ¬ m < 0 := by
  have hz := szB_le bs lb
  refine ⟨1 + szB bs + vs.length, mkB 1 bs, ints (1 + szB bs) vs.length, ?_, by omega⟩
  unfold laws_markPool.f
  exact Ev.bind (markBranchS_ev bs 1 (by omega) (by omega)) (Ev.bind (markIntS_ev vs (1 + szB bs) (by omega) (by omega)) (Ev.now _))

theorem clone_eq (l : List Int) (h : l.length ≤ 1048576) : slices_Clone_int_int.f l = some l := by
  unfold slices_Clone_int_int.f
  rw [if_pos (by omega)]
theorem ownPool_loop (bs : List S65) (vs : List Int) (hl : bs.length ≤ 1048576) (hk : ∀ a ∈ bs, a.f0.length ≤ 1048576) (rest : List S65) : ∀ pre : List S65, bs = pre ++ rest → Ev (fun k => impl_ownPool.l0 k bs bs.length pre.length pre vs) (bs, vs) := by
  induction rest with
  | nil => intro pre h; exact Ev.end (fun k => by rw [impl_ownPool.l0, if_neg (by rw [h]; simp)]; rw [h]; simp)
  | cons b t ih =>
    intro pre h
    have hlen : bs.length = pre.length + (t.length + 1) := by rw [h]; simp
    have hb : rd_T65 bs (pre.length : Int) = b := rd65 bs pre.length b (by rw [h]; simp)
    have hw : wrap64 ((pre.length : Int) + 1) = ((pre.length + 1 : Nat) : Int) := by rw [wrap_id (by omega) (by omega)]; simp
    have e := ih (pre ++ [b]) (by rw [h]; simp)
    simp only [List.length_append, List.length_singleton] at e
    have hc := clone_eq b.f0 (hk b (by rw [h]; simp))
    exact Ev.step (fun k => by rw [impl_ownPool.l0, if_pos (by omega), if_pos (by omega), if_pos (by omega), hb, hc, Option.bind_some, if_pos (by omega), hw]) e
theorem ownPool_ev (bs : List S65) (vs : List Int) (hl : bs.length ≤ 1048576) (hk : ∀ a ∈ bs, a.f0.length ≤ 1048576) (h1 : vs.length ≤ 1048576) : Ev (fun k => impl_ownPool.f k bs vs) (bs, vs) := by
  unfold impl_ownPool.f
  have e := ownPool_loop bs vs hl hk bs [] rfl
  exact Ev.cbind (clone_eq vs h1) (by simpa using e)
theorem l11Own_loop (bs : List S65) (vs : List Int) (hl : bs.length ≤ 1048576) (hk : ∀ a ∈ bs, a.f0.length ≤ 1048576) (rest : List S65) : ∀ pre : List S65, bs = pre ++ rest → Ev (fun k => spec_l11Own.l0 k bs bs.length pre.length pre vs) (bs, vs) := by
  induction rest with
  | nil => intro pre h; exact Ev.end (fun k => by rw [spec_l11Own.l0, if_neg (by rw [h]; simp)]; rw [h]; simp)
  | cons b t ih =>
    intro pre h
    have hlen : bs.length = pre.length + (t.length + 1) := by rw [h]; simp
    have hb : rd_T65 bs (pre.length : Int) = b := rd65 bs pre.length b (by rw [h]; simp)
    have hw : wrap64 ((pre.length : Int) + 1) = ((pre.length + 1 : Nat) : Int) := by rw [wrap_id (by omega) (by omega)]; simp
    have e := ih (pre ++ [b]) (by rw [h]; simp)
    simp only [List.length_append, List.length_singleton] at e
    have hc := hk b (by rw [h]; simp)
    refine Ev.step (fun k => ?_) e
    rw [spec_l11Own.l0, if_pos (by omega), if_pos (by omega), if_pos (by omega), hb, Option.bind_some, if_pos (by simp; omega), if_pos (by omega), hw]
    rfl
theorem l11Own_ev (bs : List S65) (vs : List Int) (hl : bs.length ≤ 1048576) (hk : ∀ a ∈ bs, a.f0.length ≤ 1048576) (h1 : vs.length ≤ 1048576) : Ev (fun k => spec_l11Own.f k bs vs) (bs, vs) := by
  unfold spec_l11Own.f
  have e := l11Own_loop bs vs hl hk bs [] rfl
  refine Ev.cbind rfl (Ev.pos (by simp; omega) ?_)
  simpa using e

theorem putF_spec (bs : List S65) (vs : List Int) (a b c : Int) : Ev (fun k => spec_PutIn.j0 k a b c true bs vs) (([] : List S65), ([] : List Int), false) := Ev.end (fun k => by rw [spec_PutIn.j0, if_pos rfl])
theorem putF_impl (bs : List S65) (vs : List Int) (a b c : Int) : Ev (fun k => impl_PutIn.j0 k a b c true bs vs) (([] : List S65), ([] : List Int), false) := Ev.end (fun k => by rw [impl_PutIn.j0, if_pos rfl])
theorem rd4 (x y z u : Int) (i : Int) (h0 : 0 ≤ i) (h1 : i < 4) (e : x = y) (e2 : y = z) (e3 : z = u) : rd [x, y, z, u] i = x := by
  subst e e2 e3
  have : i = 0 ∨ i = 1 ∨ i = 2 ∨ i = 3 := by omega
  rcases this with rfl | rfl | rfl | rfl <;> rfl
/-- a version's top, as kids -/
def topP (bs : List S65) (vs : List Int) (v : Int) : List Int := if rd vs v ≥ 0 then (rd_T65 bs (rd vs v)).f0 else [-1, -1, -1, -1]
def valP (bs : List S65) (vs : List Int) (v key : Int) : List Int := if leafP bs vs v key ≥ 0 then (rd_T65 bs (leafP bs vs v key)).f0 else [0, 0, 0, 0]
def putB (bs : List S65) (vs : List Int) (v key x : Int) : List S65 := bs ++ [(⟨(valP bs vs v key).set (key % 4).toNat x, true⟩ : S65), (⟨(topP bs vs v).set (key / 4).toNat bs.length, false⟩ : S65)]
theorem topP_ok {bs : List S65} {vs : List Int} (G : GP bs vs) (v key : Int) (v0 : 0 ≤ v) (v1 : v < vs.length) (k0 : 0 ≤ key) (k1 : key ≤ 15) : (topP bs vs v).length = 4 ∧ rd (topP bs vs v) (key / 4) = leafP bs vs v key ∧ (valP bs vs v key).length = 4 := by
  obtain ⟨a, b⟩ := leaf_ok G v key v0 v1 k0 k1
  refine ⟨?_, ?_, ?_⟩
  · unfold topP; split
    · exact (a (by omega)).2
    · rfl
  · unfold topP leafP
    by_cases c : rd vs v < 0
    · rw [if_pos c, if_neg (by omega), rd4 _ _ _ _ _ (by omega) (by omega) rfl rfl rfl]
    · rw [if_neg c, if_pos (by omega)]
  · unfold valP; split
    · exact (b (by omega)).2
    · rfl
theorem put_spec {bs : List S65} {vs : List Int} (G : GP bs vs) (v key x : Int) (v0 : 0 ≤ v) (v1 : v < vs.length) (k0 : 0 ≤ key) (k1 : key ≤ 15) (hk : ∀ a ∈ bs, a.f0.length ≤ 1048576) : Ev (fun k => spec_PutIn.j0 k v key x false bs vs) (putB bs vs v key x, vs ++ [wrap64 (((putB bs vs v key x).length : Int) - 1)], true) := by
  have hnb := G.nb
  have hnv := G.nv
  obtain ⟨a, b⟩ := leaf_ok G v key v0 v1 k0 k1
  obtain ⟨t1, t2, t3⟩ := topP_ok G v key v0 v1 k0 k1
  obtain ⟨e1, e2⟩ := key_div key k0 k1
  have hj1 : Ev (fun k => spec_PutIn.j1 k v key x bs vs bs vs (valP bs vs v key) true) (putB bs vs v key x, vs ++ [wrap64 (((putB bs vs v key x).length : Int) - 1)], true) := by
    refine Ev.end (fun k => ?_)
    rw [spec_PutIn.j1, e1, e2, if_pos (by omega), if_pos (by omega)]
    simp only [Option.bind_some]
    rw [if_pos v0, if_pos v1]
    by_cases c : rd vs v ≥ 0
    · have ha := a c
      have ht : topP bs vs v = (rd_T65 bs (rd vs v)).f0 := by unfold topP; rw [if_pos c]
      rw [if_pos c, if_pos (by omega), if_pos ha.1, if_pos (by simp; omega), if_pos (by omega)]
      simp only [List.nil_append]
      rw [← ht, if_pos (by omega), if_pos (by omega), if_pos (by omega)]
      rfl
    · have ht : topP bs vs v = [-1, -1, -1, -1] := by unfold topP; rw [if_neg c]
      rw [if_neg c, if_pos (by omega), if_pos (by simp; omega), if_pos (by omega), if_pos (by omega), ← ht]
      rfl
  refine Ev.succ ?_
  simp only [spec_PutIn.j0]
  refine Ev.neg (by simp) (Ev.bind (l11Own_ev bs vs (by omega) hk (by omega)) (Ev.cbind (l11Leaf_eq G v key v0 v1 k0 k1) ?_))
  by_cases c : leafP bs vs v key ≥ 0
  · have hb := b c
    have hv : valP bs vs v key = (rd_T65 bs (leafP bs vs v key)).f0 := by unfold valP; rw [if_pos c]
    rw [hv] at hj1
    exact Ev.pos c (Ev.cbind rfl (Ev.pos (by omega) (Ev.pos hb.1 (Ev.pos (by simp; omega) (by simpa using hj1)))))
  · have hv : valP bs vs v key = [0, 0, 0, 0] := by unfold valP; rw [if_neg c]
    rw [hv] at hj1
    exact Ev.neg c hj1
theorem put_impl {bs : List S65} {vs : List Int} (G : GP bs vs) (v key x : Int) (v0 : 0 ≤ v) (v1 : v < vs.length) (k0 : 0 ≤ key) (k1 : key ≤ 15) (hk : ∀ a ∈ bs, a.f0.length ≤ 1048576) : Ev (fun k => impl_PutIn.j0 k v key x false bs vs) (putB bs vs v key x, vs ++ [wrap64 (((putB bs vs v key x).length : Int) - 1)], true) := by
  have hnb := G.nb
  have hnv := G.nv
  obtain ⟨a, b⟩ := leaf_ok G v key v0 v1 k0 k1
  obtain ⟨t1, t2, t3⟩ := topP_ok G v key v0 v1 k0 k1
  obtain ⟨e1, e2⟩ := key_div key k0 k1
  have hj1 : Ev (fun k => impl_PutIn.j1 k key x (topP bs vs v) [0, 0, 0, 0] bs vs bs vs) (putB bs vs v key x, vs ++ [wrap64 (((putB bs vs v key x).length : Int) - 1)], true) := by
    refine Ev.end (fun k => ?_)
    rw [impl_PutIn.j1, e1, e2, if_pos (by omega), if_pos (by omega), t2]
    by_cases c : leafP bs vs v key ≥ 0
    · have hb := b c
      have hv : valP bs vs v key = (rd_T65 bs (leafP bs vs v key)).f0 := by unfold valP; rw [if_pos c]
      rw [if_pos c, if_pos (by omega), if_pos hb.1, clone_eq _ (by omega)]
      simp only [Option.bind_some]
      rw [← hv, if_pos (by omega), if_pos (by omega), if_pos (by omega), if_pos (by omega)]
      rfl
    · have hv : valP bs vs v key = [0, 0, 0, 0] := by unfold valP; rw [if_neg c]
      rw [if_neg c, if_pos (by omega), if_pos (by simp; omega), if_pos (by omega)]
      simp only [Option.bind_some]
      rw [if_pos (by omega), ← hv]
      rfl
  refine Ev.succ ?_
  simp only [impl_PutIn.j0]
  refine Ev.neg (by simp) (Ev.bind (ownPool_ev bs vs (by omega) hk (by omega)) (Ev.pos (by omega) (Ev.cbind rfl (Ev.pos v0 (Ev.pos v1 ?_)))))
  have hrep : List.replicate 4 (0 : Int) = [0, 0, 0, 0] := rfl
  rw [hrep]
  by_cases c : rd vs v ≥ 0
  · have ha := a c
    have ht : topP bs vs v = (rd_T65 bs (rd vs v)).f0 := by unfold topP; rw [if_pos c]
    rw [ht] at hj1
    exact Ev.pos c (Ev.pos (by omega) (Ev.pos ha.1 (Ev.cbind (clone_eq _ (by omega)) hj1)))
  · have ht : topP bs vs v = [-1, -1, -1, -1] := by unfold topP; rw [if_neg c]
    rw [ht] at hj1
    exact Ev.neg c hj1
theorem op_eq (bs : List S65) (vs : List Int) (v key x : Int) (hl : bs.length ≤ 1048576) (hv : vs.length ≤ 1048576) (hk : ∀ a ∈ bs, a.f0.length ≤ 1048576) :
    ∃ (b' : List S65) (v' : List Int) (b : Bool), b'.length ≤ 1048576 ∧ (∀ a ∈ b', a.f0.length ≤ 1048576) ∧ v'.length ≤ 1048576 ∧ Ev (fun k => spec_PutIn.f k bs vs v key x) (b', v', b) ∧ Ev (fun k => impl_PutIn.f k bs vs v key x) (b', v', b) := by
  unfold spec_PutIn.f impl_PutIn.f
  have hi := isVersion_eq bs vs [v] hl hv
  have ht := l11There_eq bs vs v hl hv hk
  have e : [v].all (fun v => decide (0 ≤ v ∧ v < vs.length)) = decide (0 ≤ v ∧ v < vs.length) := by simp
  rw [e] at hi
  have k1 : spec_l11Key.f key = some (decide (0 ≤ key ∧ key ≤ 15)) := by simp only [spec_l11Key.f, l1In_eq, Option.bind_some]
  have k2 : impl_isPoolKey.f key = some (decide (0 ≤ key ∧ key ≤ 15)) := by simp only [impl_isPoolKey.f, within_eq, Option.bind_some]
  have fS := putF_spec bs vs v key x
  have fI := putF_impl bs vs v key x
  have no : ∀ (p : Ev (fun k => spec_PutIn.f k bs vs v key x) (([] : List S65), ([] : List Int), false)) (q : Ev (fun k => impl_PutIn.f k bs vs v key x) (([] : List S65), ([] : List Int), false)), ∃ (b' : List S65) (v' : List Int) (b : Bool), b'.length ≤ 1048576 ∧ (∀ a ∈ b', a.f0.length ≤ 1048576) ∧ v'.length ≤ 1048576 ∧ Ev (fun k => spec_PutIn.f k bs vs v key x) (b', v', b) ∧ Ev (fun k => impl_PutIn.f k bs vs v key x) (b', v', b) := fun p q => ⟨[], [], false, by simp, by simp, by simp, p, q⟩
  unfold spec_PutIn.f impl_PutIn.f at no
  cases g : (goodP bs vs && decide (0 ≤ v ∧ v < vs.length)) with
  | false =>
    rw [g] at ht hi
    exact no (Ev.bind ht (Ev.neg (by simp) fS)) (Ev.cbind hi (Ev.neg (by simp) fI))
  | true =>
    rw [g] at ht hi
    simp only [Bool.and_eq_true, decide_eq_true_eq] at g
    have G := goodP_GP g.1
    have hnb := G.nb
    have hnv := G.nv
    by_cases c1 : 0 ≤ key ∧ key ≤ 15
    case neg => exact no (Ev.bind ht (Ev.pos rfl (Ev.cbind k1 (Ev.neg (by simpa using c1) fS)))) (Ev.cbind hi (Ev.pos rfl (Ev.cbind k2 (Ev.neg (by simpa using c1) fI))))
    by_cases c2 : 0 ≤ x ∧ x ≤ 9999
    case neg => exact no (Ev.bind ht (Ev.pos rfl (Ev.cbind k1 (Ev.pos (by simpa using c1) (Ev.cbind (l1In_eq _ _ _) (Ev.neg (by simpa using c2) fS)))))) (Ev.cbind hi (Ev.pos rfl (Ev.cbind k2 (Ev.pos (by simpa using c1) (Ev.cbind (within_eq _ _ _) (Ev.neg (by simpa using c2) fI))))))
    have hw : wrap64 ((bs.length : Int) + 2) = bs.length + 2 := wrap_id (by omega) (by omega)
    rw [hw] at no ⊢
    by_cases c3 : (bs.length : Int) + 2 > 200
    · exact no (Ev.bind ht (Ev.pos rfl (Ev.cbind k1 (Ev.pos (by simpa using c1) (Ev.cbind (l1In_eq _ _ _) (Ev.pos (by simpa using c2) (Ev.pos c3 fS))))))) (Ev.cbind hi (Ev.pos rfl (Ev.cbind k2 (Ev.pos (by simpa using c1) (Ev.cbind (within_eq _ _ _) (Ev.pos (by simpa using c2) (Ev.pos c3 fI)))))))
    by_cases c4 : (vs.length : Int) = 40
    · have h40 : ((vs.length : Int) == 40) = true := by simpa using c4
      exact no (Ev.bind ht (Ev.pos rfl (Ev.cbind k1 (Ev.pos (by simpa using c1) (Ev.cbind (l1In_eq _ _ _) (Ev.pos (by simpa using c2) (Ev.neg c3 (by rw [h40]; exact fS)))))))) (Ev.cbind hi (Ev.pos rfl (Ev.cbind k2 (Ev.pos (by simpa using c1) (Ev.cbind (within_eq _ _ _) (Ev.pos (by simpa using c2) (Ev.neg c3 (by rw [h40]; exact fI))))))))
    · have h40 : ((vs.length : Int) == 40) = false := by simpa using c4
      obtain ⟨t1, t2, t3⟩ := topP_ok G v key g.2.1 g.2.2 c1.1 c1.2
      refine ⟨putB bs vs v key x, vs ++ [wrap64 (((putB bs vs v key x).length : Int) - 1)], true, by simp [putB]; omega, ?_, by simp; omega, Ev.bind ht (Ev.pos rfl (Ev.cbind k1 (Ev.pos (by simpa using c1) (Ev.cbind (l1In_eq _ _ _) (Ev.pos (by simpa using c2) (Ev.neg c3 (by rw [h40]; exact put_spec G v key x g.2.1 g.2.2 c1.1 c1.2 hk))))))), Ev.cbind hi (Ev.pos rfl (Ev.cbind k2 (Ev.pos (by simpa using c1) (Ev.cbind (within_eq _ _ _) (Ev.pos (by simpa using c2) (Ev.neg c3 (by rw [h40]; exact put_impl G v key x g.2.1 g.2.2 c1.1 c1.2 hk)))))))⟩
      intro a ha
      rcases List.mem_append.1 ha with ha | ha
      · exact hk a ha
      · simp only [List.mem_cons, List.not_mem_nil, or_false] at ha
        rcases ha with rfl | rfl
        · simp; omega
        · simp; omega

theorem FnExactPutIn : laws_FnExactPutIn.Pure := by
  intro b0 vs v key x q0 q1 _ _ _
  refine Ev.rounds (g := fun k => laws_FnExactPutIn.f k b0 vs v key x) (r := true) ?_
  unfold laws_FnExactPutIn.f
  obtain ⟨z, hz, hl⟩ := szPool_ev b0 vs q0 q1.1
  by_cases hn : z < 0
  · exact Ev.bind hz (Ev.pos hn (Ev.now _))
  obtain ⟨l0, lb, l1⟩ := hl hn
  have ht := toPool_ev b0 vs l0 lb l1
  have m0 : (b0.map brOf).length ≤ 1048576 := by simpa using l0
  have mb : ∀ a ∈ b0.map brOf, a.f0.length ≤ 1048576 := by intro a ha; obtain ⟨c, hc, rfl⟩ := List.mem_map.1 ha; exact lb c hc
  generalize b0.map brOf = bs at ht m0 mb
  have hp := eqPool_same bs vs m0 mb l1
  obtain ⟨b', v', b, p0, pb, p1, e1, e2⟩ := op_eq bs vs v key x m0 l1 mb
  have he := eqPool_same b' v' p0 pb p1
  obtain ⟨mk, nk, rk, hk, hk0⟩ := markPool_ev' bs vs m0 mb l1
  obtain ⟨m, n2, r2, hm, hm0, hh⟩ := markPool_ev b' v' p0 pb p1
  exact Ev.bind hz (Ev.neg hn (Ev.bind ht (Ev.bind e1 (Ev.bind ht (Ev.bind e2 (Ev.bind he (Ev.pos rfl (Ev.neg (by simp) (Ev.bind ht (Ev.bind hp (Ev.pos rfl (Ev.bind hk (Ev.neg hk0 (Ev.bind he (Ev.pos rfl (Ev.neg (by simp) (Ev.bind hm (Ev.bind hh (Ev.neg hm0 (Ev.neg (by simp) (Ev.bind ht (Ev.bind e2 (Ev.bind he (Ev.pos rfl (Ev.neg (by simp) (Ev.bind hh (Ev.neg hm0 (Ev.neg (by simp) (Ev.now _)))))))))))))))))))))))))))))

end Go.Proofs.Ytnafnpoflheonaa.Pure
