/- NewPool of the program and of the reference return the same, and what it returns is its own memory. -/
import Derived.Test.YtnafnpoflheonaaPFnExactNewPoolx2
set_option maxRecDepth 100000
set_option linter.unusedVariables false
set_option linter.unusedSimpArgs false
namespace Go.Proofs.Ytnafnpoflheonaa.Pure
open Go.Proofs.Ytnafnpoflheonaa Go.RowKit Go.Proofs.Ytnafnpoflheonaa.PFnExactNewPool Go.Proofs.YtnafnpoflheonaaW.PrintWords Go.Proofs.YtnafnpoflheonaaW.PrintLast

theorem wrap_id {x : Int} (h0 : -9223372036854775808 ≤ x) (h1 : x < 9223372036854775808) : wrap64 x = x := by
  unfold wrap64; omega
theorem Ev.pos {α : Type} {c : Prop} [Decidable c] {g f : Nat → Option α} {r : α} (h : c) (k : Ev g r) : Ev (fun n => if c then g n else f n) r := by
  simpa only [if_pos h] using k
theorem Ev.neg {α : Type} {c : Prop} [Decidable c] {g f : Nat → Option α} {r : α} (h : ¬ c) (k : Ev f r) : Ev (fun n => if c then g n else f n) r := by
  simpa only [if_neg h] using k
theorem Ev.val {α : Type} {x : Option α} {r : α} (h : x = some r) : Ev (fun _ => x) r := by
  rw [h]; exact Ev.now r
theorem Ev.end {α : Type} {g : Nat → Option α} {r : α} (h : ∀ k, g (k + 1) = some r) : Ev g r := Ev.step (f := fun _ => some r) h (Ev.now r)
theorem Ev.cbind {α β : Type} {x : Option α} {f : Nat → α → Option β} {a : α} {r : β} (h : x = some a) (k : Ev (fun n => f n a) r) : Ev (fun n => x.bind (f n)) r := by
  subst h; exact k
theorem Ev.uniq {α : Type} {g : Nat → Option α} {r q : α} (h : Ev g r) (k : Ev g q) : r = q := by
  obtain ⟨K, h⟩ := h
  obtain ⟨L, k⟩ := k
  have h1 := h (max K L) (by omega)
  have h2 := k (max K L) (by omega)
  rw [h1] at h2
  exact Option.some.inj h2
theorem Ev.succ {α : Type} {g : Nat → Option α} {r : α} (h : Ev (fun k => g (k + 1)) r) : Ev g r := Ev.step (fun _ => rfl) h

theorem eqIntS_loop (l : List Int) (hl : l.length ≤ 4611686018427387904) (d : Nat) : ∀ i : Int, 0 ≤ i → i ≤ l.length → (l.length : Int) - i = d → Ev (fun k => laws_eqIntS.l0 k l l i) true := by
  induction d with
  | zero => intro i h0 h1 hd; exact Ev.end (fun k => by simp only [laws_eqIntS.l0]; rw [if_neg (by omega)])
  | succ d ih =>
    intro i h0 h1 hd
    refine Ev.step (fun k => ?_) (ih (i + 1) (by omega) (by omega) (by omega))
    have hw := wrap_id (x := i + 1) (by omega) (by omega)
    rw [laws_eqIntS.l0, if_pos (by omega), if_pos h0, if_pos (by omega), if_pos rfl, hw]
theorem eqIntS_same (l : List Int) (hl : l.length ≤ 4611686018427387904) : Ev (fun k => laws_eqIntS.f k l l) true := by
  unfold laws_eqIntS.f; exact Ev.pos (by trivial) (eqIntS_loop l hl l.length 0 (by omega) (by omega) (by omega))


/-- A slice written element by element from another: one induction for all kinds. -/
theorem copy_gen {α β : Type} {L : Nat → List α → List β → Int → Option (List β)} (conv : α → β) (M : Nat) (B : α → Prop)
    (hend : ∀ (x : List α) (y : List β) (i : Int), ¬ i < x.length → Ev (fun k => L k x y i) y)
    (hstep : ∀ (x : List α) (y : List β) (i : Nat) (a : α) (r : List β), i < x.length → i < y.length → x.length ≤ M → x[i]? = some a → B a → Ev (fun k => L k x (y.set i (conv a)) ((i + 1 : Nat) : Int)) r → Ev (fun k => L k x y i) r)
    (rest : List α) : ∀ (pre : List α) (tail : List β), tail.length = rest.length → pre.length + rest.length ≤ M → (∀ a ∈ rest, B a) →
      Ev (fun k => L k (pre ++ rest) (pre.map conv ++ tail) pre.length) ((pre ++ rest).map conv) := by
  induction rest with
  | nil =>
    intro pre tail hl hM hB
    obtain rfl : tail = [] := List.length_eq_zero_iff.1 hl
    simpa using hend pre (pre.map conv) pre.length (by omega)
  | cons a rest ih =>
    intro pre tail hl hM hB
    match tail, hl with
    | b :: tail, hl =>
      simp only [List.length_cons] at hl hM
      have h := ih (pre ++ [a]) tail (by omega) (by simp; omega) (fun x hx => hB x (by simp [hx]))
      simp only [List.append_assoc, List.singleton_append, List.length_append, List.length_singleton, List.map_append, List.map_cons, List.map_nil] at h
      refine hstep _ _ _ a _ (by simp) (by simp) (by simp; omega) (by simp) (hB a (by simp)) ?_
      have e : (List.map conv pre ++ b :: tail).set pre.length (conv a) = List.map conv pre ++ conv a :: tail := by
        rw [List.set_append_right _ _ (by simp)]
        simp
      rw [e]
      simpa using h

/-- what elements cost, together -/
def costs {α : Type} (cost : α → Nat) : List α → Nat
  | [] => 0
  | a :: l => cost a + costs cost l
/-- Marking element by element, and asking for the marks: one induction for all kinds. -/
theorem mark_gen {α : Type} {L : Nat → List α → Int → Int → Option (Int × List α)} {H : Nat → List α → Int → Int → Option Int} (cost : α → Nat) (val : Int → α → α) (B : Int) (M : Nat)
    (hend : ∀ (x : List α) (v i : Int), ¬ i < x.length → Ev (fun k => L k x v i) (v, x)) (hendH : ∀ (x : List α) (v i : Int), ¬ i < x.length → Ev (fun k => H k x v i) v)
    (hstep : ∀ (x : List α) (v : Int) (i : Nat) (a : α) (r : Int × List α), i < x.length → x.length ≤ M → x[i]? = some a → 0 ≤ v → v + cost a ≤ B → Ev (fun k => L k (x.set i (val v a)) (v + cost a) ((i + 1 : Nat) : Int)) r → Ev (fun k => L k x v i) r)
    (hstepH : ∀ (x : List α) (v : Int) (i : Nat) (a : α) (r : Int), i < x.length → x.length ≤ M → x[i]? = some (val v a) → 0 ≤ v → v + cost a ≤ B → Ev (fun k => H k x (v + cost a) ((i + 1 : Nat) : Int)) r → Ev (fun k => H k x v i) r)
    (rest : List α) : ∀ (pre : List α) (v : Int), 0 ≤ v → v + costs cost rest ≤ B → pre.length + rest.length ≤ M →
      ∃ rest' : List α, rest'.length = rest.length ∧ Ev (fun k => L k (pre ++ rest) v pre.length) (v + costs cost rest, pre ++ rest') ∧ Ev (fun k => H k (pre ++ rest') v pre.length) (v + costs cost rest) := by
  induction rest with
  | nil =>
    intro pre v h0 h1 h2
    refine ⟨[], rfl, ?_, ?_⟩
    · simpa [costs] using hend pre v pre.length (by omega)
    · simpa [costs] using hendH pre v pre.length (by omega)
  | cons a rest ih =>
    intro pre v h0 h1 h2
    simp only [costs, List.length_cons] at h1 h2
    push_cast at h1
    obtain ⟨rest', hl, e1, e2⟩ := ih (pre ++ [val v a]) (v + cost a) (by omega) (by omega) (by simp; omega)
    simp only [List.append_assoc, List.singleton_append, List.length_append, List.length_singleton] at e1 e2
    have hs : v + (cost a : Int) + (costs cost rest : Int) = v + (costs cost (a :: rest) : Nat) := by simp only [costs]; push_cast; omega
    rw [hs] at e1 e2
    refine ⟨val v a :: rest', by simp [hl], ?_, ?_⟩
    · refine hstep _ _ _ a _ (by simp) (by simp; omega) (by simp) h0 (by omega) ?_
      simpa using e1
    · refine hstepH _ _ _ a _ (by simp) (by simp; omega) (by simp) h0 (by omega) ?_
      simpa using e2

/-- what marking makes of numbers -/
def ints (v : Int) : Nat → List Int
  | 0 => []
  | n + 1 => v :: ints (v + 1) n
theorem ints_length (v : Int) (n : Nat) : (ints v n).length = n := by
  induction n generalizing v with
  | zero => rfl
  | succ n ih => simp [ints, ih]
theorem markIntS_loop (rest : List Int) : ∀ (pre : List Int) (v : Int), 0 ≤ v → v + rest.length ≤ 4611686018427387904 → pre.length + rest.length ≤ 4611686018427387904 →
    Ev (fun k => laws_markIntS.l0 k (pre ++ rest) v pre.length) (v + rest.length, pre ++ ints v rest.length) := by
  induction rest with
  | nil => intro pre v h0 h1 h2; exact Ev.end (fun k => by simp only [laws_markIntS.l0]; rw [if_neg (by simp)]; simp [ints])
  | cons a rest ih =>
    intro pre v h0 h1 h2
    simp only [List.length_cons] at h1 h2
    have := ih (pre ++ [v]) (v + 1) (by omega) (by push_cast at h1 ⊢; omega) (by simp; omega)
    simp only [List.append_assoc, List.singleton_append, List.length_append, List.length_singleton] at this
    rw [show (v + 1 + (rest.length : Int)) = v + ((a :: rest).length : Int) by simp; omega] at this
    refine Ev.step (fun k => ?_) this
    rw [laws_markIntS.l0]
    rw [if_pos (by simp; omega), if_pos (by omega), wrap_id (x := v + 1) (by omega) (by push_cast at h1; omega), wrap_id (x := (pre.length : Int) + 1) (by omega) (by omega)]
    simp
theorem heldIntS_loop (n : Nat) : ∀ (pre : List Int) (v : Int), 0 ≤ v → v + n ≤ 4611686018427387904 → pre.length + n ≤ 4611686018427387904 →
    Ev (fun k => laws_heldIntS.l0 k (pre ++ ints v n) v pre.length) (v + n) := by
  induction n with
  | zero => intro pre v h0 h1 h2; exact Ev.end (fun k => by simp only [laws_heldIntS.l0]; rw [if_neg (by simp [ints])]; simp)
  | succ n ih =>
    intro pre v h0 h1 h2
    have := ih (pre ++ [v]) (v + 1) (by omega) (by push_cast at h1 ⊢; omega) (by simp; omega)
    simp only [List.append_assoc, List.singleton_append, List.length_append, List.length_singleton] at this
    rw [show (v + 1 + (n : Int)) = v + ((n + 1 : Nat) : Int) by push_cast; omega] at this
    show Ev (fun k => laws_heldIntS.l0 k (pre ++ (v :: ints (v + 1) n)) v pre.length) _
    refine Ev.step (fun k => ?_) this
    rw [laws_heldIntS.l0]
    rw [if_pos (by simp; omega), if_pos (by omega), if_pos (by simp [rd, List.getD_eq_getElem?_getD]), wrap_id (x := v + 1) (by omega) (by push_cast at h1; omega), wrap_id (x := (pre.length : Int) + 1) (by omega) (by omega)]
    simp
theorem markIntS_ev (l : List Int) (v : Int) (h0 : 0 ≤ v) (h : v + l.length ≤ 4611686018427387904) : Ev (fun k => laws_markIntS.f k l v) (v + l.length, ints v l.length) :=
  markIntS_loop l [] v h0 h (by simp; omega)
theorem heldIntS_ev (n : Nat) (v : Int) (h0 : 0 ≤ v) (h : v + n ≤ 4611686018427387904) : Ev (fun k => laws_heldIntS.f k (ints v n) v) (v + n) :=
  heldIntS_loop n [] v h0 h (by simp; omega)

theorem eq_gen {α : Type} {L : Nat → List α → List α → Int → Option Bool} (B : α → Prop) (M : Nat)
    (hend : ∀ (x : List α) (i : Int), ¬ i < x.length → Ev (fun k => L k x x i) true)
    (hstep : ∀ (x : List α) (i : Nat) (a : α), i < x.length → x.length ≤ M → x[i]? = some a → B a → Ev (fun k => L k x x ((i + 1 : Nat) : Int)) true → Ev (fun k => L k x x i) true)
    (rest : List α) : ∀ (pre : List α), pre.length + rest.length ≤ M → (∀ a ∈ rest, B a) → Ev (fun k => L k (pre ++ rest) (pre ++ rest) pre.length) true := by
  induction rest with
  | nil => intro pre hM hB; exact hend _ _ (by simp)
  | cons a rest ih =>
    intro pre hM hB
    simp only [List.length_cons] at hM
    have h := ih (pre ++ [a]) (by simp; omega) (fun x hx => hB x (by simp [hx]))
    simp only [List.append_assoc, List.singleton_append, List.length_append, List.length_singleton] at h
    exact hstep _ _ a (by simp) (by simp; omega) (by simp) (hB a (by simp)) h

theorem rd65 (x : List S65) (i : Nat) (a : S65) (h : x[i]? = some a) : rd_T65 x (i : Int) = a := by
  simp [rd_T65, List.getD_eq_getElem?_getD, h]
theorem eqPool_same (bs : List S65) (vs : List Int) (l0 : bs.length ≤ 1048576) (lb : ∀ a ∈ bs, a.f0.length ≤ 1048576) (l1 : vs.length ≤ 1048576) : Ev (fun k => laws_eqPool.f k bs vs bs vs) true := by
  have h := eq_gen (L := laws_eqBranchS.l0) (fun a => a.f0.length ≤ 1048576) 1048576 (fun x i hi => Ev.end (fun k => by rw [laws_eqBranchS.l0, if_neg hi]))
    (fun x i a hi hM ha hB he => by
      have hw : wrap64 ((i : Int) + 1) = ((i + 1 : Nat) : Int) := by rw [wrap_id (by omega) (by omega)]; simp
      have hr := rd65 x i a ha
      have ht : Ev (fun k => laws_eqBranch.f k a.f0 a.f1 a.f0 a.f1) true := by
        unfold laws_eqBranch.f; exact Ev.bind (eqIntS_same a.f0 (by omega)) (Ev.pos (by trivial) (Ev.neg (by simp) (Ev.now _)))
      refine Ev.step (f := fun k => (laws_eqBranch.f k a.f0 a.f1 a.f0 a.f1).bind fun b => if b = true then laws_eqBranchS.l0 k x x ((i + 1 : Nat) : Int) else some false) (fun k => ?_) (Ev.bind ht (Ev.pos (by trivial) he))
      rw [laws_eqBranchS.l0, if_pos (by omega), if_pos (by omega), if_pos (by omega), hr, hw]) bs [] (by simp; omega) lb
  unfold laws_eqPool.f laws_eqBranchS.f
  refine Ev.bind (Ev.pos rfl ?_) (Ev.pos (by trivial) (Ev.bind (eqIntS_same vs (by omega)) (Ev.pos (by trivial) (Ev.now _))))
  simpa using h

theorem Ev.map_ {α β : Type} {g : Nat → Option α} {r : α} (f : α → β) (h : Ev g r) : Ev (fun k => (g k).map f) (f r) := by
  obtain ⟨K, hK⟩ := h
  exact ⟨K, fun k hk => by show (g k).map f = _; rw [hK k hk]; rfl⟩
/-- the marked branches; what they cost -/
def mkB (v : Int) : List S65 → List S65
  | [] => []
  | b :: t => ⟨ints v b.f0.length, Int.tmod (v + b.f0.length) 3 == 0⟩ :: mkB (v + b.f0.length + 1) t
def szB : List S65 → Nat
  | [] => 0
  | b :: t => b.f0.length + 1 + szB t
theorem szB_le (l : List S65) (h : ∀ a ∈ l, a.f0.length ≤ 1048576) : szB l ≤ l.length * 1048577 := by
  induction l with
  | nil => simp [szB]
  | cons b t ih =>
    have h1 := h b (by simp)
    have h2 := ih (fun a ha => h a (by simp [ha]))
    simp only [szB, List.length_cons]
    omega
theorem mkB_length (l : List S65) : ∀ v, (mkB v l).length = l.length := by
  induction l with
  | nil => intro v; rfl
  | cons b t ih => intro v; simp [mkB, ih]
theorem szB_len (l : List S65) : l.length ≤ szB l := by
  induction l with
  | nil => simp [szB]
  | cons b t ih => simp only [szB, List.length_cons]; omega
theorem markBranchS_ev (l : List S65) : ∀ v : Int, 0 ≤ v → v + szB l ≤ 4611686018427387904 → Ev (fun k => laws_markBranchS.f k l v) (v + szB l, mkB v l) := by
  induction l with
  | nil => intro v h0 h1; simpa [szB, mkB, laws_markBranchS.f] using Ev.now (v, ([] : List S65))
  | cons b t ih =>
    intro v h0 h1
    simp only [szB] at h1
    push_cast at h1
    have e := ih (v + b.f0.length + 1) (by omega) (by omega)
    have hs : v + ((szB (b :: t) : Nat) : Int) = v + b.f0.length + 1 + szB t := by simp only [szB]; push_cast; omega
    rw [hs]
    simp only [laws_markBranchS.f]
    refine Ev.bind (markIntS_ev b.f0 v h0 (by omega)) ?_
    rw [wrap_id (x := v + (b.f0.length : Int) + 1) (by omega) (by omega)]
    exact Ev.map_ _ e
theorem heldBranchS_loop (rest : List S65) : ∀ (pre : List S65) (v : Int), 0 ≤ v → v + szB rest ≤ 4611686018427387904 → pre.length + rest.length ≤ 4611686018427387904 →
    Ev (fun k => laws_heldBranchS.l0 k (pre ++ mkB v rest) v pre.length) (v + szB rest) := by
  induction rest with
  | nil => intro pre v h0 h1 h2; exact Ev.end (fun k => by rw [laws_heldBranchS.l0, if_neg (by simp [mkB])]; simp [szB])
  | cons b t ih =>
    intro pre v h0 h1 h2
    simp only [szB] at h1
    push_cast at h1
    simp only [List.length_cons] at h2
    have hs : v + ((szB (b :: t) : Nat) : Int) = v + b.f0.length + 1 + szB t := by simp only [szB]; push_cast; omega
    rw [hs]
    have e := ih (pre ++ [⟨ints v b.f0.length, Int.tmod (v + b.f0.length) 3 == 0⟩]) (v + b.f0.length + 1) (by omega) (by omega) (by simp; omega)
    simp only [List.append_assoc, List.singleton_append, List.length_append, List.length_singleton] at e
    have hr : rd_T65 (pre ++ mkB v (b :: t)) (pre.length : Int) = ⟨ints v b.f0.length, Int.tmod (v + b.f0.length) 3 == 0⟩ := rd65 _ _ _ (by simp [mkB])
    refine Ev.step (f := fun k => (laws_heldIntS.f k (ints v b.f0.length) v).bind fun z => if z < 0 then some (-1) else if (((Int.tmod (v + b.f0.length) 3 == 0) != (Int.tmod z 3 == 0)) = true) then some (-1) else laws_heldBranchS.l0 k (pre ++ mkB v (b :: t)) (wrap64 (z + 1)) (wrap64 ((pre.length : Int) + 1))) (fun k => ?_) ?_
    · rw [laws_heldBranchS.l0, if_pos (by simp [mkB]; omega), if_pos (by omega), hr]
    · refine Ev.bind (heldIntS_ev b.f0.length v h0 (by omega)) (Ev.neg (by omega) (Ev.neg (by simp) ?_))
      rw [wrap_id (x := v + (b.f0.length : Int) + 1) (by omega) (by omega), wrap_id (x := (pre.length : Int) + 1) (by omega) (by omega)]
      exact e
theorem markPool_ev (bs : List S65) (vs : List Int) (l0 : bs.length ≤ 1048576) (lb : ∀ a ∈ bs, a.f0.length ≤ 1048576) (l1 : vs.length ≤ 1048576) :
    ∃ (m : Int) (bs' : List S65) (vs' : List Int), Ev (fun k => laws_markPool.f k bs vs 1) (m, bs', vs') ∧ ¬ m < 0 ∧ Ev (fun k => laws_heldPool.f k bs' vs' 1) m := by
  have hz := szB_le bs lb
  have hn := szB_len bs
  refine ⟨1 + szB bs + vs.length, mkB 1 bs, ints (1 + szB bs) vs.length, ?_, by omega, ?_⟩
  · unfold laws_markPool.f
    exact Ev.bind (markBranchS_ev bs 1 (by omega) (by omega)) (Ev.bind (markIntS_ev vs (1 + szB bs) (by omega) (by omega)) (Ev.now _))
  · unfold laws_heldPool.f laws_heldBranchS.f
    have e := heldBranchS_loop bs [] 1 (by omega) (by omega) (by simp; omega)
    exact Ev.bind (by simpa using e) (Ev.neg (by omega) (Ev.bind (heldIntS_ev vs.length (1 + szB bs) (by omega) (by omega)) (Ev.neg (by omega) (Ev.now _))))
theorem markPool_ev' (bs : List S65) (vs : List Int) (l0 : bs.length ≤ 1048576) (lb : ∀ a ∈ bs, a.f0.length ≤ 1048576) (l1 : vs.length ≤ 1048576) :
    ∃ (m : Int) (bs' : List S65) (vs' : List Int), Ev (fun k => laws_markPool.f k bs vs 1) (m, bs', vs') ∧ ¬ m < 0 := by
  have hz := szB_le bs lb
  refine ⟨1 + szB bs + vs.length, mkB 1 bs, ints (1 + szB bs) vs.length, ?_, by omega⟩
  unfold laws_markPool.f
  exact Ev.bind (markBranchS_ev bs 1 (by omega) (by omega)) (Ev.bind (markIntS_ev vs (1 + szB bs) (by omega) (by omega)) (Ev.now _))

theorem FnExactNewPool : laws_FnExactNewPool.Pure := by
  refine Ev.rounds (g := fun k => laws_FnExactNewPool.f k) (r := true) ?_
  unfold laws_FnExactNewPool.f
  have e1 : spec_NewPool.f = some (([] : List S65), [(-1 : Int)]) := rfl
  have e2 : impl_NewPool.f = some (([] : List S65), [(-1 : Int)]) := rfl
  have he := eqPool_same ([] : List S65) [-1] (by simp) (by simp) (by simp)
  obtain ⟨m, b', v', hm, h0, hh⟩ := markPool_ev ([] : List S65) [-1] (by simp) (by simp) (by simp)
  exact Ev.cbind e1 (Ev.cbind e2 (Ev.bind he (Ev.pos rfl (Ev.bind hm (Ev.bind hh (Ev.neg h0 (Ev.neg (by simp) (Ev.cbind e2 (Ev.bind he (Ev.pos rfl (Ev.bind hh (Ev.neg h0 (Ev.neg (by simp) (Ev.now _))))))))))))))

end Go.Proofs.Ytnafnpoflheonaa.Pure
