/- NewTable of the program and of the reference return the same, in new memory. -/
import Derived.Test.YtnohankakmmnoaaPFnExactNewTablex3
set_option maxRecDepth 100000
set_option linter.unusedVariables false
set_option linter.unusedSimpArgs false
namespace Go.Proofs.Ytnohankakmmnoaa.Pure
open Go.RowKit Go.Proofs.Ytnohankakmmnoaa.PFnExactNewTable Go.Proofs.YtnohankakmmnoaaW.PrintWords Go.Proofs.YtnohankakmmnoaaW.PrintLast

theorem wrap_id {x : Int} (h0 : -9223372036854775808 ≤ x) (h1 : x < 9223372036854775808) : wrap64 x = x := by
  unfold wrap64; omega
theorem Ev.pos {α : Type} {c : Prop} [Decidable c] {g f : Nat → Option α} {r : α} (h : c) (k : Ev g r) : Ev (fun n => if c then g n else f n) r := by
  simpa only [if_pos h] using k
theorem Ev.neg {α : Type} {c : Prop} [Decidable c] {g f : Nat → Option α} {r : α} (h : ¬ c) (k : Ev f r) : Ev (fun n => if c then g n else f n) r := by
  simpa only [if_neg h] using k
theorem Ev.val {α : Type} {x : Option α} {r : α} (h : x = some r) : Ev (fun _ => x) r := by
  rw [h]; exact Ev.now r
theorem Ev.end {α : Type} {g : Nat → Option α} {r : α} (h : ∀ k, g (k + 1) = some r) : Ev g r := Ev.step (f := fun _ => some r) h (Ev.now r)
theorem Ev.cbind {α β : Type} {x : Option α} {f : Nat → α → Option β} {a : α} {r : β} (h : x = some a) (k : Ev (fun n => f n a) r) : Ev (fun n => x.bind (f n)) r := by
  subst h; exact k
theorem Ev.uniq {α : Type} {g : Nat → Option α} {r q : α} (h : Ev g r) (k : Ev g q) : r = q := by
  obtain ⟨K, h⟩ := h
  obtain ⟨L, k⟩ := k
  have h1 := h (max K L) (by omega)
  have h2 := k (max K L) (by omega)
  rw [h1] at h2
  exact Option.some.inj h2
theorem Ev.succ {α : Type} {g : Nat → Option α} {r : α} (h : Ev (fun k => g (k + 1)) r) : Ev g r := Ev.step (fun _ => rfl) h

theorem within_eq (a b c : Int) : impl_within.f a b c = some (decide (b ≤ a ∧ a ≤ c)) := by
  by_cases h : b ≤ a <;> simp [impl_within.f, h]

theorem l1In_eq (a b c : Int) : spec_l1In.f a b c = some (decide (b ≤ a ∧ a ≤ c)) := by
  by_cases h : b ≤ a <;> simp [spec_l1In.f, h]

/-- what elements cost, together -/
def costs {α : Type} (cost : α → Nat) : List α → Nat
  | [] => 0
  | a :: l => cost a + costs cost l
/-- Marking element by element, and asking for the marks: one induction for all kinds. -/
theorem mark_gen {α : Type} {L : Nat → List α → Int → Int → Option (Int × List α)} {H : Nat → List α → Int → Int → Option Int} (cost : α → Nat) (val : Int → α → α) (B : Int) (M : Nat)
    (hend : ∀ (x : List α) (v i : Int), ¬ i < x.length → Ev (fun k => L k x v i) (v, x)) (hendH : ∀ (x : List α) (v i : Int), ¬ i < x.length → Ev (fun k => H k x v i) v)
    (hstep : ∀ (x : List α) (v : Int) (i : Nat) (a : α) (r : Int × List α), i < x.length → x.length ≤ M → x[i]? = some a → 0 ≤ v → v + cost a ≤ B → Ev (fun k => L k (x.set i (val v a)) (v + cost a) ((i + 1 : Nat) : Int)) r → Ev (fun k => L k x v i) r)
    (hstepH : ∀ (x : List α) (v : Int) (i : Nat) (a : α) (r : Int), i < x.length → x.length ≤ M → x[i]? = some (val v a) → 0 ≤ v → v + cost a ≤ B → Ev (fun k => H k x (v + cost a) ((i + 1 : Nat) : Int)) r → Ev (fun k => H k x v i) r)
    (rest : List α) : ∀ (pre : List α) (v : Int), 0 ≤ v → v + costs cost rest ≤ B → pre.length + rest.length ≤ M →
      ∃ rest' : List α, rest'.length = rest.length ∧ Ev (fun k => L k (pre ++ rest) v pre.length) (v + costs cost rest, pre ++ rest') ∧ Ev (fun k => H k (pre ++ rest') v pre.length) (v + costs cost rest) := by
  induction rest with
  | nil =>
    intro pre v h0 h1 h2
    refine ⟨[], rfl, ?_, ?_⟩
    · simpa [costs] using hend pre v pre.length (by omega)
    · simpa [costs] using hendH pre v pre.length (by omega)
  | cons a rest ih =>
    intro pre v h0 h1 h2
    simp only [costs, List.length_cons] at h1 h2
    push_cast at h1
    obtain ⟨rest', hl, e1, e2⟩ := ih (pre ++ [val v a]) (v + cost a) (by omega) (by omega) (by simp; omega)
    simp only [List.append_assoc, List.singleton_append, List.length_append, List.length_singleton] at e1 e2
    have hs : v + (cost a : Int) + (costs cost rest : Int) = v + (costs cost (a :: rest) : Nat) := by simp only [costs]; push_cast; omega
    rw [hs] at e1 e2
    refine ⟨val v a :: rest', by simp [hl], ?_, ?_⟩
    · refine hstep _ _ _ a _ (by simp) (by simp; omega) (by simp) h0 (by omega) ?_
      simpa using e1
    · refine hstepH _ _ _ a _ (by simp) (by simp; omega) (by simp) h0 (by omega) ?_
      simpa using e2

theorem rd60 (x : List S60) (i : Nat) (a : S60) (h : x[i]? = some a) : rd_T60 x (i : Int) = a := by
  simp [rd_T60, List.getD_eq_getElem?_getD, h]
theorem eqSlotS_loop (l : List S60) (hl : l.length ≤ 4611686018427387904) (d : Nat) : ∀ i : Int, 0 ≤ i → i ≤ l.length → (l.length : Int) - i = d → Ev (fun k => laws_eqSlotS.l0 k l l i) true := by
  induction d with
  | zero => intro i h0 h1 hd; exact Ev.end (fun k => by simp only [laws_eqSlotS.l0]; rw [if_neg (by omega)])
  | succ d ih =>
    intro i h0 h1 hd
    refine Ev.step (fun k => ?_) (ih (i + 1) (by omega) (by omega) (by omega))
    have hw := wrap_id (x := i + 1) (by omega) (by omega)
    rw [laws_eqSlotS.l0, if_pos (by omega), if_pos h0, if_pos (by omega)]
    simp [laws_eqSlot.f, hw]
theorem eqSlotS_same (l : List S60) (hl : l.length ≤ 4611686018427387904) : Ev (fun k => laws_eqSlotS.f k l l) true := by
  unfold laws_eqSlotS.f; exact Ev.pos (by trivial) (eqSlotS_loop l hl l.length 0 (by omega) (by omega) (by omega))
def slotv (v : Int) (_ : S60) : S60 := ⟨Int.tmod v 3 == 0, v + 1, v + 2⟩
theorem markSlotS_ev (l : List S60) (v : Int) (h0 : 0 ≤ v) (h : v + costs (fun _ => 3) l ≤ 1000000000000000000) (hl : l.length ≤ 1000000000000000000) :
    ∃ l' : List S60, l'.length = l.length ∧ Ev (fun k => laws_markSlotS.f k l v) (v + costs (fun _ => 3) l, l') ∧ Ev (fun k => laws_heldSlotS.f k l' v) (v + costs (fun _ => 3) l) := by
  refine mark_gen (L := laws_markSlotS.l0) (H := laws_heldSlotS.l0) (fun _ => 3) slotv 1000000000000000000 1000000000000000000 ?_ ?_ ?_ ?_ l [] v h0 h (by simpa using hl)
  · intro x v i hi; exact Ev.end (fun k => by rw [laws_markSlotS.l0, if_neg hi])
  · intro x v i hi; exact Ev.end (fun k => by rw [laws_heldSlotS.l0, if_neg hi])
  · intro x v i a r hi hM ha hv hB he
    refine Ev.step (fun k => ?_) he
    have hw := wrap_id (x := (i : Int) + 1) (by omega) (by omega)
    have e1 : wrap64 (v + 1) = v + 1 := wrap_id (by omega) (by omega)
    have e2 : wrap64 (v + 1 + 1) = v + 2 := by rw [wrap_id (x := v + 1 + 1) (by omega) (by omega)]; omega
    have e3 : wrap64 (v + 2 + 1) = v + 3 := by rw [wrap_id (x := v + 2 + 1) (by omega) (by omega)]; omega
    rw [laws_markSlotS.l0, if_pos (by omega), if_pos (by omega), hw]
    simp only [Option.bind_some, Int.toNat_natCast, e1, e2, e3]
    have r1 : rd_T60 (x.set i ⟨Int.tmod v 3 == 0, (rd_T60 x i).f1, (rd_T60 x i).f2⟩) i = ⟨Int.tmod v 3 == 0, (rd_T60 x i).f1, (rd_T60 x i).f2⟩ := rd60 _ _ _ (by simp [hi])
    rw [r1]
    simp only [List.set_set]
    rw [rd60 (x.set i _) i ⟨Int.tmod v 3 == 0, v + 1, (rd_T60 x i).f2⟩ (by simp [hi])]
    simp only [slotv]
    push_cast
    rfl
  · intro x v i a r hi hM ha hv hB he
    refine Ev.step (fun k => ?_) he
    have hw := wrap_id (x := (i : Int) + 1) (by omega) (by omega)
    have e1 : wrap64 (v + 1) = v + 1 := wrap_id (by omega) (by omega)
    have e2 : wrap64 (v + 1 + 1) = v + 2 := by rw [wrap_id (x := v + 1 + 1) (by omega) (by omega)]; omega
    have e3 : wrap64 (v + 2 + 1) = v + 3 := by rw [wrap_id (x := v + 2 + 1) (by omega) (by omega)]; omega
    have hr := rd60 x i _ ha
    rw [laws_heldSlotS.l0, if_pos (by omega), if_pos (by omega), hw, hr, e1, e2, e3]
    simp [slotv]

theorem eqTable_same (s : Int) (a b : List S60) (m : Int) (ha : a.length ≤ 4611686018427387904) (hb : b.length ≤ 4611686018427387904) : Ev (fun k => laws_eqTable.f k s a b m s a b m) true := by
  simp only [laws_eqTable.f]
  exact Ev.pos (by trivial) (Ev.bind (eqSlotS_same a ha) (Ev.pos (by trivial) (Ev.bind (eqSlotS_same b hb) (Ev.pos (by trivial) (Ev.pos (by trivial) (Ev.now _))))))

theorem newTable_spec (s : Int) : spec_NewTable.f s = some (if 0 ≤ s ∧ s ≤ 99 then (s, List.replicate 11 z60, List.replicate 11 z60, 0, true) else (0, [], [], 0, false)) := by
  simp only [spec_NewTable.f, spec_l12Seed.f, spec_l12New.f, l1In_eq, Option.bind_some, decide_eq_true_eq]
  by_cases h : 0 ≤ s ∧ s ≤ 99
  · rw [if_pos h, if_pos (by omega), if_pos h]; rfl
  · rw [if_neg h, if_neg h]
theorem newTable_impl (s : Int) : impl_NewTable.f s = some (if 0 ≤ s ∧ s ≤ 99 then (s, List.replicate 11 z60, List.replicate 11 z60, 0, true) else (0, [], [], 0, false)) := by
  simp only [impl_NewTable.f, impl_isSeed.f, within_eq, Option.bind_some, decide_eq_true_eq]
  by_cases h : 0 ≤ s ∧ s ≤ 99
  · rw [if_pos h, if_pos (by omega), if_pos h]
  · rw [if_neg h, if_neg h]
theorem FnExactNewTable : laws_FnExactNewTable.Pure := by
  intro s _
  refine Ev.rounds (g := fun k => laws_FnExactNewTable.f k s) (r := true) ?_
  simp only [laws_FnExactNewTable.f]
  obtain ⟨⟨t1, t2, t3, t4, ok⟩, hs, hi, h2, h3⟩ : ∃ t : Int × List S60 × List S60 × Int × Bool, spec_NewTable.f s = some t ∧ impl_NewTable.f s = some t ∧ t.2.1.length ≤ 11 ∧ t.2.2.1.length ≤ 11 :=
    ⟨_, newTable_spec s, newTable_impl s, by split <;> simp, by split <;> simp⟩
  simp only at h2 h3
  have c3 : ∀ l : List S60, costs (fun _ => 3) l = 3 * l.length := fun l => by induction l with
    | nil => rfl
    | cons a l ih => simp [costs, ih]; omega
  have he := eqTable_same t1 t2 t3 t4 (by omega) (by omega)
  obtain ⟨u2, l2, m2, q2⟩ := markSlotS_ev t2 1 (by omega) (by rw [c3]; omega) (by omega)
  obtain ⟨u3, l3, m3, q3⟩ := markSlotS_ev t3 (1 + costs (fun _ => 3) t2) (by omega) (by rw [c3, c3]; omega) (by omega)
  have hm : Ev (fun k => laws_markTable.f k t1 t2 t3 t4 1) (1 + costs (fun _ => 3) t2 + costs (fun _ => 3) t3, u2, u3) := by
    simp only [laws_markTable.f]; exact Ev.bind m2 (Ev.bind m3 (Ev.now _))
  have hh : Ev (fun k => laws_heldTable.f k t1 u2 u3 t4 1) (1 + costs (fun _ => 3) t2 + costs (fun _ => 3) t3) := by
    simp only [laws_heldTable.f]; exact Ev.bind q2 (Ev.neg (by omega) (Ev.bind q3 (Ev.neg (by omega) (Ev.now _))))
  refine Ev.cbind hs (Ev.cbind hi (Ev.bind he (Ev.pos (by trivial) (Ev.succ ?_))))
  simp only [laws_FnExactNewTable.j0]
  refine Ev.neg (by simp) (Ev.bind hm (Ev.bind hh (Ev.neg (by omega) (Ev.pos (by trivial) (Ev.cbind hi (Ev.bind he (Ev.pos (by trivial) (Ev.succ ?_))))))))
  simp only [laws_FnExactNewTable.j1]
  exact Ev.neg (by simp) (Ev.bind hh (Ev.neg (by omega) (Ev.pos (by trivial) (Ev.now _))))

end Go.Proofs.Ytnohankakmmnoaa.Pure
