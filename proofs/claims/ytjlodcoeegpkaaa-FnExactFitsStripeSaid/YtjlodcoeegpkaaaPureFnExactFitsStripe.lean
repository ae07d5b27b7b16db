/- FitsStripe of the program and of the reference return the same, for every disk that can be read and every number, and leave their argument as it was. -/
import Derived.Test.YtjlodcoeegpkaaaPFnExactFitsStripex4
set_option maxRecDepth 100000
set_option linter.unusedVariables false
set_option linter.unusedSimpArgs false
namespace Go.Proofs.Ytjlodcoeegpkaaa.Pure
open Go.RowKit Go.Proofs.Ytjlodcoeegpkaaa.PFnExactFitsStripe Go.Proofs.YtjlodcoeegpkaaaW.PrintWords Go.Proofs.YtjlodcoeegpkaaaW.PrintLast

theorem wrap_id {x : Int} (h0 : -9223372036854775808 ≤ x) (h1 : x < 9223372036854775808) : wrap64 x = x := by
  unfold wrap64; omega
theorem Ev.pos {α : Type} {c : Prop} [Decidable c] {g f : Nat → Option α} {r : α} (h : c) (k : Ev g r) : Ev (fun n => if c then g n else f n) r := by
  simpa only [if_pos h] using k
theorem Ev.neg {α : Type} {c : Prop} [Decidable c] {g f : Nat → Option α} {r : α} (h : ¬ c) (k : Ev f r) : Ev (fun n => if c then g n else f n) r := by
  simpa only [if_neg h] using k
theorem Ev.val {α : Type} {x : Option α} {r : α} (h : x = some r) : Ev (fun _ => x) r := by
  rw [h]; exact Ev.now r
theorem Ev.end {α : Type} {g : Nat → Option α} {r : α} (h : ∀ k, g (k + 1) = some r) : Ev g r := Ev.step (f := fun _ => some r) h (Ev.now r)
theorem Ev.cbind {α β : Type} {x : Option α} {f : Nat → α → Option β} {a : α} {r : β} (h : x = some a) (k : Ev (fun n => f n a) r) : Ev (fun n => x.bind (f n)) r := by
  subst h; exact k
theorem Ev.uniq {α : Type} {g : Nat → Option α} {r q : α} (h : Ev g r) (k : Ev g q) : r = q := by
  obtain ⟨K, h⟩ := h
  obtain ⟨L, k⟩ := k
  have h1 := h (max K L) (by omega)
  have h2 := k (max K L) (by omega)
  rw [h1] at h2
  exact Option.some.inj h2
theorem Ev.succ {α : Type} {g : Nat → Option α} {r : α} (h : Ev (fun k => g (k + 1)) r) : Ev g r := Ev.step (fun _ => rfl) h

theorem within_eq (a b c : Int) : impl_within.f a b c = some (decide (b ≤ a ∧ a ≤ c)) := by
  by_cases h : b ≤ a <;> simp [impl_within.f, h]

theorem l1In_eq (a b c : Int) : spec_l1In.f a b c = some (decide (b ≤ a ∧ a ≤ c)) := by
  by_cases h : b ≤ a <;> simp [spec_l1In.f, h]

theorem eqStringS_loop (l : List ByteArray) (hl : l.length ≤ 4611686018427387904) (d : Nat) : ∀ i : Int, 0 ≤ i → i ≤ l.length → (l.length : Int) - i = d → Ev (fun k => laws_eqStringS.l0 k l l i) true := by
  induction d with
  | zero => intro i h0 h1 hd; exact Ev.end (fun k => by simp only [laws_eqStringS.l0]; rw [if_neg (by omega)])
  | succ d ih =>
    intro i h0 h1 hd
    refine Ev.step (fun k => ?_) (ih (i + 1) (by omega) (by omega) (by omega))
    have hw := wrap_id (x := i + 1) (by omega) (by omega)
    rw [laws_eqStringS.l0, if_pos (by omega), if_pos h0, if_pos (by omega), if_pos rfl, hw]
theorem eqStringS_same (l : List ByteArray) (hl : l.length ≤ 4611686018427387904) : Ev (fun k => laws_eqStringS.f k l l) true := by
  unfold laws_eqStringS.f; exact Ev.pos (by trivial) (eqStringS_loop l hl l.length 0 (by omega) (by omega) (by omega))


theorem eqBoolS_loop (l : List Bool) (hl : l.length ≤ 4611686018427387904) (d : Nat) : ∀ i : Int, 0 ≤ i → i ≤ l.length → (l.length : Int) - i = d → Ev (fun k => laws_eqBoolS.l0 k l l i) true := by
  induction d with
  | zero => intro i h0 h1 hd; exact Ev.end (fun k => by simp only [laws_eqBoolS.l0]; rw [if_neg (by omega)])
  | succ d ih =>
    intro i h0 h1 hd
    refine Ev.step (fun k => ?_) (ih (i + 1) (by omega) (by omega) (by omega))
    have hw := wrap_id (x := i + 1) (by omega) (by omega)
    rw [laws_eqBoolS.l0, if_pos (by omega), if_pos h0, if_pos (by omega), if_neg (by simp), hw]
theorem eqBoolS_same (l : List Bool) (hl : l.length ≤ 4611686018427387904) : Ev (fun k => laws_eqBoolS.f k l l) true := by
  unfold laws_eqBoolS.f; exact Ev.pos (by trivial) (eqBoolS_loop l hl l.length 0 (by omega) (by omega) (by omega))


theorem eqDisk_same (p h : List ByteArray) (b : List Bool) (l0 : p.length ≤ 1048576) (l1 : h.length ≤ 1048576) (l2 : b.length ≤ 1048576) : Ev (fun k => laws_eqDisk.f k p h b p h b) true := by
  unfold laws_eqDisk.f
  exact Ev.bind (eqStringS_same p (by omega)) (Ev.pos (by trivial) (Ev.bind (eqStringS_same h (by omega)) (Ev.pos (by trivial) (Ev.bind (eqBoolS_same b (by omega)) (Ev.pos (by trivial) (Ev.now _))))))

/-- A slice written element by element from another: one induction for all kinds. -/
theorem copy_gen {α β : Type} {L : Nat → List α → List β → Int → Option (List β)} (conv : α → β) (M : Nat)
    (hend : ∀ (x : List α) (y : List β) (i : Int), ¬ i < x.length → Ev (fun k => L k x y i) y)
    (hstep : ∀ (x : List α) (y : List β) (i : Nat) (a : α) (r : List β), i < x.length → i < y.length → x.length ≤ M → x[i]? = some a → Ev (fun k => L k x (y.set i (conv a)) ((i + 1 : Nat) : Int)) r → Ev (fun k => L k x y i) r)
    (rest : List α) : ∀ (pre : List α) (tail : List β), tail.length = rest.length → pre.length + rest.length ≤ M →
      Ev (fun k => L k (pre ++ rest) (pre.map conv ++ tail) pre.length) ((pre ++ rest).map conv) := by
  induction rest with
  | nil =>
    intro pre tail hl hM
    obtain rfl : tail = [] := List.length_eq_zero_iff.1 hl
    simpa using hend pre (pre.map conv) pre.length (by omega)
  | cons a rest ih =>
    intro pre tail hl hM
    match tail, hl with
    | b :: tail, hl =>
      simp only [List.length_cons] at hl hM
      have h := ih (pre ++ [a]) tail (by omega) (by simp; omega)
      simp only [List.append_assoc, List.singleton_append, List.length_append, List.length_singleton, List.map_append, List.map_cons, List.map_nil] at h
      refine hstep _ _ _ a _ (by simp) (by simp) (by simp; omega) (by simp) ?_
      have e : (List.map conv pre ++ b :: tail).set pre.length (conv a) = List.map conv pre ++ conv a :: tail := by
        rw [List.set_append_right _ _ (by simp)]
        simp
      rw [e]
      simpa using h

theorem toStringS_ev (l : List ByteArray) (hl : l.length ≤ 17592186044416) : Ev (fun k => laws_toStringS.f k l) l := by
  have h := copy_gen (L := laws_toStringS.l0) (fun a => a) 17592186044416 (fun x y i hi => Ev.end (fun k => by rw [laws_toStringS.l0, if_neg hi]))
    (fun x y i a r hi hy hM ha he => Ev.step (fun k => by
      have hw := wrap_id (x := (i : Int) + 1) (by omega) (by omega)
      have hr : rdOf ByteArray.empty x i = a := by simp [rd, rdOf, List.getD_eq_getElem?_getD, ha]
      rw [laws_toStringS.l0, if_pos (by omega), if_pos (by omega), if_pos (by omega), hr, hw]
      simp) he) l [] (List.replicate l.length (⟨#[]⟩ : ByteArray)) (by simp) (by simpa using hl)
  unfold laws_toStringS.f
  refine Ev.pos (by omega) (Ev.pos (by simpa using hl) ?_)
  simpa using h


theorem toBoolS_ev (l : List Bool) (hl : l.length ≤ 281474976710656) : Ev (fun k => laws_toBoolS.f k l) l := by
  have h := copy_gen (L := laws_toBoolS.l0) (fun a => a) 281474976710656 (fun x y i hi => Ev.end (fun k => by rw [laws_toBoolS.l0, if_neg hi]))
    (fun x y i a r hi hy hM ha he => Ev.step (fun k => by
      have hw := wrap_id (x := (i : Int) + 1) (by omega) (by omega)
      have hr : rdOf false x i = a := by simp [rd, rdOf, List.getD_eq_getElem?_getD, ha]
      rw [laws_toBoolS.l0, if_pos (by omega), if_pos (by omega), if_pos (by omega), hr, hw]
      simp) he) l [] (List.replicate l.length false) (by simp) (by simpa using hl)
  unfold laws_toBoolS.f
  refine Ev.pos (by omega) (Ev.pos (by simpa using hl) ?_)
  simpa using h


theorem szStringS_loop (l : List ByteArray) (hM : l.length ≤ maxLen) (hq : ∀ y ∈ l, y.size ≤ maxLen) (d : Nat) : ∀ (v : Int) (i : Int), 0 ≤ v → v ≤ 1048576 → 0 ≤ i → i ≤ l.length → (l.length : Int) - i = d →
    ∃ r, Ev (fun k => laws_szStringS.l0 k l v i) r ∧ r ≤ v ∧ (-1 ≤ r) := by
  unfold maxLen at hM hq
  induction d with
  | zero => intro v i h0 h1 h2 h3 hd; exact ⟨v, Ev.end (fun k => by simp only [laws_szStringS.l0]; rw [if_neg (by omega)]), by omega, by omega⟩
  | succ d ih =>
    intro v i h0 h1 h2 h3 hd
    have hs : (rdOf ByteArray.empty l i).size ≤ 9223372036854775807 := by
      refine hq _ ?_
      have hi : i.toNat < l.length := by omega
      simp [rdOf, List.getD_eq_getElem?_getD, hi]
    have e : wrap64 (v - ((rdOf ByteArray.empty l i).size : Int)) = v - (rdOf ByteArray.empty l i).size := wrap_id (by omega) (by omega)
    have hw : wrap64 (i + 1) = i + 1 := wrap_id (by omega) (by omega)
    by_cases hn : v - ((rdOf ByteArray.empty l i).size : Int) < 0
    · exact ⟨-1, Ev.end (fun k => by rw [laws_szStringS.l0, if_pos (by omega), if_pos (by omega), e, if_pos hn]), by omega, by omega⟩
    · obtain ⟨r, h, h5, h6⟩ := ih (v - (rdOf ByteArray.empty l i).size) (i + 1) (by omega) (by omega) (by omega) (by omega) (by omega)
      exact ⟨r, Ev.step (fun k => by rw [laws_szStringS.l0, if_pos (by omega), if_pos (by omega), e, if_neg hn, hw]) h, by omega, h6⟩
theorem szStringS_ev (l : List ByteArray) (hM : l.length ≤ maxLen) (hq : ∀ y ∈ l, y.size ≤ maxLen) (v : Int) (h0 : 0 ≤ v) (h1 : v ≤ 1048576) :
    ∃ r, Ev (fun k => laws_szStringS.f k l v) r ∧ r ≤ v ∧ -1 ≤ r ∧ (0 ≤ r → l.length ≤ 1048576) := by
  unfold laws_szStringS.f
  have e : wrap64 (v - (l.length : Int)) = v - l.length := by unfold maxLen at hM; exact wrap_id (by omega) (by omega)
  rw [e]
  by_cases hn : v - (l.length : Int) < 0
  · exact ⟨-1, Ev.pos hn (Ev.now _), by omega, by omega, fun h => by omega⟩
  · obtain ⟨r, h, h5, h6⟩ := szStringS_loop l hM hq l.length (v - l.length) 0 (by omega) (by omega) (by omega) (by omega) (by omega)
    exact ⟨r, Ev.neg hn h, by omega, h6, fun _ => by omega⟩

theorem szBoolS_ev (l : List Bool) (hM : l.length ≤ maxLen) (v : Int) (h0 : 0 ≤ v) (h1 : v ≤ 1048576) :
    ∃ r, laws_szBoolS.f l v = some r ∧ r ≤ v ∧ -1 ≤ r ∧ (0 ≤ r → l.length ≤ 1048576) := by
  unfold laws_szBoolS.f
  have e : wrap64 (v - (l.length : Int)) = v - l.length := by unfold maxLen at hM; exact wrap_id (by omega) (by omega)
  rw [e]
  by_cases hn : v - (l.length : Int) < 0
  · exact ⟨-1, if_pos hn, by omega, by omega, fun h => by omega⟩
  · exact ⟨v - l.length, if_neg hn, by omega, by omega, fun _ => by omega⟩

theorem szDisk_ev (p h : List ByteArray) (b : List Bool) (q0 : p.length ≤ maxLen ∧ ∀ y ∈ p, y.size ≤ maxLen) (q1 : h.length ≤ maxLen ∧ ∀ y ∈ h, y.size ≤ maxLen) (q2 : b.length ≤ maxLen) :
    ∃ r, Ev (fun k => laws_szDisk.f k p h b 1048576) r ∧ (¬ r < 0 → p.length ≤ 1048576 ∧ h.length ≤ 1048576 ∧ b.length ≤ 1048576) := by
  unfold laws_szDisk.f
  obtain ⟨r0, e0, a0, m0, n0⟩ := szStringS_ev p q0.1 q0.2 1048576 (by omega) (by omega)
  by_cases h0 : r0 < 0
  · exact ⟨-1, Ev.bind e0 (Ev.pos h0 (Ev.now _)), fun h => by omega⟩
  obtain ⟨r1, e1, a1, m1, n1⟩ := szStringS_ev h q1.1 q1.2 r0 (by omega) (by omega)
  by_cases h1 : r1 < 0
  · exact ⟨-1, Ev.bind e0 (Ev.neg h0 (Ev.bind e1 (Ev.pos h1 (Ev.now _)))), fun h => by omega⟩
  obtain ⟨r2, e2, a2, m2, n2⟩ := szBoolS_ev b q2 r1 (by omega) (by omega)
  by_cases h2 : r2 < 0
  · exact ⟨-1, Ev.bind e0 (Ev.neg h0 (Ev.bind e1 (Ev.neg h1 (Ev.cbind e2 (Ev.pos h2 (Ev.now _)))))), fun h => by omega⟩
  exact ⟨r2, Ev.bind e0 (Ev.neg h0 (Ev.bind e1 (Ev.neg h1 (Ev.cbind e2 (Ev.neg h2 (Ev.now _)))))), fun _ => ⟨n0 (by omega), n1 (by omega), n2 (by omega)⟩⟩
theorem toDisk_ev (p h : List ByteArray) (b : List Bool) (l0 : p.length ≤ 1048576) (l1 : h.length ≤ 1048576) (l2 : b.length ≤ 1048576) : Ev (fun k => laws_toDisk.f k p h b) (p, h, b) := by
  unfold laws_toDisk.f
  exact Ev.bind (toStringS_ev p (by omega)) (Ev.bind (toStringS_ev h (by omega)) (Ev.bind (toBoolS_ev b (by omega)) (Ev.now _)))

/-- what a sector of a good disk is like -/
def okAt (p h : List ByteArray) (b : List Bool) (j : Int) : Prop :=
  ((rdOf ByteArray.empty p j).size : Int) ≤ 28 ∧ ((rdOf ByteArray.empty h j).size : Int) ≤ 28 ∧ (rdOf false b j = true → (rdOf ByteArray.empty h j).toList = [])
def GoodD (p h : List ByteArray) (b : List Bool) : Prop :=
  1 ≤ p.length ∧ p.length ≤ 24 ∧ h.length = p.length ∧ b.length = p.length ∧ ∀ j : Int, 0 ≤ j → j < p.length → okAt p h b j
theorem goodDisk_loop (p h : List ByteArray) (b : List Bool) (hp : p.length ≤ 24) (hh : h.length = p.length) (hb : b.length = p.length) (d : Nat) : ∀ i : Int, 0 ≤ i → i ≤ p.length → (p.length : Int) - i = d →
    ∃ r : Bool, Ev (fun k => spec_GoodDisk.l0 k p.length i p h b) r ∧ Ev (fun k => impl_GoodDisk.l0 k p p.length i p h b) r ∧ (r = true ↔ ∀ j : Int, i ≤ j → j < p.length → okAt p h b j) := by
  induction d with
  | zero =>
    intro i h0 h1 hd
    exact ⟨true, Ev.end (fun k => by rw [spec_GoodDisk.l0, if_neg (by omega)]), Ev.end (fun k => by rw [impl_GoodDisk.l0, if_neg (by omega)]), ⟨fun _ j h2 h3 => by omega, fun _ => rfl⟩⟩
  | succ d ih =>
    intro i h0 h1 hd
    obtain ⟨r, e1, e2, hr⟩ := ih (i + 1) (by omega) (by omega) (by omega)
    have hw : wrap64 (i + 1) = i + 1 := wrap_id (by omega) (by omega)
    by_cases c1 : ((rdOf ByteArray.empty p i).size : Int) > 28
    · exact ⟨false, Ev.end (fun k => by rw [spec_GoodDisk.l0, if_pos (by omega), if_pos (by omega), if_pos (by omega), if_pos c1]), Ev.end (fun k => by rw [impl_GoodDisk.l0, if_pos (by omega), if_pos (by omega), if_pos (by omega), if_pos c1]),
        ⟨fun h => by simp at h, fun h => by have := (h i (by omega) (by omega)).1; omega⟩⟩
    by_cases c2 : ((rdOf ByteArray.empty h i).size : Int) > 28
    · exact ⟨false, Ev.end (fun k => by rw [spec_GoodDisk.l0, if_pos (by omega), if_pos (by omega), if_pos (by omega), if_neg c1, if_pos (by omega), if_pos c2]), Ev.end (fun k => by rw [impl_GoodDisk.l0, if_pos (by omega), if_pos (by omega), if_pos (by omega), if_neg c1, if_pos (by omega), if_pos c2]),
        ⟨fun h => by simp at h, fun h => by have := (h i (by omega) (by omega)).2.1; omega⟩⟩
    by_cases c3 : rdOf false b i = true
    · by_cases c4 : (rdOf ByteArray.empty h i).toList = ([] : List UInt8)
      · refine ⟨r, Ev.step (fun k => by rw [spec_GoodDisk.l0, if_pos (by omega), if_pos (by omega), if_pos (by omega), if_neg c1, if_pos (by omega), if_neg c2, if_pos (by omega), if_pos c3, if_pos c4, hw]) e1,
          Ev.step (fun k => by rw [impl_GoodDisk.l0, if_pos (by omega), if_pos (by omega), if_pos (by omega), if_neg c1, if_pos (by omega), if_neg c2, if_pos (by omega), if_pos c3, if_pos c4, hw]) e2, hr.trans ⟨fun g j h2 h3 => ?_, fun g j h2 h3 => g j (by omega) h3⟩⟩
        by_cases e : j = i
        · subst e; exact ⟨by omega, by omega, fun _ => c4⟩
        · exact g j (by omega) h3
      · exact ⟨false, Ev.end (fun k => by rw [spec_GoodDisk.l0, if_pos (by omega), if_pos (by omega), if_pos (by omega), if_neg c1, if_pos (by omega), if_neg c2, if_pos (by omega), if_pos c3, if_neg c4]), Ev.end (fun k => by rw [impl_GoodDisk.l0, if_pos (by omega), if_pos (by omega), if_pos (by omega), if_neg c1, if_pos (by omega), if_neg c2, if_pos (by omega), if_pos c3, if_neg c4]),
          ⟨fun h => by simp at h, fun h => absurd ((h i (by omega) (by omega)).2.2 c3) c4⟩⟩
    · refine ⟨r, Ev.step (fun k => by rw [spec_GoodDisk.l0, if_pos (by omega), if_pos (by omega), if_pos (by omega), if_neg c1, if_pos (by omega), if_neg c2, if_pos (by omega), if_neg c3, hw]) e1,
        Ev.step (fun k => by rw [impl_GoodDisk.l0, if_pos (by omega), if_pos (by omega), if_pos (by omega), if_neg c1, if_pos (by omega), if_neg c2, if_pos (by omega), if_neg c3, hw]) e2, hr.trans ⟨fun g j h2 h3 => ?_, fun g j h2 h3 => g j (by omega) h3⟩⟩
      by_cases e : j = i
      · subst e; exact ⟨by omega, by omega, fun h => absurd h c3⟩
      · exact g j (by omega) h3
theorem goodDisk_eq (p h : List ByteArray) (b : List Bool) : ∃ r : Bool, Ev (fun k => spec_GoodDisk.f k p h b) r ∧ Ev (fun k => impl_GoodDisk.f k p h b) r ∧ (r = true ↔ GoodD p h b) := by
  simp only [spec_GoodDisk.f, impl_GoodDisk.f, l1In_eq, within_eq, Option.bind_some, decide_eq_true_eq]
  have no : ∀ (hn : ¬ GoodD p h b), (false = true ↔ GoodD p h b) := fun hn => ⟨fun h => by simp at h, fun h => absurd h hn⟩
  have s0 : Ev (fun k => spec_GoodDisk.j0 k true p h b) false := Ev.end (fun k => by rw [spec_GoodDisk.j0, if_pos rfl])
  have i0 : Ev (fun k => impl_GoodDisk.j0 k true p h b) false := Ev.end (fun k => by rw [impl_GoodDisk.j0, if_pos rfl])
  by_cases c1 : 1 ≤ (p.length : Int) ∧ (p.length : Int) ≤ 24
  · by_cases c2 : (h.length : Int) = p.length
    · by_cases c3 : (b.length : Int) = p.length
      · obtain ⟨r, e1, e2, hr⟩ := goodDisk_loop p h b (by omega) (by omega) (by omega) p.length 0 (by omega) (by omega) (by omega)
        refine ⟨r, Ev.pos c1 (Ev.pos c2 (Ev.step (fun k => by rw [spec_GoodDisk.j0, if_neg (by simp [c3])]) e1)), Ev.pos c1 (Ev.pos c2 (Ev.step (fun k => by rw [impl_GoodDisk.j0, if_neg (by simp [c3])]) e2)), hr.trans ?_⟩
        exact ⟨fun g => ⟨by omega, by omega, by omega, by omega, g⟩, fun g => g.2.2.2.2⟩
      · have e : ((b.length : Int) != p.length) = true := by simpa using c3
        rw [e]
        exact ⟨false, Ev.pos c1 (Ev.pos c2 s0), Ev.pos c1 (Ev.pos c2 i0), no (fun g => c3 (by have := g.2.2.2.1; omega))⟩
    · exact ⟨false, Ev.pos c1 (Ev.neg c2 s0), Ev.pos c1 (Ev.neg c2 i0), no (fun g => c2 (by have := g.2.2.1; omega))⟩
  · exact ⟨false, Ev.neg c1 s0, Ev.neg c1 i0, no (fun g => c1 (by have := g.1; have := g.2.1; omega))⟩

theorem fitsStripe_eq (p h : List ByteArray) (b : List Bool) (a : Int) : ∃ r : Bool × Bool, Ev (fun k => spec_FitsStripe.f k p h b a) r ∧ Ev (fun k => impl_FitsStripe.f k p h b a) r := by
  obtain ⟨g, e1, e2, hg⟩ := goodDisk_eq p h b
  simp only [spec_FitsStripe.f, impl_FitsStripe.f, impl_fits.f, spec_l8Fits.f]
  cases g with
  | false => exact ⟨(false, false), Ev.bind e1 (Ev.neg (by simp) (Ev.now _)), Ev.bind (Ev.bind e2 (Ev.neg (by simp) (Ev.now _))) (Ev.bind e2 (Ev.now _))⟩
  | true =>
    refine ⟨(decide (0 ≤ a ∧ a ≤ wrap64 ((p.length : Int) - 5)), true), Ev.bind e1 (Ev.pos rfl (Ev.cbind (a := decide (0 ≤ a ∧ a ≤ wrap64 ((p.length : Int) - 5))) ?_ (Ev.now _))), Ev.bind (Ev.bind e2 (Ev.pos rfl (Ev.cbind (within_eq _ _ _) (Ev.now _)))) (Ev.bind e2 (Ev.now _))⟩
    by_cases c : 0 ≤ a <;> simp [c]

theorem FnExactFitsStripe : laws_FnExactFitsStripe.Pure := by
  intro p h b a q0 q1 q2 q3
  refine Ev.rounds (g := fun k => laws_FnExactFitsStripe.f k p h b a) (r := true) ?_
  simp only [laws_FnExactFitsStripe.f]
  obtain ⟨z, hz, hl⟩ := szDisk_ev p h b q0 q1 q2.1
  by_cases hn : z < 0
  · exact Ev.bind hz (Ev.pos hn (Ev.now _))
  obtain ⟨l0, l1, l2⟩ := hl hn
  have ht := toDisk_ev p h b l0 l1 l2
  have he := eqDisk_same p h b l0 l1 l2
  obtain ⟨r, e1, e2⟩ := fitsStripe_eq p h b a
  refine Ev.bind hz (Ev.neg hn (Ev.bind ht (Ev.bind e1 (Ev.bind ht (Ev.bind e2 (Ev.neg (by simp) (Ev.succ ?_)))))))
  simp only [laws_FnExactFitsStripe.j0]
  exact Ev.neg (by simp) (Ev.bind ht (Ev.bind he (Ev.pos (by trivial) (Ev.now _))))

end Go.Proofs.Ytjlodcoeegpkaaa.Pure
