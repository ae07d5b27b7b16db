/- AfterCrash of the program and of the reference return the same, for every disk that can be read and every list of numbers, in new memory, and leave their arguments as they were. -/
import Derived.Test.YtjlodcoeegpkaaaPFnExactAfterCrashx8
set_option maxRecDepth 100000
set_option linter.unusedVariables false
set_option linter.unusedSimpArgs false
namespace Go.Proofs.Ytjlodcoeegpkaaa.Pure
open Go.Proofs.Ytjlodcoeegpkaaa Go.RowKit Go.Proofs.Ytjlodcoeegpkaaa.PFnExactAfterCrash Go.Proofs.YtjlodcoeegpkaaaW.PrintWords Go.Proofs.YtjlodcoeegpkaaaW.PrintLast

theorem wrap_id {x : Int} (h0 : -9223372036854775808 ≤ x) (h1 : x < 9223372036854775808) : wrap64 x = x := by
  unfold wrap64; omega
theorem Ev.pos {α : Type} {c : Prop} [Decidable c] {g f : Nat → Option α} {r : α} (h : c) (k : Ev g r) : Ev (fun n => if c then g n else f n) r := by
  simpa only [if_pos h] using k
theorem Ev.neg {α : Type} {c : Prop} [Decidable c] {g f : Nat → Option α} {r : α} (h : ¬ c) (k : Ev f r) : Ev (fun n => if c then g n else f n) r := by
  simpa only [if_neg h] using k
theorem Ev.val {α : Type} {x : Option α} {r : α} (h : x = some r) : Ev (fun _ => x) r := by
  rw [h]; exact Ev.now r
theorem Ev.end {α : Type} {g : Nat → Option α} {r : α} (h : ∀ k, g (k + 1) = some r) : Ev g r := Ev.step (f := fun _ => some r) h (Ev.now r)
theorem Ev.cbind {α β : Type} {x : Option α} {f : Nat → α → Option β} {a : α} {r : β} (h : x = some a) (k : Ev (fun n => f n a) r) : Ev (fun n => x.bind (f n)) r := by
  subst h; exact k
theorem Ev.uniq {α : Type} {g : Nat → Option α} {r q : α} (h : Ev g r) (k : Ev g q) : r = q := by
  obtain ⟨K, h⟩ := h
  obtain ⟨L, k⟩ := k
  have h1 := h (max K L) (by omega)
  have h2 := k (max K L) (by omega)
  rw [h1] at h2
  exact Option.some.inj h2
theorem Ev.succ {α : Type} {g : Nat → Option α} {r : α} (h : Ev (fun k => g (k + 1)) r) : Ev g r := Ev.step (fun _ => rfl) h

theorem within_eq (a b c : Int) : impl_within.f a b c = some (decide (b ≤ a ∧ a ≤ c)) := by
  by_cases h : b ≤ a <;> simp [impl_within.f, h]

theorem l1In_eq (a b c : Int) : spec_l1In.f a b c = some (decide (b ≤ a ∧ a ≤ c)) := by
  by_cases h : b ≤ a <;> simp [spec_l1In.f, h]

theorem eqStringS_loop (l : List ByteArray) (hl : l.length ≤ 4611686018427387904) (d : Nat) : ∀ i : Int, 0 ≤ i → i ≤ l.length → (l.length : Int) - i = d → Ev (fun k => laws_eqStringS.l0 k l l i) true := by
  induction d with
  | zero => intro i h0 h1 hd; exact Ev.end (fun k => by simp only [laws_eqStringS.l0]; rw [if_neg (by omega)])
  | succ d ih =>
    intro i h0 h1 hd
    refine Ev.step (fun k => ?_) (ih (i + 1) (by omega) (by omega) (by omega))
    have hw := wrap_id (x := i + 1) (by omega) (by omega)
    rw [laws_eqStringS.l0, if_pos (by omega), if_pos h0, if_pos (by omega), if_pos rfl, hw]
theorem eqStringS_same (l : List ByteArray) (hl : l.length ≤ 4611686018427387904) : Ev (fun k => laws_eqStringS.f k l l) true := by
  unfold laws_eqStringS.f; exact Ev.pos (by trivial) (eqStringS_loop l hl l.length 0 (by omega) (by omega) (by omega))


theorem eqBoolS_loop (l : List Bool) (hl : l.length ≤ 4611686018427387904) (d : Nat) : ∀ i : Int, 0 ≤ i → i ≤ l.length → (l.length : Int) - i = d → Ev (fun k => laws_eqBoolS.l0 k l l i) true := by
  induction d with
  | zero => intro i h0 h1 hd; exact Ev.end (fun k => by simp only [laws_eqBoolS.l0]; rw [if_neg (by omega)])
  | succ d ih =>
    intro i h0 h1 hd
    refine Ev.step (fun k => ?_) (ih (i + 1) (by omega) (by omega) (by omega))
    have hw := wrap_id (x := i + 1) (by omega) (by omega)
    rw [laws_eqBoolS.l0, if_pos (by omega), if_pos h0, if_pos (by omega), if_neg (by simp), hw]
theorem eqBoolS_same (l : List Bool) (hl : l.length ≤ 4611686018427387904) : Ev (fun k => laws_eqBoolS.f k l l) true := by
  unfold laws_eqBoolS.f; exact Ev.pos (by trivial) (eqBoolS_loop l hl l.length 0 (by omega) (by omega) (by omega))


theorem eqIntS_loop (l : List Int) (hl : l.length ≤ 4611686018427387904) (d : Nat) : ∀ i : Int, 0 ≤ i → i ≤ l.length → (l.length : Int) - i = d → Ev (fun k => laws_eqIntS.l0 k l l i) true := by
  induction d with
  | zero => intro i h0 h1 hd; exact Ev.end (fun k => by simp only [laws_eqIntS.l0]; rw [if_neg (by omega)])
  | succ d ih =>
    intro i h0 h1 hd
    refine Ev.step (fun k => ?_) (ih (i + 1) (by omega) (by omega) (by omega))
    have hw := wrap_id (x := i + 1) (by omega) (by omega)
    rw [laws_eqIntS.l0, if_pos (by omega), if_pos h0, if_pos (by omega), if_pos rfl, hw]
theorem eqIntS_same (l : List Int) (hl : l.length ≤ 4611686018427387904) : Ev (fun k => laws_eqIntS.f k l l) true := by
  unfold laws_eqIntS.f; exact Ev.pos (by trivial) (eqIntS_loop l hl l.length 0 (by omega) (by omega) (by omega))


theorem eqDisk_same (p h : List ByteArray) (b : List Bool) (l0 : p.length ≤ 1048576) (l1 : h.length ≤ 1048576) (l2 : b.length ≤ 1048576) : Ev (fun k => laws_eqDisk.f k p h b p h b) true := by
  unfold laws_eqDisk.f
  exact Ev.bind (eqStringS_same p (by omega)) (Ev.pos (by trivial) (Ev.bind (eqStringS_same h (by omega)) (Ev.pos (by trivial) (Ev.bind (eqBoolS_same b (by omega)) (Ev.pos (by trivial) (Ev.now _))))))

/-- A slice written element by element from another: one induction for all kinds. -/
theorem copy_gen {α β : Type} {L : Nat → List α → List β → Int → Option (List β)} (conv : α → β) (M : Nat) (B : α → Prop)
    (hend : ∀ (x : List α) (y : List β) (i : Int), ¬ i < x.length → Ev (fun k => L k x y i) y)
    (hstep : ∀ (x : List α) (y : List β) (i : Nat) (a : α) (r : List β), i < x.length → i < y.length → x.length ≤ M → x[i]? = some a → B a → Ev (fun k => L k x (y.set i (conv a)) ((i + 1 : Nat) : Int)) r → Ev (fun k => L k x y i) r)
    (rest : List α) : ∀ (pre : List α) (tail : List β), tail.length = rest.length → pre.length + rest.length ≤ M → (∀ a ∈ rest, B a) →
      Ev (fun k => L k (pre ++ rest) (pre.map conv ++ tail) pre.length) ((pre ++ rest).map conv) := by
  induction rest with
  | nil =>
    intro pre tail hl hM hB
    obtain rfl : tail = [] := List.length_eq_zero_iff.1 hl
    simpa using hend pre (pre.map conv) pre.length (by omega)
  | cons a rest ih =>
    intro pre tail hl hM hB
    match tail, hl with
    | b :: tail, hl =>
      simp only [List.length_cons] at hl hM
      have h := ih (pre ++ [a]) tail (by omega) (by simp; omega) (fun x hx => hB x (by simp [hx]))
      simp only [List.append_assoc, List.singleton_append, List.length_append, List.length_singleton, List.map_append, List.map_cons, List.map_nil] at h
      refine hstep _ _ _ a _ (by simp) (by simp) (by simp; omega) (by simp) (hB a (by simp)) ?_
      have e : (List.map conv pre ++ b :: tail).set pre.length (conv a) = List.map conv pre ++ conv a :: tail := by
        rw [List.set_append_right _ _ (by simp)]
        simp
      rw [e]
      simpa using h

theorem toStringS_ev (l : List ByteArray) (hl : l.length ≤ 17592186044416) : Ev (fun k => laws_toStringS.f k l) l := by
  have h := copy_gen (L := laws_toStringS.l0) (fun a => a) 17592186044416 (fun _ => True) (fun x y i hi => Ev.end (fun k => by rw [laws_toStringS.l0, if_neg hi]))
    (fun x y i a r hi hy hM ha _ he => Ev.step (fun k => by
      have hw := wrap_id (x := (i : Int) + 1) (by omega) (by omega)
      have hr : rdOf ByteArray.empty x i = a := by simp [rd, rdOf, List.getD_eq_getElem?_getD, ha]
      rw [laws_toStringS.l0, if_pos (by omega), if_pos (by omega), if_pos (by omega), hr, hw]
      simp) he) l [] (List.replicate l.length (⟨#[]⟩ : ByteArray)) (by simp) (by simpa using hl) (fun _ _ => trivial)
  unfold laws_toStringS.f
  refine Ev.pos (by omega) (Ev.pos (by simpa using hl) ?_)
  simpa using h


theorem toBoolS_ev (l : List Bool) (hl : l.length ≤ 281474976710656) : Ev (fun k => laws_toBoolS.f k l) l := by
  have h := copy_gen (L := laws_toBoolS.l0) (fun a => a) 281474976710656 (fun _ => True) (fun x y i hi => Ev.end (fun k => by rw [laws_toBoolS.l0, if_neg hi]))
    (fun x y i a r hi hy hM ha _ he => Ev.step (fun k => by
      have hw := wrap_id (x := (i : Int) + 1) (by omega) (by omega)
      have hr : rdOf false x i = a := by simp [rd, rdOf, List.getD_eq_getElem?_getD, ha]
      rw [laws_toBoolS.l0, if_pos (by omega), if_pos (by omega), if_pos (by omega), hr, hw]
      simp) he) l [] (List.replicate l.length false) (by simp) (by simpa using hl) (fun _ _ => trivial)
  unfold laws_toBoolS.f
  refine Ev.pos (by omega) (Ev.pos (by simpa using hl) ?_)
  simpa using h


theorem toIntS_ev (l : List Int) (hl : l.length ≤ 35184372088832) : Ev (fun k => laws_toIntS.f k l) l := by
  have h := copy_gen (L := laws_toIntS.l0) (fun a => a) 35184372088832 (fun _ => True) (fun x y i hi => Ev.end (fun k => by rw [laws_toIntS.l0, if_neg hi]))
    (fun x y i a r hi hy hM ha _ he => Ev.step (fun k => by
      have hw := wrap_id (x := (i : Int) + 1) (by omega) (by omega)
      have hr : rd x i = a := by simp [rd, rdOf, List.getD_eq_getElem?_getD, ha]
      rw [laws_toIntS.l0, if_pos (by omega), if_pos (by omega), if_pos (by omega), hr, hw]
      simp) he) l [] (List.replicate l.length 0) (by simp) (by simpa using hl) (fun _ _ => trivial)
  unfold laws_toIntS.f
  refine Ev.pos (by omega) (Ev.pos (by simpa using hl) ?_)
  simpa using h


theorem szStringS_loop (l : List ByteArray) (hM : l.length ≤ maxLen) (hq : ∀ y ∈ l, y.size ≤ maxLen) (d : Nat) : ∀ (v : Int) (i : Int), 0 ≤ v → v ≤ 1048576 → 0 ≤ i → i ≤ l.length → (l.length : Int) - i = d →
    ∃ r, Ev (fun k => laws_szStringS.l0 k l v i) r ∧ r ≤ v ∧ (-1 ≤ r) := by
  unfold maxLen at hM hq
  induction d with
  | zero => intro v i h0 h1 h2 h3 hd; exact ⟨v, Ev.end (fun k => by simp only [laws_szStringS.l0]; rw [if_neg (by omega)]), by omega, by omega⟩
  | succ d ih =>
    intro v i h0 h1 h2 h3 hd
    have hs : (rdOf ByteArray.empty l i).size ≤ 9223372036854775807 := by
      refine hq _ ?_
      have hi : i.toNat < l.length := by omega
      simp [rdOf, List.getD_eq_getElem?_getD, hi]
    have e : wrap64 (v - ((rdOf ByteArray.empty l i).size : Int)) = v - (rdOf ByteArray.empty l i).size := wrap_id (by omega) (by omega)
    have hw : wrap64 (i + 1) = i + 1 := wrap_id (by omega) (by omega)
    by_cases hn : v - ((rdOf ByteArray.empty l i).size : Int) < 0
    · exact ⟨-1, Ev.end (fun k => by rw [laws_szStringS.l0, if_pos (by omega), if_pos (by omega), e, if_pos hn]), by omega, by omega⟩
    · obtain ⟨r, h, h5, h6⟩ := ih (v - (rdOf ByteArray.empty l i).size) (i + 1) (by omega) (by omega) (by omega) (by omega) (by omega)
      exact ⟨r, Ev.step (fun k => by rw [laws_szStringS.l0, if_pos (by omega), if_pos (by omega), e, if_neg hn, hw]) h, by omega, h6⟩
theorem szStringS_ev (l : List ByteArray) (hM : l.length ≤ maxLen) (hq : ∀ y ∈ l, y.size ≤ maxLen) (v : Int) (h0 : 0 ≤ v) (h1 : v ≤ 1048576) :
    ∃ r, Ev (fun k => laws_szStringS.f k l v) r ∧ r ≤ v ∧ -1 ≤ r ∧ (0 ≤ r → l.length ≤ 1048576) := by
  unfold laws_szStringS.f
  have e : wrap64 (v - (l.length : Int)) = v - l.length := by unfold maxLen at hM; exact wrap_id (by omega) (by omega)
  rw [e]
  by_cases hn : v - (l.length : Int) < 0
  · exact ⟨-1, Ev.pos hn (Ev.now _), by omega, by omega, fun h => by omega⟩
  · obtain ⟨r, h, h5, h6⟩ := szStringS_loop l hM hq l.length (v - l.length) 0 (by omega) (by omega) (by omega) (by omega) (by omega)
    exact ⟨r, Ev.neg hn h, by omega, h6, fun _ => by omega⟩

theorem szBoolS_ev (l : List Bool) (hM : l.length ≤ maxLen) (v : Int) (h0 : 0 ≤ v) (h1 : v ≤ 1048576) :
    ∃ r, laws_szBoolS.f l v = some r ∧ r ≤ v ∧ -1 ≤ r ∧ (0 ≤ r → l.length ≤ 1048576) := by
  unfold laws_szBoolS.f
  have e : wrap64 (v - (l.length : Int)) = v - l.length := by unfold maxLen at hM; exact wrap_id (by omega) (by omega)
  rw [e]
  by_cases hn : v - (l.length : Int) < 0
  · exact ⟨-1, if_pos hn, by omega, by omega, fun h => by omega⟩
  · exact ⟨v - l.length, if_neg hn, by omega, by omega, fun _ => by omega⟩

theorem szDisk_ev (p h : List ByteArray) (b : List Bool) (q0 : p.length ≤ maxLen ∧ ∀ y ∈ p, y.size ≤ maxLen) (q1 : h.length ≤ maxLen ∧ ∀ y ∈ h, y.size ≤ maxLen) (q2 : b.length ≤ maxLen) :
    ∃ r, Ev (fun k => laws_szDisk.f k p h b 1048576) r ∧ (¬ r < 0 → p.length ≤ 1048576 ∧ h.length ≤ 1048576 ∧ b.length ≤ 1048576) := by
  unfold laws_szDisk.f
  obtain ⟨r0, e0, a0, m0, n0⟩ := szStringS_ev p q0.1 q0.2 1048576 (by omega) (by omega)
  by_cases h0 : r0 < 0
  · exact ⟨-1, Ev.bind e0 (Ev.pos h0 (Ev.now _)), fun h => by omega⟩
  obtain ⟨r1, e1, a1, m1, n1⟩ := szStringS_ev h q1.1 q1.2 r0 (by omega) (by omega)
  by_cases h1 : r1 < 0
  · exact ⟨-1, Ev.bind e0 (Ev.neg h0 (Ev.bind e1 (Ev.pos h1 (Ev.now _)))), fun h => by omega⟩
  obtain ⟨r2, e2, a2, m2, n2⟩ := szBoolS_ev b q2 r1 (by omega) (by omega)
  by_cases h2 : r2 < 0
  · exact ⟨-1, Ev.bind e0 (Ev.neg h0 (Ev.bind e1 (Ev.neg h1 (Ev.cbind e2 (Ev.pos h2 (Ev.now _)))))), fun h => by omega⟩
  exact ⟨r2, Ev.bind e0 (Ev.neg h0 (Ev.bind e1 (Ev.neg h1 (Ev.cbind e2 (Ev.neg h2 (Ev.now _)))))), fun _ => ⟨n0 (by omega), n1 (by omega), n2 (by omega)⟩⟩
theorem toDisk_ev (p h : List ByteArray) (b : List Bool) (l0 : p.length ≤ 1048576) (l1 : h.length ≤ 1048576) (l2 : b.length ≤ 1048576) : Ev (fun k => laws_toDisk.f k p h b) (p, h, b) := by
  unfold laws_toDisk.f
  exact Ev.bind (toStringS_ev p (by omega)) (Ev.bind (toStringS_ev h (by omega)) (Ev.bind (toBoolS_ev b (by omega)) (Ev.now _)))

/-- what marking makes of numbers -/
def ints (v : Int) : Nat → List Int
  | 0 => []
  | n + 1 => v :: ints (v + 1) n
theorem ints_length (v : Int) (n : Nat) : (ints v n).length = n := by
  induction n generalizing v with
  | zero => rfl
  | succ n ih => simp [ints, ih]
theorem markIntS_loop (rest : List Int) : ∀ (pre : List Int) (v : Int), 0 ≤ v → v + rest.length ≤ 4611686018427387904 → pre.length + rest.length ≤ 4611686018427387904 →
    Ev (fun k => laws_markIntS.l0 k (pre ++ rest) v pre.length) (v + rest.length, pre ++ ints v rest.length) := by
  induction rest with
  | nil => intro pre v h0 h1 h2; exact Ev.end (fun k => by simp only [laws_markIntS.l0]; rw [if_neg (by simp)]; simp [ints])
  | cons a rest ih =>
    intro pre v h0 h1 h2
    simp only [List.length_cons] at h1 h2
    have := ih (pre ++ [v]) (v + 1) (by omega) (by push_cast at h1 ⊢; omega) (by simp; omega)
    simp only [List.append_assoc, List.singleton_append, List.length_append, List.length_singleton] at this
    rw [show (v + 1 + (rest.length : Int)) = v + ((a :: rest).length : Int) by simp; omega] at this
    refine Ev.step (fun k => ?_) this
    rw [laws_markIntS.l0]
    rw [if_pos (by simp; omega), if_pos (by omega), wrap_id (x := v + 1) (by omega) (by push_cast at h1; omega), wrap_id (x := (pre.length : Int) + 1) (by omega) (by omega)]
    simp
theorem markIntS_ev (l : List Int) (v : Int) (h0 : 0 ≤ v) (h : v + l.length ≤ 4611686018427387904) : Ev (fun k => laws_markIntS.f k l v) (v + l.length, ints v l.length) :=
  markIntS_loop l [] v h0 h (by simp; omega)
theorem markText_loop (d : Nat) : ∀ (v : Int) (s : ByteArray), 0 ≤ v → v < 10 ^ d → d ≤ 18 → s.size + d ≤ 1000 → ∃ t, Ev (fun k => laws_markText.l0 k v s) t := by
  induction d with
  | zero =>
    intro v s h0 h1 h2 h3
    have hv : v = 0 := by simp at h1; omega
    exact ⟨_, Ev.end (fun k => by simp only [laws_markText.l0]; rw [if_neg (by omega), if_pos (by omega)])⟩
  | succ d ih =>
    intro v s h0 h1 h2 h3
    by_cases hz : v = 0
    · exact ⟨_, Ev.end (fun k => by simp only [laws_markText.l0]; rw [if_neg (by omega), if_pos (by omega)])⟩
    have hb : (10 : Int) ^ (d + 1) ≤ 10 ^ 18 := by
      have : (10 : Nat) ^ (d + 1) ≤ 10 ^ 18 := Nat.pow_le_pow_right (by omega) (by omega)
      exact_mod_cast this
    have hc : (10 : Int) ^ 18 = 1000000000000000000 := by decide +kernel
    have hdiv : Int.tdiv v 10 = v / 10 := Int.tdiv_eq_ediv_of_nonneg h0
    have hlt : v / 10 < 10 ^ d := by
      have : v < 10 ^ d * 10 := by rw [Int.pow_succ] at h1; exact h1
      omega
    have h48 : (strOfNums [(wrap64 (48 + Int.tmod v 10)) % 256]).size = 1 := by simp [strOfNums]; rfl
    obtain ⟨t, ht⟩ := ih (v / 10) (strOfNums [(wrap64 (48 + Int.tmod v 10)) % 256] ++ s) (by omega) hlt (by omega) (by rw [ByteArray.size_append, h48]; omega)
    refine ⟨t, Ev.step (fun k => ?_) ht⟩
    simp only [laws_markText.l0]
    rw [if_pos (by omega)]
    simp only [Option.bind_some]
    rw [if_pos (by rw [h48]; omega), hdiv, wrap_id (x := v / 10) (by omega) (by omega)]
theorem markText_ex (v : Int) (h0 : 0 ≤ v) (h1 : v < 1000000000000000000) : ∃ t, Ev (fun k => laws_markText.f k v) t := by
  simp only [laws_markText.f]
  by_cases hz : v ≤ 0
  · exact ⟨_, Ev.pos hz (Ev.now _)⟩
  · obtain ⟨t, ht⟩ := markText_loop 18 v ⟨#[]⟩ h0 (by rw [show (10 : Int) ^ 18 = 1000000000000000000 from by decide +kernel]; exact h1) (by omega) (by decide)
    exact ⟨t, Ev.neg hz ht⟩
/-- the text that marks -/
noncomputable def mt (v : Int) : ByteArray := Classical.epsilon (fun t => Ev (fun k => laws_markText.f k v) t)
theorem mt_ev (v : Int) (h0 : 0 ≤ v) (h1 : v < 1000000000000000000) : Ev (fun k => laws_markText.f k v) (mt v) := Classical.epsilon_spec (markText_ex v h0 h1)
noncomputable def strs_ (v : Int) : Nat → List ByteArray
  | 0 => []
  | n + 1 => mt v :: strs_ (v + 1) n
theorem strs__length (v : Int) (n : Nat) : (strs_ v n).length = n := by
  induction n generalizing v with
  | zero => rfl
  | succ n ih => simp [strs_, ih]
theorem markStringS_loop (rest : List ByteArray) : ∀ (pre : List ByteArray) (v : Int), 0 ≤ v → v + rest.length ≤ 500000000000000000 → pre.length + rest.length ≤ 4611686018427387904 →
    Ev (fun k => laws_markStringS.l0 k (pre ++ rest) v pre.length) (v + rest.length, pre ++ strs_ v rest.length) := by
  induction rest with
  | nil => intro pre v h0 h1 h2; exact Ev.end (fun k => by simp only [laws_markStringS.l0]; rw [if_neg (by simp)]; simp [strs_])
  | cons a rest ih =>
    intro pre v h0 h1 h2
    simp only [List.length_cons] at h1 h2
    have := ih (pre ++ [mt v]) (v + 1) (by omega) (by push_cast at h1 ⊢; omega) (by simp; omega)
    simp only [List.append_assoc, List.singleton_append, List.length_append, List.length_singleton] at this
    rw [show (v + 1 + (rest.length : Int)) = v + ((a :: rest).length : Int) by simp; omega] at this
    refine Ev.step (f := fun k => (laws_markText.f k v).bind fun t => laws_markStringS.l0 k ((pre ++ a :: rest).set pre.length t) (v + 1) ((pre.length + 1 : Nat) : Int)) (fun k => ?_) (Ev.bind (mt_ev v h0 (by push_cast at h1; omega)) ?_)
    · rw [laws_markStringS.l0]
      rw [if_pos (by simp; omega), wrap_id (x := v + 1) (by omega) (by push_cast at h1; omega), wrap_id (x := (pre.length : Int) + 1) (by omega) (by omega)]
      simp
    · simpa [strs_] using this
theorem heldStringS_loop (n : Nat) : ∀ (pre : List ByteArray) (v : Int), 0 ≤ v → v + n ≤ 500000000000000000 → pre.length + n ≤ 4611686018427387904 →
    Ev (fun k => laws_heldStringS.l0 k (pre ++ strs_ v n) v pre.length) (v + n) := by
  induction n with
  | zero => intro pre v h0 h1 h2; exact Ev.end (fun k => by simp only [laws_heldStringS.l0]; rw [if_neg (by simp [strs_])]; simp)
  | succ n ih =>
    intro pre v h0 h1 h2
    have := ih (pre ++ [mt v]) (v + 1) (by omega) (by push_cast at h1 ⊢; omega) (by simp; omega)
    simp only [List.append_assoc, List.singleton_append, List.length_append, List.length_singleton] at this
    rw [show (v + 1 + (n : Int)) = v + ((n + 1 : Nat) : Int) by push_cast; omega] at this
    show Ev (fun k => laws_heldStringS.l0 k (pre ++ (mt v :: strs_ (v + 1) n)) v pre.length) _
    refine Ev.step (f := fun k => (laws_markText.f k v).bind fun t => if (mt v).toList = t.toList then laws_heldStringS.l0 k (pre ++ (mt v :: strs_ (v + 1) n)) (v + 1) ((pre.length + 1 : Nat) : Int) else some (-1)) (fun k => ?_) (Ev.bind (mt_ev v h0 (by push_cast at h1; omega)) (Ev.pos (by trivial) this))
    rw [laws_heldStringS.l0]
    have hr : rdOf ByteArray.empty (pre ++ (mt v :: strs_ (v + 1) n)) (pre.length : Int) = mt v := by simp [rdOf, List.getD_eq_getElem?_getD]
    rw [if_pos (by simp; omega), if_pos (by omega), hr, wrap_id (x := v + 1) (by omega) (by push_cast at h1; omega), wrap_id (x := (pre.length : Int) + 1) (by omega) (by omega)]
    simp
theorem markStringS_ev (l : List ByteArray) (v : Int) (h0 : 0 ≤ v) (h : v + l.length ≤ 500000000000000000) : Ev (fun k => laws_markStringS.f k l v) (v + l.length, strs_ v l.length) :=
  markStringS_loop l [] v h0 h (by simp; omega)
theorem heldStringS_ev (n : Nat) (v : Int) (h0 : 0 ≤ v) (h : v + n ≤ 500000000000000000) : Ev (fun k => laws_heldStringS.f k (strs_ v n) v) (v + n) :=
  heldStringS_loop n [] v h0 h (by simp; omega)

def bools_ (v : Int) : Nat → List Bool
  | 0 => []
  | n + 1 => (Int.tmod v 3 == 0) :: bools_ (v + 1) n
theorem bools__length (v : Int) (n : Nat) : (bools_ v n).length = n := by
  induction n generalizing v with
  | zero => rfl
  | succ n ih => simp [bools_, ih]
theorem markBoolS_loop (rest : List Bool) : ∀ (pre : List Bool) (v : Int), 0 ≤ v → v + rest.length ≤ 4611686018427387904 → pre.length + rest.length ≤ 4611686018427387904 →
    Ev (fun k => laws_markBoolS.l0 k (pre ++ rest) v pre.length) (v + rest.length, pre ++ bools_ v rest.length) := by
  induction rest with
  | nil => intro pre v h0 h1 h2; exact Ev.end (fun k => by simp only [laws_markBoolS.l0]; rw [if_neg (by simp)]; simp [bools_])
  | cons a rest ih =>
    intro pre v h0 h1 h2
    simp only [List.length_cons] at h1 h2
    have := ih (pre ++ [Int.tmod v 3 == 0]) (v + 1) (by omega) (by push_cast at h1 ⊢; omega) (by simp; omega)
    simp only [List.append_assoc, List.singleton_append, List.length_append, List.length_singleton] at this
    rw [show (v + 1 + (rest.length : Int)) = v + ((a :: rest).length : Int) by simp; omega] at this
    refine Ev.step (fun k => ?_) this
    rw [laws_markBoolS.l0]
    rw [if_pos (by simp; omega), if_pos (by omega), wrap_id (x := v + 1) (by omega) (by push_cast at h1; omega), wrap_id (x := (pre.length : Int) + 1) (by omega) (by omega)]
    simp
theorem heldBoolS_loop (n : Nat) : ∀ (pre : List Bool) (v : Int), 0 ≤ v → v + n ≤ 4611686018427387904 → pre.length + n ≤ 4611686018427387904 →
    Ev (fun k => laws_heldBoolS.l0 k (pre ++ bools_ v n) v pre.length) (v + n) := by
  induction n with
  | zero => intro pre v h0 h1 h2; exact Ev.end (fun k => by simp only [laws_heldBoolS.l0]; rw [if_neg (by simp [bools_])]; simp)
  | succ n ih =>
    intro pre v h0 h1 h2
    have := ih (pre ++ [Int.tmod v 3 == 0]) (v + 1) (by omega) (by push_cast at h1 ⊢; omega) (by simp; omega)
    simp only [List.append_assoc, List.singleton_append, List.length_append, List.length_singleton] at this
    rw [show (v + 1 + (n : Int)) = v + ((n + 1 : Nat) : Int) by push_cast; omega] at this
    show Ev (fun k => laws_heldBoolS.l0 k (pre ++ ((Int.tmod v 3 == 0) :: bools_ (v + 1) n)) v pre.length) _
    refine Ev.step (fun k => ?_) this
    rw [laws_heldBoolS.l0]
    rw [if_pos (by simp; omega), if_pos (by omega), if_neg (by simp [rdOf, List.getD_eq_getElem?_getD]), wrap_id (x := v + 1) (by omega) (by push_cast at h1; omega), wrap_id (x := (pre.length : Int) + 1) (by omega) (by omega)]
    simp
theorem markBoolS_ev (l : List Bool) (v : Int) (h0 : 0 ≤ v) (h : v + l.length ≤ 4611686018427387904) : Ev (fun k => laws_markBoolS.f k l v) (v + l.length, bools_ v l.length) :=
  markBoolS_loop l [] v h0 h (by simp; omega)
theorem heldBoolS_ev (n : Nat) (v : Int) (h0 : 0 ≤ v) (h : v + n ≤ 4611686018427387904) : Ev (fun k => laws_heldBoolS.f k (bools_ v n) v) (v + n) :=
  heldBoolS_loop n [] v h0 h (by simp; omega)

theorem markDisk_ev (p h : List ByteArray) (b : List Bool) (l0 : p.length ≤ 1048576) (l1 : h.length ≤ 1048576) (l2 : b.length ≤ 1048576) :
    ∃ (m : Int) (p' h' : List ByteArray) (b' : List Bool), Ev (fun k => laws_markDisk.f k p h b 1) (m, p', h', b') ∧ 0 ≤ m ∧ p' = strs_ 1 p.length ∧ h' = strs_ (1 + p.length) h.length ∧ b' = bools_ (1 + p.length + h.length) b.length ∧ m = 1 + p.length + h.length + b.length := by
  unfold laws_markDisk.f
  exact ⟨_, _, _, _, Ev.bind (markStringS_ev p 1 (by omega) (by omega)) (Ev.bind (markStringS_ev h (1 + p.length) (by omega) (by omega)) (Ev.bind (markBoolS_ev b (1 + p.length + h.length) (by omega) (by omega)) (Ev.now _))), by omega, rfl, rfl, rfl, rfl⟩

/-- what a sector of a good disk is like -/
def okAt (p h : List ByteArray) (b : List Bool) (j : Int) : Prop :=
  ((rdOf ByteArray.empty p j).size : Int) ≤ 28 ∧ ((rdOf ByteArray.empty h j).size : Int) ≤ 28 ∧ (rdOf false b j = true → (rdOf ByteArray.empty h j).toList = [])
def GoodD (p h : List ByteArray) (b : List Bool) : Prop :=
  1 ≤ p.length ∧ p.length ≤ 24 ∧ h.length = p.length ∧ b.length = p.length ∧ ∀ j : Int, 0 ≤ j → j < p.length → okAt p h b j
theorem goodDisk_loop (p h : List ByteArray) (b : List Bool) (hp : p.length ≤ 24) (hh : h.length = p.length) (hb : b.length = p.length) (d : Nat) : ∀ i : Int, 0 ≤ i → i ≤ p.length → (p.length : Int) - i = d →
    ∃ r : Bool, Ev (fun k => spec_GoodDisk.l0 k p.length i p h b) r ∧ Ev (fun k => impl_GoodDisk.l0 k p p.length i p h b) r ∧ (r = true ↔ ∀ j : Int, i ≤ j → j < p.length → okAt p h b j) := by
  induction d with
  | zero =>
    intro i h0 h1 hd
    exact ⟨true, Ev.end (fun k => by rw [spec_GoodDisk.l0, if_neg (by omega)]), Ev.end (fun k => by rw [impl_GoodDisk.l0, if_neg (by omega)]), ⟨fun _ j h2 h3 => by omega, fun _ => rfl⟩⟩
  | succ d ih =>
    intro i h0 h1 hd
    obtain ⟨r, e1, e2, hr⟩ := ih (i + 1) (by omega) (by omega) (by omega)
    have hw : wrap64 (i + 1) = i + 1 := wrap_id (by omega) (by omega)
    by_cases c1 : ((rdOf ByteArray.empty p i).size : Int) > 28
    · exact ⟨false, Ev.end (fun k => by rw [spec_GoodDisk.l0, if_pos (by omega), if_pos (by omega), if_pos (by omega), if_pos c1]), Ev.end (fun k => by rw [impl_GoodDisk.l0, if_pos (by omega), if_pos (by omega), if_pos (by omega), if_pos c1]),
        ⟨fun h => by simp at h, fun h => by have := (h i (by omega) (by omega)).1; omega⟩⟩
    by_cases c2 : ((rdOf ByteArray.empty h i).size : Int) > 28
    · exact ⟨false, Ev.end (fun k => by rw [spec_GoodDisk.l0, if_pos (by omega), if_pos (by omega), if_pos (by omega), if_neg c1, if_pos (by omega), if_pos c2]), Ev.end (fun k => by rw [impl_GoodDisk.l0, if_pos (by omega), if_pos (by omega), if_pos (by omega), if_neg c1, if_pos (by omega), if_pos c2]),
        ⟨fun h => by simp at h, fun h => by have := (h i (by omega) (by omega)).2.1; omega⟩⟩
    by_cases c3 : rdOf false b i = true
    · by_cases c4 : (rdOf ByteArray.empty h i).toList = ([] : List UInt8)
      · refine ⟨r, Ev.step (fun k => by rw [spec_GoodDisk.l0, if_pos (by omega), if_pos (by omega), if_pos (by omega), if_neg c1, if_pos (by omega), if_neg c2, if_pos (by omega), if_pos c3, if_pos c4, hw]) e1,
          Ev.step (fun k => by rw [impl_GoodDisk.l0, if_pos (by omega), if_pos (by omega), if_pos (by omega), if_neg c1, if_pos (by omega), if_neg c2, if_pos (by omega), if_pos c3, if_pos c4, hw]) e2, hr.trans ⟨fun g j h2 h3 => ?_, fun g j h2 h3 => g j (by omega) h3⟩⟩
        by_cases e : j = i
        · subst e; exact ⟨by omega, by omega, fun _ => c4⟩
        · exact g j (by omega) h3
      · exact ⟨false, Ev.end (fun k => by rw [spec_GoodDisk.l0, if_pos (by omega), if_pos (by omega), if_pos (by omega), if_neg c1, if_pos (by omega), if_neg c2, if_pos (by omega), if_pos c3, if_neg c4]), Ev.end (fun k => by rw [impl_GoodDisk.l0, if_pos (by omega), if_pos (by omega), if_pos (by omega), if_neg c1, if_pos (by omega), if_neg c2, if_pos (by omega), if_pos c3, if_neg c4]),
          ⟨fun h => by simp at h, fun h => absurd ((h i (by omega) (by omega)).2.2 c3) c4⟩⟩
    · refine ⟨r, Ev.step (fun k => by rw [spec_GoodDisk.l0, if_pos (by omega), if_pos (by omega), if_pos (by omega), if_neg c1, if_pos (by omega), if_neg c2, if_pos (by omega), if_neg c3, hw]) e1,
        Ev.step (fun k => by rw [impl_GoodDisk.l0, if_pos (by omega), if_pos (by omega), if_pos (by omega), if_neg c1, if_pos (by omega), if_neg c2, if_pos (by omega), if_neg c3, hw]) e2, hr.trans ⟨fun g j h2 h3 => ?_, fun g j h2 h3 => g j (by omega) h3⟩⟩
      by_cases e : j = i
      · subst e; exact ⟨by omega, by omega, fun h => absurd h c3⟩
      · exact g j (by omega) h3
theorem goodDisk_eq (p h : List ByteArray) (b : List Bool) : ∃ r : Bool, Ev (fun k => spec_GoodDisk.f k p h b) r ∧ Ev (fun k => impl_GoodDisk.f k p h b) r ∧ (r = true ↔ GoodD p h b) := by
  simp only [spec_GoodDisk.f, impl_GoodDisk.f, l1In_eq, within_eq, Option.bind_some, decide_eq_true_eq]
  have no : ∀ (hn : ¬ GoodD p h b), (false = true ↔ GoodD p h b) := fun hn => ⟨fun h => by simp at h, fun h => absurd h hn⟩
  have s0 : Ev (fun k => spec_GoodDisk.j0 k true p h b) false := Ev.end (fun k => by rw [spec_GoodDisk.j0, if_pos rfl])
  have i0 : Ev (fun k => impl_GoodDisk.j0 k true p h b) false := Ev.end (fun k => by rw [impl_GoodDisk.j0, if_pos rfl])
  by_cases c1 : 1 ≤ (p.length : Int) ∧ (p.length : Int) ≤ 24
  · by_cases c2 : (h.length : Int) = p.length
    · by_cases c3 : (b.length : Int) = p.length
      · obtain ⟨r, e1, e2, hr⟩ := goodDisk_loop p h b (by omega) (by omega) (by omega) p.length 0 (by omega) (by omega) (by omega)
        refine ⟨r, Ev.pos c1 (Ev.pos c2 (Ev.step (fun k => by rw [spec_GoodDisk.j0, if_neg (by simp [c3])]) e1)), Ev.pos c1 (Ev.pos c2 (Ev.step (fun k => by rw [impl_GoodDisk.j0, if_neg (by simp [c3])]) e2)), hr.trans ?_⟩
        exact ⟨fun g => ⟨by omega, by omega, by omega, by omega, g⟩, fun g => g.2.2.2.2⟩
      · have e : ((b.length : Int) != p.length) = true := by simpa using c3
        rw [e]
        exact ⟨false, Ev.pos c1 (Ev.pos c2 s0), Ev.pos c1 (Ev.pos c2 i0), no (fun g => c3 (by have := g.2.2.2.1; omega))⟩
    · exact ⟨false, Ev.pos c1 (Ev.neg c2 s0), Ev.pos c1 (Ev.neg c2 i0), no (fun g => c2 (by have := g.2.2.1; omega))⟩
  · exact ⟨false, Ev.neg c1 s0, Ev.neg c1 i0, no (fun g => c1 (by have := g.1; have := g.2.1; omega))⟩

/-- the sectors from i on where something is held -/
def heldF (h : List ByteArray) : Nat → Int → List Int
  | 0, _ => []
  | d + 1, i => if (rdOf ByteArray.empty h i).toList = ([] : List UInt8) then heldF h d (i + 1) else i :: heldF h d (i + 1)
theorem heldF_le (h : List ByteArray) (d : Nat) : ∀ i, (heldF h d i).length ≤ d := by
  induction d with
  | zero => intro i; simp [heldF]
  | succ d ih => intro i; unfold heldF; split <;> (have := ih (i + 1); simp; try omega)
theorem heldDisk_ev (n0 n1 n2 : Nat) (l0 : n0 ≤ 1048576) (l1 : n1 ≤ 1048576) (l2 : n2 ≤ 1048576) :
    Ev (fun k => laws_heldDisk.f k (strs_ 1 n0) (strs_ (1 + n0) n1) (bools_ (1 + n0 + n1) n2) 1) (1 + n0 + n1 + n2) := by
  unfold laws_heldDisk.f
  exact Ev.bind (heldStringS_ev n0 1 (by omega) (by omega)) (Ev.neg (by omega) (Ev.bind (heldStringS_ev n1 (1 + n0) (by omega) (by omega)) (Ev.neg (by omega) (Ev.bind (heldBoolS_ev n2 (1 + n0 + n1) (by omega) (by omega)) (Ev.neg (by omega) (Ev.now _))))))

/-- a number put to its place in a rising list, once -/
def putL : List Int → Int → List Int
  | [], n => [n]
  | a :: t, n => if a < n then a :: putL t n else if a = n then a :: t else n :: a :: t
theorem putL_mem (l : List Int) (n x : Int) : x ∈ putL l n ↔ x = n ∨ x ∈ l := by
  induction l with
  | nil => simp [putL]
  | cons a t ih =>
    unfold putL
    by_cases c : a < n
    · rw [if_pos c, List.mem_cons, ih, List.mem_cons]
      constructor
      · rintro (h | h | h)
        · exact .inr (.inl h)
        · exact .inl h
        · exact .inr (.inr h)
      · rintro (h | h | h)
        · exact .inr (.inl h)
        · exact .inl h
        · exact .inr (.inr h)
    · rw [if_neg c]
      by_cases d : a = n
      · rw [if_pos d, List.mem_cons]
        constructor
        · exact .inr
        · rintro (h | h)
          · exact .inl (h.trans d.symm)
          · exact h
      · rw [if_neg d, List.mem_cons]
theorem putL_sorted {l : List Int} (n : Int) (h : l.Pairwise (· < ·)) : (putL l n).Pairwise (· < ·) := by
  induction l with
  | nil => simp [putL]
  | cons a t ih =>
    obtain ⟨h1, h2⟩ := List.pairwise_cons.1 h
    unfold putL
    by_cases c : a < n
    · rw [if_pos c]
      refine List.pairwise_cons.2 ⟨fun x hx => ?_, ih h2⟩
      rcases (putL_mem t n x).1 hx with rfl | hx
      · exact c
      · exact h1 x hx
    · rw [if_neg c]
      by_cases d : a = n
      · rw [if_pos d]; exact h
      · rw [if_neg d]
        refine List.pairwise_cons.2 ⟨fun x hx => ?_, h⟩
        rcases List.mem_cons.1 hx with rfl | hx
        · omega
        · have := h1 x hx; omega
theorem putL_len (l : List Int) (n : Int) : (putL l n).length ≤ l.length + 1 := by
  induction l with
  | nil => simp [putL]
  | cons a t ih =>
    unfold putL
    split
    · simp; omega
    · split <;> simp
/-- a rising list within bounds is not long -/
theorem sorted_len : ∀ (l : List Int) (lo hi : Int), l.Pairwise (· < ·) → (∀ x ∈ l, lo ≤ x ∧ x < hi) → (l.length : Int) ≤ max 0 (hi - lo) := by
  intro l
  induction l with
  | nil => intro lo hi _ _; simp; omega
  | cons a t ih =>
    intro lo hi h hm
    obtain ⟨h1, h2⟩ := List.pairwise_cons.1 h
    have ha := hm a (by simp)
    have := ih (a + 1) hi h2 (fun x hx => ⟨by have := h1 x hx; omega, (hm x (by simp [hx])).2⟩)
    simp only [List.length_cons]
    omega
/-- two rising lists of the same numbers are one -/
theorem sorted_eq : ∀ (l m : List Int), l.Pairwise (· < ·) → m.Pairwise (· < ·) → (∀ x, x ∈ l ↔ x ∈ m) → l = m := by
  intro l
  induction l with
  | nil => intro m _ _ h; cases m with
    | nil => rfl
    | cons b u => exact absurd ((h b).2 (by simp)) (by simp)
  | cons a t ih =>
    intro m hl hm h
    cases m with
    | nil => exact absurd ((h a).1 (by simp)) (by simp)
    | cons b u =>
      obtain ⟨h1, h2⟩ := List.pairwise_cons.1 hl
      obtain ⟨h3, h4⟩ := List.pairwise_cons.1 hm
      have e : a = b := by
        have x1 := (h a).1 (by simp)
        have x2 := (h b).2 (by simp)
        rcases List.mem_cons.1 x1 with e | x1
        · exact e
        · rcases List.mem_cons.1 x2 with e | x2
          · exact e.symm
          · have := h1 b x2; have := h3 a x1; omega
      subst e
      congr 1
      refine ih u h2 h4 (fun x => ⟨fun hx => ?_, fun hx => ?_⟩)
      · rcases List.mem_cons.1 ((h x).1 (by simp [hx])) with e | e
        · have := h1 x hx; omega
        · exact e
      · rcases List.mem_cons.1 ((h x).2 (by simp [hx])) with e | e
        · have := h3 x hx; omega
        · exact e
theorem rdAt (pre : List Int) (b : Int) (t : List Int) : rd (pre ++ b :: t) (pre.length : Int) = b := by
  simp [rd, List.getD_eq_getElem?_getD]
theorem l1Has_loop (l : List Int) (n : Int) (hl : l.length ≤ 2097152) (rest : List Int) : ∀ pre : List Int, l = pre ++ rest → Ev (fun k => spec_l1Has.l0 k n l l.length (pre.length : Int)) (decide (n ∈ rest)) := by
  induction rest with
  | nil => intro pre h; exact Ev.end (fun k => by rw [spec_l1Has.l0, if_neg (by rw [h]; simp)]; simp)
  | cons b t ih =>
    intro pre h
    have hlen : l.length = pre.length + (t.length + 1) := by rw [h]; simp
    have hb : rd l (pre.length : Int) = b := by rw [h]; exact rdAt pre b t
    have hw : wrap64 ((pre.length : Int) + 1) = ((pre.length + 1 : Nat) : Int) := by rw [wrap_id (by omega) (by omega)]; simp
    by_cases c : b = n
    · rw [decide_eq_true (by simp [c])]
      exact Ev.end (fun k => by rw [spec_l1Has.l0, if_pos (by omega), if_pos (by omega), if_pos (by omega), hb, if_pos c])
    · have e := ih (pre ++ [b]) (by rw [h]; simp)
      simp only [List.length_append, List.length_singleton] at e
      have e2 : decide (n ∈ b :: t) = decide (n ∈ t) := by
        have : n ≠ b := fun h => c h.symm
        simp [this]
      rw [e2]
      exact Ev.step (fun k => by rw [spec_l1Has.l0, if_pos (by omega), if_pos (by omega), if_pos (by omega), hb, if_neg c, hw]) e
theorem l1Has_ev (l : List Int) (n : Int) (hl : l.length ≤ 2097152) : Ev (fun k => spec_l1Has.f k l n) (decide (n ∈ l)) := by
  have e := l1Has_loop l n hl l [] rfl
  simpa [spec_l1Has.f] using e

/-- each is one of them, and more than the one ahead -/
def risP (p : Int → Bool) : Option Int → List Int → Bool
  | _, [] => true
  | none, x :: t => p x && risP p (some x) t
  | some y, x :: t => p x && decide (y < x) && risP p (some x) t
theorem risP_all (p : Int → Bool) (l : List Int) : ∀ o, risP p o l = true → ∀ x ∈ l, p x = true := by
  induction l with
  | nil => intro o _ x h; simp at h
  | cons b t ih =>
    intro o h x hx
    cases o with
    | none =>
      simp only [risP, Bool.and_eq_true] at h
      rcases List.mem_cons.1 hx with rfl | hx
      · exact h.1
      · exact ih _ h.2 x hx
    | some y =>
      simp only [risP, Bool.and_eq_true] at h
      rcases List.mem_cons.1 hx with rfl | hx
      · exact h.1.1
      · exact ih _ h.2 x hx
theorem risP_and (p q r : Int → Bool) (hr : ∀ x, r x = (p x && q x)) (l : List Int) : ∀ o, risP r o l = (risP p o l && l.all q) := by
  induction l with
  | nil => intro o; cases o <;> simp [risP]
  | cons b t ih =>
    intro o
    cases o with
    | none => simp only [risP, hr, ih, List.all_cons]; cases p b <;> cases q b <;> cases risP p (some b) t <;> simp
    | some y => simp only [risP, hr, ih, List.all_cons]; cases p b <;> cases q b <;> cases risP p (some b) t <;> simp
theorem rdLast (p0 : List Int) (y : Int) (rest : List Int) : rd ((p0 ++ [y]) ++ rest) (p0.length : Int) = y := by
  rw [List.append_assoc]; exact rdAt p0 y rest
theorem kept_loop (l H : List Int) (hl : l.length ≤ 1048576) (hH : H.length ≤ 1048576) (rest : List Int) : ∀ (pre : List Int) (o : Option Int), l = pre ++ rest → ((pre = [] ∧ o = none) ∨ ∃ p0 y, pre = p0 ++ [y] ∧ o = some y) →
    Ev (fun k => spec_l7Kept.l0 k l H l l.length (pre.length : Int)) (risP (fun x => decide (x ∈ H)) o rest) := by
  induction rest with
  | nil => intro pre o h ho; exact Ev.end (fun k => by rw [spec_l7Kept.l0, if_neg (by rw [h]; simp)]; cases o <;> rfl)
  | cons b t ih =>
    intro pre o h ho
    have hlen : l.length = pre.length + (t.length + 1) := by rw [h]; simp
    have hb : rd l (pre.length : Int) = b := by rw [h]; exact rdAt pre b t
    have hw : wrap64 ((pre.length : Int) + 1) = ((pre.length + 1 : Nat) : Int) := by rw [wrap_id (by omega) (by omega)]; simp
    have hw1 : wrap64 ((pre.length : Int) - 1) = (pre.length : Int) - 1 := wrap_id (by omega) (by omega)
    have hh := l1Has_ev H b (by omega)
    have e := ih (pre ++ [b]) (some b) (by rw [h]; simp) (Or.inr ⟨pre, b, rfl, rfl⟩)
    simp only [List.length_append, List.length_singleton, Int.natCast_add, Int.natCast_one] at e
    refine Ev.step (fun k => by rw [spec_l7Kept.l0, if_pos (by omega), if_pos (by omega), if_pos (by omega), hb, hw, hw1]) ?_
    simp only [Int.natCast_add, Int.natCast_one]
    by_cases c : b ∈ H
    · rw [decide_eq_true c] at hh
      rcases ho with ⟨rfl, rfl⟩ | ⟨p0, y, rfl, rfl⟩
      · simp only [risP, decide_eq_true c, Bool.true_and]
        exact Ev.bind hh (Ev.pos rfl (Ev.neg (by simp) e))
      · have hpl : (p0 ++ [y]).length = p0.length + 1 := by simp
        have hy : rd l (((p0 ++ [y]).length : Int) - 1) = y := by
          rw [h, show (((p0 ++ [y]).length : Int) - 1) = (p0.length : Int) by simp]; exact rdLast p0 y (b :: t)
        simp only [risP, decide_eq_true c, Bool.true_and]
        rw [hy]
        by_cases c2 : y ≥ b
        · rw [decide_eq_false (by omega), Bool.false_and]
          exact Ev.bind hh (Ev.pos rfl (Ev.pos (by omega) (Ev.pos (by omega) (Ev.pos (by omega) (Ev.pos c2 (Ev.now _))))))
        · rw [decide_eq_true (by omega), Bool.true_and]
          exact Ev.bind hh (Ev.pos rfl (Ev.pos (by omega) (Ev.pos (by omega) (Ev.pos (by omega) (Ev.neg c2 e)))))
    · rw [decide_eq_false c] at hh
      have : risP (fun x => decide (x ∈ H)) o (b :: t) = false := by cases o <;> simp [risP, c]
      rw [this]
      exact Ev.bind hh (Ev.neg (by simp) (Ev.now _))
theorem rising_loop (l : List Int) (n : Int) (hl : l.length ≤ 1048576) (hn0 : 0 ≤ n) (hn : n ≤ 1048576) (rest : List Int) : ∀ (pre : List Int) (o : Option Int), l = pre ++ rest → ((pre = [] ∧ o = none) ∨ ∃ p0 y, pre = p0 ++ [y] ∧ o = some y) →
    Ev (fun k => impl_isRising.l0 k l n l l.length (pre.length : Int)) (risP (fun x => decide (0 ≤ x ∧ x ≤ n - 1)) o rest) := by
  induction rest with
  | nil => intro pre o h ho; exact Ev.end (fun k => by rw [impl_isRising.l0, if_neg (by rw [h]; simp)]; cases o <;> rfl)
  | cons b t ih =>
    intro pre o h ho
    have hlen : l.length = pre.length + (t.length + 1) := by rw [h]; simp
    have hb : rd l (pre.length : Int) = b := by rw [h]; exact rdAt pre b t
    have hw : wrap64 ((pre.length : Int) + 1) = ((pre.length + 1 : Nat) : Int) := by rw [wrap_id (by omega) (by omega)]; simp
    have hw1 : wrap64 ((pre.length : Int) - 1) = (pre.length : Int) - 1 := wrap_id (by omega) (by omega)
    have hwn : wrap64 (n - 1) = n - 1 := wrap_id (by omega) (by omega)
    have e := ih (pre ++ [b]) (some b) (by rw [h]; simp) (Or.inr ⟨pre, b, rfl, rfl⟩)
    simp only [List.length_append, List.length_singleton, Int.natCast_add, Int.natCast_one] at e
    refine Ev.step (fun k => by rw [impl_isRising.l0, if_pos (by omega), if_pos (by omega), if_pos (by omega), hb, hw, hw1, hwn, within_eq]) ?_
    simp only [Int.natCast_add, Int.natCast_one]
    by_cases c : 0 ≤ b ∧ b ≤ n - 1
    · rcases ho with ⟨rfl, rfl⟩ | ⟨p0, y, rfl, rfl⟩
      · simp only [risP, decide_eq_true c, Bool.true_and]
        exact Ev.cbind rfl (Ev.pos rfl (Ev.neg (by simp) e))
      · have hpl : (p0 ++ [y]).length = p0.length + 1 := by simp
        have hy : rd l (((p0 ++ [y]).length : Int) - 1) = y := by
          rw [h, show (((p0 ++ [y]).length : Int) - 1) = (p0.length : Int) by simp]; exact rdLast p0 y (b :: t)
        simp only [risP, decide_eq_true c, Bool.true_and]
        rw [hy]
        by_cases c2 : b ≤ y
        · rw [decide_eq_false (by omega), Bool.false_and]
          exact Ev.cbind rfl (Ev.pos rfl (Ev.pos (by omega) (Ev.pos (by omega) (Ev.pos (by omega) (Ev.pos c2 (Ev.now _))))))
        · rw [decide_eq_true (by omega), Bool.true_and]
          exact Ev.cbind rfl (Ev.pos rfl (Ev.pos (by omega) (Ev.pos (by omega) (Ev.pos (by omega) (Ev.neg c2 e)))))
    · have : risP (fun x => decide (0 ≤ x ∧ x ≤ n - 1)) o (b :: t) = false := by cases o <;> simp [risP] <;> intros <;> omega
      rw [this, decide_eq_false c]
      exact Ev.cbind rfl (Ev.neg (by simp) (Ev.now _))
theorem heldF_mem (h : List ByteArray) (d : Nat) : ∀ i x : Int, x ∈ heldF h d i ↔ i ≤ x ∧ x < i + d ∧ (rdOf ByteArray.empty h x).toList ≠ [] := by
  induction d with
  | zero => intro i x; simp only [heldF, List.not_mem_nil, false_iff]; rintro ⟨h1, h2, _⟩; omega
  | succ d ih =>
    intro i x
    unfold heldF
    by_cases c : (rdOf ByteArray.empty h i).toList = ([] : List UInt8)
    · rw [if_pos c, ih]
      constructor
      · rintro ⟨h1, h2, h3⟩; exact ⟨by omega, by omega, h3⟩
      · rintro ⟨h1, h2, h3⟩
        by_cases e : x = i
        · subst e; exact absurd c h3
        · exact ⟨by omega, by omega, h3⟩
    · rw [if_neg c, List.mem_cons, ih]
      constructor
      · rintro (rfl | ⟨h1, h2, h3⟩)
        · exact ⟨by omega, by omega, c⟩
        · exact ⟨by omega, by omega, h3⟩
      · rintro ⟨h1, h2, h3⟩
        by_cases e : x = i
        · exact Or.inl e
        · exact Or.inr ⟨by omega, by omega, h3⟩
theorem held_spec (p h : List ByteArray) (b : List Bool) (hl : h.length ≤ 1000) : Ev (fun k => spec_l7Held.f k p h b) (heldF h h.length 0) := by
  have loop : ∀ (d : Nat) (x : List Int) (i : Int), 0 ≤ i → i ≤ h.length → (h.length : Int) - i = d → x.length ≤ i → Ev (fun k => spec_l7Held.l0 k x h h.length i) (x ++ heldF h d i) := by
    intro d
    induction d with
    | zero => intro x i h0 h1 hd hx; exact Ev.end (fun k => by rw [spec_l7Held.l0, if_neg (by omega)]; simp [heldF])
    | succ d ih =>
      intro x i h0 h1 hd hx
      have hw : wrap64 (i + 1) = i + 1 := wrap_id (by omega) (by omega)
      by_cases c : (rdOf ByteArray.empty h i).toList = ([] : List UInt8)
      · unfold heldF
        rw [if_pos c]
        exact Ev.step (fun k => by rw [spec_l7Held.l0, if_pos (by omega), if_pos (by omega), if_pos (by omega), if_pos c, hw]) (ih x (i + 1) (by omega) (by omega) (by omega) (by omega))
      · have e1 := ih (x ++ [i]) (i + 1) (by omega) (by omega) (by omega) (by simp; omega)
        unfold heldF
        rw [if_neg c]
        simp only [List.append_assoc, List.singleton_append] at e1
        exact Ev.step (fun k => by rw [spec_l7Held.l0, if_pos (by omega), if_pos (by omega), if_pos (by omega), if_neg c, if_pos (by omega), hw]) e1
  have := loop h.length [] 0 (by omega) (by omega) (by omega) (by simp)
  simpa only [spec_l7Held.f, List.nil_append] using this
/-- what is to be kept of the held sectors is right -/
def keepB (h : List ByteArray) (l : List Int) : Bool := risP (fun x => decide (x ∈ heldF h h.length 0)) none l
theorem kept_ev (p h : List ByteArray) (b : List Bool) (l : List Int) (hh : h.length ≤ 1000) (hl : l.length ≤ 1048576) : Ev (fun k => spec_l7Kept.f k p h b l) (keepB h l) := by
  unfold spec_l7Kept.f
  have e := kept_loop l (heldF h h.length 0) hl (by have := heldF_le h h.length 0; omega) l [] none rfl (Or.inl ⟨rfl, rfl⟩)
  exact Ev.bind (held_spec p h b hh) e
theorem areHeld_ev (p h : List ByteArray) (b : List Bool) (l : List Int) (hp : h.length = p.length) (hh : h.length ≤ 1000) (hl : l.length ≤ 1048576) : Ev (fun k => impl_areHeld.f k p h b l) (keepB h l) := by
  unfold impl_areHeld.f
  have e : Ev (fun k => impl_isRising.f k l p.length) (risP (fun x => decide (0 ≤ x ∧ x ≤ (p.length : Int) - 1)) none l) := rising_loop l p.length hl (by omega) (by omega) l [] none rfl (Or.inl ⟨rfl, rfl⟩)
  have hk : keepB h l = (risP (fun x => decide (0 ≤ x ∧ x ≤ (p.length : Int) - 1)) none l && l.all (fun x => !((rdOf ByteArray.empty h x).toList == ([] : List UInt8)))) := by
    refine risP_and _ _ _ (fun x => ?_) l none
    by_cases c1 : (rdOf ByteArray.empty h x).toList = ([] : List UInt8)
    · rw [decide_eq_false (by rw [heldF_mem]; exact fun h => h.2.2 c1), beq_iff_eq.2 c1]; simp
    · rw [beq_eq_false_iff_ne.2 c1, Bool.not_false, Bool.and_true]
      exact decide_eq_decide.2 ⟨fun h => by have := (heldF_mem _ _ _ _).1 h; exact ⟨by omega, by omega⟩, fun h => (heldF_mem _ _ _ _).2 ⟨by omega, by omega, c1⟩⟩
  cases c : risP (fun x => decide (0 ≤ x ∧ x ≤ (p.length : Int) - 1)) none l with
  | false => rw [c] at e; rw [hk, c]; exact Ev.bind e (Ev.neg (by simp) (Ev.now _))
  | true =>
    rw [c] at e
    have ha : Op.anyO (impl_areHeld.bad h) l = some (l.any (fun x => (rdOf ByteArray.empty h x).toList == ([] : List UInt8))) := by
      refine Op.anyO_total (fun x hx => ?_)
      have := risP_all _ _ _ c x hx
      simp only [decide_eq_true_eq] at this
      unfold impl_areHeld.bad
      rw [if_pos this.1, if_pos (by omega)]
    rw [hk, c, Bool.true_and]
    refine Ev.bind e (Ev.pos rfl (Ev.val ?_))
    rw [ha, Option.map_some]
    congr 1
    clear ha hk e c
    induction l with
    | nil => rfl
    | cons a t ih => simp only [List.any_cons, List.all_cons, Bool.not_or]; rw [ih (by simp at hl; omega)]
/-- the disk behind the crash, from sector i on -/
def crD (l : List Int) : Nat → Int → List ByteArray → List ByteArray → List ByteArray × List ByteArray
  | 0, _, p, h => (p, h)
  | d + 1, i, p, h => crD l d (i + 1) (if i ∈ l then p.set i.toNat (rdOf ByteArray.empty h i) else p) (h.set i.toNat ⟨#[]⟩)
theorem crD_len (l : List Int) (d : Nat) : ∀ i p h, (crD l d i p h).1.length = p.length ∧ (crD l d i p h).2.length = h.length := by
  induction d with
  | zero => intro i p h; exact ⟨rfl, rfl⟩
  | succ d ih => intro i p h; unfold crD; have := ih (i + 1) (if i ∈ l then p.set i.toNat (rdOf ByteArray.empty h i) else p) (h.set i.toNat ⟨#[]⟩); refine ⟨this.1.trans ?_, this.2.trans (by simp)⟩; split <;> simp
theorem contains_ev (l : List Int) (n : Int) (hl : l.length ≤ 1048576) : Ev (fun k => slices_Contains_int_int.f k l n) (decide (n ∈ l)) := by
  have loop : ∀ (rest pre : List Int), l = pre ++ rest → n ∉ pre → ∃ r : Int, Ev (fun k => slices_Index_int_int.l0 k l n l.length (pre.length : Int)) r ∧ (decide (r ≥ 0) = decide (n ∈ rest)) := by
    intro rest
    induction rest with
    | nil => intro pre h hp; exact ⟨-1, Ev.end (fun k => by rw [slices_Index_int_int.l0, if_neg (by rw [h]; simp)]), by simp⟩
    | cons b t ih =>
      intro pre h hp
      have hlen : l.length = pre.length + (t.length + 1) := by rw [h]; simp
      have hb : rd l (pre.length : Int) = b := by rw [h]; exact rdAt pre b t
      have hw : wrap64 ((pre.length : Int) + 1) = ((pre.length + 1 : Nat) : Int) := by rw [wrap_id (by omega) (by omega)]; simp
      by_cases c : n = b
      · exact ⟨pre.length, Ev.end (fun k => by rw [slices_Index_int_int.l0, if_pos (by omega), if_pos (by omega), if_pos (by omega), hb, if_pos c]), by rw [decide_eq_true (by omega), decide_eq_true (by simp [c])]⟩
      · obtain ⟨r, e, hr⟩ := ih (pre ++ [b]) (by rw [h]; simp) (by simp [hp, c])
        simp only [List.length_append, List.length_singleton] at e
        exact ⟨r, Ev.step (fun k => by rw [slices_Index_int_int.l0, if_pos (by omega), if_pos (by omega), if_pos (by omega), hb, if_neg c, hw]) e, by rw [hr]; exact decide_eq_decide.2 (by simp [c])⟩
  obtain ⟨r, e, hr⟩ := loop l [] rfl (by simp)
  unfold slices_Contains_int_int.f slices_Index_int_int.f
  rw [← hr]
  exact Ev.bind e (Ev.now _)
theorem crash_spec (l : List Int) (hl : l.length ≤ 1048576) (b : List Bool) (n : Nat) (hn : n ≤ 1000) (d : Nat) : ∀ (i : Int) (p h : List ByteArray), p.length = n → h.length = n → 0 ≤ i → i + d = n →
    Ev (fun k => spec_l7Crash.l0 k l n i p h b) ((crD l d i p h).1, (crD l d i p h).2, b) := by
  induction d with
  | zero => intro i p h hp hh h0 hd; exact Ev.end (fun k => by rw [spec_l7Crash.l0, if_neg (by omega)]; rfl)
  | succ d ih =>
    intro i p h hp hh h0 hd
    have hw : wrap64 (i + 1) = i + 1 := wrap_id (by omega) (by omega)
    have hb := l1Has_ev l i (by omega)
    refine Ev.step (fun k => by rw [spec_l7Crash.l0, if_pos (by omega), if_pos (by omega), if_pos (by omega), hw]) ?_
    unfold crD
    by_cases c : i ∈ l
    · rw [decide_eq_true c] at hb
      rw [if_pos c]
      exact Ev.bind hb (Ev.pos rfl (Ev.pos (by omega) (ih (i + 1) _ _ (by simpa using hp) (by simpa using hh) (by omega) (by omega))))
    · rw [decide_eq_false c] at hb
      rw [if_neg c]
      exact Ev.bind hb (Ev.neg (by simp) (ih (i + 1) _ _ hp (by simpa using hh) (by omega) (by omega)))
theorem crash_impl (l : List Int) (hl : l.length ≤ 1048576) (b : List Bool) (n : Nat) (hn : n ≤ 1000) (d : Nat) : ∀ (i : Int) (p h : List ByteArray), p.length = n → h.length = n → 0 ≤ i → i + d = n →
    Ev (fun k => impl_crashed.l0 k l n i p h b) ((crD l d i p h).1, (crD l d i p h).2, b) := by
  induction d with
  | zero => intro i p h hp hh h0 hd; exact Ev.end (fun k => by rw [impl_crashed.l0, if_neg (by omega)]; rfl)
  | succ d ih =>
    intro i p h hp hh h0 hd
    have hw : wrap64 (i + 1) = i + 1 := wrap_id (by omega) (by omega)
    have hb := contains_ev l i (by omega)
    refine Ev.step (fun k => by rw [impl_crashed.l0, if_pos (by omega), hw]) ?_
    unfold crD
    by_cases c : i ∈ l
    · rw [decide_eq_true c] at hb
      rw [if_pos c]
      exact Ev.bind hb (Ev.pos rfl (Ev.pos (by omega) (Ev.pos (by omega) (Ev.pos (by omega) (ih (i + 1) _ _ (by simpa using hp) (by simpa using hh) (by omega) (by omega))))))
    · rw [decide_eq_false c] at hb
      rw [if_neg c]
      exact Ev.bind hb (Ev.neg (by simp) (Ev.pos (by omega) (Ev.pos (by omega) (ih (i + 1) _ _ hp (by simpa using hh) (by omega) (by omega)))))
theorem own_spec (p h : List ByteArray) (b : List Bool) (hp : p.length ≤ 1000) (hh : h.length ≤ 1000) (hb : b.length ≤ 1000) : spec_l7Own.f p h b = some (p, h, b) := by
  unfold spec_l7Own.f
  simp only [Option.bind_some, List.length_nil, List.nil_append]
  rw [if_pos (by omega), if_pos (by omega), if_pos (by omega)]
theorem own_impl (p h : List ByteArray) (b : List Bool) (hp : p.length ≤ 1000) (hh : h.length ≤ 1000) (hb : b.length ≤ 1000) (hb0 : 0 < b.length) : impl_ownDisk.f p h b = some (p, h, b) := by
  unfold impl_ownDisk.f slices_Clone_string_string.f slices_Clone_bool_bool.f
  rw [if_pos (by omega), Option.bind_some, if_pos (by omega), Option.bind_some, if_pos (by omega), if_pos (by omega), Option.bind_some]
theorem op_eq (p h : List ByteArray) (b : List Bool) (l : List Int) (hl : l.length ≤ 1048576) :
    ∃ (p' h' : List ByteArray) (b' : List Bool) (ok : Bool), p'.length ≤ 1048576 ∧ h'.length ≤ 1048576 ∧ b'.length ≤ 1048576 ∧ Ev (fun k => spec_AfterCrash.f k p h b l) (p', h', b', ok) ∧ Ev (fun k => impl_AfterCrash.f k p h b l) (p', h', b', ok) := by
  obtain ⟨g, e1, e2, hg⟩ := goodDisk_eq p h b
  unfold spec_AfterCrash.f impl_AfterCrash.f
  cases g with
  | false => exact ⟨[], [], [], false, by simp, by simp, by simp, Ev.bind e1 (Ev.neg (by simp) (Ev.end (fun k => by rw [spec_AfterCrash.j0, if_pos rfl]))), Ev.bind e2 (Ev.neg (by simp) (Ev.now _))⟩
  | true =>
    have G := hg.1 rfl
    have hp : p.length ≤ 24 := G.2.1
    have hh : h.length = p.length := G.2.2.1
    have hb : b.length = p.length := G.2.2.2.1
    have hp0 : 1 ≤ p.length := G.1
    have k1 := kept_ev p h b l (by omega) hl
    have k2 := areHeld_ev p h b l hh (by omega) hl
    cases c : keepB h l with
    | false =>
      rw [c] at k1 k2
      exact ⟨[], [], [], false, by simp, by simp, by simp, Ev.bind e1 (Ev.pos rfl (Ev.bind k1 (Ev.end (fun k => by rw [spec_AfterCrash.j0, if_pos (by rfl)])))), Ev.bind e2 (Ev.pos rfl (Ev.bind k2 (Ev.neg (by simp) (Ev.now _))))⟩
    | true =>
      rw [c] at k1 k2
      have c1 := crash_spec l hl b p.length (by omega) p.length 0 p h rfl hh (by omega) (by omega)
      have c2 := crash_impl l hl b p.length (by omega) p.length 0 p h rfl hh (by omega) (by omega)
      have hL := crD_len l p.length 0 p h
      have o1 := own_spec p h b (by omega) (by omega) (by omega)
      have o2 := own_impl p h b (by omega) (by omega) (by omega) (by omega)
      have c1' : Ev (fun k => spec_l7Crash.f k p h b l) ((crD l p.length 0 p h).1, (crD l p.length 0 p h).2, b) := by unfold spec_l7Crash.f; rw [hh]; exact c1
      have c2' : Ev (fun k => impl_crashed.f k p h b l) ((crD l p.length 0 p h).1, (crD l p.length 0 p h).2, b) := by unfold impl_crashed.f; refine Ev.cbind o2 ?_; simp only [hh]; exact c2
      exact ⟨(crD l p.length 0 p h).1, (crD l p.length 0 p h).2, b, true, by rw [hL.1]; omega, by rw [hL.2]; omega, by omega, Ev.bind e1 (Ev.pos rfl (Ev.bind k1 (Ev.step (fun k => by rw [spec_AfterCrash.j0, if_neg (by simp)]) (Ev.cbind o1 (Ev.bind c1' (Ev.now ((crD l p.length 0 p h).1, (crD l p.length 0 p h).2, b, true))))))), Ev.bind e2 (Ev.pos rfl (Ev.bind k2 (Ev.pos rfl (Ev.bind c2' (Ev.now ((crD l p.length 0 p h).1, (crD l p.length 0 p h).2, b, true))))))⟩

theorem FnExactAfterCrash : laws_FnExactAfterCrash.Pure := by
  intro p h b l q0 q1 q2 q3
  refine Ev.rounds (g := fun k => laws_FnExactAfterCrash.f k p h b l) (r := true) ?_
  unfold laws_FnExactAfterCrash.f
  by_cases hr : (l.length : Int) > 1048576
  · exact Ev.pos hr (Ev.now _)
  obtain ⟨z, hz, hl⟩ := szDisk_ev p h b q0 q1 q2.1
  by_cases hn : z < 0
  · exact Ev.neg hr (Ev.bind hz (Ev.pos hn (Ev.now _)))
  obtain ⟨l0, l1, l2⟩ := hl hn
  have ht := toDisk_ev p h b l0 l1 l2
  have hti := toIntS_ev l (by omega)
  have hd := eqDisk_same p h b l0 l1 l2
  have hpi := eqIntS_same l (by omega)
  obtain ⟨p', h', b', ok, m0, m1, m2, e1, e2⟩ := op_eq p h b l (by omega)
  have he := eqDisk_same p' h' b' m0 m1 m2
  obtain ⟨m, s0, s1, s2, hk, hk0, _, _, _, hk4⟩ := markDisk_ev p h b l0 l1 l2
  have hki := markIntS_ev l m hk0 (by omega)
  obtain ⟨m', t0, t1, t2, hm, hm0, rfl, rfl, rfl, rfl⟩ := markDisk_ev p' h' b' m0 m1 m2
  have hh := heldDisk_ev p'.length h'.length b'.length m0 m1 m2
  exact Ev.neg hr (Ev.bind hz (Ev.neg hn (Ev.bind ht (Ev.bind hti (Ev.bind e1 (Ev.bind ht (Ev.bind hti (Ev.bind e2 (Ev.bind he (Ev.pos rfl (Ev.neg (by simp) (Ev.bind ht (Ev.bind hd (Ev.pos rfl (Ev.bind hti (Ev.bind hpi (Ev.pos rfl (Ev.bind hk (Ev.bind hki (Ev.neg (by simp only; omega) (Ev.bind he (Ev.pos rfl (Ev.neg (by simp) (Ev.bind hm (Ev.bind hh (Ev.neg (by omega) (Ev.neg (by simp) (Ev.bind ht (Ev.bind hti (Ev.bind e2 (Ev.bind he (Ev.pos rfl (Ev.neg (by simp) (Ev.bind hh (Ev.neg (by omega) (Ev.neg (by simp) (Ev.now _)))))))))))))))))))))))))))))))))))))

end Go.Proofs.Ytjlodcoeegpkaaa.Pure
