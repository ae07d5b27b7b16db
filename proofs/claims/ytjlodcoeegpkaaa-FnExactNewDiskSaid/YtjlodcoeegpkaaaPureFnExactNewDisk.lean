/- NewDisk of the program and of the reference return the same, in new memory. -/
import Derived.Test.YtjlodcoeegpkaaaPFnExactNewDiskx5
set_option maxRecDepth 100000
set_option linter.unusedVariables false
set_option linter.unusedSimpArgs false
namespace Go.Proofs.Ytjlodcoeegpkaaa.Pure
open Go.RowKit Go.Proofs.Ytjlodcoeegpkaaa.PFnExactNewDisk Go.Proofs.YtjlodcoeegpkaaaW.PrintWords Go.Proofs.YtjlodcoeegpkaaaW.PrintLast

theorem wrap_id {x : Int} (h0 : -9223372036854775808 ≤ x) (h1 : x < 9223372036854775808) : wrap64 x = x := by
  unfold wrap64; omega
theorem Ev.pos {α : Type} {c : Prop} [Decidable c] {g f : Nat → Option α} {r : α} (h : c) (k : Ev g r) : Ev (fun n => if c then g n else f n) r := by
  simpa only [if_pos h] using k
theorem Ev.neg {α : Type} {c : Prop} [Decidable c] {g f : Nat → Option α} {r : α} (h : ¬ c) (k : Ev f r) : Ev (fun n => if c then g n else f n) r := by
  simpa only [if_neg h] using k
theorem Ev.val {α : Type} {x : Option α} {r : α} (h : x = some r) : Ev (fun _ => x) r := by
  rw [h]; exact Ev.now r
theorem Ev.end {α : Type} {g : Nat → Option α} {r : α} (h : ∀ k, g (k + 1) = some r) : Ev g r := Ev.step (f := fun _ => some r) h (Ev.now r)
theorem Ev.cbind {α β : Type} {x : Option α} {f : Nat → α → Option β} {a : α} {r : β} (h : x = some a) (k : Ev (fun n => f n a) r) : Ev (fun n => x.bind (f n)) r := by
  subst h; exact k
theorem Ev.uniq {α : Type} {g : Nat → Option α} {r q : α} (h : Ev g r) (k : Ev g q) : r = q := by
  obtain ⟨K, h⟩ := h
  obtain ⟨L, k⟩ := k
  have h1 := h (max K L) (by omega)
  have h2 := k (max K L) (by omega)
  rw [h1] at h2
  exact Option.some.inj h2
theorem Ev.succ {α : Type} {g : Nat → Option α} {r : α} (h : Ev (fun k => g (k + 1)) r) : Ev g r := Ev.step (fun _ => rfl) h

theorem within_eq (a b c : Int) : impl_within.f a b c = some (decide (b ≤ a ∧ a ≤ c)) := by
  by_cases h : b ≤ a <;> simp [impl_within.f, h]

theorem l1In_eq (a b c : Int) : spec_l1In.f a b c = some (decide (b ≤ a ∧ a ≤ c)) := by
  by_cases h : b ≤ a <;> simp [spec_l1In.f, h]

theorem eqStringS_loop (l : List ByteArray) (hl : l.length ≤ 4611686018427387904) (d : Nat) : ∀ i : Int, 0 ≤ i → i ≤ l.length → (l.length : Int) - i = d → Ev (fun k => laws_eqStringS.l0 k l l i) true := by
  induction d with
  | zero => intro i h0 h1 hd; exact Ev.end (fun k => by simp only [laws_eqStringS.l0]; rw [if_neg (by omega)])
  | succ d ih =>
    intro i h0 h1 hd
    refine Ev.step (fun k => ?_) (ih (i + 1) (by omega) (by omega) (by omega))
    have hw := wrap_id (x := i + 1) (by omega) (by omega)
    rw [laws_eqStringS.l0, if_pos (by omega), if_pos h0, if_pos (by omega), if_pos rfl, hw]
theorem eqStringS_same (l : List ByteArray) (hl : l.length ≤ 4611686018427387904) : Ev (fun k => laws_eqStringS.f k l l) true := by
  unfold laws_eqStringS.f; exact Ev.pos (by trivial) (eqStringS_loop l hl l.length 0 (by omega) (by omega) (by omega))


theorem eqBoolS_loop (l : List Bool) (hl : l.length ≤ 4611686018427387904) (d : Nat) : ∀ i : Int, 0 ≤ i → i ≤ l.length → (l.length : Int) - i = d → Ev (fun k => laws_eqBoolS.l0 k l l i) true := by
  induction d with
  | zero => intro i h0 h1 hd; exact Ev.end (fun k => by simp only [laws_eqBoolS.l0]; rw [if_neg (by omega)])
  | succ d ih =>
    intro i h0 h1 hd
    refine Ev.step (fun k => ?_) (ih (i + 1) (by omega) (by omega) (by omega))
    have hw := wrap_id (x := i + 1) (by omega) (by omega)
    rw [laws_eqBoolS.l0, if_pos (by omega), if_pos h0, if_pos (by omega), if_neg (by simp), hw]
theorem eqBoolS_same (l : List Bool) (hl : l.length ≤ 4611686018427387904) : Ev (fun k => laws_eqBoolS.f k l l) true := by
  unfold laws_eqBoolS.f; exact Ev.pos (by trivial) (eqBoolS_loop l hl l.length 0 (by omega) (by omega) (by omega))


theorem eqDisk_same (p h : List ByteArray) (b : List Bool) (l0 : p.length ≤ 1048576) (l1 : h.length ≤ 1048576) (l2 : b.length ≤ 1048576) : Ev (fun k => laws_eqDisk.f k p h b p h b) true := by
  unfold laws_eqDisk.f
  exact Ev.bind (eqStringS_same p (by omega)) (Ev.pos (by trivial) (Ev.bind (eqStringS_same h (by omega)) (Ev.pos (by trivial) (Ev.bind (eqBoolS_same b (by omega)) (Ev.pos (by trivial) (Ev.now _))))))

theorem markText_loop (d : Nat) : ∀ (v : Int) (s : ByteArray), 0 ≤ v → v < 10 ^ d → d ≤ 18 → s.size + d ≤ 1000 → ∃ t, Ev (fun k => laws_markText.l0 k v s) t := by
  induction d with
  | zero =>
    intro v s h0 h1 h2 h3
    have hv : v = 0 := by simp at h1; omega
    exact ⟨_, Ev.end (fun k => by simp only [laws_markText.l0]; rw [if_neg (by omega), if_pos (by omega)])⟩
  | succ d ih =>
    intro v s h0 h1 h2 h3
    by_cases hz : v = 0
    · exact ⟨_, Ev.end (fun k => by simp only [laws_markText.l0]; rw [if_neg (by omega), if_pos (by omega)])⟩
    have hb : (10 : Int) ^ (d + 1) ≤ 10 ^ 18 := by
      have : (10 : Nat) ^ (d + 1) ≤ 10 ^ 18 := Nat.pow_le_pow_right (by omega) (by omega)
      exact_mod_cast this
    have hc : (10 : Int) ^ 18 = 1000000000000000000 := by decide +kernel
    have hdiv : Int.tdiv v 10 = v / 10 := Int.tdiv_eq_ediv_of_nonneg h0
    have hlt : v / 10 < 10 ^ d := by
      have : v < 10 ^ d * 10 := by rw [Int.pow_succ] at h1; exact h1
      omega
    have h48 : (strOfNums [(wrap64 (48 + Int.tmod v 10)) % 256]).size = 1 := by simp [strOfNums]; rfl
    obtain ⟨t, ht⟩ := ih (v / 10) (strOfNums [(wrap64 (48 + Int.tmod v 10)) % 256] ++ s) (by omega) hlt (by omega) (by rw [ByteArray.size_append, h48]; omega)
    refine ⟨t, Ev.step (fun k => ?_) ht⟩
    simp only [laws_markText.l0]
    rw [if_pos (by omega)]
    simp only [Option.bind_some]
    rw [if_pos (by rw [h48]; omega), hdiv, wrap_id (x := v / 10) (by omega) (by omega)]
theorem markText_ex (v : Int) (h0 : 0 ≤ v) (h1 : v < 1000000000000000000) : ∃ t, Ev (fun k => laws_markText.f k v) t := by
  simp only [laws_markText.f]
  by_cases hz : v ≤ 0
  · exact ⟨_, Ev.pos hz (Ev.now _)⟩
  · obtain ⟨t, ht⟩ := markText_loop 18 v ⟨#[]⟩ h0 (by rw [show (10 : Int) ^ 18 = 1000000000000000000 from by decide +kernel]; exact h1) (by omega) (by decide)
    exact ⟨t, Ev.neg hz ht⟩
/-- the text that marks -/
noncomputable def mt (v : Int) : ByteArray := Classical.epsilon (fun t => Ev (fun k => laws_markText.f k v) t)
theorem mt_ev (v : Int) (h0 : 0 ≤ v) (h1 : v < 1000000000000000000) : Ev (fun k => laws_markText.f k v) (mt v) := Classical.epsilon_spec (markText_ex v h0 h1)
noncomputable def strs_ (v : Int) : Nat → List ByteArray
  | 0 => []
  | n + 1 => mt v :: strs_ (v + 1) n
theorem strs__length (v : Int) (n : Nat) : (strs_ v n).length = n := by
  induction n generalizing v with
  | zero => rfl
  | succ n ih => simp [strs_, ih]
theorem markStringS_loop (rest : List ByteArray) : ∀ (pre : List ByteArray) (v : Int), 0 ≤ v → v + rest.length ≤ 500000000000000000 → pre.length + rest.length ≤ 4611686018427387904 →
    Ev (fun k => laws_markStringS.l0 k (pre ++ rest) v pre.length) (v + rest.length, pre ++ strs_ v rest.length) := by
  induction rest with
  | nil => intro pre v h0 h1 h2; exact Ev.end (fun k => by simp only [laws_markStringS.l0]; rw [if_neg (by simp)]; simp [strs_])
  | cons a rest ih =>
    intro pre v h0 h1 h2
    simp only [List.length_cons] at h1 h2
    have := ih (pre ++ [mt v]) (v + 1) (by omega) (by push_cast at h1 ⊢; omega) (by simp; omega)
    simp only [List.append_assoc, List.singleton_append, List.length_append, List.length_singleton] at this
    rw [show (v + 1 + (rest.length : Int)) = v + ((a :: rest).length : Int) by simp; omega] at this
    refine Ev.step (f := fun k => (laws_markText.f k v).bind fun t => laws_markStringS.l0 k ((pre ++ a :: rest).set pre.length t) (v + 1) ((pre.length + 1 : Nat) : Int)) (fun k => ?_) (Ev.bind (mt_ev v h0 (by push_cast at h1; omega)) ?_)
    · rw [laws_markStringS.l0]
      rw [if_pos (by simp; omega), wrap_id (x := v + 1) (by omega) (by push_cast at h1; omega), wrap_id (x := (pre.length : Int) + 1) (by omega) (by omega)]
      simp
    · simpa [strs_] using this
theorem heldStringS_loop (n : Nat) : ∀ (pre : List ByteArray) (v : Int), 0 ≤ v → v + n ≤ 500000000000000000 → pre.length + n ≤ 4611686018427387904 →
    Ev (fun k => laws_heldStringS.l0 k (pre ++ strs_ v n) v pre.length) (v + n) := by
  induction n with
  | zero => intro pre v h0 h1 h2; exact Ev.end (fun k => by simp only [laws_heldStringS.l0]; rw [if_neg (by simp [strs_])]; simp)
  | succ n ih =>
    intro pre v h0 h1 h2
    have := ih (pre ++ [mt v]) (v + 1) (by omega) (by push_cast at h1 ⊢; omega) (by simp; omega)
    simp only [List.append_assoc, List.singleton_append, List.length_append, List.length_singleton] at this
    rw [show (v + 1 + (n : Int)) = v + ((n + 1 : Nat) : Int) by push_cast; omega] at this
    show Ev (fun k => laws_heldStringS.l0 k (pre ++ (mt v :: strs_ (v + 1) n)) v pre.length) _
    refine Ev.step (f := fun k => (laws_markText.f k v).bind fun t => if (mt v).toList = t.toList then laws_heldStringS.l0 k (pre ++ (mt v :: strs_ (v + 1) n)) (v + 1) ((pre.length + 1 : Nat) : Int) else some (-1)) (fun k => ?_) (Ev.bind (mt_ev v h0 (by push_cast at h1; omega)) (Ev.pos (by trivial) this))
    rw [laws_heldStringS.l0]
    have hr : rdOf ByteArray.empty (pre ++ (mt v :: strs_ (v + 1) n)) (pre.length : Int) = mt v := by simp [rdOf, List.getD_eq_getElem?_getD]
    rw [if_pos (by simp; omega), if_pos (by omega), hr, wrap_id (x := v + 1) (by omega) (by push_cast at h1; omega), wrap_id (x := (pre.length : Int) + 1) (by omega) (by omega)]
    simp
theorem markStringS_ev (l : List ByteArray) (v : Int) (h0 : 0 ≤ v) (h : v + l.length ≤ 500000000000000000) : Ev (fun k => laws_markStringS.f k l v) (v + l.length, strs_ v l.length) :=
  markStringS_loop l [] v h0 h (by simp; omega)
theorem heldStringS_ev (n : Nat) (v : Int) (h0 : 0 ≤ v) (h : v + n ≤ 500000000000000000) : Ev (fun k => laws_heldStringS.f k (strs_ v n) v) (v + n) :=
  heldStringS_loop n [] v h0 h (by simp; omega)

def bools_ (v : Int) : Nat → List Bool
  | 0 => []
  | n + 1 => (Int.tmod v 3 == 0) :: bools_ (v + 1) n
theorem bools__length (v : Int) (n : Nat) : (bools_ v n).length = n := by
  induction n generalizing v with
  | zero => rfl
  | succ n ih => simp [bools_, ih]
theorem markBoolS_loop (rest : List Bool) : ∀ (pre : List Bool) (v : Int), 0 ≤ v → v + rest.length ≤ 4611686018427387904 → pre.length + rest.length ≤ 4611686018427387904 →
    Ev (fun k => laws_markBoolS.l0 k (pre ++ rest) v pre.length) (v + rest.length, pre ++ bools_ v rest.length) := by
  induction rest with
  | nil => intro pre v h0 h1 h2; exact Ev.end (fun k => by simp only [laws_markBoolS.l0]; rw [if_neg (by simp)]; simp [bools_])
  | cons a rest ih =>
    intro pre v h0 h1 h2
    simp only [List.length_cons] at h1 h2
    have := ih (pre ++ [Int.tmod v 3 == 0]) (v + 1) (by omega) (by push_cast at h1 ⊢; omega) (by simp; omega)
    simp only [List.append_assoc, List.singleton_append, List.length_append, List.length_singleton] at this
    rw [show (v + 1 + (rest.length : Int)) = v + ((a :: rest).length : Int) by simp; omega] at this
    refine Ev.step (fun k => ?_) this
    rw [laws_markBoolS.l0]
    rw [if_pos (by simp; omega), if_pos (by omega), wrap_id (x := v + 1) (by omega) (by push_cast at h1; omega), wrap_id (x := (pre.length : Int) + 1) (by omega) (by omega)]
    simp
theorem heldBoolS_loop (n : Nat) : ∀ (pre : List Bool) (v : Int), 0 ≤ v → v + n ≤ 4611686018427387904 → pre.length + n ≤ 4611686018427387904 →
    Ev (fun k => laws_heldBoolS.l0 k (pre ++ bools_ v n) v pre.length) (v + n) := by
  induction n with
  | zero => intro pre v h0 h1 h2; exact Ev.end (fun k => by simp only [laws_heldBoolS.l0]; rw [if_neg (by simp [bools_])]; simp)
  | succ n ih =>
    intro pre v h0 h1 h2
    have := ih (pre ++ [Int.tmod v 3 == 0]) (v + 1) (by omega) (by push_cast at h1 ⊢; omega) (by simp; omega)
    simp only [List.append_assoc, List.singleton_append, List.length_append, List.length_singleton] at this
    rw [show (v + 1 + (n : Int)) = v + ((n + 1 : Nat) : Int) by push_cast; omega] at this
    show Ev (fun k => laws_heldBoolS.l0 k (pre ++ ((Int.tmod v 3 == 0) :: bools_ (v + 1) n)) v pre.length) _
    refine Ev.step (fun k => ?_) this
    rw [laws_heldBoolS.l0]
    rw [if_pos (by simp; omega), if_pos (by omega), if_neg (by simp [rdOf, List.getD_eq_getElem?_getD]), wrap_id (x := v + 1) (by omega) (by push_cast at h1; omega), wrap_id (x := (pre.length : Int) + 1) (by omega) (by omega)]
    simp
theorem markBoolS_ev (l : List Bool) (v : Int) (h0 : 0 ≤ v) (h : v + l.length ≤ 4611686018427387904) : Ev (fun k => laws_markBoolS.f k l v) (v + l.length, bools_ v l.length) :=
  markBoolS_loop l [] v h0 h (by simp; omega)
theorem heldBoolS_ev (n : Nat) (v : Int) (h0 : 0 ≤ v) (h : v + n ≤ 4611686018427387904) : Ev (fun k => laws_heldBoolS.f k (bools_ v n) v) (v + n) :=
  heldBoolS_loop n [] v h0 h (by simp; omega)

theorem markDisk_ev (p h : List ByteArray) (b : List Bool) (l0 : p.length ≤ 1048576) (l1 : h.length ≤ 1048576) (l2 : b.length ≤ 1048576) :
    ∃ (m : Int) (p' h' : List ByteArray) (b' : List Bool), Ev (fun k => laws_markDisk.f k p h b 1) (m, p', h', b') ∧ 0 ≤ m ∧ p' = strs_ 1 p.length ∧ h' = strs_ (1 + p.length) h.length ∧ b' = bools_ (1 + p.length + h.length) b.length ∧ m = 1 + p.length + h.length + b.length := by
  unfold laws_markDisk.f
  exact ⟨_, _, _, _, Ev.bind (markStringS_ev p 1 (by omega) (by omega)) (Ev.bind (markStringS_ev h (1 + p.length) (by omega) (by omega)) (Ev.bind (markBoolS_ev b (1 + p.length + h.length) (by omega) (by omega)) (Ev.now _))), by omega, rfl, rfl, rfl, rfl⟩

theorem heldDisk_ev (n0 n1 n2 : Nat) (l0 : n0 ≤ 1048576) (l1 : n1 ≤ 1048576) (l2 : n2 ≤ 1048576) :
    Ev (fun k => laws_heldDisk.f k (strs_ 1 n0) (strs_ (1 + n0) n1) (bools_ (1 + n0 + n1) n2) 1) (1 + n0 + n1 + n2) := by
  unfold laws_heldDisk.f
  exact Ev.bind (heldStringS_ev n0 1 (by omega) (by omega)) (Ev.neg (by omega) (Ev.bind (heldStringS_ev n1 (1 + n0) (by omega) (by omega)) (Ev.neg (by omega) (Ev.bind (heldBoolS_ev n2 (1 + n0 + n1) (by omega) (by omega)) (Ev.neg (by omega) (Ev.now _))))))

theorem newDisk_eq (s : Int) : ∃ (p h : List ByteArray) (b : List Bool) (ok : Bool), spec_NewDisk.f s = some (p, h, b, ok) ∧ impl_NewDisk.f s = some (p, h, b, ok) ∧ p.length ≤ 24 ∧ h.length ≤ 24 ∧ b.length ≤ 24 := by
  simp only [spec_NewDisk.f, impl_NewDisk.f, l1In_eq, within_eq, Option.bind_some, decide_eq_true_eq]
  by_cases h : 1 ≤ s ∧ s ≤ 24
  · refine ⟨List.replicate s.toNat ⟨#[]⟩, List.replicate s.toNat ⟨#[]⟩, List.replicate s.toNat false, true, ?_, ?_, by simp; omega, by simp; omega, by simp; omega⟩
    · rw [if_pos h, if_pos (by omega), if_pos (by omega), if_pos (by omega)]
    · rw [if_pos h, if_pos (by omega), if_pos (by omega), if_pos (by omega)]
  · exact ⟨[], [], [], false, by rw [if_neg h], by rw [if_neg h], by simp, by simp, by simp⟩
theorem FnExactNewDisk : laws_FnExactNewDisk.Pure := by
  intro s _
  refine Ev.rounds (g := fun k => laws_FnExactNewDisk.f k s) (r := true) ?_
  obtain ⟨p, h, b, ok, hs, hi, l0, l1, l2⟩ := newDisk_eq s
  have he := eqDisk_same p h b (by omega) (by omega) (by omega)
  obtain ⟨m, p', h', b', hm, hm0, rfl, rfl, rfl, rfl⟩ := markDisk_ev p h b (by omega) (by omega) (by omega)
  have hh := heldDisk_ev p.length h.length b.length (by omega) (by omega) (by omega)
  simp only [laws_FnExactNewDisk.f]
  refine Ev.cbind hs (Ev.cbind hi (Ev.bind he (Ev.pos (by trivial) (Ev.succ ?_))))
  simp only [laws_FnExactNewDisk.j0]
  refine Ev.neg (by simp) (Ev.bind hm (Ev.bind hh (Ev.neg (by omega) (Ev.pos (by trivial) (Ev.cbind hi (Ev.bind he (Ev.pos (by trivial) (Ev.succ ?_))))))))
  simp only [laws_FnExactNewDisk.j1]
  exact Ev.neg (by simp) (Ev.bind hh (Ev.neg (by omega) (Ev.pos (by trivial) (Ev.now _))))

end Go.Proofs.Ytjlodcoeegpkaaa.Pure
