/- NewFilter of the program and of the reference return the same, in new memory. -/
import Derived.Test.YtlmnlmcahhegkaaPFnExactNewFilterx1
set_option maxRecDepth 100000
set_option linter.unusedVariables false
set_option linter.unusedSimpArgs false
namespace Go.Proofs.Ytlmnlmcahhegkaa.Pure
open Go.RowKit Go.Proofs.Ytlmnlmcahhegkaa.PFnExactNewFilter Go.Proofs.YtlmnlmcahhegkaaW.PrintWords Go.Proofs.YtlmnlmcahhegkaaW.PrintLast

theorem wrap_id {x : Int} (h0 : -9223372036854775808 ≤ x) (h1 : x < 9223372036854775808) : wrap64 x = x := by
  unfold wrap64; omega
theorem Ev.pos {α : Type} {c : Prop} [Decidable c] {g f : Nat → Option α} {r : α} (h : c) (k : Ev g r) : Ev (fun n => if c then g n else f n) r := by
  simpa only [if_pos h] using k
theorem Ev.neg {α : Type} {c : Prop} [Decidable c] {g f : Nat → Option α} {r : α} (h : ¬ c) (k : Ev f r) : Ev (fun n => if c then g n else f n) r := by
  simpa only [if_neg h] using k
theorem Ev.val {α : Type} {x : Option α} {r : α} (h : x = some r) : Ev (fun _ => x) r := by
  rw [h]; exact Ev.now r
theorem Ev.end {α : Type} {g : Nat → Option α} {r : α} (h : ∀ k, g (k + 1) = some r) : Ev g r := Ev.step (f := fun _ => some r) h (Ev.now r)
theorem Ev.cbind {α β : Type} {x : Option α} {f : Nat → α → Option β} {a : α} {r : β} (h : x = some a) (k : Ev (fun n => f n a) r) : Ev (fun n => x.bind (f n)) r := by
  subst h; exact k
theorem Ev.uniq {α : Type} {g : Nat → Option α} {r q : α} (h : Ev g r) (k : Ev g q) : r = q := by
  obtain ⟨K, h⟩ := h
  obtain ⟨L, k⟩ := k
  have h1 := h (max K L) (by omega)
  have h2 := k (max K L) (by omega)
  rw [h1] at h2
  exact Option.some.inj h2

theorem eqBoolS_loop (l : List Bool) (hl : l.length ≤ 4611686018427387904) (d : Nat) : ∀ i : Int, 0 ≤ i → i ≤ l.length → (l.length : Int) - i = d → Ev (fun k => laws_eqBoolS.l0 k l l i) true := by
  induction d with
  | zero => intro i h0 h1 hd; exact Ev.end (fun k => by simp only [laws_eqBoolS.l0]; rw [if_neg (by omega)])
  | succ d ih =>
    intro i h0 h1 hd
    refine Ev.step (fun k => ?_) (ih (i + 1) (by omega) (by omega) (by omega))
    have hw := wrap_id (x := i + 1) (by omega) (by omega)
    rw [laws_eqBoolS.l0, if_pos (by omega), if_pos h0, if_pos (by omega), if_neg (by simp), hw]
theorem eqBoolS_same (l : List Bool) (hl : l.length ≤ 4611686018427387904) : Ev (fun k => laws_eqBoolS.f k l l) true := by
  unfold laws_eqBoolS.f; exact Ev.pos rfl (eqBoolS_loop l hl l.length 0 (by omega) (by omega) (by omega))


def bools_ (v : Int) : Nat → List Bool
  | 0 => []
  | n + 1 => (Int.tmod v 3 == 0) :: bools_ (v + 1) n
theorem bools__length (v : Int) (n : Nat) : (bools_ v n).length = n := by
  induction n generalizing v with
  | zero => rfl
  | succ n ih => simp [bools_, ih]
theorem markBoolS_loop (rest : List Bool) : ∀ (pre : List Bool) (v : Int), 0 ≤ v → v + rest.length ≤ 4611686018427387904 → pre.length + rest.length ≤ 4611686018427387904 →
    Ev (fun k => laws_markBoolS.l0 k (pre ++ rest) v pre.length) (v + rest.length, pre ++ bools_ v rest.length) := by
  induction rest with
  | nil => intro pre v h0 h1 h2; exact Ev.end (fun k => by simp only [laws_markBoolS.l0]; rw [if_neg (by simp)]; simp [bools_])
  | cons a rest ih =>
    intro pre v h0 h1 h2
    simp only [List.length_cons] at h1 h2
    have := ih (pre ++ [Int.tmod v 3 == 0]) (v + 1) (by omega) (by push_cast at h1 ⊢; omega) (by simp; omega)
    simp only [List.append_assoc, List.singleton_append, List.length_append, List.length_singleton] at this
    rw [show (v + 1 + (rest.length : Int)) = v + ((a :: rest).length : Int) by simp; omega] at this
    refine Ev.step (fun k => ?_) this
    rw [laws_markBoolS.l0]
    rw [if_pos (by simp; omega), if_pos (by omega), wrap_id (x := v + 1) (by omega) (by push_cast at h1; omega), wrap_id (x := (pre.length : Int) + 1) (by omega) (by omega)]
    simp
theorem heldBoolS_loop (n : Nat) : ∀ (pre : List Bool) (v : Int), 0 ≤ v → v + n ≤ 4611686018427387904 → pre.length + n ≤ 4611686018427387904 →
    Ev (fun k => laws_heldBoolS.l0 k (pre ++ bools_ v n) v pre.length) (v + n) := by
  induction n with
  | zero => intro pre v h0 h1 h2; exact Ev.end (fun k => by simp only [laws_heldBoolS.l0]; rw [if_neg (by simp [bools_])]; simp)
  | succ n ih =>
    intro pre v h0 h1 h2
    have := ih (pre ++ [Int.tmod v 3 == 0]) (v + 1) (by omega) (by push_cast at h1 ⊢; omega) (by simp; omega)
    simp only [List.append_assoc, List.singleton_append, List.length_append, List.length_singleton] at this
    rw [show (v + 1 + (n : Int)) = v + ((n + 1 : Nat) : Int) by push_cast; omega] at this
    show Ev (fun k => laws_heldBoolS.l0 k (pre ++ ((Int.tmod v 3 == 0) :: bools_ (v + 1) n)) v pre.length) _
    refine Ev.step (fun k => ?_) this
    rw [laws_heldBoolS.l0]
    rw [if_pos (by simp; omega), if_pos (by omega), if_neg (by simp [rdOf, List.getD_eq_getElem?_getD]), wrap_id (x := v + 1) (by omega) (by push_cast at h1; omega), wrap_id (x := (pre.length : Int) + 1) (by omega) (by omega)]
    simp
theorem markBoolS_ev (l : List Bool) (v : Int) (h0 : 0 ≤ v) (h : v + l.length ≤ 4611686018427387904) : Ev (fun k => laws_markBoolS.f k l v) (v + l.length, bools_ v l.length) :=
  markBoolS_loop l [] v h0 h (by simp; omega)
theorem heldBoolS_ev (n : Nat) (v : Int) (h0 : 0 ≤ v) (h : v + n ≤ 4611686018427387904) : Ev (fun k => laws_heldBoolS.f k (bools_ v n) v) (v + n) :=
  heldBoolS_loop n [] v h0 h (by simp; omega)

theorem eqFilter_same (l : List Bool) (hl : l.length ≤ 4611686018427387904) : Ev (fun k => laws_eqFilter.f k l l) true := by
  simp only [laws_eqFilter.f]; exact Ev.bind (eqBoolS_same l hl) (Ev.pos rfl (Ev.now _))

theorem FnExactNewFilter : laws_FnExactNewFilter.Pure := by
  refine Ev.rounds (g := fun k => laws_FnExactNewFilter.f k) (r := true) ?_
  simp only [laws_FnExactNewFilter.f]
  have hs : spec_NewFilter.f = some (List.replicate 64 false) := rfl
  have hi : impl_NewFilter.f = some (List.replicate 64 false) := rfl
  rw [hs, hi]
  generalize hl : List.replicate 64 false = l
  have hn : l.length = 64 := by rw [← hl]; rfl
  simp only [Option.bind_some]
  have he := eqFilter_same l (by omega)
  have hm := markBoolS_ev l 1 (by omega) (by omega)
  have hh := heldBoolS_ev l.length 1 (by omega) (by omega)
  have hh' : Ev (fun k => laws_heldFilter.f k (bools_ 1 l.length) 1) (1 + l.length) := by
    simp only [laws_heldFilter.f]; exact Ev.bind hh (Ev.neg (by omega) (Ev.now _))
  refine Ev.bind he (Ev.pos rfl (Ev.bind (a := (1 + (l.length : Int), bools_ 1 l.length)) ?_ ?_))
  · simp only [laws_markFilter.f]; exact Ev.bind hm (Ev.now _)
  · refine Ev.bind hh' (Ev.neg (by omega) (Ev.pos rfl (Ev.bind he (Ev.pos rfl (Ev.bind hh' (Ev.neg (by omega) (Ev.pos rfl (Ev.now _))))))))

end Go.Proofs.Ytlmnlmcahhegkaa.Pure
