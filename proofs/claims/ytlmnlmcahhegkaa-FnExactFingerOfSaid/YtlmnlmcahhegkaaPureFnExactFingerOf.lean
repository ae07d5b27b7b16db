/- FingerOf of the program and of the reference return the same, for every string. -/
import Derived.Test.YtlmnlmcahhegkaaPFnExactFingerOfx1
set_option maxRecDepth 100000
set_option linter.unusedVariables false
set_option linter.unusedSimpArgs false
namespace Go.Proofs.Ytlmnlmcahhegkaa.Pure
open Go.RowKit Go.Proofs.Ytlmnlmcahhegkaa.PFnExactFingerOf Go.Proofs.YtlmnlmcahhegkaaW.PrintWords Go.Proofs.YtlmnlmcahhegkaaW.PrintLast

theorem wrap_id {x : Int} (h0 : -9223372036854775808 ≤ x) (h1 : x < 9223372036854775808) : wrap64 x = x := by
  unfold wrap64; omega
theorem Ev.pos {α : Type} {c : Prop} [Decidable c] {g f : Nat → Option α} {r : α} (h : c) (k : Ev g r) : Ev (fun n => if c then g n else f n) r := by
  simpa only [if_pos h] using k
theorem Ev.neg {α : Type} {c : Prop} [Decidable c] {g f : Nat → Option α} {r : α} (h : ¬ c) (k : Ev f r) : Ev (fun n => if c then g n else f n) r := by
  simpa only [if_neg h] using k
theorem Ev.val {α : Type} {x : Option α} {r : α} (h : x = some r) : Ev (fun _ => x) r := by
  rw [h]; exact Ev.now r
theorem Ev.end {α : Type} {g : Nat → Option α} {r : α} (h : ∀ k, g (k + 1) = some r) : Ev g r := Ev.step (f := fun _ => some r) h (Ev.now r)
theorem Ev.cbind {α β : Type} {x : Option α} {f : Nat → α → Option β} {a : α} {r : β} (h : x = some a) (k : Ev (fun n => f n a) r) : Ev (fun n => x.bind (f n)) r := by
  subst h; exact k
theorem Ev.uniq {α : Type} {g : Nat → Option α} {r q : α} (h : Ev g r) (k : Ev g q) : r = q := by
  obtain ⟨K, h⟩ := h
  obtain ⟨L, k⟩ := k
  have h1 := h (max K L) (by omega)
  have h2 := k (max K L) (by omega)
  rw [h1] at h2
  exact Option.some.inj h2

theorem finger_both (s : ByteArray) (hs : s.size ≤ 140737488351232) (d : Nat) : ∀ (x i : Int), 0 ≤ i → i ≤ s.size → (s.size : Int) - i = d →
    ∃ r, Ev (fun k => spec_l9Finger.l0 k s x i) r ∧ Ev (fun k => impl_finger.l0 k s x s.size i) r := by
  induction d with
  | zero =>
    intro x i h0 h1 hd
    refine ⟨x, Ev.end (fun k => ?_), Ev.end (fun k => ?_)⟩
    · simp only [spec_l9Finger.l0]; rw [if_neg (by omega)]
    · simp only [impl_finger.l0]; rw [if_neg (by omega)]
  | succ d ih =>
    intro x i h0 h1 hd
    obtain ⟨r, hr1, hr2⟩ := ih (Int.tmod (wrap64 ((wrap64 (x * 257)) + (wrap64 (bt s i)))) 8191) (i + 1) (by omega) (by omega) (by omega)
    have hw : wrap64 (i + 1) = i + 1 := wrap_id (by omega) (by omega)
    refine ⟨r, Ev.step (fun k => ?_) hr1, Ev.step (fun k => ?_) hr2⟩
    · simp only [spec_l9Finger.l0]; rw [if_pos (by omega), if_pos h0, hw]
    · simp only [impl_finger.l0]; rw [if_pos (by omega), if_pos h0, if_pos (by omega), hw]
theorem finger_eq (s : ByteArray) (hs : s.size ≤ 140737488351232) : ∃ r, Ev (fun k => spec_l9Finger.f k s) r ∧ Ev (fun k => impl_finger.f k s) r := by
  obtain ⟨r, h1, h2⟩ := finger_both s hs s.size 0 0 (by omega) (by omega) (by omega)
  exact ⟨r, h1, h2⟩

theorem FnExactFingerOf : laws_FnExactFingerOf.Pure := by
  intro s hs
  obtain ⟨r, h1, h2⟩ := finger_eq s hs
  refine Ev.rounds (g := fun k => laws_FnExactFingerOf.f k s) (r := true) ?_
  simp only [laws_FnExactFingerOf.f]
  by_cases hb : (s.size : Int) > 1048576
  · exact Ev.pos hb (Ev.now _)
  refine Ev.neg hb ?_
  by_cases h4 : (s.size : Int) = 4
  · refine Ev.bind (a := (r, true)) ?_ (Ev.bind (a := (r, true)) ?_ ?_)
    · simp only [spec_FingerOf.f]; exact Ev.pos h4 (Ev.bind h1 (Ev.now _))
    · simp only [impl_FingerOf.f]; exact Ev.pos h4 (Ev.bind h2 (Ev.now _))
    · exact Ev.pos rfl (Ev.neg (by simp) (Ev.now _))
  · refine Ev.bind (a := (0, false)) ?_ (Ev.bind (a := (0, false)) ?_ ?_)
    · simp only [spec_FingerOf.f]; exact Ev.neg h4 (Ev.now _)
    · simp only [impl_FingerOf.f]; exact Ev.neg h4 (Ev.now _)
    · exact Ev.pos rfl (Ev.neg (by simp) (Ev.now _))

end Go.Proofs.Ytlmnlmcahhegkaa.Pure
