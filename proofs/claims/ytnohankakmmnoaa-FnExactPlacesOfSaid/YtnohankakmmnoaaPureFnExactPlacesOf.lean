/- PlacesOf of the program and of the reference return the same, for both numbers. -/
import Derived.Test.YtnohankakmmnoaaPFnExactPlacesOfx1
set_option maxRecDepth 100000
set_option linter.unusedVariables false
set_option linter.unusedSimpArgs false
namespace Go.Proofs.Ytnohankakmmnoaa.Pure
open Go.RowKit Go.Proofs.Ytnohankakmmnoaa.PFnExactPlacesOf Go.Proofs.YtnohankakmmnoaaW.PrintWords Go.Proofs.YtnohankakmmnoaaW.PrintLast

theorem wrap_id {x : Int} (h0 : -9223372036854775808 ≤ x) (h1 : x < 9223372036854775808) : wrap64 x = x := by
  unfold wrap64; omega
theorem Ev.pos {α : Type} {c : Prop} [Decidable c] {g f : Nat → Option α} {r : α} (h : c) (k : Ev g r) : Ev (fun n => if c then g n else f n) r := by
  simpa only [if_pos h] using k
theorem Ev.neg {α : Type} {c : Prop} [Decidable c] {g f : Nat → Option α} {r : α} (h : ¬ c) (k : Ev f r) : Ev (fun n => if c then g n else f n) r := by
  simpa only [if_neg h] using k
theorem Ev.val {α : Type} {x : Option α} {r : α} (h : x = some r) : Ev (fun _ => x) r := by
  rw [h]; exact Ev.now r
theorem Ev.end {α : Type} {g : Nat → Option α} {r : α} (h : ∀ k, g (k + 1) = some r) : Ev g r := Ev.step (f := fun _ => some r) h (Ev.now r)
theorem Ev.cbind {α β : Type} {x : Option α} {f : Nat → α → Option β} {a : α} {r : β} (h : x = some a) (k : Ev (fun n => f n a) r) : Ev (fun n => x.bind (f n)) r := by
  subst h; exact k
theorem Ev.uniq {α : Type} {g : Nat → Option α} {r q : α} (h : Ev g r) (k : Ev g q) : r = q := by
  obtain ⟨K, h⟩ := h
  obtain ⟨L, k⟩ := k
  have h1 := h (max K L) (by omega)
  have h2 := k (max K L) (by omega)
  rw [h1] at h2
  exact Option.some.inj h2
theorem Ev.succ {α : Type} {g : Nat → Option α} {r : α} (h : Ev (fun k => g (k + 1)) r) : Ev g r := Ev.step (fun _ => rfl) h

theorem within_eq (a b c : Int) : impl_within.f a b c = some (decide (b ≤ a ∧ a ≤ c)) := by
  by_cases h : b ≤ a <;> simp [impl_within.f, h]

theorem l1In_eq (a b c : Int) : spec_l1In.f a b c = some (decide (b ≤ a ∧ a ≤ c)) := by
  by_cases h : b ≤ a <;> simp [spec_l1In.f, h]

theorem placesOf_spec (a b : Int) : Ev (fun k => spec_PlacesOf.f k a b) (if (0 ≤ a ∧ a ≤ 99) ∧ (0 ≤ b ∧ b ≤ 9999) then (Int.tmod (wrap64 (b + a)) 11, Int.tmod (wrap64 ((wrap64 (Int.tdiv b 11)) + (wrap64 (3 * a)))) 11, true) else (0, 0, false)) := by
  simp only [spec_PlacesOf.f, spec_l12Seed.f, spec_l12Key.f, l1In_eq, Option.bind_some, decide_eq_true_eq]
  generalize hr : (if (0 ≤ a ∧ a ≤ 99) ∧ (0 ≤ b ∧ b ≤ 9999) then (Int.tmod (wrap64 (b + a)) 11, Int.tmod (wrap64 ((wrap64 (Int.tdiv b 11)) + (wrap64 (3 * a)))) 11, true) else (0, 0, false)) = r
  by_cases ha : 0 ≤ a ∧ a ≤ 99
  · refine Ev.pos ha (Ev.succ ?_)
    simp only [spec_PlacesOf.j0, spec_l12First.f, spec_l12Second.f, Option.bind_some]
    by_cases hb : 0 ≤ b ∧ b ≤ 9999
    · rw [if_pos ⟨ha, hb⟩] at hr; subst hr; exact Ev.neg (by simp [hb]) (Ev.now _)
    · rw [if_neg (fun h => hb h.2)] at hr; subst hr; exact Ev.pos (by simp; omega) (Ev.now _)
  · rw [if_neg (fun h => ha h.1)] at hr
    subst hr
    refine Ev.neg ha (Ev.succ ?_)
    simp only [spec_PlacesOf.j0]
    exact Ev.pos (by trivial) (Ev.now _)
theorem placesOf_impl (a b : Int) : impl_PlacesOf.f a b = some (if (0 ≤ a ∧ a ≤ 99) ∧ (0 ≤ b ∧ b ≤ 9999) then (Int.tmod (wrap64 (b + a)) 11, Int.tmod (wrap64 ((wrap64 (Int.tdiv b 11)) + (wrap64 (3 * a)))) 11, true) else (0, 0, false)) := by
  simp only [impl_PlacesOf.f, impl_isSeed.f, impl_isKey.f, impl_placesOf.f, within_eq, Option.bind_some, decide_eq_true_eq]
  by_cases ha : 0 ≤ a ∧ a ≤ 99
  · by_cases hb : 0 ≤ b ∧ b ≤ 9999
    · rw [if_pos ha, if_pos hb, if_pos ⟨ha, hb⟩]
    · rw [if_pos ha, if_neg hb, if_neg (fun h => hb h.2)]
  · rw [if_neg ha, if_neg (fun h => ha h.1)]
theorem FnExactPlacesOf : laws_FnExactPlacesOf.Pure := by
  intro a b _ _
  refine Ev.rounds (g := fun k => laws_FnExactPlacesOf.f k a b) (r := true) ?_
  simp only [laws_FnExactPlacesOf.f]
  refine Ev.bind (placesOf_spec a b) (Ev.cbind (placesOf_impl a b) ?_)
  exact Ev.pos (by trivial) (Ev.pos (by trivial) (Ev.neg (by simp) (Ev.now _)))

end Go.Proofs.Ytnohankakmmnoaa.Pure
