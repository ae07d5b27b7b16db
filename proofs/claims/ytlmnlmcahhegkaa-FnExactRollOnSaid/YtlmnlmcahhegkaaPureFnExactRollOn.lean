/- RollOn of the program and of the reference return the same, for all three numbers. -/
import Derived.Test.YtlmnlmcahhegkaaPFnExactRollOnx1
set_option maxRecDepth 100000
set_option linter.unusedVariables false
set_option linter.unusedSimpArgs false
namespace Go.Proofs.Ytlmnlmcahhegkaa.Pure
open Go.RowKit Go.Proofs.Ytlmnlmcahhegkaa.PFnExactRollOn Go.Proofs.YtlmnlmcahhegkaaW.PrintWords Go.Proofs.YtlmnlmcahhegkaaW.PrintLast

theorem wrap_id {x : Int} (h0 : -9223372036854775808 ≤ x) (h1 : x < 9223372036854775808) : wrap64 x = x := by
  unfold wrap64; omega
theorem Ev.pos {α : Type} {c : Prop} [Decidable c] {g f : Nat → Option α} {r : α} (h : c) (k : Ev g r) : Ev (fun n => if c then g n else f n) r := by
  simpa only [if_pos h] using k
theorem Ev.neg {α : Type} {c : Prop} [Decidable c] {g f : Nat → Option α} {r : α} (h : ¬ c) (k : Ev f r) : Ev (fun n => if c then g n else f n) r := by
  simpa only [if_neg h] using k
theorem Ev.val {α : Type} {x : Option α} {r : α} (h : x = some r) : Ev (fun _ => x) r := by
  rw [h]; exact Ev.now r
theorem Ev.end {α : Type} {g : Nat → Option α} {r : α} (h : ∀ k, g (k + 1) = some r) : Ev g r := Ev.step (f := fun _ => some r) h (Ev.now r)
theorem Ev.cbind {α β : Type} {x : Option α} {f : Nat → α → Option β} {a : α} {r : β} (h : x = some a) (k : Ev (fun n => f n a) r) : Ev (fun n => x.bind (f n)) r := by
  subst h; exact k
theorem Ev.uniq {α : Type} {g : Nat → Option α} {r q : α} (h : Ev g r) (k : Ev g q) : r = q := by
  obtain ⟨K, h⟩ := h
  obtain ⟨L, k⟩ := k
  have h1 := h (max K L) (by omega)
  have h2 := k (max K L) (by omega)
  rw [h1] at h2
  exact Option.some.inj h2

theorem within_eq (a b c : Int) : impl_within.f a b c = some (decide (b ≤ a ∧ a ≤ c)) := by
  by_cases h : b ≤ a <;> simp [impl_within.f, h]

theorem l1In_eq (a b c : Int) : spec_l1In.f a b c = some (decide (b ≤ a ∧ a ≤ c)) := by
  by_cases h : b ≤ a <;> simp [spec_l1In.f, h]

theorem isGf_eq (a : Int) : impl_isGf.f a = some (decide (0 ≤ a ∧ a ≤ 255)) := by
  simp [impl_isGf.f, within_eq]

theorem l1Gf_eq (a : Int) : spec_l1Gf.f a = some (decide (0 ≤ a ∧ a ≤ 255)) := by
  simp [spec_l1Gf.f, l1In_eq]

theorem l9Top_ev : Ev (fun k => spec_l9Top.f k) 2841 :=
  Ev.of (fun k => spec_l9Top.mono k) (k := 5) (by decide +kernel)
theorem tmod_pos {x : Int} (h : 0 ≤ x) : Int.tmod x 8191 = x % 8191 := Int.tmod_eq_emod_of_nonneg h
theorem tmod_neg {x : Int} (h : x < 0) : Int.tmod x 8191 = - ((- x) % 8191) := by
  have := Int.neg_tmod (-x) 8191
  rw [Int.neg_neg] at this
  rw [this, Int.tmod_eq_emod_of_nonneg (by omega)]
theorem roll_rest (a0 a1 : Int) (h0 : 0 ≤ a0 ∧ a0 ≤ 8190) (h1 : 0 ≤ a1 ∧ a1 ≤ 255) :
    Int.tmod (wrap64 ((wrap64 (a0 + 2096896)) - (wrap64 (a1 * 2841)))) 8191 = (a0 + 2096896 - a1 * 2841) % 8191 ∧
    Int.tmod (wrap64 ((Int.tmod (wrap64 (a0 - (wrap64 (a1 * 2841)))) 8191) + 8191)) 8191 = (a0 + 2096896 - a1 * 2841) % 8191 := by
  have e1 : wrap64 (a0 + 2096896) = a0 + 2096896 := wrap_id (by omega) (by omega)
  have e2 : wrap64 (a1 * 2841) = a1 * 2841 := wrap_id (by omega) (by omega)
  rw [e1, e2, wrap_id (x := a0 + 2096896 - a1 * 2841) (by omega) (by omega), wrap_id (x := a0 - a1 * 2841) (by omega) (by omega)]
  refine ⟨tmod_pos (by omega), ?_⟩
  by_cases hn : a0 - a1 * 2841 < 0
  · rw [tmod_neg hn, wrap_id (x := -(-(a0 - a1 * 2841) % 8191) + 8191) (by omega) (by omega), tmod_pos (by omega)]
    omega
  · rw [tmod_pos (x := a0 - a1 * 2841) (by omega), wrap_id (x := (a0 - a1 * 2841) % 8191 + 8191) (by omega) (by omega), tmod_pos (by omega)]
    omega

theorem spec_roll (a0 a1 a2 : Int) : Ev (fun k => spec_RollOn.f k a0 a1 a2) (if (0 ≤ a0 ∧ a0 ≤ 8190) ∧ (0 ≤ a1 ∧ a1 ≤ 255) ∧ (0 ≤ a2 ∧ a2 ≤ 255) then (Int.tmod (wrap64 ((wrap64 (((a0 + 2096896 - a1 * 2841) % 8191) * 257)) + a2)) 8191, true) else (0, false)) := by
  simp only [spec_RollOn.f, l1In_eq, l1Gf_eq, Option.bind_some, decide_eq_true_eq]
  by_cases h0 : 0 ≤ a0 ∧ a0 ≤ 8190
  · by_cases h1 : 0 ≤ a1 ∧ a1 ≤ 255
    · by_cases h2 : 0 ≤ a2 ∧ a2 ≤ 255
      · rw [if_pos ⟨h0, h1, h2⟩]
        refine Ev.pos h0 (Ev.pos h1 (Ev.pos h2 (Ev.bind l9Top_ev ?_)))
        rw [(roll_rest a0 a1 h0 h1).1]; exact Ev.now _
      · rw [if_neg (fun h => h2 h.2.2)]; exact Ev.pos h0 (Ev.pos h1 (Ev.neg h2 (Ev.now _)))
    · rw [if_neg (fun h => h1 h.2.1)]; exact Ev.pos h0 (Ev.neg h1 (Ev.now _))
  · rw [if_neg (fun h => h0 h.1)]; exact Ev.neg h0 (Ev.now _)
theorem impl_roll (a0 a1 a2 : Int) : impl_RollOn.f a0 a1 a2 = some (if (0 ≤ a0 ∧ a0 ≤ 8190) ∧ (0 ≤ a1 ∧ a1 ≤ 255) ∧ (0 ≤ a2 ∧ a2 ≤ 255) then (Int.tmod (wrap64 ((wrap64 (((a0 + 2096896 - a1 * 2841) % 8191) * 257)) + a2)) 8191, true) else (0, false)) := by
  simp only [impl_RollOn.f, within_eq, isGf_eq, Option.bind_some, decide_eq_true_eq]
  by_cases h0 : 0 ≤ a0 ∧ a0 ≤ 8190
  · by_cases h1 : 0 ≤ a1 ∧ a1 ≤ 255
    · by_cases h2 : 0 ≤ a2 ∧ a2 ≤ 255
      · rw [if_pos h0, if_pos h1, if_pos h2, if_pos ⟨h0, h1, h2⟩, (roll_rest a0 a1 h0 h1).2]
      · rw [if_pos h0, if_pos h1, if_neg h2, if_neg (fun h => h2 h.2.2)]
    · rw [if_pos h0, if_neg h1, if_neg (fun h => h1 h.2.1)]
  · rw [if_neg h0, if_neg (fun h => h0 h.1)]
theorem FnExactRollOn : laws_FnExactRollOn.Pure := by
  intro a0 a1 a2 _ _ _
  refine Ev.rounds (g := fun k => laws_FnExactRollOn.f k a0 a1 a2) (r := true) ?_
  simp only [laws_FnExactRollOn.f]
  refine Ev.bind (spec_roll a0 a1 a2) (Ev.cbind (impl_roll a0 a1 a2) ?_)
  exact Ev.pos rfl (Ev.neg (by simp) (Ev.now _))

end Go.Proofs.Ytlmnlmcahhegkaa.Pure
