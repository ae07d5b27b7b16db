/- GoodFilter of the program and of the reference return the same, for every filter that can be read. -/
import Derived.Test.YtlmnlmcahhegkaaPFnExactGoodFilterx1
set_option maxRecDepth 100000
set_option linter.unusedVariables false
set_option linter.unusedSimpArgs false
namespace Go.Proofs.Ytlmnlmcahhegkaa.Pure
open Go.RowKit Go.Proofs.Ytlmnlmcahhegkaa.PFnExactGoodFilter Go.Proofs.YtlmnlmcahhegkaaW.PrintWords Go.Proofs.YtlmnlmcahhegkaaW.PrintLast

theorem wrap_id {x : Int} (h0 : -9223372036854775808 ≤ x) (h1 : x < 9223372036854775808) : wrap64 x = x := by
  unfold wrap64; omega
theorem Ev.pos {α : Type} {c : Prop} [Decidable c] {g f : Nat → Option α} {r : α} (h : c) (k : Ev g r) : Ev (fun n => if c then g n else f n) r := by
  simpa only [if_pos h] using k
theorem Ev.neg {α : Type} {c : Prop} [Decidable c] {g f : Nat → Option α} {r : α} (h : ¬ c) (k : Ev f r) : Ev (fun n => if c then g n else f n) r := by
  simpa only [if_neg h] using k
theorem Ev.val {α : Type} {x : Option α} {r : α} (h : x = some r) : Ev (fun _ => x) r := by
  rw [h]; exact Ev.now r
theorem Ev.end {α : Type} {g : Nat → Option α} {r : α} (h : ∀ k, g (k + 1) = some r) : Ev g r := Ev.step (f := fun _ => some r) h (Ev.now r)
theorem Ev.cbind {α β : Type} {x : Option α} {f : Nat → α → Option β} {a : α} {r : β} (h : x = some a) (k : Ev (fun n => f n a) r) : Ev (fun n => x.bind (f n)) r := by
  subst h; exact k
theorem Ev.uniq {α : Type} {g : Nat → Option α} {r q : α} (h : Ev g r) (k : Ev g q) : r = q := by
  obtain ⟨K, h⟩ := h
  obtain ⟨L, k⟩ := k
  have h1 := h (max K L) (by omega)
  have h2 := k (max K L) (by omega)
  rw [h1] at h2
  exact Option.some.inj h2
theorem Ev.succ {α : Type} {g : Nat → Option α} {r : α} (h : Ev (fun k => g (k + 1)) r) : Ev g r := Ev.step (fun _ => rfl) h

theorem eqBoolS_loop (l : List Bool) (hl : l.length ≤ 4611686018427387904) (d : Nat) : ∀ i : Int, 0 ≤ i → i ≤ l.length → (l.length : Int) - i = d → Ev (fun k => laws_eqBoolS.l0 k l l i) true := by
  induction d with
  | zero => intro i h0 h1 hd; exact Ev.end (fun k => by simp only [laws_eqBoolS.l0]; rw [if_neg (by omega)])
  | succ d ih =>
    intro i h0 h1 hd
    refine Ev.step (fun k => ?_) (ih (i + 1) (by omega) (by omega) (by omega))
    have hw := wrap_id (x := i + 1) (by omega) (by omega)
    rw [laws_eqBoolS.l0, if_pos (by omega), if_pos h0, if_pos (by omega), if_neg (by simp), hw]
theorem eqBoolS_same (l : List Bool) (hl : l.length ≤ 4611686018427387904) : Ev (fun k => laws_eqBoolS.f k l l) true := by
  unfold laws_eqBoolS.f; exact Ev.pos (by trivial) (eqBoolS_loop l hl l.length 0 (by omega) (by omega) (by omega))


theorem eqFilter_same (l : List Bool) (hl : l.length ≤ 4611686018427387904) : Ev (fun k => laws_eqFilter.f k l l) true := by
  simp only [laws_eqFilter.f]; exact Ev.bind (eqBoolS_same l hl) (Ev.pos (by trivial) (Ev.now _))

/-- A slice written element by element from another: one induction for all kinds. -/
theorem copy_gen {α β : Type} {L : Nat → List α → List β → Int → Option (List β)} (conv : α → β) (M : Nat)
    (hend : ∀ (x : List α) (y : List β) (i : Int), ¬ i < x.length → Ev (fun k => L k x y i) y)
    (hstep : ∀ (x : List α) (y : List β) (i : Nat) (a : α) (r : List β), i < x.length → i < y.length → x.length ≤ M → x[i]? = some a → Ev (fun k => L k x (y.set i (conv a)) ((i + 1 : Nat) : Int)) r → Ev (fun k => L k x y i) r)
    (rest : List α) : ∀ (pre : List α) (tail : List β), tail.length = rest.length → pre.length + rest.length ≤ M →
      Ev (fun k => L k (pre ++ rest) (pre.map conv ++ tail) pre.length) ((pre ++ rest).map conv) := by
  induction rest with
  | nil =>
    intro pre tail hl hM
    obtain rfl : tail = [] := List.length_eq_zero_iff.1 hl
    simpa using hend pre (pre.map conv) pre.length (by omega)
  | cons a rest ih =>
    intro pre tail hl hM
    match tail, hl with
    | b :: tail, hl =>
      simp only [List.length_cons] at hl hM
      have h := ih (pre ++ [a]) tail (by omega) (by simp; omega)
      simp only [List.append_assoc, List.singleton_append, List.length_append, List.length_singleton, List.map_append, List.map_cons, List.map_nil] at h
      refine hstep _ _ _ a _ (by simp) (by simp) (by simp; omega) (by simp) ?_
      have e : (List.map conv pre ++ b :: tail).set pre.length (conv a) = List.map conv pre ++ conv a :: tail := by
        rw [List.set_append_right _ _ (by simp)]
        simp
      rw [e]
      simpa using h

theorem toBoolS_ev (l : List Bool) (hl : l.length ≤ 281474976710656) : Ev (fun k => laws_toBoolS.f k l) l := by
  have h := copy_gen (L := laws_toBoolS.l0) (fun a => a) 281474976710656 (fun x y i hi => Ev.end (fun k => by rw [laws_toBoolS.l0, if_neg hi]))
    (fun x y i a r hi hy hM ha he => Ev.step (fun k => by
      have hw := wrap_id (x := (i : Int) + 1) (by omega) (by omega)
      have hr : rdOf false x i = a := by simp [rd, rdOf, List.getD_eq_getElem?_getD, ha]
      rw [laws_toBoolS.l0, if_pos (by omega), if_pos (by omega), if_pos (by omega), hr, hw]
      simp) he) l [] (List.replicate l.length false) (by simp) (by simpa using hl)
  unfold laws_toBoolS.f
  refine Ev.pos (by omega) (Ev.pos (by simpa using hl) ?_)
  simpa using h


theorem sz_wrap (n : Nat) (h : n ≤ maxLen) : wrap64 (1048576 - (n : Int)) = 1048576 - n := by
  unfold maxLen at h
  exact wrap_id (by omega) (by omega)
theorem FnExactGoodFilter : laws_FnExactGoodFilter.Pure := by
  intro l hl
  refine Ev.rounds (g := fun k => laws_FnExactGoodFilter.f k l) (r := true) ?_
  simp only [laws_FnExactGoodFilter.f]
  by_cases hs : (1048576 : Int) - l.length < 0
  · have hz : laws_szFilter.f l 1048576 = some (-1) := by
      simp only [laws_szFilter.f, laws_szBoolS.f, sz_wrap _ hl.1]
      rw [if_pos hs]; rfl
    exact Ev.cbind hz (Ev.pos (by omega) (Ev.now _))
  have hz : laws_szFilter.f l 1048576 = some ((1048576 : Int) - (l.length : Int)) := by
    simp only [laws_szFilter.f, laws_szBoolS.f, sz_wrap _ hl.1]
    rw [if_neg hs]; simp only [Option.bind_some]; rw [if_neg hs]
  refine Ev.cbind hz (Ev.neg hs ?_)
  have ht : Ev (fun k => laws_toFilter.f k l) l := by simp only [laws_toFilter.f]; exact Ev.bind (toBoolS_ev l (by omega)) (Ev.now _)
  have he := eqFilter_same l (by omega)
  refine Ev.bind ht (Ev.cbind (a := ((l.length : Int) == 64)) rfl (Ev.bind ht (Ev.cbind (a := ((l.length : Int) == 64)) rfl ?_)))
  exact Ev.neg (by simp) (Ev.bind ht (Ev.bind he (Ev.pos (by trivial) (Ev.now _))))

end Go.Proofs.Ytlmnlmcahhegkaa.Pure
