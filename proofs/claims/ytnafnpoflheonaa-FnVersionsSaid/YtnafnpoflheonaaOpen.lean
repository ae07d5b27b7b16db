/- What an argument's value reads as, told by the kinds of the printed contracts: integers, bools, strings, slices of whatever is told, structs of one-cell fields. No condition. -/
import Derived.Test.YtnafnpoflheonaaVWords
import Derived.ChangeArms
import Derived.Deep.Slices
import Derived.DataReads
import Derived.Lib.SmallJoins
set_option linter.unusedVariables false
namespace Go.Proofs.Ytnafnpoflheonaa.Op
open Go.RowKit Go.Proofs.YtnafnpoflheonaaW.PrintWords

/-- Whatever reads as data at type t reads by the kind d, as something of which Q holds. -/
def Tells {α : Type} (P : Program) (t : TypeId) (d : Kd α) (Q : α → Prop) : Prop :=
  ∀ (H : Type) (enc : TypeId × Value → H) (w : World) (spare : Nat → Bool) (held : Bool) (fuel : Nat) (cs : List Value) (x : DataW H × List MemPlace),
    DataW.trod enc P w 0 spare held fuel t cs = some x → ∃ y, d.K w y cs ∧ Q y
section
variable {P : Program}
theorem tells_int {t : TypeId} {k : IntKind} (ht : P.underlying t = some (.int k)) : Tells P t (Kd.int k) (fun n => (Lit.int k n).wf = true) := by
  intro H enc w spare held fuel cs x h
  obtain ⟨n, rfl, _, hw⟩ := DataW.trod_int ht h
  exact ⟨n, rfl, hw⟩
theorem tells_bool {t : TypeId} (ht : P.underlying t = some .bool) : Tells P t Kd.bool (fun _ => True) := by
  intro H enc w spare held fuel cs x h
  obtain ⟨b, rfl, _⟩ := DataW.trod_bool ht h
  exact ⟨b, rfl, trivial⟩
theorem tells_string {t : TypeId} (ht : P.underlying t = some .string) : Tells P t Kd.string (fun s => s.size ≤ maxLen) := by
  intro H enc w spare held fuel cs x h
  obtain ⟨s, rfl, _, hs⟩ := DataW.trod_string ht h
  exact ⟨s, rfl, hs⟩
theorem pick_all {α : Type} {n : Nat} {q : Nat → α → Prop} (h : ∀ i, i < n → ∃ a, q i a) : ∃ l : List α, l.length = n ∧ ∀ i a, l[i]? = some a → q i a := by
  induction n with
  | zero => exact ⟨[], rfl, fun i a hi => by simp at hi⟩
  | succ n ih =>
    obtain ⟨l, hl, hq⟩ := ih (fun i hi => h i (by omega))
    obtain ⟨a, ha⟩ := h n (by omega)
    refine ⟨l ++ [a], by simp [hl], fun i b hb => ?_⟩
    by_cases hi : i < n
    · rw [List.getElem?_append_left (by omega)] at hb
      exact hq i b hb
    · have hlt : i < (l ++ [a]).length := (List.getElem?_eq_some_iff.1 hb).1
      simp only [List.length_append, List.length_singleton] at hlt
      obtain rfl : i = n := by omega
      rw [List.getElem?_append_right (by omega), hl] at hb
      simp at hb
      subst hb
      exact ha
/-- A slice whose elements are told. -/
theorem row_of {α : Type} {t e : TypeId} {d : Kd α} {Q : α → Prop} (he : Tells P e d Q) (hc : P.cellsOf e = d.sz) (ht : P.underlying t = some (.slice e))
    {H : Type} {enc : TypeId × Value → H} {w : World} {spare : Nat → Bool} {held : Bool} {fuel : Nat} {cs : List Value} {x : DataW H × List MemPlace} (h : DataW.trod enc P w 0 spare held fuel t cs = some x) :
    ∃ (A : Option Addr) (c : Nat) (l : List α), cs = [.slice A l.length c] ∧ l.length ≤ c ∧ d.C w A l.length l ∧ l.length ≤ maxLen ∧ ∀ y ∈ l, Q y := by
  rcases Go.Deep.open_slice ht h with ⟨rfl, _⟩ | ⟨a, len, cap, m, n, D, Pl, rfl, _, hl, hm, hmm, _, hel⟩
  · exact ⟨none, 0, [], rfl, Nat.le_refl _, ⟨rfl, by simp, fun hn => absurd hn (Nat.lt_irrefl _)⟩, Nat.zero_le _, fun y hy => by cases hy⟩
  · have hle : len ≤ m := by rw [hmm]; split <;> omega
    obtain ⟨l, hlen, hq⟩ := pick_all (n := len) (q := fun i (y : α) => (∃ c, c.length = d.sz ∧ d.K w y c ∧ ∀ j u, c[j]? = some u → w.cell? (a.add (i * d.sz + j)) = some u) ∧ Q y) (fun i hi => by
      obtain ⟨cs', h1, h2⟩ := hel i (by omega)
      obtain ⟨y, hK, hQ⟩ := he H enc w spare held n cs' _ h2
      refine ⟨y, ⟨cs', d.K_len hK, hK, fun j u hu => ?_⟩, hQ⟩
      have hlt : j < cs'.length := (List.getElem?_eq_some_iff.1 hu).1
      obtain ⟨_, hsz, hcell⟩ := World.cells?_some h1
      have h3 := hcell j (by omega)
      rw [hc, Go.Deep.add_add] at h3
      rw [h3, hu])
    subst hlen
    refine ⟨some a, cap, l, rfl, hl, ⟨rfl, by unfold maxLen at hm; omega, fun _ => ⟨a, rfl, fun j y hy => (hq j y hy).1⟩⟩, by omega, fun y hy => ?_⟩
    obtain ⟨i, hi, rfl⟩ := List.mem_iff_getElem.1 hy
    exact (hq i _ (List.getElem?_eq_getElem hi)).2
theorem tells_slice {α : Type} {t e : TypeId} {d : Kd α} {Q : α → Prop} (he : Tells P e d Q) (hc : P.cellsOf e = d.sz) (ht : P.underlying t = some (.slice e)) :
    Tells P t (Kd.slice e d) (fun l => l.length ≤ maxLen ∧ ∀ y ∈ l, Q y) := by
  intro H enc w spare held fuel cs x h
  obtain ⟨A, c, l, rfl, h1, h2, h3⟩ := row_of he hc ht h
  exact ⟨l, ⟨A, c, rfl, h1, h2⟩, h3⟩
/-- Structs, field by field: the cells of each, put together. -/
theorem trod_fields {t : TypeId} {fs : Array Field} (ht : P.underlying t = some (.struct fs)) {H : Type} {enc : TypeId × Value → H} {w : World} {spare : Nat → Bool} {held : Bool} {fuel : Nat} {cs : List Value} {x : DataW H × List MemPlace}
    (h : DataW.trod enc P w 0 spare held fuel t cs = some x) : cs.length = P.cellsOf t ∧ ∃ n, ∀ (i : Nat) (f : Field), fs[i]? = some f → ∃ z, DataW.trod enc P w 0 spare held n f.type ((cs.drop f.offset).take (P.cellsOf f.type)) = some z := by
  obtain ⟨xs, n, _, _, hl, hlen, hf⟩ := DataW.trod_struct ht h
  refine ⟨hl, n, fun i f hi => ?_⟩
  have hlt : i < fs.size := (Array.getElem?_eq_some_iff.1 hi).1
  have := hf i f hi
  rw [List.getElem?_eq_getElem (by omega)] at this
  exact ⟨_, this⟩
theorem tells_pair {α β : Type} {t : TypeId} {d : Kd α} {d2 : Kd β} {Q : α → Prop} {Q2 : β → Prop} (h1 : ∀ (H : Type) (enc : TypeId × Value → H) (w : World) (spare : Nat → Bool) (held : Bool) (fuel : Nat) (cs : List Value) (x : DataW H × List MemPlace),
    DataW.trod enc P w 0 spare held fuel t cs = some x → (∃ y, d.K w y (cs.take d.sz) ∧ Q y) ∧ ∃ z, d2.K w z (cs.drop d.sz) ∧ Q2 z) : Tells P t (Kd.pair d d2) (fun y => Q y.1 ∧ Q2 y.2) := by
  intro H enc w spare held fuel cs x h
  obtain ⟨⟨y, hy, q⟩, z, hz, q2⟩ := h1 H enc w spare held fuel cs x h
  exact ⟨(y, z), ⟨_, _, (List.take_append_drop _ _).symm, hy, hz⟩, q, q2⟩
theorem tells_iso {α β : Type} {t : TypeId} {d : Kd α} {Q : α → Prop} (h : Tells P t d Q) (f : β → α) (g : α → β) (hfg : ∀ a, f (g a) = a) : Tells P t (Kd.iso d f) (fun y => Q (f y)) := by
  intro H enc w spare held fuel cs x hx
  obtain ⟨y, hy, q⟩ := h H enc w spare held fuel cs x hx
  exact ⟨g y, by show d.K w (f (g y)) cs; rw [hfg]; exact hy, by show Q (f (g y)); rw [hfg]; exact q⟩
end

theorem array1 {α : Type} {cs : Array α} (h : cs.size = 1) : ∃ c0, cs = #[c0] := by
  obtain ⟨l⟩ := cs
  match l, h with
  | [c0], _ => exact ⟨c0, rfl⟩
theorem list1 {α : Type} {cs : List α} (h : cs.length = 1) : ∃ c0, cs = [c0] := by
  match cs, h with
  | [c0], _ => exact ⟨c0, rfl⟩
theorem array2 {α : Type} {cs : Array α} (h : cs.size = 2) : ∃ c0 c1, cs = #[c0, c1] := by
  obtain ⟨l⟩ := cs
  match l, h with
  | [c0, c1], _ => exact ⟨c0, c1, rfl⟩
theorem list2 {α : Type} {cs : List α} (h : cs.length = 2) : ∃ c0 c1, cs = [c0, c1] := by
  match cs, h with
  | [c0, c1], _ => exact ⟨c0, c1, rfl⟩
theorem array3 {α : Type} {cs : Array α} (h : cs.size = 3) : ∃ c0 c1 c2, cs = #[c0, c1, c2] := by
  obtain ⟨l⟩ := cs
  match l, h with
  | [c0, c1, c2], _ => exact ⟨c0, c1, c2, rfl⟩
theorem list3 {α : Type} {cs : List α} (h : cs.length = 3) : ∃ c0 c1 c2, cs = [c0, c1, c2] := by
  match cs, h with
  | [c0, c1, c2], _ => exact ⟨c0, c1, c2, rfl⟩
theorem array4 {α : Type} {cs : Array α} (h : cs.size = 4) : ∃ c0 c1 c2 c3, cs = #[c0, c1, c2, c3] := by
  obtain ⟨l⟩ := cs
  match l, h with
  | [c0, c1, c2, c3], _ => exact ⟨c0, c1, c2, c3, rfl⟩
theorem list4 {α : Type} {cs : List α} (h : cs.length = 4) : ∃ c0 c1 c2 c3, cs = [c0, c1, c2, c3] := by
  match cs, h with
  | [c0, c1, c2, c3], _ => exact ⟨c0, c1, c2, c3, rfl⟩
theorem array5 {α : Type} {cs : Array α} (h : cs.size = 5) : ∃ c0 c1 c2 c3 c4, cs = #[c0, c1, c2, c3, c4] := by
  obtain ⟨l⟩ := cs
  match l, h with
  | [c0, c1, c2, c3, c4], _ => exact ⟨c0, c1, c2, c3, c4, rfl⟩
theorem list5 {α : Type} {cs : List α} (h : cs.length = 5) : ∃ c0 c1 c2 c3 c4, cs = [c0, c1, c2, c3, c4] := by
  match cs, h with
  | [c0, c1, c2, c3, c4], _ => exact ⟨c0, c1, c2, c3, c4, rfl⟩
theorem array6 {α : Type} {cs : Array α} (h : cs.size = 6) : ∃ c0 c1 c2 c3 c4 c5, cs = #[c0, c1, c2, c3, c4, c5] := by
  obtain ⟨l⟩ := cs
  match l, h with
  | [c0, c1, c2, c3, c4, c5], _ => exact ⟨c0, c1, c2, c3, c4, c5, rfl⟩
theorem list6 {α : Type} {cs : List α} (h : cs.length = 6) : ∃ c0 c1 c2 c3 c4 c5, cs = [c0, c1, c2, c3, c4, c5] := by
  match cs, h with
  | [c0, c1, c2, c3, c4, c5], _ => exact ⟨c0, c1, c2, c3, c4, c5, rfl⟩
/-! ### a function value asked element by element -/
def indexO {α : Type} (p : α → Option Bool) : List α → Int → Option Int
  | [], _ => some (-1)
  | x :: t, i => (p x).bind fun b => if b then some i else indexO p t (i + 1)
def anyO {α : Type} (p : α → Option Bool) : List α → Option Bool
  | [] => some false
  | x :: t => (p x).bind fun b => if b then some true else anyO p t
theorem indexO_of_anyO {α : Type} {p : α → Option Bool} {l : List α} : ∀ {i : Int} {b : Bool}, 0 ≤ i → anyO p l = some b → ∃ r, indexO p l i = some r ∧ decide (0 ≤ r) = b := by
  induction l with
  | nil =>
    intro i b h0 h
    simp only [anyO, Option.some.injEq] at h
    subst h
    exact ⟨-1, rfl, rfl⟩
  | cons x t ih =>
    intro i b h0 h
    simp only [anyO] at h
    obtain ⟨c, hc, h⟩ := Option.bind_eq_some_iff.1 h
    cases c with
    | true =>
      simp only [if_true, Option.some.injEq] at h
      subst h
      exact ⟨i, by simp [indexO, hc], by simpa using h0⟩
    | false =>
      simp only [Bool.false_eq_true, if_false] at h
      obtain ⟨r, h1, h2⟩ := ih (i := i + 1) (by omega) h
      exact ⟨r, by simp [indexO, hc, h1], h2⟩
theorem anyO_total {α : Type} {p : α → Option Bool} {q : α → Bool} {l : List α} (h : ∀ x ∈ l, p x = some (q x)) : anyO p l = some (l.any q) := by
  induction l with
  | nil => rfl
  | cons x t ih =>
    simp only [anyO, h x (by simp), Option.bind_some, List.any_cons]
    cases q x with
    | true => rfl
    | false => simpa using ih (fun y hy => h y (by simp [hy]))
/-! ### short names -/
theorem ie (l : List UInt8) : l.isEmpty = !(l != []) := by cases l <;> rfl
section
variable {w W w1 w2 : World} {g B base : Nat} {o : Obj}
theorem a1 (h : Below w.heap.size w W) (o : Obj) : Below w.heap.size w (W.alloc o) := below_alloc h o
theorem a2 (h : Below B w W) (n : Nat) : Below B w (W.drewN n) := pw_below_drewN h n
theorem a3 (h : Below base w W) : Below base w W.drew := below_drew1 h
theorem a4 {j : Nat} {v : Value} (h : Below w.heap.size w W) (hg : w.heap.size ≤ g) : Below w.heap.size w (W.setCell ⟨g, j, none⟩ v) := below_set h hg
theorem a5 (h : Below w.heap.size w W) (k : Below W.heap.size W w2) : Below w.heap.size w w2 := below_step h k
theorem a6 (h : Below w.heap.size w W) : w.heap.size ≤ W.heap.size := below_size h
theorem b1 (h : w.heap[g]? = some o) (n : Nat) : (w.drewN n).heap[g]? = some o := blk_drewN h n
theorem b2 (h : w.heap[g]? = some o) : w.drew.heap[g]? = some o := blk_drew h
theorem b3 (h : w.heap[g]? = some o) (o' : Obj) : (w.alloc o').heap[g]? = some o := blk_alloc h o'
theorem b4 (h : w.heap[g]? = some o) (hb : Below w.heap.size w w1) : w1.heap[g]? = some o := blk_below h hb
end
end Go.Proofs.Ytnafnpoflheonaa.Op
