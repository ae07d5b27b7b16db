/- Short forms of the steps that the printed contracts take again and again: what is told of a row, a block or the heap is carried on to a later world; how is found where it is used. No condition. -/
import Derived.Test.YtnafnpoflheonaaOpen
import Derived.Test.YtnafnpoflheonaaVApart
set_option linter.unusedVariables false
namespace Go.Proofs.Ytnafnpoflheonaa.Op
open Go.RowKit Go.Proofs.YtnafnpoflheonaaW.PrintWords
theorem dt {p : Prop} [Decidable p] (h : decide p = true := by first | (with_reducible assumption) | assumption) : p := of_decide_eq_true h
theorem k {p : Prop} (h : p) : Aside0 p := ⟨h⟩
theorem bf {w : World} {g : Nat} {t : TypeId} {cs : Array Value} (h : w.heap[g]? = some (.cells cs t (0, 0))) (i : Nat) : w.frozen? ⟨g, i, none⟩ = false := blk_frozen h i
section
variable {w W W2 : World} {g : Nat} {o o2 : Obj}
theorem bt (h : w.heap[g]? = some o) (k : w.heap[g]? = some o → W.heap[g]? = some o := by
    intro h_; repeat (first | (with_reducible first | exact h_ | refine Op.b1 ?_ _ | refine Op.b2 ?_ | refine Op.b3 ?_ _ | refine blk_far ?_ (Aside0.out (by assumption)) _))
    all_goals exact h_) : W.heap[g]? = some o := k h
theorem bv (h : w.heap[g]? = some o) (k : w.heap[g]? = some o → W.heap[g]? = some o2 := by
    intro h_; repeat (first | (with_reducible first | exact h_ | refine Op.b1 ?_ _ | refine Op.b2 ?_ | refine Op.b3 ?_ _ | apply blk_put | apply blk_far))
    all_goals first | exact h_ | rfl | exact Aside0.out (by assumption)) : W.heap[g]? = some o2 := k h
theorem ht {B : Nat} (h : Below B w W) (k : Below B w W → Below B w W2 := by
    intro h_; repeat (first | (with_reducible first | exact h_ | apply Op.a1 | apply Op.a2 | apply Op.a3 | refine Op.a4 ?_ (Aside0.out (by assumption))))
    all_goals exact h_) : Below B w W2 := k h
theorem hu {B n m : Nat} (h : Below B w W) (i : n ≤ m) (k : Below B w W → n ≤ m → Below B w W2 := by
    intro h_ i_; repeat (first | (with_reducible first | exact h_ | apply Op.a1 | apply Op.a2 | apply Op.a3 | refine Op.a4 ?_ i_ | refine Op.a4 ?_ (Aside0.out (by assumption))))
    all_goals exact h_) : Below B w W2 := k h i
theorem kt {row : Option Nat} (h : KeepBut w W g row) (k : KeepBut w W g row → KeepBut w W2 g row := by
    intro h_; repeat (first | (with_reducible first | exact h_ | apply KeepBut.set_ | apply keep_drewN | apply keep_drew | apply keep_alloc | refine keep_far ?_ (Aside0.out (by assumption)) _))
    all_goals exact h_) : KeepBut w W2 g row := k h
theorem nl {a b : Nat} (hg : b = w.heap.size) (h : w.heap[a]? = some o) : a ≠ b := by rw [hg]; exact Nat.ne_of_lt (blk_lt h)
theorem ng {a b : Nat} (hg : b = w.heap.size) (h : w.heap[a]? = some o) : b ≠ a := by rw [hg]; exact Nat.ne_of_gt (blk_lt h)
theorem nz {b : Nat} (hg : b = W.heap.size) (h : Below w.heap.size w W) : w.heap.size ≤ b := by rw [hg]; exact Op.a6 h
theorem ny {b : Nat} {row : Option Nat} (hg : b = W.heap.size) (h : KeepBut w W g row) : w.heap.size ≤ b := by rw [hg]; exact keep_size h
theorem keep0 : KeepBut w w g none := KeepBut.refl w g none
end
section
variable {α : Type} {d : Kd α} {e base : Nat} {w W : World} {ok : Nat → Prop} {v : Value} {xs : List α} {g t : Nat} {cs : Array Value}
theorem rt (h : d.R e w base ok v xs) (k : d.R e w base ok v xs → d.R e W base ok v xs := by
    intro h_; repeat (first | (with_reducible first | exact h_ | apply Kd.R_alloc | apply Kd.R_drewN | apply Kd.R_drew))
    all_goals exact h_) : d.R e W base ok v xs := k h
theorem ct {A : Option Addr} {n : Nat} (h : d.C w A n xs) (k : d.C w A n xs → d.C W A n xs := by
    intro h_; repeat (first | (with_reducible exact h_) | (with_reducible refine Kd.C_alloc ?_ _) | (with_reducible refine Kd.C_drewN ?_ _) | (with_reducible refine Kd.C_drew ?_))
    all_goals exact h_) : d.C W A n xs := k h
theorem st (h : Kd.S d e w base ok v xs) (k : Kd.S d e w base ok v xs → Kd.S d e W base ok v xs := by
    intro h_; repeat (first | (with_reducible first | exact h_ | apply Kd.S_alloc | apply Kd.S_drewN | apply Kd.S_drew))
    all_goals exact h_) : Kd.S d e W base ok v xs := k h
theorem sm {ok2 : Nat → Prop} (h : Kd.S d e w base ok v xs) (k : ∀ i, ok i → ok2 i := by
    intro i_ hk; try dsimp only at hk ⊢
    repeat (first | exact trivial | assumption | refine And.intro ?_ ?_ | (obtain ⟨hk, _⟩ := hk))) : Kd.S d e w base ok2 v xs := Kd.S_mono h k
theorem rm {ok2 : Nat → Prop} (h : d.R e w base ok v xs) (k : ∀ i, ok i → ok2 i := by
    intro i_ hk; try dsimp only at hk ⊢
    repeat (first | exact trivial | assumption | refine And.intro ?_ ?_ | (obtain ⟨hk, _⟩ := hk))) : d.R e w base ok2 v xs := Kd.R_mono h k
theorem rf (h : d.R e w base ok v xs) (hb : w.heap[g]? = some (.cells cs t (0, 0))) (ht : ∀ q, q ∈ e :: d.E → q ≠ t := by decide)
    (k : KeepBut w W g none := by repeat (first | (with_reducible first | exact Op.keep0 | apply KeepBut.set_ | apply keep_drewN | apply keep_drew | apply keep_alloc))) : d.R e W base ok v xs :=
  Kd.R_mono (Kd.R_step (Kd.R_types h hb ht) (fun i hi hl => k.2 i hl hi.2 (by simp))) (fun _ hk => hk.1)
theorem sf (h : Kd.S d e w base ok v xs) (hb : w.heap[g]? = some (.cells cs t (0, 0))) (ht : ∀ q, q ∈ e :: d.E → q ≠ t := by decide)
    (k : KeepBut w W g none := by repeat (first | (with_reducible first | exact Op.keep0 | apply KeepBut.set_ | apply keep_drewN | apply keep_drew | apply keep_alloc))) : Kd.S d e W base ok v xs :=
  Kd.S_mono (Kd.S_step (Kd.S_types h hb ht) (fun i hi hl => k.2 i hl hi.2 (by simp))) (fun _ hk => hk.1)
end
section
variable {w : World} {g t : Nat} {a b c d e f : Value} {l : List Value}
theorem c0 (h : w.heap[g]? = some (.cells (List.toArray (a :: l)) t (0, 0))) : w.cell? ⟨g, 0, none⟩ = some a := (blk_cell h 0).trans rfl
theorem c1 (h : w.heap[g]? = some (.cells (List.toArray (a :: b :: l)) t (0, 0))) : w.cell? ⟨g, 1, none⟩ = some b := (blk_cell h 1).trans rfl
theorem c2 (h : w.heap[g]? = some (.cells (List.toArray (a :: b :: c :: l)) t (0, 0))) : w.cell? ⟨g, 2, none⟩ = some c := (blk_cell h 2).trans rfl
theorem c3 (h : w.heap[g]? = some (.cells (List.toArray (a :: b :: c :: d :: l)) t (0, 0))) : w.cell? ⟨g, 3, none⟩ = some d := (blk_cell h 3).trans rfl
theorem c4 (h : w.heap[g]? = some (.cells (List.toArray (a :: b :: c :: d :: e :: l)) t (0, 0))) : w.cell? ⟨g, 4, none⟩ = some e := (blk_cell h 4).trans rfl
theorem c5 (h : w.heap[g]? = some (.cells (List.toArray (a :: b :: c :: d :: e :: f :: l)) t (0, 0))) : w.cell? ⟨g, 5, none⟩ = some f := (blk_cell h 5).trans rfl
end
end Go.Proofs.Ytnafnpoflheonaa.Op
