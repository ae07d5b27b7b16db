/- How rows and blocks that were made stay as they are while others are written. No condition. -/
import Derived.Test.YtnohankakmmnoaaOpen
import Derived.Test.YtnohankakmmnoaaVApart
import Derived.Test.YtnohankakmmnoaaVKept
import Derived.Test.YtnohankakmmnoaaVMore
set_option linter.unusedVariables false
namespace Go.Proofs.Ytnohankakmmnoaa.Op
open Go.RowKit Go.Proofs.YtnohankakmmnoaaW.PrintWords Go.Proofs.YtnohankakmmnoaaW.PrintMore
section
variable {α : Type} {d : Kd α} {e g base : Nat} {w w1 : World} {ok S : Nat → Prop} {v : Value} {xs : List α} {o : Obj}
theorem mvS (h : Kd.S d e w base ok v xs) (hk : Kept w w1 S) (hs : ∀ k, ok k → ¬ S k) : Kd.S d e w1 base ok v xs := Kd.S_step h (fun k ho hl => hk.2 k hl (hs k ho))
theorem mvR (h : Kd.R d e w base ok v xs) (hk : Kept w w1 S) (hs : ∀ k, ok k → ¬ S k) : Kd.R d e w1 base ok v xs := Kd.R_step h (fun k ho hl => hk.2 k hl (hs k ho))
theorem mvB (h : w.heap[g]? = some o) (hk : Kept w w1 S) (hs : ¬ S g) : w1.heap[g]? = some o := (hk.2 g (blk_lt h) hs).trans h
theorem bdS (h : Kd.S d e w base ok v xs) : Kd.S d e w base (fun k => ok k ∧ k < w.heap.size) v xs := Kd.S_mono (Kd.S_bound h) (fun k hk => ⟨hk.1, hk.2.2.1⟩)
theorem bdR (h : Kd.R d e w base ok v xs) : Kd.R d e w base (fun k => ok k ∧ k < w.heap.size) v xs := Kd.R_mono (Kd.R_bound h) (fun k hk => ⟨hk.1, hk.2.2.1⟩)
/-- a row made from world W on, W being w or later: its blocks lie between the sizes -/
theorem inS {W : World} {a b : Nat} (h : Kd.S d e w1 W.heap.size ok v xs) (hb : b ≤ a) (ha : a ≤ W.heap.size) : Kd.S d e w1 b (fun k => ok k ∧ a ≤ k ∧ k < w1.heap.size) v xs := Kd.S_lower (Kd.S_mono (Kd.S_bound h) (fun k hk => ⟨hk.1, Nat.le_trans ha hk.2.1, hk.2.2.1⟩)) (Nat.le_trans hb ha)
theorem inR {W : World} {a b : Nat} (h : Kd.R d e w1 W.heap.size ok v xs) (hb : b ≤ a) (ha : a ≤ W.heap.size) : Kd.R d e w1 b (fun k => ok k ∧ a ≤ k ∧ k < w1.heap.size) v xs := Kd.R_lower (Kd.R_mono (Kd.R_bound h) (fun k hk => ⟨hk.1, Nat.le_trans ha hk.2.1, hk.2.2.1⟩)) (Nat.le_trans hb ha)
/-- a flat row, told as the one block that it is, within what it was told to be -/
theorem tiR (hE : d.E = []) (h : Kd.R d e w base ok v xs) : Kd.R d e w base (fun k => some k = v.ownBlock ∧ ok k) v xs := Kd.R_reok hE h (fun k hk => ⟨hk.symm, h.1 k hk⟩)
end
theorem ty_ne {α β : Type} {d : Kd α} {d' : Kd β} {e e' b b' : Nat} {w : World} {ok ok' : Nat → Prop} {v v' : Value} {xs : List α} {ys : List β} (h : Kd.R d e w b ok v xs) (h' : Kd.R d' e' w b' ok' v' ys) (he : e ≠ e') : ∀ j, (some j = v.ownBlock ∧ ok j) → ¬ (some j = v'.ownBlock ∧ ok' j) := by
  rintro j ⟨h1, _⟩ ⟨h2, _⟩
  obtain ⟨c, hc⟩ := Kd.R_typed h j h1.symm
  obtain ⟨c', hc'⟩ := Kd.R_typed h' j h2.symm
  rw [hc] at hc'
  injection hc' with hc'
  injection hc' with _ hc'
  exact he hc'
theorem kept_put {w W : World} {g : Nat} (h : Kept w W (fun k => k = g)) (j : Nat) (u : Value) : Kept w (W.setCell ⟨g, j, none⟩ u) (fun k => k = g) := Kept.setCell (p := ⟨g, j, none⟩) h (Or.inl (show g = g from rfl)) u
theorem args_eq {P : Program} {f : FuncId} {args args' : Array Value} {w : World} {Q : Ending → World → Prop} (e : args = args') (h : Calls P f args w Q) : Calls P f args' w Q := e ▸ h
theorem must_t {t : Bool} {x : Option Bool} (h : (if t = true then x else some false) = some true) : t = true ∧ x = some true := by
  cases t <;> simp_all
theorem must_n {p : Prop} [Decidable p] {x : Option Bool} (h : (if p then some false else x) = some true) : ¬ p ∧ x = some true := by
  by_cases c : p <;> simp_all
/-- a store, in a region that draws -/
theorem stored_ {P : Program} {ops : Array Oper} {Q : Exit → Act → World → Prop} {oi : Oper} {a : Act} {w w1 : World} {K : Act → World → Prop} (hw : Region.wanted oi (yielded ops a.tmps) = true) (hN : oi.dst = none) (hrun : (execOp a.eval oi).run P w = .ok .skip w1) (h : ∀ w', w' = w1 → K (a.put none undef) w') : if Region.wanted oi (yielded ops a.tmps) = true then Oper.wp P oi a w K Q else K (a.put none undef) w := by
  rw [if_pos hw]
  unfold Oper.wp
  rw [hrun, Oper.upon_skip, hN]
  exact h _ rfl
theorem at_now {w W : World} {ad : Addr} {n : Nat} {l : List Int} {k : Int} (hC : Kd.C (Kd.int .i64) w (some ad) n l) (hB : Below w.heap.size w W) (h0 : 0 ≤ k) (h1 : k < n) : W.cell? (ad.add k.toNat) = some (.int .i64 (rd l k)) := by
  obtain ⟨_, e, h⟩ := Kd.at_int (Kd.C_below hC hB) k h0 h1
  cases e
  exact h
theorem own_len (A : Option Addr) (n m c : Nat) : (Value.slice A n c).ownBlock = (Value.slice A m c).ownBlock := by cases A <;> rfl
end Go.Proofs.Ytnohankakmmnoaa.Op
