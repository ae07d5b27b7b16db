/- Two elements appended at once, each with one row of its own. No condition. -/
import Derived.Test.YtnafnpoflheonaaOpen
import Derived.Test.YtnafnpoflheonaaVApart
import Derived.Test.YtnafnpoflheonaaVMore
set_option linter.unusedVariables false
namespace Go.Proofs.Ytnafnpoflheonaa.Op
open Go.RowKit Go.Proofs.YtnafnpoflheonaaW.PrintWords Go.Proofs.YtnafnpoflheonaaW.PrintMore
/-! ### two elements appended at once, each with one row of its own -/
section
open Classical in
theorem two_tag {α : Type} {d : Kd α} {e base : Nat} {okv okp okq : Nat → Prop} {w : World} {v : Value} {xs : List α} (h : Kd.S d e w base okv v xs) (m : Nat) (hpq : ∀ k, okp k → ¬ okq k) (hap : ∀ k, okp k → ¬ okv k) (haq : ∀ k, okq k → ¬ okv k) :
    ∃ f : Nat → Nat, (∀ k, okp k → f k = m) ∧ (∀ k, okq k → f k = m + 1) ∧ (Kd.tag f d).R e w base okv v xs.zipIdx := by
  obtain ⟨f, h⟩ := h
  exact ⟨fun k => if okp k then m else if okq k then m + 1 else f k, fun k hk => if_pos hk, fun k hk => (if_neg (fun h2 => hpq k h2 hk)).trans (if_pos hk), Kd.R_tag h (fun k hk _ => (if_neg (fun h2 => hap k h2 hk)).trans (if_neg (fun h2 => haq k h2 hk)))⟩
variable {P : Program} {ops : Array Oper} {rest : List Oper} {o : Oper} {a : Act} {Q : Exit → Act → World → Prop} {α : Type}
theorem S_append2 (d : Kd α) {w0 W : World} (base : Nat) (hgd : o.guard = none) (s x : Operand) (t e : TypeId) (z : Value) (bytes : Nat)
    (ho : o.op = .call { callee := .builtin .append, args := #[s, x], argTypes := #[t, t] })
    (ht : P.underlying t = some (.slice e)) (hinfo : (P.info? e).map (fun i => (i.zero, i.size, i.bytes)) = some (some z, d.sz, bytes)) (hz : z.cells.size = d.sz) (hs0 : 0 < d.sz) (hb0 : 0 < bytes)
    (v : Value) (xs : List α) (p q : α) (cs cp cq : List Value) (ok okp okq : Nat → Prop) (hs : a.eval s = v) (hx : a.eval x = .slice (some ⟨W.heap.size, 0, none⟩) 2 2) (hc : cs = cp ++ cq) (hp : d.M W base okp p cp) (hq : d.M W base okq q cq) (hpq : ∀ k, okp k → ¬ okq k)
    (hokp : ∀ k, okp k → ok k ∧ some k ≠ v.ownBlock) (hokq : ∀ k, okq k → ok k ∧ some k ≠ v.ownBlock) (hfresh : ∀ k, W.heap.size ≤ k → ok k)
    (HO : Kd.S d e W base (fun k => ok k ∧ ¬ (okp k ∨ okq k)) v xs) (HB : Below base w0 W) (hbase : base ≤ W.heap.size) (hl : (xs.length + 2) * bytes ≤ 140737488355328)
    (h : ∀ v1 w1, Kd.S d e w1 base ok v1 (xs ++ [p, q]) → Below base w0 w1 → W.grownBy w1 v.ownBlock → (v1.ownBlock = v.ownBlock ∨ ∃ b, v1.ownBlock = some b ∧ W.heap.size ≤ b) → wpList P ops Q rest (a.put o.dst v1) w1) :
    wpList P ops Q (o :: rest) a (W.alloc (.cells cs.toArray e)) := by
  subst hc
  have hW : Below W.heap.size W (W.alloc (.cells (cp ++ cq).toArray e)) := below_alloc (Below.refl _ _) _
  obtain ⟨f, hfp, hfq, hR⟩ := two_tag HO xs.length hpq (fun _ hk h2 => h2.2 (.inl hk)) (fun _ hk h2 => h2.2 (.inr hk))
  have lp := d.K_len (d.K_of_M hp)
  have lq := d.K_len (d.K_of_M hq)
  have hblk := blk_new W (.cells (cp ++ cq).toArray e)
  refine Kd.R_append_rows (Kd.tag f d) (Rr := fun y c => (y = (p, xs.length) ∧ c = cp) ∨ (y = (q, xs.length + 1) ∧ c = cq)) (w0 := w0) base hgd s x t e z bytes ho ht hinfo hz hs0 hb0 v xs.zipIdx [(p, xs.length), (q, xs.length + 1)] (some ⟨W.heap.size, 0, none⟩) 2 2 ok (fun k => okp k ∨ okq k) hs hx (Kd.R_mono (Kd.R_below hR hW) (fun _ hk => hk.1)) ?_ ?_ (fun k hk => hk.elim (hokp k) (hokq k)) (fun k hk => hfresh k (Nat.le_trans hW.size hk)) (below_then HB hbase hW) (Nat.le_trans hbase hW.size) (by rw [List.length_zipIdx]; exact hl) ?_
  · refine ⟨rfl, by omega, fun _ => ⟨_, rfl, fun j y hj => ?_⟩⟩
    have hcell : ∀ i u, (cp ++ cq)[i]? = some u → (W.alloc (.cells (cp ++ cq).toArray e)).cell? ⟨W.heap.size, i, none⟩ = some u := fun i u hu => (blk_cell hblk i).trans (by simpa using hu)
    rcases j with _ | _ | j
    · simp only [List.getElem?_cons_zero, Option.some.injEq] at hj
      subst hj
      refine ⟨cp, lp, .inl ⟨rfl, rfl⟩, fun i u hu => ?_⟩
      rw [add_at]
      have hlt := (List.getElem?_eq_some_iff.1 hu).1
      have := hcell i u (by rw [List.getElem?_append_left hlt]; exact hu)
      simpa using this
    · simp only [Nat.zero_add, List.getElem?_cons_succ, List.getElem?_cons_zero, Option.some.injEq] at hj
      subst hj
      refine ⟨cq, lq, .inr ⟨rfl, rfl⟩, fun i u hu => ?_⟩
      rw [add_at]
      have := hcell (cp.length + i) u (by rw [List.getElem?_append_right (by omega)]; simpa using hu)
      rw [lp] at this
      have e2 : (Kd.tag f d).sz = d.sz := rfl
      simpa [e2] using this
    · simp at hj
  · rintro y c (⟨rfl, rfl⟩ | ⟨rfl, rfl⟩)
    · exact d.M_mono (fun k hk => ⟨.inl hk, hfp k hk⟩) (Kd.M_below hp hW)
    · exact d.M_mono (fun k hk => ⟨.inr hk, hfq k hk⟩) (Kd.M_below hq hW)
  · intro v1 w1 hr hb hg hat
    have e1 : xs.zipIdx ++ [(p, xs.length), (q, xs.length + 1)] = (xs ++ [p, q]).zipIdx := by rw [List.zipIdx_append]; simp
    rw [e1] at hr
    refine h v1 w1 ⟨f, hr⟩ hb ⟨hg.os.trans hW.os, hg.tape.trans hW.tape, hg.output.trans hW.output, Nat.le_trans hW.size hg.size, fun i hi hn => ?_⟩ (hat.imp id fun ⟨b, e, hle⟩ => ⟨b, e, Nat.le_trans hW.size hle⟩)
    exact (hg.block i (Nat.lt_of_lt_of_le hi hW.size) hn).trans (hW.block i hi)
end
end Go.Proofs.Ytnafnpoflheonaa.Op
