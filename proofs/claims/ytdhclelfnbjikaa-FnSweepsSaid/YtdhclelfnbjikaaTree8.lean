/- A program's values as trees, and its code as steps on them. No condition. -/
import Derived.Test.YtdhclelfnbjikaaTree7
import Derived.Laws.AppendOwn
import Derived.Below
import Derived.Test.YtdhclelfnbjikaaTree1
import Derived.ChangeArms
import Derived.Deep.Slices
import Derived.DataReads
import Derived.Lib.SmallJoins
import Derived.Test.YtdhclelfnbjikaaTree5
set_option linter.all false
set_option linter.unusedVariables false
set_option linter.unusedSimpArgs false
set_option linter.unusedSectionVars false
set_option linter.unnecessarySimpa false
set_option linter.deprecated false
/- Trees: contracts told of memory as contracts of trees: rows of flat cells. No condition. -/
set_option linter.unusedVariables false
set_option linter.unusedSimpArgs false
namespace Go.Proofs.YtdhclelfnbjikaaT
open Go

/-- flat cells -/
structure FlatK (α : Type) where
  tv : α → T
  vv : α → Value
  rep : ∀ w ro x v F, Rep w ro (tv x) v F ↔ v = vv x ∧ F = []
def fInt (k : IntKind) : FlatK Int := ⟨T.int k, Value.int k, fun w ro x v F => by simp only [Rep]⟩
section
variable {α : Type} (K : FlatK α)
theorem repL_out {w : World} {ro : Nat → Prop} {b : Nat} : ∀ {l : List α} {o : Nat} {F : List Nat}, RepL w ro b o (l.map K.tv) F → F = [] ∧ ∀ j x, l[j]? = some x → w.cell? ⟨b, o + j, none⟩ = some (K.vv x)
  | [], o, F, h => by simp only [List.map_nil, RepL] at h; exact ⟨h, by simp⟩
  | x :: l, o, F, h => by
    simp only [List.map_cons, RepL] at h
    obtain ⟨v, F1, F2, h1, h2, h3, rfl⟩ := h
    obtain ⟨rfl, rfl⟩ := (K.rep _ _ _ _ _).1 h2
    obtain ⟨rfl, h4⟩ := repL_out h3
    refine ⟨rfl, fun j y hj => ?_⟩
    cases j with
    | zero => simp only [List.getElem?_cons_zero, Option.some.injEq] at hj; subst hj; exact h1
    | succ j => rw [show o + (j + 1) = o + 1 + j by omega]; exact h4 j y (by simpa using hj)
theorem repL_in {w : World} {ro : Nat → Prop} {b : Nat} : ∀ {l : List α} {o : Nat}, (∀ j x, l[j]? = some x → w.cell? ⟨b, o + j, none⟩ = some (K.vv x)) → RepL w ro b o (l.map K.tv) []
  | [], o, h => by simp only [List.map_nil, RepL]
  | x :: l, o, h => by
    simp only [List.map_cons, RepL]
    refine ⟨K.vv x, [], [], h 0 x rfl, (K.rep _ _ _ _ _).2 ⟨rfl, rfl⟩, repL_in fun j y hj => ?_, rfl⟩
    rw [show o + 1 + j = o + (j + 1) by omega]
    exact h (j + 1) y (by simpa using hj)
theorem Since.of_below {w w' : World} {F : List Nat} (h : RowKit.Below w.heap.size w w') : Since w F w' where
  os := h.os
  tape := h.tape
  output := h.output
  size := h.size
  block k hk _ := h.block k hk
  shape k hk := by unfold World.shape?; rw [h.block k hk]
/-- a row of one's own that was made -/
theorem owns_rep {w w' : World} {ro : Nat → Prop} {e : TypeId} {v : Value} {l : List α} (hro : ∀ b, ro b → b < w.heap.size) (h : w'.ownsRow w.heap.size e 1 v l.length (l.map K.vv)) : ∃ F, Rep w' ro (.sl true 1 l.length (l.map K.tv)) v F ∧ F.Nodup ∧ (∀ b ∈ F, ¬ ro b) ∧ ∀ b ∈ F, w.heap.size ≤ b := by
  obtain ⟨h1, ⟨rfl, h2⟩ | ⟨g, cap, cur, rfl, h3, h4, h5, h6, h7, h8⟩⟩ := h
  · have hl : l = [] := List.eq_nil_of_length_eq_zero h2
    subst hl
    exact ⟨[], by simp only [Rep]; exact .inl ⟨rfl, rfl, trivial, none, rfl⟩, List.nodup_nil, by simp, by simp⟩
  · refine ⟨[g], ?_, by simp, ?_, ?_⟩
    · simp only [Rep]
      refine .inr ⟨g, 0, cap, [], rfl, ⟨h5, by omega⟩, by simp, ⟨(Array.getElem?_eq_some_iff.1 h4).1, ?_⟩, repL_in K fun j x hj => ?_⟩
      · simp only [if_true]
        refine ⟨trivial, cur, e, _, h4, by simp; omega, fun j hj => ?_⟩
        simp only [World.frozen?, h4]; simp
      · have hj2 : (l.map K.vv)[j]? = some (K.vv x) := by simp [hj]
        rw [← h8] at hj2
        have hlt : j < l.length := (List.getElem?_eq_some_iff.1 hj).1
        rw [List.getElem?_take_of_lt (by omega), Array.getElem?_toList] at hj2
        simp only [World.cell?, h4, Nat.zero_add]
        exact hj2
    · intro b hb hr
      simp only [List.mem_singleton] at hb; subst hb
      have := hro _ hr; omega
    · intro b hb; simp only [List.mem_singleton] at hb; omega
/-- a copy -/
theorem clone_meets {P : Program} {f : FuncId} {e : TypeId} {l : List α} (h1 : l ≠ [] → ∀ b o c w, (∀ j x, l[j]? = some x → w.cell? ⟨b, o + j, none⟩ = some (K.vv x)) → Calls P f #[.slice (some ⟨b, o, none⟩) l.length c] w fun e' w' => ∃ v, e' = .returned v ∧ w'.ownsRow w.heap.size e 1 v l.length (l.map K.vv) ∧ RowKit.Below w.heap.size w w')
    (h0 : l = [] → ∀ a c w, Calls P f #[.slice a 0 c] w fun e' w' => ∃ v, e' = .returned v ∧ w'.ownsRow w.heap.size e 1 v 0 [] ∧ RowKit.Below w.heap.size w w') : Meets P f [.one (.sl false 1 l.length (l.map K.tv))] (.w (.one (.sl true 1 l.length (l.map K.tv)))) [.one .hole] := by
  intro w ro args F hargs hnd hnro hlt
  simp only [RTWL, RTW] at hargs
  obtain ⟨v, vs', F1, F2, rfl, hr, ⟨rfl, rfl⟩, rfl⟩ := hargs
  have fin : ∀ v' w', w'.ownsRow w.heap.size e 1 v' l.length (l.map K.vv) → RowKit.Below w.heap.size w w' → ∃ (v0 : Value) (ro' : Nat → Prop) (Fr Fo : List Nat), Ending.returned v' = .returned v0 ∧ RTV w' ro' (.w (.one (.sl true 1 l.length (l.map K.tv)))) v0 Fr ∧ RTWL w' ro' [.one .hole] [v] Fo ∧ (Fr ++ Fo).Nodup ∧ (∀ b ∈ Fr ++ Fo, ¬ ro' b) ∧
      (∀ b ∈ Fr ++ Fo, b ∈ F1 ++ [] ∨ w.heap.size ≤ b) ∧ (∀ b, ro b → ro' b) ∧ (∀ b, ro' b → ro b ∨ b ∈ F1 ++ [] ∨ w.heap.size ≤ b) ∧ (∀ b, ro' b → b < w'.heap.size) ∧ Since w (F1 ++ []) w' := fun v' w' ho hb => by
    obtain ⟨Fr, k1, k2, k3, k4⟩ := owns_rep K hlt ho
    refine ⟨v', ro, Fr, [], rfl, k1, ?_, by simpa using k2, by simpa using k3, ?_, fun _ h => h, fun _ h => .inl h, fun b h => Nat.lt_of_lt_of_le (hlt b h) hb.size, .of_below hb⟩
    · simp only [RTWL, RTW]
      exact ⟨v, [], [], [], rfl, by simp only [Rep], ⟨rfl, rfl⟩, rfl⟩
    · intro b h; simp only [List.append_nil] at h; exact .inr (k4 b h)
  simp only [Rep] at hr
  rcases hr with ⟨h2, h3, rfl, a, rfl⟩ | ⟨b, o, cap, F', rfl, h2, h3, h4, h5⟩
  · have hl : l = [] := List.eq_nil_of_length_eq_zero h2
    subst hl
    refine (h0 rfl a 0 w).mono ?_
    rintro e' w' ⟨v', rfl, ho, hb⟩
    exact fin v' w' ho hb
  · by_cases hl : l = []
    · subst hl
      refine (h0 rfl _ cap w).mono ?_
      rintro e' w' ⟨v', rfl, ho, hb⟩
      have hF : F1 = [] := by
        simp only [Blk, Bool.false_eq_true, if_false] at h4
        exact h4.2.1
      subst hF
      exact fin v' w' ho hb
    · obtain ⟨_, hc⟩ := repL_out K h5
      have hF : F1 = [] := by
        simp only [Blk, Bool.false_eq_true, if_false] at h4
        exact h4.2.1
      subst hF
      refine (h1 hl b o cap w hc).mono ?_
      rintro e' w' ⟨v', rfl, ho, hb⟩
      exact fin v' w' ho hb
end
end Go.Proofs.YtdhclelfnbjikaaT

/- Trees: what an argument's value reads as, told by trees that are read alone. No condition. -/
set_option linter.unusedVariables false
set_option linter.unusedSimpArgs false
namespace Go.Proofs.YtdhclelfnbjikaaT
open Go Go.RowKit

/-- what lies in a world may be read -/
def inW (w : World) : Nat → Prop := fun b => b < w.heap.size
/-- whatever reads as data at type t is told by the trees f y -/
def Told {β : Type} (P : Program) (t : TypeId) (f : β → List T) (Q : β → Prop) : Prop :=
  ∀ (H : Type) (enc : TypeId × Value → H) (w : World) (held : Bool) (fuel : Nat) (cs : List Value) (x : DataW H × List MemPlace),
    DataW.trod enc P w 0 (fun _ => true) held fuel t cs = some x → ∃ y, RepV w (inW w) (f y) cs [] ∧ Q y
section
variable {P : Program}
theorem repV1 {w : World} {ro : Nat → Prop} {t : T} {v : Value} (h : Rep w ro t v []) : RepV w ro [t] [v] [] := by
  simp only [RepV]; exact ⟨v, [], [], [], rfl, h, ⟨rfl, rfl⟩, rfl⟩
theorem repV1' {w : World} {ro : Nat → Prop} {t : T} {cs : List Value} (h : RepV w ro [t] cs []) : ∃ v, cs = [v] ∧ Rep w ro t v [] := by
  simp only [RepV] at h
  obtain ⟨v, vs, F1, F2, rfl, h1, ⟨rfl, rfl⟩, e⟩ := h
  simp only [List.append_nil] at e
  subst e
  exact ⟨v, rfl, h1⟩
theorem told_int {t : TypeId} {k : IntKind} (ht : P.underlying t = some (.int k)) : Told P t (fun n : Int => [.int k n]) (fun n => (Lit.int k n).wf = true) := by
  intro H enc w held fuel cs x h
  obtain ⟨n, rfl, _, hw⟩ := DataW.trod_int ht h
  exact ⟨n, repV1 (by simp [Rep]), hw⟩
theorem pick_allT {α : Type} {n : Nat} {q : Nat → α → Prop} (h : ∀ i, i < n → ∃ a, q i a) : ∃ l : List α, l.length = n ∧ ∀ i a, l[i]? = some a → q i a := by
  induction n with
  | zero => exact ⟨[], rfl, fun i a hi => by simp at hi⟩
  | succ n ih =>
    obtain ⟨l, hl, hq⟩ := ih (fun i hi => h i (by omega))
    obtain ⟨a, ha⟩ := h n (by omega)
    refine ⟨l ++ [a], by simp [hl], fun i b hb => ?_⟩
    by_cases hi : i < n
    · rw [List.getElem?_append_left (by omega)] at hb
      exact hq i b hb
    · have hlt : i < (l ++ [a]).length := (List.getElem?_eq_some_iff.1 hb).1
      simp only [List.length_append, List.length_singleton] at hlt
      obtain rfl : i = n := by omega
      rw [List.getElem?_append_right (by omega), hl] at hb
      simp at hb
      subst hb
      exact ha
theorem repL_app {w : World} {ro : Nat → Prop} {b : Nat} : ∀ (ts us : List T) (o : Nat), RepL w ro b o ts [] → RepL w ro b (o + ts.length) us [] → RepL w ro b o (ts ++ us) []
  | [], us, o, _, h => by simpa using h
  | t :: ts, us, o, h, k => by
    simp only [RepL] at h
    obtain ⟨v, F1, F2, h1, h2, h3, e⟩ := h
    obtain ⟨rfl, rfl⟩ := List.append_eq_nil_iff.1 e.symm
    simp only [List.cons_append, RepL]
    exact ⟨v, [], [], h1, h2, repL_app ts us (o + 1) h3 (by rw [show o + 1 + ts.length = o + (t :: ts).length by simp; omega]; exact k), rfl⟩
theorem repL_ofV {w : World} {ro : Nat → Prop} {b : Nat} : ∀ (ts : List T) (vs : List Value) (o : Nat), RepV w ro ts vs [] → (∀ j v, vs[j]? = some v → w.cell? ⟨b, o + j, none⟩ = some v) → RepL w ro b o ts []
  | [], vs, o, h, _ => by simp only [RepL]
  | t :: ts, vs, o, h, hc => by
    simp only [RepV] at h
    obtain ⟨v, vs', F1, F2, rfl, h2, h3, e⟩ := h
    obtain ⟨rfl, rfl⟩ := List.append_eq_nil_iff.1 e.symm
    simp only [RepL]
    exact ⟨v, [], [], hc 0 v rfl, h2, repL_ofV ts vs' (o + 1) h3 (fun j u hj => by have := hc (j + 1) u (by simpa using hj); rwa [show o + (j + 1) = o + 1 + j by omega] at this), rfl⟩
theorem repL_rows {β : Type} {f : β → List T} {k : Nat} (hk : ∀ y, (f y).length = k) {w : World} {ro : Nat → Prop} {b : Nat} : ∀ (l : List β) (o : Nat), (∀ i y, l[i]? = some y → RepL w ro b (o + i * k) (f y) []) → RepL w ro b o (l.map f).flatten []
  | [], o, _ => by simp only [List.map_nil, List.flatten_nil, RepL]
  | y :: l, o, h => by
    simp only [List.map_cons, List.flatten_cons]
    refine repL_app _ _ _ (by simpa using h 0 y rfl) (repL_rows hk l _ fun i z hz => ?_)
    have := h (i + 1) z (by simpa using hz)
    rw [hk]
    rwa [Nat.add_mul, Nat.one_mul, Nat.add_comm (i * k) k, ← Nat.add_assoc] at this
theorem flat_len {β : Type} {f : β → List T} {k : Nat} (hk : ∀ y, (f y).length = k) : ∀ l : List β, (l.map f).flatten.length = l.length * k
  | [] => by simp
  | y :: l => by simp only [List.map_cons, List.flatten_cons, List.length_append, hk, List.length_cons, flat_len hk l, Nat.add_mul]; omega
theorem told_slice {β : Type} {t e : TypeId} {f : β → List T} {Q : β → Prop} {k : Nat} (he : Told P e f Q) (hc : P.cellsOf e = k) (hk : ∀ y, (f y).length = k) (h0 : 0 < k) (ht : P.underlying t = some (.slice e)) :
    Told P t (fun l : List β => [.sl false k l.length (l.map f).flatten]) (fun l => l.length ≤ maxLen ∧ ∀ y ∈ l, Q y) := by
  intro H enc w held fuel cs x h
  rcases Go.Deep.open_slice ht h with ⟨rfl, _⟩ | ⟨a, len, cap, m, n, D, Pl, rfl, _, hl, hm, hmm, _, hel⟩
  · refine ⟨[], repV1 ?_, by simp [maxLen], by simp⟩
    simp only [Rep]
    exact .inl ⟨by simp, by simp, by simp, none, rfl⟩
  · simp only [if_true] at hmm
    subst hmm
    by_cases hcap : m = 0
    · subst hcap
      obtain rfl : len = 0 := by omega
      refine ⟨[], repV1 ?_, by simp [maxLen], by simp⟩
      simp only [Rep]
      exact .inl ⟨by simp, by simp, by simp, some a, rfl⟩
    have h00 : ∃ v, w.cell? a = some v := by
      obtain ⟨cs', h1, h2⟩ := hel 0 (by omega)
      obtain ⟨_, hsz, hcell⟩ := World.cells?_some h1
      have h3 := hcell 0 (by omega)
      rw [List.getElem?_eq_getElem (by omega)] at h3
      simp [Addr.add] at h3
      exact ⟨_, h3⟩
    obtain ⟨v0, h00⟩ := h00
    have hs : a.spot = none ∧ a.block < w.heap.size := by
      cases hh : w.heap[a.block]? with
      | none => simp [World.cell?, hh] at h00
      | some o =>
        refine ⟨?_, (Array.getElem?_eq_some_iff.1 hh).1⟩
        cases hsp : a.spot with
        | none => rfl
        | some s => cases o <;> simp [World.cell?, hh, hsp] at h00
    obtain ⟨ab, ao, asp⟩ := a
    obtain ⟨hs1, hs2⟩ := hs
    simp only at hs1 hs2
    subst hs1
    have hadd : ∀ n, (⟨ab, ao, none⟩ : Addr).add n = ⟨ab, ao + n, none⟩ := fun n => by
      unfold Addr.add; split
      · subst_vars; rfl
      · rfl
    obtain ⟨l, hlen, hq⟩ := pick_allT (n := len) (q := fun i (y : β) => RepL w (inW w) ab (ao + i * k) (f y) [] ∧ Q y) (fun i hi => by
      obtain ⟨cs', h1, h2⟩ := hel i (by omega)
      obtain ⟨y, hK, hQ⟩ := he H enc w held n cs' _ h2
      obtain ⟨_, hsz, hcell⟩ := World.cells?_some h1
      refine ⟨y, repL_ofV _ _ _ hK fun j v hj => ?_, hQ⟩
      have hlt : j < cs'.length := (List.getElem?_eq_some_iff.1 hj).1
      have h3 := hcell j (by omega)
      rw [hj, hc, Go.Deep.add_add, hadd] at h3
      rw [Nat.add_assoc]; exact h3)
    subst hlen
    have hmax : l.length ≤ maxLen := by omega
    refine ⟨l, repV1 ?_, hmax, fun y hy => ?_⟩
    · simp only [Rep]
      refine .inr ⟨ab, ao, m, [], rfl, ⟨hl, h0⟩, flat_len hk l, ⟨hs2, ?_⟩, repL_rows hk l _ fun i y hy => (hq i y hy).1⟩
      simp only [Bool.false_eq_true, if_false]; exact ⟨trivial, trivial, hs2⟩
    · obtain ⟨i, hi, rfl⟩ := List.mem_iff_getElem.1 hy
      exact (hq i _ (List.getElem?_eq_getElem hi)).2

theorem told_iso {β γ : Type} {t : TypeId} {f : β → List T} {Q : β → Prop} (h : Told P t f Q) {g : γ → List T} {R : γ → Prop} (e : ∀ y, Q y → ∃ z, g z = f y ∧ R z) : Told P t g R := by
  intro H enc w held fuel cs x hx
  obtain ⟨y, h1, h2⟩ := h H enc w held fuel cs x hx
  obtain ⟨z, h3, h4⟩ := e y h2
  exact ⟨z, by rw [h3]; exact h1, h4⟩
end
theorem since_below {w w' : World} (h : Since w [] w') : Below w.heap.size w w' := ⟨h.os, h.tape, h.output, h.size, fun k hk => h.block k hk (by simp)⟩
/-- a law's contract, run on what came in: it answers true and leaves what lay there -/
theorem law_run {P : Program} {f : FuncId} {targs : List TW} {outs : List TW} {w : World} {args : List Value} (M : Meets P f targs (.w (.one (.bool true))) outs) (h : RTWL w (inW w) targs args []) : Calls P f args.toArray w fun e w' => e = .returned (.bool true) ∧ Below w.heap.size w w' := by
  refine (M w (inW w) args [] h List.nodup_nil (by simp) (fun b hb => hb)).mono ?_
  rintro e w' ⟨v, ro', Fr, Fo, rfl, hv, _, _, _, _, _, _, _, hS⟩
  simp only [RTV, RTW, Rep] at hv
  exact ⟨by rw [hv.1], since_below hS⟩
end Go.Proofs.YtdhclelfnbjikaaT

/- Trees: rows of structs of four cells. No condition. -/
set_option linter.unusedVariables false
set_option linter.unusedSimpArgs false
namespace Go.Proofs.YtdhclelfnbjikaaT
open Go

section
variable {α : Type} {g0 g1 g2 g3 : α → T}
end
end Go.Proofs.YtdhclelfnbjikaaT

/- Trees: loops whose rounds are known to go on somewhere. No condition. -/
set_option linter.unusedVariables false
set_option linter.unusedSimpArgs false
namespace Go.Proofs.YtdhclelfnbjikaaT
open Go

/-- one round of a loop leads from s to s' -/
def Rnd (P : Program) (b : Ir) (s s' : St) : Prop := ∃ s1, Big P (erase b) s .normal s1 ∧ Imp s1 s'
theorem rnd_go {P : Program} {b : Ir} {s s' : St} (h : wx P b (seqK (.hold : FxA fun t => Imp t s') (.hold : FxA fun _ _ => False)) s) : Rnd P b s s' := by
  obtain ⟨e, s1, h1, h2⟩ := wx_ok _ _ _ h
  cases e with
  | normal => exact ⟨s1, h1, h2⟩
  | exit id => exact h2.elim
  | ret => exact h2.elim
theorem loop_f {P : Program} {b : Ir} {Q : Ex' → St → Prop} {s : St} (n : Nat) (S : Nat → St) (h0 : Imp s (S 0)) (h : ∀ i, i < n → Rnd P b (S i) (S (i + 1))) (hl : wx P b (seqK (.hold : FxA fun _ => False) (.hold : FxA Q)) (S n)) : loopG P b Q s := by
  have : ∀ k i, i + k = n → loopG P b Q (S i) := by
    intro k
    induction k with
    | zero =>
      intro i hi
      obtain rfl : i = n := by omega
      obtain ⟨e, s1, h1, h2⟩ := wx_ok _ _ _ hl
      cases e with
      | normal => exact h2.elim
      | exit id => exact ⟨_, s1, .loopX (by simp) h1, h2⟩
      | ret => exact ⟨_, s1, .loopX (by simp) h1, h2⟩
    | succ k ih =>
      intro i hi
      obtain ⟨s1, h1, h2⟩ := h i (by omega)
      obtain ⟨e, s2, h5, h6⟩ := ih (i + 1) (by omega)
      exact ⟨e, s2, .loop h1 (.imp h2 h5), h6⟩
  obtain ⟨e, s', h1, h2⟩ := this n 0 (by omega)
  exact ⟨e, s', .imp h0 h1, h2⟩
/-- nil in a cell is a slice of one's own, of no elements -/
theorem imp_fix {s : St} (r : Nat) (p : List Nat) (j st : Nat) {t t2 : T} (hr : get s.roots r = some t) (hs : sub t (p ++ [j]) = some (.sl true 0 0 [])) (hu : upd (.sl true st 0 []) t (p ++ [j]) = some t2) : Imp s (s.kill r (p ++ [j]) (set s.roots r t2)) := by
  refine Imp.of0 ?_
  intro nt w ro tm args hv F h
  obtain ⟨v', pre, Fo, post, k1, k2, k7, k8⟩ := Rep.sub (p ++ [j]) t _ (hv r) (F r) (h.rep r t hr) hs
  have hv' : Fo = [] ∧ ∃ a, v' = .slice a 0 0 := by
    simp only [Rep] at k2
    rcases k2 with ⟨_, _, h1, h2⟩ | ⟨b, o, cap, F', h1, h2, _⟩
    · exact ⟨h1, h2⟩
    · omega
  obtain ⟨rfl, a, rfl⟩ := hv'
  obtain ⟨t3, u1, u2⟩ := k8 (upd_some _ _ _ _ _ hu) (.sl true st 0 []) [] (by simp only [Rep]; exact .inl ⟨trivial, trivial, trivial, a, rfl⟩)
  rw [hu] at u1; obtain rfl := Option.some.inj u1
  rw [← k7] at u2
  have hget : ∀ r' t', get (set s.roots r t2) r' = some t' → (r' = r ∧ t' = t2) ∨ (r' ≠ r ∧ get s.roots r' = some t') := by
    intro r' t' h'
    rw [get_set] at h'
    split at h'
    · simp only [Option.some.injEq] at h'; exact .inl ⟨(‹r = r'›).symm, h'.symm⟩
    · exact .inr ⟨Ne.symm ‹_›, h'⟩
  have hback : ∀ r' t', get (set s.roots r t2) r' = some t' → ∃ t0, get s.roots r' = some t0 := by
    intro r' t' h'
    rcases hget _ _ h' with ⟨rfl, _⟩ | ⟨_, h'⟩
    · exact ⟨t, hr⟩
    · exact ⟨t', h'⟩
  have L : Leads (killR r (p ++ [j])) w s.roots hv w (set s.roots r t2) hv := by
    intro r1 q r2 q' e
    simp only [killR] at e
    split at e
    · simp at e
    · rename_i hq
      simp only [Option.some.injEq, Prod.mk.injEq] at e
      obtain ⟨rfl, rfl⟩ := e
      refine ⟨fun h => ⟨h, rfl⟩, fun t' ht' => ?_⟩
      rcases hget _ _ ht' with ⟨rfl, rfl⟩ | ⟨hne, ht'⟩
      · refine ⟨t, hr, fun x hx ho => ?_⟩
        have hq2 : (p ++ [j]).isPrefixOf q = false := by
          cases hh : (p ++ [j]).isPrefixOf q
          · rfl
          · exact absurd ⟨rfl, hh⟩ hq
        obtain ⟨x', e4, e5⟩ := sub_upd _ q t _ _ x hu hq2 hx
        exact ⟨x', e4, e5, fun g hg => hg⟩
      · exact ⟨t', ht', fun x hx ho => ⟨x, hx, Alike.refl x, fun g hg => hg⟩⟩
  refine ⟨hv, F, Inv.move h L (fun r' t' h' => ?_) (fun r' t' h' => ?_) (fun r1 t1 r3 t3 h1 h3 hne => ?_) (fun r' t' h' => ?_) h.gnd (fun r' t' h' => ?_) h.gnro h.glt h.rolt, fun b ⟨r', t', h', hb⟩ => ?_⟩
  · rcases hget _ _ h' with ⟨rfl, rfl⟩ | ⟨hne, h'⟩
    · exact u2
    · exact h.rep r' t' h'
  · obtain ⟨t0, h0⟩ := hback _ _ h'; exact h.nd r' t0 h0
  · obtain ⟨t0, h0⟩ := hback _ _ h1
    obtain ⟨t4, h4⟩ := hback _ _ h3
    exact h.dis r1 t0 r3 t4 h0 h4 hne
  · obtain ⟨t0, h0⟩ := hback _ _ h'; exact h.nro r' t0 h0
  · obtain ⟨t0, h0⟩ := hback _ _ h'; exact h.gdis r' t0 h0
  · obtain ⟨t0, h0⟩ := hback _ _ h'; exact ⟨r', t0, h0, hb⟩
end Go.Proofs.YtdhclelfnbjikaaT

/- Trees: rows of structs of two cells. No condition. -/
set_option linter.unusedVariables false
set_option linter.unusedSimpArgs false
namespace Go.Proofs.YtdhclelfnbjikaaT
open Go

/-- the cells of a row of structs -/
def rows2 {α : Type} (g0 g1 : α → T) (l : List α) : List T := (l.map fun x => [g0 x, g1 x]).flatten
section
variable {α : Type} {g0 g1 : α → T}
theorem rows2_cons {x : α} {l : List α} : rows2 g0 g1 (x :: l) = g0 x :: g1 x :: rows2 g0 g1 l := rfl
theorem rows2_len : ∀ {l : List α}, (rows2 g0 g1 l).length = l.length * 2
  | [] => rfl
  | x :: l => by rw [rows2_cons]; simp only [List.length_cons, rows2_len (l := l)]; omega
theorem rows2_at [Inhabited α] : ∀ {l : List α} {i : Nat}, i < l.length → (rows2 g0 g1 l)[i * 2]? = some (g0 (l.getD i default)) ∧ (rows2 g0 g1 l)[i * 2 + 1]? = some (g1 (l.getD i default))
  | [], i, h => by simp at h
  | x :: l, 0, h => by simp [rows2_cons]
  | x :: l, i + 1, h => by
    have := rows2_at (l := l) (i := i) (by simpa using h)
    rw [rows2_cons]
    simpa [Nat.add_mul, Nat.add_right_comm] using this
theorem rows2_0 [Inhabited α] {l : List α} {i : Nat} (h : i < l.length) : (rows2 g0 g1 l)[i * 2]? = some (g0 (l.getD i default)) := (rows2_at h).1
theorem rows2_1 [Inhabited α] {l : List α} {i : Nat} (h : i < l.length) : (rows2 g0 g1 l)[i * 2 + 1]? = some (g1 (l.getD i default)) := (rows2_at h).2
theorem rows2_set : ∀ {l : List α} {i : Nat} (x : α), i < l.length → ((rows2 g0 g1 l).set (i * 2) (g0 x)).set (i * 2 + 1) (g1 x) = rows2 g0 g1 (l.set i x)
  | [], i, x, h => by simp at h
  | y :: l, 0, x, h => by simp [rows2_cons]
  | y :: l, i + 1, x, h => by
    have := rows2_set (l := l) (i := i) x (by simpa using h)
    simp only [List.set_cons_succ, rows2_cons, ← this]
    rw [show (i + 1) * 2 = i * 2 + 1 + 1 by omega]
    simp only [List.set_cons_succ]
theorem rows2_cut {l : List α} {n : Nat} (h : l.length = n) : cut (rows2 g0 g1 l) 0 (n * 2) = rows2 g0 g1 l := cut_all (by rw [rows2_len, h]; exact Nat.le_refl _)
theorem rows2_ro : ∀ {l : List α}, (rows2 g0 g1 l).map toRo = rows2 (fun x => toRo (g0 x)) (fun x => toRo (g1 x)) l
  | [] => rfl
  | x :: l => by simp only [rows2_cons, List.map_cons, rows2_ro (l := l)]
theorem rows2_noRo (h : ∀ x, noRo (g0 x) = true ∧ noRo (g1 x) = true) : ∀ {l : List α}, noRoL (rows2 g0 g1 l) = true
  | [] => rfl
  | x :: l => by
    obtain ⟨h0, h1⟩ := h x
    rw [rows2_cons]; simp only [noRoL, h0, h1, rows2_noRo h (l := l), Bool.and_self]
theorem rows2_app {l m : List α} : rows2 g0 g1 (l ++ m) = rows2 g0 g1 l ++ rows2 g0 g1 m := by simp [rows2]
end
end Go.Proofs.YtdhclelfnbjikaaT

/- Trees: an inner row becomes a root. No condition. -/
set_option linter.unusedVariables false
set_option linter.unusedSimpArgs false
set_option linter.unusedSectionVars false
namespace Go.Proofs.YtdhclelfnbjikaaT
open Go

/-- what a tree is of a value that a way may begin at -/
def Base (x : T) (v : Value) : Prop := (∀ own st n cs, x = .sl own st n cs → cs.length = n * st ∧ ∃ A c, v = .slice A n c) ∧ (∀ own cs, x = .bx own cs → ∃ b o, adr v = some (b, o))
/-- the ways that are told anew lead to what they led to; a way within a root may become a root -/
def Leads2 (f : Ren) (w : World) (roots : List (Nat × T)) (hv : Nat → Value) (roots' : List (Nat × T)) (hv' : Nat → Value) : Prop :=
  ∀ r p r' p', f r p = some (r', p') → (p' = [] → (p = [] ∧ hv' r' = hv r) ∨ ∃ t x, get roots r = some t ∧ sub t p = some x ∧ walk w (hv r) p = some (hv' r') ∧ Base x (hv' r')) ∧ ∀ t', get roots' r' = some t' → ∃ t, get roots r = some t ∧ ∀ x, sub t p = some x → isOb x = true → ∃ x', sub t' p' = some x' ∧ Alike x x' ∧ ∀ h, walk w (hv r) p = some h → walk w (hv' r') p' = some h
section
variable {f : Ren} {w : World} {roots roots' : List (Nat × T)} {hv hv' : Nat → Value} (L : Leads2 f w roots hv roots' hv')
include L
mutual
theorem HRep_ren2 : ∀ (h : H) (v : Value), HRep w roots hv h v → HRep w roots' hv' (renH f h) v
  | .int k n, v, h => by simpa only [renH, HRep] using h
  | .bool b, v, h => by simpa only [renH, HRep] using h
  | .str s, v, h => by simpa only [renH, HRep] using h
  | .nil, v, h => by simpa only [renH, HRep] using h
  | .nptr, v, h => by simpa only [renH, HRep] using h
  | .un, v, h => by simp only [renH, HRep]
  | .hs r p off st n, v, h => by
    simp only [renH]
    cases hf : f r p with
    | none => simp only [HRep]
    | some q =>
      obtain ⟨r', p'⟩ := q
      simp only [HRep] at h ⊢
      refine ⟨fun hp => ?_, fun t' ht' => ?_⟩
      · rcases (L r p r' p' hf).1 hp with ⟨hp1, hp2⟩ | ⟨t, x, ht, hx, hw, hb⟩
        · rw [hp2]; exact h.1 hp1
        · obtain ⟨own, n0, cs, hh, h1, h2, h3, h4⟩ := h.2 t ht
          rw [hx] at h1
          obtain rfl := Option.some.inj h1
          rw [hw] at h2
          obtain rfl := Option.some.inj h2
          obtain ⟨b1, A0, c0, b2⟩ := hb.1 _ _ _ _ rfl
          refine ⟨h4, fun A n1 c e => ?_, h3.2⟩
          rw [b2] at e
          simp only [Value.slice.injEq] at e
          obtain ⟨_, rfl, _⟩ := e
          omega
      obtain ⟨t, ht, hx⟩ := (L r p r' p' hf).2 t' ht'
      obtain ⟨own, n0, cs, hh, h1, h2, h3, h4⟩ := h.2 t ht
      obtain ⟨x', e1, e2, e3⟩ := hx _ h1 rfl
      obtain ⟨own', cs', rfl, hl⟩ := e2
      exact ⟨own', n0, cs', hh, e1, e3 hh h2, ⟨by omega, h3.2⟩, h4⟩
  | .hp r p off, v, h => by
    simp only [renH]
    cases hf : f r p with
    | none => simp only [HRep]
    | some q =>
      obtain ⟨r', p'⟩ := q
      simp only [HRep] at h ⊢
      refine ⟨fun hp => ?_, fun t' ht' => ?_⟩
      · rcases (L r p r' p' hf).1 hp with ⟨hp1, hp2⟩ | ⟨t, x, ht, hx, hw, hb⟩
        · rw [hp2]; exact h.1 hp1
        · obtain ⟨x1, hh, b, o, ⟨h1, h1'⟩, h2, h3, h4⟩ := h.2 t ht
          rw [hw] at h2
          obtain rfl := Option.some.inj h2
          exact ⟨b, o, h3, h4⟩
      obtain ⟨t, ht, hx⟩ := (L r p r' p' hf).2 t' ht'
      obtain ⟨x, hh, b, o, ⟨h1, h1'⟩, h2, h3, h4⟩ := h.2 t ht
      obtain ⟨x', e1, e2, e3⟩ := hx _ h1 h1'
      refine ⟨x', hh, b, o, ⟨e1, ?_⟩, e3 hh h2, h3, h4⟩
      cases x with
      | sl own st n cs => obtain ⟨own', cs', rfl, _⟩ := e2; rfl
      | bx => exact e2 h1'
      | _ => simp [isOb] at h1'
  | .fn g caps, v, h => by
    simp only [renH, HRep] at h ⊢
    obtain ⟨vs, h1, h2⟩ := h
    exact ⟨vs, h1, HRepL_ren2 caps vs h2⟩
theorem HRepL_ren2 : ∀ (hs : List H) (vs : List Value), HRepL w roots hv hs vs → HRepL w roots' hv' (renHL f hs) vs
  | [], vs, h => by simpa only [renHL, HRepL] using h
  | h :: hs, vs, hh => by
    simp only [renHL, HRepL] at hh ⊢
    obtain ⟨v, vs', rfl, h1, h2⟩ := hh
    exact ⟨v, vs', rfl, HRep_ren2 h v h1, HRepL_ren2 hs vs' h2⟩
end
theorem WRep_ren2 : ∀ (x : W) (v : Value), WRep w roots hv x v → WRep w roots' hv' (renW f x) v
  | .one h, v, hh => HRep_ren2 L h v hh
  | .agg hs, v, ⟨vs, h1, h2⟩ => ⟨vs, h1, HRepL_ren2 L hs vs h2⟩
theorem WRepL_ren2 : ∀ (xs : List W) (vs : List Value), WRepL w roots hv xs vs → WRepL w roots' hv' (xs.map (renW f)) vs
  | [], vs, h => h
  | x :: xs, vs, ⟨v, vs', h1, h2, h3⟩ => ⟨v, vs', h1, WRep_ren2 L x v h2, WRepL_ren2 xs vs' h3⟩
theorem VRep_ren2 : ∀ (x : V) (v : Value), VRep w roots hv x v → VRep w roots' hv' (renV f x) v
  | .w x, v, h => WRep_ren2 L x v h
  | .tup xs, v, ⟨vs, h1, h2⟩ => ⟨vs, h1, WRepL_ren2 L xs vs h2⟩
end

/-- what is left of a way behind its head -/
def strip : List Nat → List Nat → Option (List Nat)
  | [], p => some p
  | a :: q, b :: p => if a = b then strip q p else none
  | _ :: _, [] => none
theorem strip_ok : ∀ {q p s : List Nat}, strip q p = some s → p = q ++ s
  | [], p, s, h => by simp only [strip, Option.some.injEq] at h; simp [h]
  | a :: q, b :: p, s, h => by
    simp only [strip] at h
    split at h
    · rename_i e; rw [strip_ok h, e]; rfl
    · simp at h
  | _ :: _, [], s, h => by simp [strip] at h
theorem strip_no : ∀ {q p : List Nat}, strip q p = none → q.isPrefixOf p = false
  | [], p, h => by simp [strip] at h
  | a :: q, b :: p, h => by
    simp only [strip] at h
    split at h
    · rename_i e; subst e; simp [List.isPrefixOf, strip_no h]
    · rename_i e; simp [List.isPrefixOf, e]
  | _ :: _, [], h => rfl
theorem walk_append {w : World} : ∀ (p q : List Nat) (v : Value), walk w v (p ++ q) = (walk w v p).bind fun u => walk w u q
  | [], q, v => by simp [walk]
  | j :: p, q, v => by
    cases v with
    | slice A n c =>
      cases A with
      | none => rfl
      | some a =>
        show (w.cell? ⟨a.block, a.off + j, none⟩).bind (walk w · (p ++ q)) = ((w.cell? ⟨a.block, a.off + j, none⟩).bind (walk w · p)).bind fun u => walk w u q
        cases w.cell? ⟨a.block, a.off + j, none⟩ with
        | none => rfl
        | some u => exact walk_append p q u
    | pointer A =>
      cases A with
      | none => rfl
      | some a =>
        show (w.cell? ⟨a.block, a.off + j, none⟩).bind (walk w · (p ++ q)) = ((w.cell? ⟨a.block, a.off + j, none⟩).bind (walk w · p)).bind fun u => walk w u q
        cases w.cell? ⟨a.block, a.off + j, none⟩ with
        | none => rfl
        | some u => exact walk_append p q u
    | _ => rfl
def outRn (r : Nat) (q : List Nat) (b : Nat) : Ren := fun x p => if x = r then (match strip q p with | some s => some (b, s) | none => some (x, p)) else if x = b then none else some (x, p)
def St.out (s : St) (r : Nat) (q : List Nat) (b : Nat) (o t2 : T) : St := ⟨mapv (renV (outRn r q b)) s.env, (b, o) :: (r, t2) :: s.roots, s.par.map (renW (outRn r q b))⟩
/-- what lies in a cell becomes a root; the cell is told no more -/
theorem imp_out {s : St} (r : Nat) (p : List Nat) (j b : Nat) {t t2 : T} {st n : Nat} {cs : List T} (hr : get s.roots r = some t) (hs : sub t (p ++ [j]) = some (.sl true st n cs)) (hu : upd .hole t (p ++ [j]) = some t2) (hb : get s.roots b = none) : Imp s (s.out r (p ++ [j]) b (.sl true st n cs) t2) := by
  refine Imp.of0 ?_
  intro nt w ro tm args hv F h
  have hne : b ≠ r := fun e => by rw [e, hr] at hb; simp at hb
  obtain ⟨v', pre, Fo, post, k1, k2, k7, k8⟩ := Rep.sub (p ++ [j]) t _ (hv r) (F r) (h.rep r t hr) hs
  obtain ⟨t3, u1, u2⟩ := k8 (upd_some _ _ _ _ _ hu) .hole [] (by simp [Rep])
  rw [hu] at u1; obtain rfl := Option.some.inj u1
  have hnd := h.nd r t hr
  rw [k7] at hnd
  simp only [List.nodup_append, List.mem_append] at hnd
  have hFo : ∀ y ∈ Fo, y ∈ F r := fun y hy => by rw [k7]; simp [hy]
  have hrem : ∀ y ∈ pre ++ [] ++ post, y ∈ F r := fun y hy => by
    rw [k7]; simp only [List.append_nil, List.mem_append] at hy ⊢; exact hy.elim (fun h => .inl (.inl h)) .inr
  have hdis : ∀ y ∈ pre ++ [] ++ post, y ∉ Fo := fun y hy hy2 => by
    simp only [List.append_nil, List.mem_append] at hy
    rcases hy with hy | hy
    · exact hnd.1.2.2 y hy y hy2 rfl
    · exact hnd.2.2 y (.inr hy2) y hy rfl
  have hbase : Base (.sl true st n cs) v' := by
    refine ⟨fun own st' n' cs' e => ?_, fun own cs' e => by simp at e⟩
    simp only [T.sl.injEq] at e
    obtain ⟨_, rfl, rfl, rfl⟩ := e
    simp only [Rep] at k2
    rcases k2 with ⟨rfl, rfl, _, A, e⟩ | ⟨b', o, cap, F', e, h2, h3, _⟩
    · exact ⟨by simp, _, _, e⟩
    · exact ⟨h3, _, _, e⟩
  have hget : ∀ x u, get ((b, .sl true st n cs) :: (r, t2) :: s.roots) x = some u → (x = b ∧ u = .sl true st n cs) ∨ (x = r ∧ x ≠ b ∧ u = t2) ∨ (x ≠ b ∧ x ≠ r ∧ get s.roots x = some u) := by
    intro x u h'
    simp only [get] at h'
    by_cases e1 : b = x
    · subst e1; simp only [if_true, Option.some.injEq] at h'; exact .inl ⟨rfl, h'.symm⟩
    · rw [if_neg e1] at h'
      by_cases e2 : r = x
      · subst e2; simp only [if_true, Option.some.injEq] at h'; exact .inr (.inl ⟨rfl, Ne.symm e1, h'.symm⟩)
      · rw [if_neg e2] at h'; exact .inr (.inr ⟨Ne.symm e1, Ne.symm e2, h'⟩)
  have L : Leads2 (outRn r (p ++ [j]) b) w s.roots hv ((b, .sl true st n cs) :: (r, t2) :: s.roots) (fun x => if x = b then v' else hv x) := by
    intro r1 q r2 q' e
    simp only [outRn] at e
    split at e
    · rename_i hr1; subst hr1
      cases hst : strip (p ++ [j]) q with
      | some s' =>
        simp only [hst, Option.some.injEq, Prod.mk.injEq] at e
        obtain ⟨rfl, rfl⟩ := e
        have hq := strip_ok hst
        subst hq
        refine ⟨fun hp => .inr ?_, fun t' ht' => ?_⟩
        · subst hp
          rw [List.append_nil]
          exact ⟨t, _, hr, hs, by simpa using k1, by simpa using hbase⟩
        · rcases hget _ _ ht' with ⟨_, rfl⟩ | ⟨e1, _, _⟩ | ⟨e1, _, _⟩
          · refine ⟨t, hr, fun x hx ho => ?_⟩
            rw [sub_append, hs, Option.bind_some] at hx
            refine ⟨x, hx, Alike.refl x, fun g hg => ?_⟩
            rw [walk_append, k1, Option.bind_some] at hg
            simpa using hg
          · exact absurd e1 hne
          · exact absurd rfl e1
      | none =>
        simp only [hst, Option.some.injEq, Prod.mk.injEq] at e
        obtain ⟨rfl, rfl⟩ := e
        have hrb : r1 ≠ b := Ne.symm hne
        refine ⟨fun hp => .inl ⟨hp, by simp [hrb]⟩, fun t' ht' => ?_⟩
        rcases hget _ _ ht' with ⟨e1, _⟩ | ⟨_, _, rfl⟩ | ⟨_, e1, _⟩
        · exact absurd e1 hrb
        · refine ⟨t, hr, fun x hx ho => ?_⟩
          obtain ⟨x', e4, e5⟩ := sub_upd _ q t _ _ x hu (strip_no hst) hx
          exact ⟨x', e4, e5, fun g hg => by simpa [hrb] using hg⟩
        · exact absurd rfl e1
    · rename_i hr1
      split at e
      · simp at e
      · rename_i hr2
        simp only [Option.some.injEq, Prod.mk.injEq] at e
        obtain ⟨rfl, rfl⟩ := e
        refine ⟨fun hp => .inl ⟨hp, by simp [hr2]⟩, fun t' ht' => ?_⟩
        rcases hget _ _ ht' with ⟨e1, _⟩ | ⟨e1, _, _⟩ | ⟨_, _, h0⟩
        · exact absurd e1 hr2
        · exact absurd e1 hr1
        · exact ⟨t', h0, fun x hx ho => ⟨x, hx, Alike.refl x, fun g hg => by simpa [hr2] using hg⟩⟩
  refine ⟨fun x => if x = b then v' else hv x, fun x => if x = b then Fo else if x = r then pre ++ [] ++ post else F x, ?_, ?_⟩
  · refine { rep := fun x u hx => ?_, nd := fun x u hx => ?_, dis := fun x u y v hx hy hxy z hz => ?_, nro := fun x u hx z hz => ?_, gnd := h.gnd, gdis := fun x u hx z hz => ?_, gnro := h.gnro, glt := h.glt, rolt := h.rolt, sz := h.sz, env := ?_, par := WRepL_ren2 L _ _ h.par }
    · rcases hget _ _ hx with ⟨rfl, rfl⟩ | ⟨rfl, e1, rfl⟩ | ⟨e1, e2, h0⟩
      · simpa using k2
      · simpa [e1] using u2
      · simpa [e1, e2] using h.rep x u h0
    · rcases hget _ _ hx with ⟨rfl, rfl⟩ | ⟨rfl, e1, rfl⟩ | ⟨e1, e2, h0⟩
      · simpa using hnd.1.2.1
      · simp only [e1, if_false, if_true, List.append_nil, List.nodup_append]
        exact ⟨hnd.1.1, hnd.2.1, fun x hx y hy => hnd.2.2 x (.inl hx) y hy⟩
      · simpa [e1, e2] using h.nd x u h0
    · rcases hget _ _ hx with ⟨rfl, rfl⟩ | ⟨rfl, e1, rfl⟩ | ⟨e1, e2, h0⟩ <;> rcases hget _ _ hy with ⟨rfl, rfl⟩ | ⟨rfl, e3, rfl⟩ | ⟨e3, e4, h1⟩
      · exact absurd rfl hxy
      · simp only [if_true] at hz
        simp only [e3, if_false, if_true]
        exact fun hz2 => hdis z hz2 hz
      · simp only [if_true] at hz
        simp only [e3, e4, if_false]
        exact h.dis r t y v hr h1 (Ne.symm e4) z (hFo z hz)
      · simp only [e1, if_false, if_true] at hz
        simp only [if_true]
        exact hdis z hz
      · exact absurd rfl hxy
      · simp only [e1, if_false, if_true] at hz
        simp only [e3, e4, if_false]
        exact h.dis _ t y v hr h1 (Ne.symm e4) z (hrem z hz)
      · simp only [e1, e2, if_false] at hz
        simp only [if_true]
        exact fun hz2 => h.dis x u r t h0 hr e2 z hz (hFo z hz2)
      · simp only [e1, e2, if_false] at hz
        simp only [e3, if_false, if_true]
        exact fun hz2 => h.dis x u _ t h0 hr e2 z hz (hrem z hz2)
      · simp only [e1, e2, if_false] at hz
        simp only [e3, e4, if_false]
        exact h.dis x u y v h0 h1 hxy z hz
    · rcases hget _ _ hx with ⟨rfl, rfl⟩ | ⟨rfl, e1, rfl⟩ | ⟨e1, e2, h0⟩
      · simp only [if_true] at hz; exact h.nro r t hr z (hFo z hz)
      · simp only [e1, if_false, if_true] at hz; exact h.nro _ t hr z (hrem z hz)
      · simp only [e1, e2, if_false] at hz; exact h.nro x u h0 z hz
    · rcases hget _ _ hx with ⟨rfl, rfl⟩ | ⟨rfl, e1, rfl⟩ | ⟨e1, e2, h0⟩
      · simp only [if_true] at hz; exact h.gdis r t hr z (hFo z hz)
      · simp only [e1, if_false, if_true] at hz; exact h.gdis _ t hr z (hrem z hz)
      · simp only [e1, e2, if_false] at hz; exact h.gdis x u h0 z hz
    · intro i v hi
      simp only [St.out, get_mapv, Option.map_eq_some_iff] at hi
      obtain ⟨u, hu2, rfl⟩ := hi
      obtain ⟨x, h1, h2⟩ := h.env i u hu2
      exact ⟨x, h1, VRep_ren2 L u x h2⟩
  · intro z ⟨x, u, hx, hz⟩
    rcases hget _ _ hx with ⟨rfl, rfl⟩ | ⟨rfl, e1, rfl⟩ | ⟨e1, e2, h0⟩
    · simp only [if_true] at hz; exact ⟨r, t, hr, hFo z hz⟩
    · simp only [e1, if_false, if_true] at hz; exact ⟨_, t, hr, hrem z hz⟩
    · simp only [e1, e2, if_false] at hz; exact ⟨x, u, h0, hz⟩
def oHs : Option (List Nat) → Nat → Nat → List Nat → Nat → Nat → Nat → H
  | some s, b, _, _, off, st, n => .hs b s off st n
  | none, _, r, p, off, st, n => .hs r p off st n
def oHp : Option (List Nat) → Nat → Nat → List Nat → Nat → H
  | some s, b, _, _, off => .hp b s off
  | none, _, r, p, off => .hp r p off
theorem out_hs {r b x off st n : Nat} {q p : List Nat} : renH (outRn r q b) (.hs x p off st n) = if x = r then oHs (strip q p) b x p off st n else if x = b then .un else .hs x p off st n := by
  simp only [renH, outRn]
  by_cases h : x = r
  · simp only [h, if_true]; cases strip q p <;> rfl
  · by_cases h2 : x = b
    · subst h2; simp [h]
    · simp [h, h2]
theorem out_hp {r b x off : Nat} {q p : List Nat} : renH (outRn r q b) (.hp x p off) = if x = r then oHp (strip q p) b x p off else if x = b then .un else .hp x p off := by
  simp only [renH, outRn]
  by_cases h : x = r
  · simp only [h, if_true]; cases strip q p <;> rfl
  · by_cases h2 : x = b
    · subst h2; simp [h]
    · simp [h, h2]
theorem out_st {s : St} {r b : Nat} {q : List Nat} {o t2 : T} : s.out r q b o t2 = ⟨mapv (renV (outRn r q b)) s.env, (b, o) :: (r, t2) :: s.roots, s.par.map (renW (outRn r q b))⟩ := rfl
attribute [go_sem] out_hs out_hp oHs oHp strip out_st
end Go.Proofs.YtdhclelfnbjikaaT

/- Trees: what is one's own is read alone from then on. No condition. -/
set_option linter.unusedVariables false
set_option linter.unusedSimpArgs false
set_option linter.unusedSectionVars false
namespace Go.Proofs.YtdhclelfnbjikaaT
open Go

theorem RepL.more {w : World} {ro ro' : Nat → Prop} (hr : ∀ b, ro b → ro' b) {b o : Nat} {cs : List T} {F : List Nat} (h : RepL w ro b o cs F) (hb : b ∈ F ∨ ro b ∨ cs = []) : RepL w ro' b o cs F := by
  rcases hb with hb | hb | rfl
  · exact RepL.same (G := F) (fun _ _ => rfl) hr (Nat.le_refl _) b o cs F h (fun _ h => h) (.inl hb)
  · exact RepL.same (G := F) (fun _ _ => rfl) hr (Nat.le_refl _) b o cs F h (fun _ h => h) (.inr hb)
  · simpa only [RepL] using h
theorem Rep.more {w : World} {ro ro' : Nat → Prop} (hr : ∀ b, ro b → ro' b) {t : T} {v : Value} {F : List Nat} (h : Rep w ro t v F) : Rep w ro' t v F :=
  Rep.same (G := F) (fun _ _ => rfl) hr (Nat.le_refl _) t v F h fun _ h => h
theorem RepL.mores {w : World} {ro ro' : Nat → Prop} (hr : ∀ b, ro b → ro' b) {b : Nat} : ∀ {cs : List T} {o : Nat} {F : List Nat}, RepL w ro b o cs F → RepL w ro' b o cs F
  | [], o, F, h => by simpa only [RepL] using h
  | c :: cs, o, F, h => by
    simp only [RepL] at h ⊢
    obtain ⟨v, F1, F2, h1, h2, h3, rfl⟩ := h
    exact ⟨v, F1, F2, h1, Rep.more hr h2, RepL.mores hr h3, rfl⟩
theorem Blk.more {w : World} {ro ro' : Nat → Prop} (hr : ∀ b, ro b → ro' b) {own : Bool} {b o ext : Nat} {F F' : List Nat} (h : Blk w ro own b o ext F F') : Blk w ro' own b o ext F F' := by
  unfold Blk at h ⊢
  cases own
  · simp only [Bool.false_eq_true, if_false] at h ⊢; exact ⟨h.1, h.2.1, h.2.2.1, hr _ h.2.2.2⟩
  · simpa using h
theorem RepL.atR {w : World} {ro : Nat → Prop} {b : Nat} : ∀ (cs : List T) (o : Nat) (F : List Nat) (j : Nat) (t : T), RepL w ro b o cs F → cs[j]? = some t →
    ∃ v pre Fj post, w.cell? ⟨b, o + j, none⟩ = some v ∧ Rep w ro t v Fj ∧ F = pre ++ Fj ++ post ∧ ∀ (ro' : Nat → Prop) t' F', (∀ b, ro b → ro' b) → Rep w ro' t' v F' → RepL w ro' b o (cs.set j t') (pre ++ F' ++ post)
  | [], o, F, j, t, h, hj => by simp at hj
  | c :: cs, o, F, 0, t, h, hj => by
    simp at hj; subst hj
    simp only [RepL] at h
    obtain ⟨v, F1, F2, h1, h2, h3, rfl⟩ := h
    refine ⟨v, [], F1, F2, by simpa using h1, h2, by simp, fun ro' t' F' hr h' => ?_⟩
    simp only [List.set_cons_zero, RepL]
    exact ⟨v, F', F2, h1, h', RepL.mores hr h3, by simp⟩
  | c :: cs, o, F, j + 1, t, h, hj => by
    simp at hj
    simp only [RepL] at h
    obtain ⟨v, F1, F2, h1, h2, h3, rfl⟩ := h
    obtain ⟨v', pre, Fj, post, g1, g2, rfl, g4⟩ := RepL.atR cs (o + 1) F2 j t h3 hj
    refine ⟨v', F1 ++ pre, Fj, post, by rw [← g1]; congr 2; omega, g2, by simp, fun ro' t' F' hr h' => ?_⟩
    simp only [List.set_cons_succ, RepL]
    exact ⟨v, F1, pre ++ F' ++ post, h1, Rep.more hr h2, g4 ro' t' F' hr h', by simp⟩
theorem rep_subR {w : World} {ro : Nat → Prop} : ∀ (p : List Nat) (t t' : T) (v : Value) (F : List Nat), Rep w ro t v F → sub t p = some t' →
    ∃ v' pre F' post, walk w v p = some v' ∧ Rep w ro t' v' F' ∧ F = pre ++ F' ++ post ∧ ((upd t' t p).isSome → ∀ (ro' : Nat → Prop) t'' F'', (∀ b, ro b → ro' b) → Rep w ro' t'' v' F'' → ∃ t2, upd t'' t p = some t2 ∧ Rep w ro' t2 v (pre ++ F'' ++ post))
  | [], t, t', v, F, h, hs => by
    cases t <;> (simp only [sub, Option.some.injEq] at hs; subst hs; exact ⟨v, [], F, [], rfl, h, by simp, fun _ ro' t'' F'' _ h' => ⟨t'', rfl, by simpa using h'⟩⟩)
  | j :: p, .sl own st n cs, t', v, F, h, hs => by
    simp only [sub] at hs
    obtain ⟨c, hc, hs⟩ := Option.bind_eq_some_iff.1 hs
    simp only [Rep] at h
    rcases h with ⟨_, rfl, _⟩ | ⟨b, o, cap, F', rfl, h2, h3, h4, h5⟩
    · simp at hc
    obtain ⟨vc, pre, Fj, post, g1, g2, rfl, g4⟩ := RepL.atR cs o F' j c h5 hc
    obtain ⟨v', pre', F', post', k1, k2, rfl, k4⟩ := rep_subR p c t' vc Fj g2 hs
    cases own with
    | false =>
      have hB := h4
      simp only [Blk, Bool.false_eq_true, if_false] at hB
      obtain ⟨_, rfl, hn, _⟩ := hB
      simp only [List.append_eq_nil_iff] at hn
      obtain ⟨⟨rfl, ⟨rfl, rfl⟩, rfl⟩, rfl⟩ := hn
      exact ⟨v', [], [], [], by simp [walk, g1, k1], k2, rfl, fun hu => by simp [upd] at hu⟩
    | true =>
      have hB := h4
      simp only [Blk, if_true] at hB
      obtain ⟨hlt, rfl, hrest⟩ := hB
      refine ⟨v', b :: (pre ++ pre'), F', post' ++ post, by simp [walk, g1, k1], k2, by simp, fun hu ro' t'' F'' hr h' => ?_⟩
      simp only [upd, hc, Option.bind_some, Option.isSome_map] at hu
      obtain ⟨c2, e2, r2⟩ := k4 hu ro' t'' F'' hr h'
      refine ⟨.sl true st n (cs.set j c2), by simp [upd, hc, e2], ?_⟩
      simp only [Rep]
      refine .inr ⟨b, o, cap, pre ++ (pre' ++ F'' ++ post') ++ post, rfl, h2, by simpa using h3, ?_, g4 ro' c2 _ hr r2⟩
      simp only [Blk, if_true]
      exact ⟨hlt, by simp, hrest⟩
  | j :: p, .bx own cs, t', v, F, h, hs => by
    simp only [sub] at hs
    obtain ⟨c, hc, hs⟩ := Option.bind_eq_some_iff.1 hs
    simp only [Rep] at h
    obtain ⟨b, o, F', rfl, h4, h5⟩ := h
    obtain ⟨vc, pre, Fj, post, g1, g2, rfl, g4⟩ := RepL.atR cs o F' j c h5 hc
    obtain ⟨v', pre', F', post', k1, k2, rfl, k4⟩ := rep_subR p c t' vc Fj g2 hs
    cases own with
    | false =>
      have hB := h4
      simp only [Blk, Bool.false_eq_true, if_false] at hB
      obtain ⟨_, rfl, hn, _⟩ := hB
      simp only [List.append_eq_nil_iff] at hn
      obtain ⟨⟨rfl, ⟨rfl, rfl⟩, rfl⟩, rfl⟩ := hn
      exact ⟨v', [], [], [], by simp [walk, g1, k1], k2, rfl, fun hu => by simp [upd] at hu⟩
    | true =>
      have hB := h4
      simp only [Blk, if_true] at hB
      obtain ⟨hlt, rfl, hrest⟩ := hB
      refine ⟨v', b :: (pre ++ pre'), F', post' ++ post, by simp [walk, g1, k1], k2, by simp, fun hu ro' t'' F'' hr h' => ?_⟩
      simp only [upd, hc, Option.bind_some, Option.isSome_map] at hu
      obtain ⟨c2, e2, r2⟩ := k4 hu ro' t'' F'' hr h'
      refine ⟨.bx true (cs.set j c2), by simp [upd, hc, e2], ?_⟩
      simp only [Rep]
      refine ⟨b, o, pre ++ (pre' ++ F'' ++ post') ++ post, rfl, ?_, g4 ro' c2 _ hr r2⟩
      simp only [Blk, if_true, List.length_set]
      exact ⟨hlt, by simp, hrest⟩
  | _ :: _, .int _ _, _, _, _, _, hs => by simp [sub] at hs
  | _ :: _, .bool _, _, _, _, _, hs => by simp [sub] at hs
  | _ :: _, .str _, _, _, _, _, hs => by simp [sub] at hs
  | _ :: _, .nptr, _, _, _, _, hs => by simp [sub] at hs
  | _ :: _, .fn _ _, _, _, _, _, hs => by simp [sub] at hs
  | _ :: _, .hole, _, _, _, _, hs => by simp [sub] at hs
theorem sub_toRo : ∀ (q : List Nat) (t : T), sub (toRo t) q = (sub t q).map toRo
  | [], t => by cases t <;> simp [sub]
  | j :: q, t => by
    cases t with
    | sl own st n cs =>
      simp only [toRo_sl, sub, List.getElem?_map]
      cases cs[j]? with
      | none => rfl
      | some c => simpa using sub_toRo q c
    | bx own cs =>
      simp only [toRo_bx, sub, List.getElem?_map]
      cases cs[j]? with
      | none => rfl
      | some c => simpa using sub_toRo q c
    | _ => simp [sub]
theorem alike_toRo (x : T) : Alike x (toRo x) := by
  cases x with
  | sl own st n cs => exact ⟨false, cs.map toRo, by simp, by simp⟩
  | _ => intro h; simp_all [isOb]
theorem sub_upd_ro : ∀ (p : List Nat) (t x t2 : T), sub t p = some x → upd (toRo x) t p = some t2 → ∀ (q : List Nat) (y : T), sub t q = some y → ∃ y', sub t2 q = some y' ∧ Alike y y'
  | [], t, x, t2, hs, hu, q, y, hq => by
    have e : t = x := by cases t <;> simpa [sub] using hs
    subst e
    have e2 : t2 = toRo t := by cases t <;> (simp only [upd, Option.some.injEq] at hu; exact hu.symm)
    subst e2
    exact ⟨toRo y, by rw [sub_toRo, hq]; rfl, alike_toRo y⟩
  | j :: p, t, x, t2, hs, hu, q, y, hq => by
    cases t with
    | sl own st n cs =>
      cases own with
      | false => simp [upd] at hu
      | true =>
        simp only [sub] at hs
        obtain ⟨c, hc, hs⟩ := Option.bind_eq_some_iff.1 hs
        simp only [upd, hc, Option.bind_some, Option.map_eq_some_iff] at hu
        obtain ⟨c2, hu, rfl⟩ := hu
        cases q with
        | nil =>
          simp only [sub, Option.some.injEq] at hq
          subst hq
          exact ⟨_, rfl, true, _, rfl, by simp⟩
        | cons k q =>
          simp only [sub] at hq ⊢
          obtain ⟨d, hd, hq⟩ := Option.bind_eq_some_iff.1 hq
          by_cases e : j = k
          · subst e
            rw [hc] at hd
            obtain rfl := Option.some.inj hd
            obtain ⟨y', k1, k2⟩ := sub_upd_ro p c x c2 hs hu q y hq
            exact ⟨y', by rw [List.getElem?_set_self (List.getElem?_eq_some_iff.1 hc).1]; simpa using k1, k2⟩
          · exact ⟨y, by rw [List.getElem?_set_ne e, hd]; simpa using hq, Alike.refl y⟩
    | bx own cs =>
      cases own with
      | false => simp [upd] at hu
      | true =>
        simp only [sub] at hs
        obtain ⟨c, hc, hs⟩ := Option.bind_eq_some_iff.1 hs
        simp only [upd, hc, Option.bind_some, Option.map_eq_some_iff] at hu
        obtain ⟨c2, hu, rfl⟩ := hu
        cases q with
        | nil =>
          simp only [sub, Option.some.injEq] at hq
          subst hq
          exact ⟨_, rfl, fun _ => rfl⟩
        | cons k q =>
          simp only [sub] at hq ⊢
          obtain ⟨d, hd, hq⟩ := Option.bind_eq_some_iff.1 hq
          by_cases e : j = k
          · subst e
            rw [hc] at hd
            obtain rfl := Option.some.inj hd
            obtain ⟨y', k1, k2⟩ := sub_upd_ro p c x c2 hs hu q y hq
            exact ⟨y', by rw [List.getElem?_set_self (List.getElem?_eq_some_iff.1 hc).1]; simpa using k1, k2⟩
          · exact ⟨y, by rw [List.getElem?_set_ne e, hd]; simpa using hq, Alike.refl y⟩
    | _ => simp [sub] at hs
/-- what lies at a way is read alone from then on -/
theorem imp_ro {s : St} (r : Nat) (p : List Nat) {t x t2 : T} (hr : get s.roots r = some t) (hs : sub t p = some x) (hu : upd (toRo x) t p = some t2) : Imp s ⟨s.env, (r, t2) :: s.roots, s.par⟩ := by
  intro nt w ro tm args hv F h
  obtain ⟨v0, pre, Fo, post, k1, k2, k7, k8⟩ := rep_subR p t x (hv r) (F r) (h.rep r t hr) hs
  have hFo : ∀ y ∈ Fo, y ∈ F r := fun y hy => by rw [k7]; simp [hy]
  have hrem : ∀ y ∈ pre ++ post, y ∈ F r := fun y hy => by
    rw [k7]; simp only [List.mem_append] at hy ⊢; exact hy.elim (fun h => .inl (.inl h)) .inr
  have hnd := h.nd r t hr
  rw [k7] at hnd
  simp only [List.nodup_append, List.mem_append] at hnd
  have hdis : ∀ y ∈ pre ++ post, y ∉ Fo := fun y hy hy2 => by
    simp only [List.mem_append] at hy
    rcases hy with hy | hy
    · exact hnd.1.2.2 y hy y hy2 rfl
    · exact hnd.2.2 y (.inr hy2) y hy rfl
  have hsub : ∀ b, ro b → (ro b ∨ b ∈ Fo) := fun b hb => .inl hb
  have hro := Rep.toRo (ro' := fun b => ro b ∨ b ∈ Fo) hsub x v0 Fo k2 (fun b hb => .inr hb)
  obtain ⟨t3, u1, u2⟩ := k8 (upd_some _ _ _ _ _ hu) _ (toRo x) [] hsub hro
  rw [hu] at u1; obtain rfl := Option.some.inj u1
  rw [List.append_nil] at u2
  have hget : ∀ y u, get ((r, t2) :: s.roots) y = some u → (y = r ∧ u = t2) ∨ (y ≠ r ∧ get s.roots y = some u) := by
    intro y u h'
    simp only [get] at h'
    split at h'
    · rename_i e; exact .inl ⟨e.symm, (Option.some.inj h').symm⟩
    · rename_i e; exact .inr ⟨fun e2 => e e2.symm, h'⟩
  have L : Leads idRen w s.roots hv w ((r, t2) :: s.roots) hv := by
    intro r1 q r2 q' e
    simp only [idRen, Option.some.injEq, Prod.mk.injEq] at e
    obtain ⟨rfl, rfl⟩ := e
    refine ⟨fun hp => ⟨hp, rfl⟩, fun t' ht' => ?_⟩
    rcases hget _ _ ht' with ⟨rfl, rfl⟩ | ⟨hne, ht'⟩
    · refine ⟨t, hr, fun y hy ho => ?_⟩
      obtain ⟨y', e4, e5⟩ := sub_upd_ro p t x t' hs hu q y hy
      exact ⟨y', e4, e5, fun g hg => hg⟩
    · exact ⟨t', ht', fun y hy ho => ⟨y, hy, Alike.refl y, fun g hg => hg⟩⟩
  have key := Inv.move (ro' := fun b => ro b ∨ b ∈ Fo) (F' := fun y => if y = r then pre ++ post else F y) (G' := []) h L (fun y u hy => ?_) (fun y u hy => ?_) (fun y u z v hy hz hne => ?_) (fun y u hy => ?_) List.nodup_nil (fun y u hy => by simp) (by simp) (by simp) (fun b hb => ?_)
  · rw [mapv_id, show s.par.map (renW idRen) = s.par from by rw [show (renW idRen) = id from funext renW_id, List.map_id]] at key
    refine ⟨_, hv, _, key, fun b ⟨y, u, hy, hb⟩ => ?_, hsub, fun b hb => hb.imp id fun hb => ⟨r, t, hr, hFo b hb⟩⟩
    rcases hget _ _ hy with ⟨rfl, rfl⟩ | ⟨hne, hy⟩
    · simp only [if_true] at hb; exact ⟨_, t, hr, hrem b hb⟩
    · simp only [hne, if_false] at hb; exact ⟨y, u, hy, hb⟩
  · rcases hget _ _ hy with ⟨rfl, rfl⟩ | ⟨hne, hy⟩
    · simpa using u2
    · simp only [hne, if_false]; exact Rep.more hsub (h.rep y u hy)
  · rcases hget _ _ hy with ⟨rfl, rfl⟩ | ⟨hne, hy⟩
    · simp only [if_true, List.nodup_append]
      exact ⟨hnd.1.1, hnd.2.1, fun a ha b hb => hnd.2.2 a (.inl ha) b hb⟩
    · simp only [hne, if_false]; exact h.nd y u hy
  · rcases hget _ _ hy with ⟨ey, eu⟩ | ⟨hy1, hy'⟩ <;> rcases hget _ _ hz with ⟨ez, ev⟩ | ⟨hz1, hz'⟩
    · exact absurd (ey.trans ez.symm) hne
    · simp only [ey, if_true, hz1, if_false]; exact fun b hb => h.dis r t z v hr hz' (Ne.symm hz1) b (hrem b hb)
    · simp only [ez, hy1, if_false, if_true]; exact fun b hb hb2 => h.dis y u r t hy' hr hy1 b hb (hrem b hb2)
    · simp only [hy1, hz1, if_false]; exact h.dis y u z v hy' hz' hne
  · rcases hget _ _ hy with ⟨rfl, rfl⟩ | ⟨hne, hy⟩
    · simp only [if_true]; exact fun b hb hb2 => hb2.elim (h.nro _ t hr b (hrem b hb)) (hdis b hb)
    · simp only [hne, if_false]; exact fun b hb hb2 => hb2.elim (h.nro y u hy b hb) (fun hb2 => h.dis y u r t hy hr hne b hb (hFo b hb2))
  · exact hb.elim (h.rolt b) (fun hb => Rep.lt t (hv r) (F r) (h.rep r t hr) b (hFo b hb))
end Go.Proofs.YtdhclelfnbjikaaT

/- Trees: all cells of a row are read alone from then on. No condition. -/
set_option linter.unusedVariables false
set_option linter.unusedSimpArgs false
set_option linter.unusedSectionVars false
namespace Go.Proofs.YtdhclelfnbjikaaT
open Go

theorem upd_to : ∀ (p : List Nat) (t x y x2 : T) (j : Nat) (t2 : T), sub t p = some x → upd y x [j] = some x2 → upd x2 t p = some t2 → upd y t (p ++ [j]) = some t2
  | [], t, x, y, x2, j, t2, hs, h1, h2 => by
    obtain rfl : t = x := by cases t <;> simpa [sub] using hs
    have : x2 = t2 := by cases t <;> simpa [upd] using h2
    subst this; simpa using h1
  | i :: p, t, x, y, x2, j, t2, hs, h1, h2 => by
    cases t with
    | sl own st n cs =>
      cases own with
      | false => simp [upd] at h2
      | true =>
        simp only [sub] at hs
        obtain ⟨c, hc, hs⟩ := Option.bind_eq_some_iff.1 hs
        simp only [upd, hc, Option.bind_some, Option.map_eq_some_iff] at h2
        obtain ⟨c2, h2, rfl⟩ := h2
        simp [upd, hc, upd_to p c x y x2 j c2 hs h1 h2]
    | bx own cs =>
      cases own with
      | false => simp [upd] at h2
      | true =>
        simp only [sub] at hs
        obtain ⟨c, hc, hs⟩ := Option.bind_eq_some_iff.1 hs
        simp only [upd, hc, Option.bind_some, Option.map_eq_some_iff] at h2
        obtain ⟨c2, h2, rfl⟩ := h2
        simp [upd, hc, upd_to p c x y x2 j c2 hs h1 h2]
    | _ => simp [sub] at hs
theorem sub_updS : ∀ (p : List Nat) (t y t2 : T), upd y t p = some t2 → sub t2 p = some y
  | [], t, y, t2, hu => by
    have : y = t2 := by cases t <;> simpa [upd] using hu
    subst this; cases y <;> rfl
  | i :: p, t, y, t2, hu => by
    cases t with
    | sl own st n cs =>
      cases own with
      | false => simp [upd] at hu
      | true =>
        simp only [upd] at hu
        obtain ⟨c, hc, hu1⟩ := Option.bind_eq_some_iff.1 hu
        simp only [Option.map_eq_some_iff] at hu1
        obtain ⟨c2, hu2, rfl⟩ := hu1
        simp only [sub]
        rw [List.getElem?_set_self (List.getElem?_eq_some_iff.1 hc).1]
        exact sub_updS p c y c2 hu2
    | bx own cs =>
      cases own with
      | false => simp [upd] at hu
      | true =>
        simp only [upd] at hu
        obtain ⟨c, hc, hu1⟩ := Option.bind_eq_some_iff.1 hu
        simp only [Option.map_eq_some_iff] at hu1
        obtain ⟨c2, hu2, rfl⟩ := hu1
        simp only [sub]
        rw [List.getElem?_set_self (List.getElem?_eq_some_iff.1 hc).1]
        exact sub_updS p c y c2 hu2
    | _ => simp [upd] at hu
theorem upd_updS : ∀ (p : List Nat) (t y z t2 : T), upd y t p = some t2 → upd z t2 p = upd z t p
  | [], t, y, z, t2, hu => by cases t2 <;> cases t <;> simp [upd]
  | i :: p, t, y, z, t2, hu => by
    cases t with
    | sl own st n cs =>
      cases own with
      | false => simp [upd] at hu
      | true =>
        simp only [upd] at hu
        obtain ⟨c, hc, hu1⟩ := Option.bind_eq_some_iff.1 hu
        simp only [Option.map_eq_some_iff] at hu1
        obtain ⟨c2, hu2, rfl⟩ := hu1
        simp only [upd, hc]
        rw [List.getElem?_set_self (List.getElem?_eq_some_iff.1 hc).1]
        simp [upd_updS p c y z c2 hu2, List.set_set]
    | bx own cs =>
      cases own with
      | false => simp [upd] at hu
      | true =>
        simp only [upd] at hu
        obtain ⟨c, hc, hu1⟩ := Option.bind_eq_some_iff.1 hu
        simp only [Option.map_eq_some_iff] at hu1
        obtain ⟨c2, hu2, rfl⟩ := hu1
        simp only [upd, hc]
        rw [List.getElem?_set_self (List.getElem?_eq_some_iff.1 hc).1]
        simp [upd_updS p c y z c2 hu2, List.set_set]
    | _ => simp [upd] at hu
theorem upd_self : ∀ (p : List Nat) (t x y t2 : T), sub t p = some x → upd y t p = some t2 → upd x t p = some t
  | [], t, x, y, t2, hs, hu => by
    obtain rfl : t = x := by cases t <;> simpa [sub] using hs
    cases t <;> rfl
  | i :: p, t, x, y, t2, hs, hu => by
    have key : ∀ {cs : List T} {c : T}, cs[i]? = some c → cs.set i c = cs := fun {cs c} hc => by
      apply List.ext_getElem?
      intro k
      rw [List.getElem?_set]
      split
      · rename_i e; subst e
        rw [if_pos (List.getElem?_eq_some_iff.1 hc).1, hc]
      · rfl
    cases t with
    | sl own st n cs =>
      cases own with
      | false => simp [upd] at hu
      | true =>
        simp only [sub] at hs
        obtain ⟨c, hc, hs⟩ := Option.bind_eq_some_iff.1 hs
        simp only [upd, hc, Option.bind_some, Option.map_eq_some_iff] at hu
        obtain ⟨c2, hu, rfl⟩ := hu
        simp [upd, hc, upd_self p c x y c2 hs hu, key hc]
    | bx own cs =>
      cases own with
      | false => simp [upd] at hu
      | true =>
        simp only [sub] at hs
        obtain ⟨c, hc, hs⟩ := Option.bind_eq_some_iff.1 hs
        simp only [upd, hc, Option.bind_some, Option.map_eq_some_iff] at hu
        obtain ⟨c2, hu, rfl⟩ := hu
        simp [upd, hc, upd_self p c x y c2 hs hu, key hc]
    | _ => simp [sub] at hs
theorem imp_ros1 {r : Nat} {p : List Nat} {st n : Nat} : ∀ (cs2 cs1 : List T) (s : St) (t t2 : T), get s.roots r = some t → sub t p = some (.sl true st n (cs1.map toRo ++ cs2)) → upd (.sl true st n ((cs1 ++ cs2).map toRo)) t p = some t2 → Imp s ⟨s.env, (r, t2) :: s.roots, s.par⟩
  | [], cs1, s, t, t2, hr, hs, hu => by
    simp only [List.append_nil] at hs hu
    have e := upd_self p t _ _ t2 hs hu
    rw [hu] at e
    obtain rfl := Option.some.inj e
    refine imp_get (fun _ _ h => h) (fun q u h => ?_) rfl
    simp only [get] at h
    split at h
    · rename_i e; subst e; rw [hr]; exact h
    · exact h
  | c :: cs2, cs1, s, t, t2, hr, hs, hu => by
    have hj : (cs1.map toRo ++ c :: cs2)[cs1.length]? = some c := by rw [List.getElem?_append_right (by simp)]; simp
    have hset : (cs1.map toRo ++ c :: cs2).set cs1.length (toRo c) = cs1.map toRo ++ toRo c :: cs2 := by
      rw [List.set_append_right _ _ (by simp)]; simp
    have h1 : upd (toRo c) (.sl true st n (cs1.map toRo ++ c :: cs2)) [cs1.length] = some (.sl true st n ((cs1 ++ [c]).map toRo ++ cs2)) := by
      simp only [upd, hj, Option.bind_some]
      simp [hset]
    obtain ⟨t3, h2⟩ := Option.isSome_iff_exists.1 (upd_some p t _ (.sl true st n ((cs1 ++ [c]).map toRo ++ cs2)) t2 hu)
    have h3 := upd_to p t _ (toRo c) _ cs1.length t3 hs h1 h2
    have hsj : sub t (p ++ [cs1.length]) = some c := by
      rw [sub_snoc, hs]; simp only [Option.bind_some, sub, hj]
    have k := imp_ro (s := s) r (p ++ [cs1.length]) hr hsj h3
    have h4 := sub_updS p t _ t3 h2
    have k2 := imp_ros1 cs2 (cs1 ++ [c]) ⟨s.env, (r, t3) :: s.roots, s.par⟩ t3 t2 (show get ((r, t3) :: s.roots) r = some t3 from by simp [get]) h4 (by rw [upd_updS p t _ _ t3 h2]; simpa using hu)
    refine (k.trans k2).trans (imp_get (fun _ _ h => h) (fun q u h => ?_) rfl)
    simp only [get] at h ⊢
    by_cases e : r = q
    · simpa [e] using h
    · simpa [e] using h
/-- the cells of a row are read alone from then on; the row itself stays one's own -/
theorem imp_ros {s : St} (r : Nat) (p : List Nat) {t t2 : T} {st n : Nat} {cs : List T} (hr : get s.roots r = some t) (hs : sub t p = some (.sl true st n cs)) (hu : upd (.sl true st n (cs.map toRo)) t p = some t2) : Imp s ⟨s.env, (r, t2) :: s.roots, s.par⟩ :=
  imp_ros1 cs [] s t t2 hr (by simpa using hs) (by simpa using hu)
end Go.Proofs.YtdhclelfnbjikaaT

/- Trees: a region in any order, its operations told in another order. No condition. -/
set_option linter.unusedVariables false
set_option linter.unusedSimpArgs false
set_option linter.unusedSectionVars false
namespace Go.Proofs.YtdhclelfnbjikaaT
open Go

section
variable {P : Program} {es : List (List Nat)} {gs : List Gop} {π : List Nat}
end
end Go.Proofs.YtdhclelfnbjikaaT
