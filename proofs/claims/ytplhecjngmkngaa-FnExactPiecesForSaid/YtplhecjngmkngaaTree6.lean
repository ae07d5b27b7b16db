/- A program's values as trees, and its code as steps on them. No condition. -/
import Derived.Test.YtplhecjngmkngaaTree5
import Derived.Laws.AppendOwn
import Derived.Below
import Derived.Test.YtplhecjngmkngaaTree1
import Derived.ChangeArms
import Derived.Deep.Slices
import Derived.DataReads
import Derived.Lib.SmallJoins
set_option linter.all false
set_option linter.unusedVariables false
set_option linter.unusedSimpArgs false
set_option linter.unusedSectionVars false
set_option linter.unnecessarySimpa false
set_option linter.deprecated false
/- Trees: operations that only add: what they yield, the roots that they make. No condition. -/
set_option linter.unusedVariables false
set_option linter.unusedSimpArgs false
namespace Go.Proofs.YtplhecjngmkngaaT
open Go

mutual
theorem cellT_mono {l l' : List (Nat × T)} (hl : ∀ r t, get l r = some t → get l' r = some t) : ∀ {h : H} {t : T}, CellT l h t → CellT l' h t
  | _, _, .int => .int
  | _, _, .bool => .bool
  | _, _, .str => .str
  | _, _, .nptr => .nptr
  | _, _, .nil => .nil
  | _, _, .ro h1 h2 => .ro (hl _ _ h1) h2
  | _, _, .roBx h1 h2 => .roBx (hl _ _ h1) h2
  | _, _, .fn h => .fn (cellTL_mono hl h)
theorem cellTL_mono {l l' : List (Nat × T)} (hl : ∀ r t, get l r = some t → get l' r = some t) : ∀ {hs : List H} {ts : List T}, CellTL l hs ts → CellTL l' hs ts
  | _, _, .nil => .nil
  | _, _, .cons h1 h2 => .cons (cellT_mono hl h1) (cellTL_mono hl h2)
end
mutual
theorem lookT_mono {A : Bool} {l l' : List (Nat × T)} (hl : ∀ r t, get l r = some t → get l' r = some t) : ∀ {h : H} {t : T}, LookT A l h t → LookT A l' h t
  | _, _, .int => .int
  | _, _, .bool => .bool
  | _, _, .str => .str
  | _, _, .nptr => .nptr
  | _, _, .nil => .nil
  | _, _, .ro h1 h2 => .ro (hl _ _ h1) h2
  | _, _, .roBx h1 h2 => .roBx (hl _ _ h1) h2
  | _, _, .own h0 h1 h2 => .own h0 (hl _ _ h1) h2
  | _, _, .ownBx h0 h1 h2 => .ownBx h0 (hl _ _ h1) h2
  | _, _, .fn h => .fn (lookTL_mono hl h)
theorem lookTL_mono {A : Bool} {l l' : List (Nat × T)} (hl : ∀ r t, get l r = some t → get l' r = some t) : ∀ {hs : List H} {ts : List T}, LookTL A l hs ts → LookTL A l' hs ts
  | _, _, .nil => .nil
  | _, _, .cons h1 h2 => .cons (lookT_mono hl h1) (lookTL_mono hl h2)
end

/-- what is appended, nothing taken -/
inductive SrcA (st : Nat) (roots : List (Nat × T)) : V → Nat → List T → Prop
  | text {b : ByteArray} : st = 1 → SrcA st roots (.w (.one (.str b))) b.size (b.data.toList.map fun c : UInt8 => T.int .u8 c.toNat)
  | nil : SrcA st roots (.w (.one .nil)) 0 []
  | ro {r p off m t n0 cs} : get roots r = some t → sub t p = some (.sl false st n0 cs) → ((cs.drop off).take (m * st)).all noHole = true → SrcA st roots (.w (.one (.hs r p off st m))) m ((cs.drop off).take (m * st))
  | flat {r p off m t own n0 cs} : get roots r = some t → sub t p = some (.sl own st n0 cs) → ((cs.drop off).take (m * st)).all flatT = true → SrcA st roots (.w (.one (.hs r p off st m))) m ((cs.drop off).take (m * st))
theorem srcA_mono {st : Nat} {l l' : List (Nat × T)} (hl : ∀ r t, get l r = some t → get l' r = some t) {v : V} {m : Nat} {ts : List T} (h : SrcA st l v m ts) : SrcA st l' v m ts := by
  cases h with
  | text h => exact .text h
  | nil => exact .nil
  | ro h1 h2 h3 => exact .ro (hl _ _ h1) h2 h3
  | flat h1 h2 h3 => exact .flat (hl _ _ h1) h2 h3
theorem srcA_src {st : Nat} {z : St} {v : V} {m : Nat} {ts : List T} (h : SrcA st z.roots v m ts) : SrcT st z v m ts z := by
  cases h with
  | text h => exact .text h
  | nil => exact .nil
  | ro h1 h2 h3 => exact .ro h1 h2 h3
  | flat h1 h2 h3 => exact .flat h1 h2 h3

/-- results told; the new roots, the last first -/
inductive BringA : List T → List H → List (Nat × T) → Prop
  | nil : BringA [] [] []
  | int {k n ts gs rs} : BringA ts gs rs → BringA (.int k n :: ts) (.int k n :: gs) rs
  | bool {b ts gs rs} : BringA ts gs rs → BringA (.bool b :: ts) (.bool b :: gs) rs
  | str {b ts gs rs} : BringA ts gs rs → BringA (.str b :: ts) (.str b :: gs) rs
  | nptr {ts gs rs} : BringA ts gs rs → BringA (.nptr :: ts) (.nptr :: gs) rs
  | nil0 {own ts gs rs} : BringA ts gs rs → BringA (.sl own 0 0 [] :: ts) (.nil :: gs) rs
  | sl {r own st n cs ts gs rs} : BringA ts gs rs → BringA (.sl own st n cs :: ts) (.hs r [] 0 st n :: gs) (rs ++ [(r, .sl own st n cs)])
  | bx {r own cs ts gs rs} : BringA ts gs rs → BringA (.bx own cs :: ts) (.hp r [] 0 :: gs) (rs ++ [(r, .bx own cs)])

/-- the new roots are new, one and all -/
def freshA (s : St) : List (Nat × T) → Prop
  | [] => True
  | (r, _) :: rs => fresh s r = true ∧ (∀ q ∈ rs, q.1 ≠ r) ∧ freshA s rs
theorem freshA_append {s : St} : ∀ {rs qs : List (Nat × T)}, freshA s (rs ++ qs) → freshA s rs ∧ freshA s qs ∧ ∀ x ∈ rs, ∀ y ∈ qs, y.1 ≠ x.1
  | [], qs, h => ⟨trivial, h, by simp⟩
  | (r, t) :: rs, qs, ⟨h1, h2, h3⟩ => by
    obtain ⟨k1, k2, k3⟩ := freshA_append h3
    refine ⟨⟨h1, fun q hq => h2 q (by simp [hq]), k1⟩, k2, fun x hx y hy => ?_⟩
    rcases List.mem_cons.1 hx with rfl | hx
    · exact h2 y (by simp [hy])
    · exact k3 x hx y hy
theorem fresh_more {s : St} {r q : Nat} {t : T} (h : fresh s r = true) (hne : q ≠ r) : fresh (s.new q t) r = true := by
  simp only [fresh, St.new, get_set, if_neg hne] at h ⊢
  exact h
theorem freshA_new {s : St} {q : Nat} {t : T} : ∀ {rs : List (Nat × T)}, freshA s rs → (∀ x ∈ rs, x.1 ≠ q) → freshA (s.new q t) rs
  | [], _, _ => trivial
  | (r, u) :: rs, ⟨h1, h2, h3⟩, hne => ⟨fresh_more h1 (Ne.symm (hne (r, u) (by simp))), h2, freshA_new h3 (fun x hx => hne x (by simp [hx]))⟩
theorem bringA_ok : ∀ {ts : List T} {gs : List H} {rs : List (Nat × T)}, BringA ts gs rs → ∀ {s : St}, freshA s rs → Bring s ts gs ⟨s.env, rs ++ s.roots, s.par⟩ := by
  intro ts gs rs h
  induction h with
  | nil => intro s _; exact .nil _
  | int _ ih => intro s hf; exact .int (ih hf)
  | bool _ ih => intro s hf; exact .bool (ih hf)
  | str _ ih => intro s hf; exact .str (ih hf)
  | nptr _ ih => intro s hf; exact .nptr (ih hf)
  | nil0 _ ih => intro s hf; exact .nil0 (ih hf)
  | sl _ ih =>
    rename_i r own st n cs ts gs rs _
    intro s hf
    obtain ⟨h1, ⟨h2, _, _⟩, h3⟩ := freshA_append hf
    have := ih (s := s.new r (.sl own st n cs)) (freshA_new h1 fun x hx e => h3 x hx _ (List.mem_singleton.2 rfl) e.symm)
    refine .sl h2 ?_
    simpa [St.new, set] using this
  | bx _ ih =>
    rename_i r own cs ts gs rs _
    intro s hf
    obtain ⟨h1, ⟨h2, _, _⟩, h3⟩ := freshA_append hf
    have := ih (s := s.new r (.bx own cs)) (freshA_new h1 fun x hx e => h3 x hx _ (List.mem_singleton.2 rfl) e.symm)
    refine .bx h2 ?_
    simpa [St.new, set] using this

/-- operations that only add: what they yield, and new roots -/
inductive OpA (P : Program) : I → St → V → List (Nat × T) → Prop
  | yld {i s v} : Yld i s v → OpA P i s v []
  | alloc {zs ts r s} : CellTL s.roots zs ts → OpA P (.alloc zs) s (.w (.one (.hp r [] 0))) [(r, .bx true ts)]
  | box {x v ts r s} : ev s x = some (.w v) → liveW s.roots v = true → CellTL s.roots v.cells ts → OpA P (.box x) s (.w (.one (.hp r [] 0))) [(r, .bx true ts)]
  | lit {st len z ps vs gs ts r s} : 0 < len → z.length = st ∧ 0 < st → (ps.map fun (i, x) => (i, ev s x)) = (vs.map fun (i, v) => (i, some (V.w v))) → vs.all (fun q => liveW s.roots q.2) = true → litH st len z vs = some gs → gs.length = len * st →
      CellTL s.roots gs ts → OpA P (.lit st len z ps) s (.w (.one (.hs r [] 0 st len))) [(r, .sl true st len ts)]
  | lit0 {st z s} : OpA P (.lit st 0 z []) s (.w (.one .nil)) []
  | make {st z bytes l c n kl kc ts r s} : ev s l = some (.w (.one (.int kl (n : Nat)))) → ev s c = some (.w (.one (.int kc (n : Nat)))) → z.length = st ∧ 0 < st → bytes * n ≤ 281474976710656 → n ≤ 9223372036854775807 → CellTL s.roots z ts →
      OpA P (.make st z bytes l c) s (.w (.one (.hs r [] 0 st n))) [(r, .sl true st n (List.replicate n ts).flatten)]
  | cvb {x b r s} : ev s x = some (.w (.one (.str b))) → OpA P (.cvb x) s (.w (.one (.hs r [] 0 1 b.size))) [(r, .sl true 1 b.size (b.data.toList.map fun c : UInt8 => T.int .u8 c.toNat))]
  | app0 {st bytes z x y v m ts r s} : z.length = st ∧ 0 < st → ev s x = some (.w (.one .nil)) → ev s y = some v → SrcA st s.roots v m ts → m ≤ 9223372036854775807 → m * bytes ≤ 140737488355328 →
      OpA P (.app st bytes z x y) s (.w (.one (.hs r [] 0 st m))) [(r, .sl true st m ts)]
  | call {f xs ws A ts res outs gs rs s} : evs s xs = some (ws.map V.w) → LookTL A s.roots (ws.flatMap W.cells) ts → Meets P f (tws ws ts) res outs → (A = true → noRoL res.cells = true ∧ noRoL (outs.flatMap TW.cells) = true) → shp outs = shp (tws ws ts) → (outs.flatMap TW.cells).length = ts.length →
      BringA res.cells gs rs → OpA P (.call f xs) s (vOf res gs) rs

theorem grab_cells {s : St} : ∀ {gs : List H} {ts : List T}, CellTL s.roots gs ts → Grab s gs ts s
  | _, _, .nil => .nil s
  | _, _, .cons h1 h2 => .cell h1 (grab_cells h2)
theorem args_looks {A : Bool} {s : St} : ∀ {gs : List H} {ts : List T}, LookTL A s.roots gs ts → Args A s gs ts (List.replicate ts.length none) s
  | _, _, .nil => .nil s
  | _, _, .cons h1 h2 => .late (args_looks h2) h1
theorem gives_none {z0 z : St} : ∀ (n : Nat) (ts : List T), ts.length = n → Gives z0 z (List.replicate n none) ts z
  | 0, [], _ => .nil z
  | n + 1, t :: ts, h => .skip (gives_none n ts (by simpa using h))
theorem evs_mono {s s' : St} (hs : Sub s s') : ∀ {xs : List X} {vs : List V}, evs s xs = some vs → evs s' xs = some vs
  | [], vs, h => h
  | x :: xs, vs, h => by
    simp only [evs] at h ⊢
    cases h1 : ev s x with
    | none => simp [h1] at h
    | some v =>
      cases h2 : evs s xs with
      | none => simp [h1, h2] at h
      | some vs' => rw [ev_mono hs h1, evs_mono hs h2]; simpa [h1, h2] using h

theorem opA_ok {P : Program} {i : I} {d : Nat} {s : St} {v : V} {rs : List (Nat × T)} (h : OpA P i s v rs) (hf : freshA s rs) : OpR P i (some d) s ⟨(d, v) :: s.env, rs ++ s.roots, s.par⟩ := by
  cases h with
  | yld h => exact .yld h
  | alloc h1 => exact .alloc h1 hf.1
  | box h1 h2 h3 => exact .box h1 h2 (grab_cells h3) hf.1
  | lit h1 h2 h3 h4 h5 h6 h7 => exact .lit h1 h2 h3 h4 h5 h6 (grab_cells h7) hf.1
  | lit0 => exact .lit0
  | make h1 h2 h3 h4 h5 h6 => exact .make h1 h2 h3 h4 h5 h6 hf.1
  | cvb h1 => exact .cvb h1 hf.1
  | app0 h1 h2 h3 h4 h5 h6 => exact .app0 h1 h2 h3 (srcA_src h4) h5 h6 hf.1
  | call h1 h2 h3 h4 h5 h6 h7 => exact .call h1 (args_looks h2) h3 h4 h5 (gives_none _ _ h6) (bringA_ok h7 hf)
theorem opA_mono {P : Program} {i : I} {s s' : St} (hs : Sub s s') {v : V} {rs : List (Nat × T)} (h : OpA P i s v rs) : OpA P i s' v rs := by
  cases h with
  | yld h => exact .yld (yld_mono hs h)
  | alloc h1 => exact .alloc (cellTL_mono hs.roots h1)
  | box h1 h2 h3 => exact .box (ev_mono hs h1) (liveW_mono hs h2) (cellTL_mono hs.roots h3)
  | lit h1 h2 h3 h4 h5 h6 h7 => exact .lit h1 h2 (parts1_mono hs h3) (by rw [List.all_eq_true] at h4 ⊢; exact fun x hx => liveW_mono hs (h4 x hx)) h5 h6 (cellTL_mono hs.roots h7)
  | lit0 => exact .lit0
  | make h1 h2 h3 h4 h5 h6 => exact .make (ev_mono hs h1) (ev_mono hs h2) h3 h4 h5 (cellTL_mono hs.roots h6)
  | cvb h1 => exact .cvb (ev_mono hs h1)
  | app0 h1 h2 h3 h4 h5 h6 => exact .app0 h1 (ev_mono hs h2) (ev_mono hs h3) (srcA_mono hs.roots h4) h5 h6
  | call h1 h2 h3 h4 h5 h6 h7 => exact .call (evs_mono hs h1) (lookTL_mono hs.roots h2) h3 h4 h5 h6 h7
end Go.Proofs.YtplhecjngmkngaaT

/- Trees: a region in any order: operations that only add, then an end in order. No condition. -/
set_option linter.unusedVariables false
set_option linter.unusedSimpArgs false
namespace Go.Proofs.YtplhecjngmkngaaT
open Go

theorem get_append {α : Type} (i : Nat) : ∀ (l m : List (Nat × α)), get (l ++ m) i = match get l i with | some a => some a | none => get m i
  | [], m => rfl
  | (k, a) :: l, m => by
    simp only [List.cons_append, get]
    split
    · rfl
    · exact get_append i l m

/-- what some of the operations add -/
def catA {α : Type} (f : Nat → Bool) : Nat → List (List (Nat × α)) → List (Nat × α)
  | _, [] => []
  | k, l :: ls => (if f k then l else []) ++ catA f (k + 1) ls
/-- the keys part -/
def Uniq {α : Type} (ls : List (List (Nat × α))) (base : List (Nat × α)) : Prop := ∀ (j : Nat) (l : List (Nat × α)) (i : Nat) (a : α), ls[j]? = some l → get l i = some a → get base i = none ∧ ∀ (j' : Nat) (l' : List (Nat × α)) (a' : α), ls[j']? = some l' → get l' i = some a' → j' = j

theorem catA_some {α : Type} {f : Nat → Bool} {i : Nat} {a : α} : ∀ {ls : List (List (Nat × α))} {k : Nat}, get (catA f k ls) i = some a → ∃ j l, ls[j]? = some l ∧ f (k + j) = true ∧ get l i = some a
  | [], k, h => by simp [catA, get] at h
  | l :: ls, k, h => by
    simp only [catA, get_append] at h
    cases hl : get (if f k = true then l else []) i with
    | some b =>
      simp only [hl, Option.some.injEq] at h; subst h
      split at hl
      · rename_i hf; exact ⟨0, l, rfl, hf, hl⟩
      · simp [get] at hl
    | none =>
      simp only [hl] at h
      obtain ⟨j, l', h1, h2, h3⟩ := catA_some h
      exact ⟨j + 1, l', h1, by rw [show k + (j + 1) = k + 1 + j by omega]; exact h2, h3⟩
theorem catA_none {α : Type} {f : Nat → Bool} {i : Nat} : ∀ {ls : List (List (Nat × α))} {k : Nat}, get (catA f k ls) i = none → ∀ j l a, ls[j]? = some l → f (k + j) = true → get l i = some a → False
  | [], k, h, j, l, a, h1, _, _ => by simp at h1
  | l0 :: ls, k, h, j, l, a, h1, h2, h3 => by
    simp only [catA, get_append] at h
    cases hl : get (if f k = true then l0 else []) i with
    | some b => simp [hl] at h
    | none =>
      simp only [hl] at h
      cases j with
      | zero =>
        simp only [List.getElem?_cons_zero, Option.some.injEq] at h1; subst h1
        simp only [Nat.add_zero] at h2
        rw [if_pos h2, h3] at hl; simp at hl
      | succ j => exact catA_none h j l a (by simpa using h1) (by rw [show k + 1 + j = k + (j + 1) by omega]; exact h2) h3
theorem catA_get {α : Type} {f : Nat → Bool} {i : Nat} {a : α} {ls : List (List (Nat × α))} {base : List (Nat × α)} (hu : Uniq ls base) {j : Nat} {l : List (Nat × α)} (h1 : ls[j]? = some l) (h2 : f j = true) (h3 : get l i = some a) : get (catA f 0 ls) i = some a := by
  cases hc : get (catA f 0 ls) i with
  | none => exact (catA_none hc j l a h1 (by simpa using h2) h3).elim
  | some b =>
    obtain ⟨j', l', k1, k2, k3⟩ := catA_some hc
    have := (hu j l i a h1 h3).2 j' l' b k1 k3
    subst this
    rw [h1] at k1; obtain rfl := Option.some.inj k1
    rw [h3] at k3; exact k3.symm ▸ rfl
/-- more operations, more entries -/
theorem catA_mono {α : Type} {f g : Nat → Bool} {ls : List (List (Nat × α))} {base : List (Nat × α)} (hu : Uniq ls base) (hfg : ∀ j, f j = true → g j = true) {i : Nat} {a : α} (h : get (catA f 0 ls ++ base) i = some a) : get (catA g 0 ls ++ base) i = some a := by
  rw [get_append] at h ⊢
  cases hc : get (catA f 0 ls) i with
  | some b =>
    simp only [hc, Option.some.injEq] at h; subst h
    obtain ⟨j, l, k1, k2, k3⟩ := catA_some hc
    rw [catA_get hu k1 (hfg j (by simpa using k2)) k3]
  | none =>
    simp only [hc] at h
    cases hg : get (catA g 0 ls) i with
    | none => exact h
    | some b =>
      obtain ⟨j, l, k1, k2, k3⟩ := catA_some hg
      rw [(hu j l i b k1 k3).1] at h; simp at h
/-- one more operation -/
theorem catA_one {α : Type} {f : Nat → Bool} {ls : List (List (Nat × α))} {base : List (Nat × α)} (hu : Uniq ls base) {j : Nat} {l : List (Nat × α)} (hj : ls[j]? = some l) {i : Nat} {a : α} (h : get (catA (fun k => f k || k == j) 0 ls ++ base) i = some a) : get (l ++ (catA f 0 ls ++ base)) i = some a := by
  rw [get_append] at h ⊢
  cases hc : get (catA (fun k => f k || k == j) 0 ls) i with
  | some b =>
    simp only [hc, Option.some.injEq] at h; subst h
    obtain ⟨j', l', k1, k2, k3⟩ := catA_some hc
    by_cases e : j' = j
    · subst e
      rw [hj] at k1; obtain rfl := Option.some.inj k1
      simp [k3]
    · have hl : get l i = none := by
        cases hl : get l i with
        | none => rfl
        | some c => exact absurd ((hu j l i c hj hl).2 j' l' b k1 k3) e
      simp only [hl]
      rw [get_append, catA_get hu k1 (by simpa [e] using k2) k3]
  | none =>
    simp only [hc] at h
    have hl : get l i = none := by
      cases hl : get l i with
      | none => rfl
      | some c => exact (catA_none hc j l c hj (by simp) hl).elim
    simp only [hl]
    rw [get_append]
    cases hg : get (catA f 0 ls) i with
    | none => exact h
    | some b =>
      obtain ⟨j', l', k1, k2, k3⟩ := catA_some hg
      rw [(hu j' l' i b k1 k3).1] at h; simp at h
end Go.Proofs.YtplhecjngmkngaaT

/- Trees: a region in any order, told by what each operation adds. No condition. -/
set_option linter.unusedVariables false
set_option linter.unusedSimpArgs false
namespace Go.Proofs.YtplhecjngmkngaaT
open Go

def stA (s : St) (E : List (List (Nat × V))) (R : List (List (Nat × T))) (f : Nat → Bool) : St := ⟨catA f 0 E ++ s.env, catA f 0 R ++ s.roots, s.par⟩

/-- what an operation adds in a state -/
inductive Loc (P : Program) (g : Gop) (s : St) : List (Nat × V) → List (Nat × T) → Prop
  | add {d v rs} : (match g.g with | none => True | some (t, want) => get s.env t = some (.w (.one (.bool want)))) → g.d = some d → OpA P g.i s v rs → Loc P g s [(d, v)] rs
  | pass {t want d v} : g.g = some (t, want) → get s.env t = some v → Unw want v → g.d = some d → Loc P g s [(d, .tup [])] []
theorem loc_step {P : Program} {g : Gop} {s s' : St} {e : List (Nat × V)} {rs : List (Nat × T)} (h : Loc P g s e rs) (hs : Sub s s') (hf : freshA s' rs) : GStep P g s' ⟨e ++ s'.env, rs ++ s'.roots, s'.par⟩ := by
  cases h with
  | add h1 h2 h3 =>
    refine .run ?_ (by rw [h2]; exact opA_ok (opA_mono hs h3) hf)
    cases hg : g.g with
    | none => trivial
    | some tw => obtain ⟨t, want⟩ := tw; rw [hg] at h1; exact hs.env _ _ h1
  | pass h1 h2 hu h3 =>
    have := GStep.pass (P := P) (g := g) (s := s') h1 (hs.env _ _ h2) hu
    rw [h3] at this
    exact this

theorem rd_mem {es : List (List Nat)} {listed : Array Bool} {i : Nat} : i ∈ rd es listed ↔ i < es.length ∧ listed.getD i true = false ∧ ∀ e, es[i]? = some e → ∀ j ∈ e, listed.getD j false = true := by
  simp only [rd, List.mem_filter, List.mem_range, Bool.and_eq_true, Bool.not_eq_true']
  constructor
  · rintro ⟨h1, h2, h3⟩
    refine ⟨h1, h2, fun e he j hj => ?_⟩
    rw [he] at h3
    simp only [Option.map_some, Option.getD_some] at h3
    exact List.all_eq_true.1 h3 j hj
  · rintro ⟨h1, h2, h3⟩
    refine ⟨h1, h2, ?_⟩
    have he : es[i]? = some es[i] := by simp [h1]
    rw [he]
    simp only [Option.map_some, Option.getD_some]
    exact List.all_eq_true.2 (h3 _ he)

/-- an end in order -/
theorem any_end {P : Program} {es : List (List Nat)} {gs : List Gop} {s1 : St} {n : Nat} {an : List (List Nat)} (hlen : gs.length = es.length) (hes : ∀ (i : Nat) (e : List Nat), es[i]? = some e → ∀ m ∈ e, m < i) (hend : ∀ (i : Nat) (e : List Nat), n ≤ i → es[i]? = some e → ∀ m, m < i → m ∈ an.getD i [])
    (han : ∀ j e, es[j]? = some e → ∀ m ∈ an.getD j [], m < j ∧ (m ∈ e ∨ ∃ q ∈ e, m ∈ an.getD q [])) :
    ∀ (fuel q : Nat) (listed : Array Bool) (s s0 : St), n ≤ q → q + fuel = es.length → listed.size = es.length → (∀ k, k < es.length → listed.getD k false = decide (k < q)) → Imp s s0 → Ops P (gs.drop q) s0 s1 → AnyT P es gs (fun s' => Imp s' s1) fuel listed s
  | 0, q, listed, s, s0, hq, hf, hz, hl, hi, ho => by
    have e0 : gs.drop q = [] := List.drop_eq_nil_of_le (by omega)
    rw [e0] at ho
    cases ho
    refine ⟨?_, hi⟩
    rw [List.eq_nil_iff_forall_not_mem]
    intro i hi'
    obtain ⟨k1, k2, _⟩ := rd_mem.1 hi'
    have := hl i k1
    simp only [Array.getD_eq_getD_getElem?] at this k2
    have hb : listed[i]? = some listed[i] := by simp [hz, k1]
    rw [hb] at this k2
    simp only [Option.getD_some] at this k2
    rw [k2] at this
    simp at this
    omega
  | fuel + 1, q, listed, s, s0, hq, hf, hz, hl, hi, ho => by
    have hget : ∀ i d, i < es.length → listed.getD i d = decide (i < q) := by
      intro i d hi'
      have := hl i hi'
      simp only [Array.getD_eq_getD_getElem?] at this ⊢
      have hb : listed[i]? = some listed[i] := by simp [hz, hi']
      rw [hb] at this ⊢
      exact this
    have hqr : q ∈ rd es listed := rd_mem.2 ⟨by omega, by rw [hget q _ (by omega)]; simp, fun e he j hj => by
      have := hes q e he j hj
      rw [hget j _ (by omega)]; simpa using this⟩
    refine ⟨fun h => (by rw [h] at hqr; simp at hqr), fun i hi' => ?_⟩
    obtain ⟨k1, k2, k3⟩ := rd_mem.1 hi'
    have hiq : i = q := by
      rw [hget i _ k1] at k2
      simp only [decide_eq_false_iff_not, Nat.not_lt] at k2
      rcases Nat.lt_or_eq_of_le k2 with h | h
      · exfalso
        have he : es[i]? = some es[i] := by simp [k1]
        have hlq : ∀ x ∈ es[i], x < q := fun x hx => by
          have h1 := hes i _ he x hx
          have h2 := k3 _ he x hx
          rw [hget x _ (by omega)] at h2
          simpa using h2
        rcases (han i _ he q (hend i _ (by omega) he q h)).2 with h2 | ⟨x, h2, h3⟩
        · exact absurd (hlq q h2) (by omega)
        · have h4 := hlq x h2
          have hex : es[x]? = some (es[x]'(by omega)) := List.getElem?_eq_getElem (by omega)
          have := (han x _ hex q h3).1
          omega
      · exact h.symm
    subst hiq
    have hg : gs[i]? = some gs[i] := by simp [hlen, k1]
    rw [List.drop_eq_getElem_cons (by omega)] at ho
    have next : ∀ s2, Ops P (gs.drop (i + 1)) s2 s1 → AnyT P es gs (fun s' => Imp s' s1) fuel (listed.setIfInBounds i true) s2 := fun s2 h2 =>
      any_end hlen hes hend han fuel (i + 1) _ s2 s2 (by omega) (by omega) (by simpa using hz) (fun k hk => by
        simp only [Array.getD_eq_getD_getElem?, Array.getElem?_setIfInBounds]
        by_cases e : i = k
        · subst e; simp [hz, k1]
        · have := hget k false hk
          simp only [Array.getD_eq_getD_getElem?] at this
          rw [if_neg e, this]
          congr 1
          simp only [eq_iff_iff]; omega) (Imp.refl _) h2
    cases ho with
    | cons h1 h2 h3 => exact ⟨_, s0, _, hg, hi, .run h1 h2, next _ h3⟩
    | pass h1 h2 hu h3 => exact ⟨_, s0, _, hg, hi, .pass h1 h2 hu, next _ h3⟩

theorem noRefE_append {r : Nat} : ∀ (l m : List (Nat × V)), noRefE r (l ++ m) = (noRefE r l && noRefE r m)
  | [], m => rfl
  | (k, v) :: l, m => by simp only [List.cons_append, noRefE, noRefE_append l m, Bool.and_assoc]
theorem noRefE_cat {r : Nat} {f : Nat → Bool} : ∀ (ls : List (List (Nat × V))) (k : Nat), (∀ (j : Nat) (l : List (Nat × V)), ls[j]? = some l → f (k + j) = true → noRefE r l = true) → noRefE r (catA f k ls) = true
  | [], k, h => rfl
  | l :: ls, k, h => by
    simp only [catA, noRefE_append, Bool.and_eq_true]
    refine ⟨?_, noRefE_cat ls (k + 1) fun j l' h1 h2 => h (j + 1) l' (by simpa using h1) (by rw [show k + (j + 1) = k + 1 + j by omega]; exact h2)⟩
    split
    · rename_i hf; exact h 0 l rfl (by simpa using hf)
    · rfl
theorem freshA_all {s s' : St} (h : ∀ r, fresh s r = true → (get s'.roots r = none ∧ noRefE r s'.env = true ∧ s'.par = s.par) → fresh s' r = true) : ∀ {rs : List (Nat × T)}, freshA s rs → (∀ x ∈ rs, get s'.roots x.1 = none ∧ noRefE x.1 s'.env = true ∧ s'.par = s.par) → freshA s' rs
  | [], _, _ => trivial
  | (r, t) :: rs, ⟨h1, h2, h3⟩, k => ⟨h r h1 (k _ List.mem_cons_self), h2, freshA_all h h3 fun x hx => k x (List.mem_cons_of_mem _ hx)⟩
theorem get_mem {α : Type} : ∀ {l : List (Nat × α)} {x : Nat × α}, x ∈ l → ∃ a, get l x.1 = some a
  | (k, a) :: l, x, h => by
    by_cases e : k = x.1
    · exact ⟨a, by simp [get, e]⟩
    · rcases List.mem_cons.1 h with rfl | h
      · exact absurd rfl e
      · obtain ⟨b, hb⟩ := get_mem h
        exact ⟨b, by simp [get, e, hb]⟩

section
variable {P : Program} {es : List (List Nat)} {gs : List Gop} {n : Nat} {s s1 : St} {E : List (List (Nat × V))} {R : List (List (Nat × T))} {an : List (List Nat)}

theorem any_add (hlen : gs.length = es.length) (hes : ∀ (i : Nat) (e : List Nat), es[i]? = some e → ∀ m ∈ e, m < i) (hend : ∀ (i : Nat) (e : List Nat), n ≤ i → es[i]? = some e → ∀ m, m < i → m ∈ an.getD i []) (hn : n ≤ es.length)
    (hE : E.length = n) (hR : R.length = n) (hU : Uniq E s.env) (hV : Uniq R s.roots)
    (han : ∀ j e, es[j]? = some e → ∀ m ∈ an.getD j [], m < j ∧ (m ∈ e ∨ ∃ q ∈ e, m ∈ an.getD q []))
    (hloc : ∀ j, j < n → ∃ g, gs[j]? = some g ∧ Loc P g (stA s E R (fun k => (an.getD j []).contains k)) (E.getD j []) (R.getD j []))
    (hfr : ∀ j, j < n → freshA s (R.getD j []) ∧ ∀ k, k < n → k ≠ j → (an.getD k []).contains j = false → ∀ x ∈ R.getD j [], noRefE x.1 (E.getD k []) = true)
    (hops : Ops P (gs.drop n) (stA s E R (fun k => decide (k < n))) s1) :
    ∀ (fuel : Nat) (listed : Array Bool) (s' : St), listed.size = es.length → listed.toList.count false = fuel → (∀ i, i < es.length → listed.getD i false = true → (∃ k, k < n ∧ listed.getD k false = false) → i < n) →
      (∀ j, j < n → listed.getD j false = true → ∀ m ∈ an.getD j [], listed.getD m false = true) → Imp s' (stA s E R (fun k => listed.getD k false && decide (k < n))) →
      (∃ k, k < n ∧ listed.getD k false = false) → AnyT P es gs (fun s' => Imp s' s1) fuel listed s' := by
  intro fuel
  induction fuel with
  | zero =>
    intro listed s' hz hc hlt hcl hi ⟨k, hk, hkf⟩
    exfalso
    rw [List.count_eq_zero] at hc
    apply hc
    have hb : listed[k]? = some (listed[k]'(by rw [hz]; omega)) := Array.getElem?_eq_getElem (by rw [hz]; omega)
    simp only [Array.getD_eq_getD_getElem?, hb, Option.getD_some] at hkf
    rw [← hkf]; simp
  | succ fuel ih =>
    intro listed s' hz hc hlt hcl hi hk
    obtain ⟨k, hk, hkf⟩ := hk
    have hdef : ∀ i d, i < es.length → listed.getD i d = listed.getD i false := fun i d hi' => by
      have hb : listed[i]? = some listed[i] := by simp [hz, hi']
      simp only [Array.getD_eq_getD_getElem?, hb, Option.getD_some]
    refine ⟨fun hrd => ?_, fun i hi' => ?_⟩
    · exfalso
      have least : ∀ k, k < n → listed.getD k false = false → ∃ k0, k0 < n ∧ listed.getD k0 false = false ∧ ∀ m, m < k0 → listed.getD m false = true := by
        intro k
        induction k using Nat.strongRecOn with
        | ind k ihk =>
          intro hk hkf
          by_cases h : ∀ m, m < k → listed.getD m false = true
          · exact ⟨k, hk, hkf, h⟩
          · simp only [Classical.not_forall] at h
            obtain ⟨m, hm, hmf⟩ := h
            exact ihk m hm (by omega) (by simpa using hmf)
      obtain ⟨k0, h0, h1, h2⟩ := least k hk hkf
      have : k0 ∈ rd es listed := rd_mem.2 ⟨by omega, by rw [hdef k0 _ (by omega)]; exact h1, fun e he j hj => h2 j (hes k0 e he j hj)⟩
      rw [hrd] at this; simp at this
    · obtain ⟨k1, k2, k3⟩ := rd_mem.1 hi'
      rw [hdef i _ k1] at k2
      have he : es[i]? = some es[i] := by simp [k1]
      have hln : ∀ m, listed.getD m false = true → m < n := fun m hm => by
        by_cases h : m < es.length
        · exact hlt m h hm ⟨k, hk, hkf⟩
        · exfalso
          have hb : listed[m]? = none := by simp [hz]; omega
          simp [Array.getD_eq_getD_getElem?, hb] at hm
      have hin : i < n := by
        apply Classical.byContradiction; intro hge
        have : listed.getD k false = true := by
          rcases (han i _ he k (hend i _ (by omega) he k (by omega))).2 with h | ⟨q, h1, h2⟩
          · exact k3 _ he k h
          · have := k3 _ he q h1
            exact hcl q (hln q this) this k h2
        rw [hkf] at this; simp at this
      obtain ⟨g, hg, hl⟩ := hloc i hin
      have hEi : E[i]? = some (E.getD i []) := by simp [List.getD_eq_getElem?_getD, hE, hin]
      have hRi : R[i]? = some (R.getD i []) := by simp [List.getD_eq_getElem?_getD, hR, hin]
      have hani : ∀ m, m ∈ an.getD i [] → listed.getD m false = true := fun m hm => by
        rcases (han i _ he m hm).2 with h | ⟨q, h1, h2⟩
        · exact k3 _ he m h
        · have := k3 _ he q h1
          exact hcl q (hln q this) this m h2
      have hsub : Sub (stA s E R (fun k => (an.getD i []).contains k)) (stA s E R (fun k => listed.getD k false && decide (k < n))) := by
        have hfg : ∀ j, (an.getD i []).contains j = true → (listed.getD j false && decide (j < n)) = true := fun j hj => by
          have := hani j (by simpa using hj)
          simp [this, hln j this]
        exact ⟨fun _ _ h => catA_mono hU hfg h, fun _ _ h => catA_mono hV hfg h⟩
      have hfre : freshA (stA s E R (fun k => listed.getD k false && decide (k < n))) (R.getD i []) := by
        refine freshA_all (fun r h1 h2 => ?_) (hfr i hin).1 (fun x hx => ⟨?_, ?_, rfl⟩)
        · simp only [fresh, Bool.and_eq_true, Option.isNone_iff_eq_none] at h1 ⊢
          exact ⟨⟨h2.1, h2.2.1⟩, by rw [h2.2.2]; exact h1.2⟩
        · obtain ⟨a, ha⟩ := get_mem hx
          simp only [stA, get_append]
          cases hc' : get (catA (fun k => listed.getD k false && decide (k < n)) 0 R) x.1 with
          | none => exact (hV i _ _ a hRi ha).1
          | some b =>
            exfalso
            obtain ⟨j, l, q1, q2, q3⟩ := catA_some hc'
            have := (hV i _ _ a hRi ha).2 j l b q1 q3
            subst this
            simp [k2] at q2
        · simp only [stA, noRefE_append, Bool.and_eq_true]
          have hfs : ∀ {rs : List (Nat × T)}, freshA s rs → x ∈ rs → fresh s x.1 = true := by
            intro rs
            induction rs with
            | nil => intro _ h; simp at h
            | cons y rs ihr =>
              intro h1 h2
              rcases List.mem_cons.1 h2 with rfl | h2
              · exact h1.1
              · exact ihr h1.2.2 h2
          have hf0 := hfs (hfr i hin).1 hx
          simp only [fresh, Bool.and_eq_true] at hf0
          refine ⟨noRefE_cat E 0 fun j l q1 q2 => ?_, hf0.1.2⟩
          simp only [Nat.zero_add, Bool.and_eq_true, decide_eq_true_eq] at q2
          have hj : E.getD j [] = l := by simp [List.getD_eq_getElem?_getD, q1]
          rw [← hj]
          refine (hfr i hin).2 j q2.2 (fun e => by subst e; rw [k2] at q2; simp at q2) ?_ x hx
          cases hcj : (an.getD j []).contains i with
          | false => rfl
          | true =>
            exfalso
            have := hcl j q2.2 q2.1 i (by simpa using hcj)
            rw [k2] at this; simp at this
      have hstep := loc_step hl hsub hfre
      refine ⟨g, _, _, hg, hi, hstep, ?_⟩
      have hset : ∀ m, (listed.setIfInBounds i true).getD m false = (listed.getD m false || m == i) := fun m => by
        simp only [Array.getD_eq_getD_getElem?, Array.getElem?_setIfInBounds]
        by_cases e : i = m
        · subst e; simp [hz, k1]
        · simp [e, Ne.symm e]
      have himp : Imp ⟨E.getD i [] ++ (stA s E R (fun k => listed.getD k false && decide (k < n))).env, R.getD i [] ++ (stA s E R (fun k => listed.getD k false && decide (k < n))).roots, (stA s E R (fun k => listed.getD k false && decide (k < n))).par⟩ (stA s E R (fun k => (listed.setIfInBounds i true).getD k false && decide (k < n))) := by
        have hff : (fun k => (listed.setIfInBounds i true).getD k false && decide (k < n)) = (fun k => (fun k => listed.getD k false && decide (k < n)) k || k == i) := by
          funext m
          rw [hset]
          by_cases e : m = i
          · subst e; simp [hin]
          · have e2 : (m == i) = false := by simpa using e
            simp only [e2, Bool.or_false]
        rw [hff]
        exact imp_get (fun _ _ h => catA_one hU hEi h) (fun _ _ h => catA_one hV hRi h) rfl
      have hcnt : (listed.setIfInBounds i true).toList.count false = fuel := by
        rw [Array.toList_setIfInBounds, List.count_set (by simpa [hz] using k1)]
        have hb : listed[i]? = some listed[i] := by simp [hz, k1]
        simp only [Array.getD_eq_getD_getElem?, hb, Option.getD_some] at k2
        simp [k2, hc]
      have hcl' : ∀ j, j < n → (listed.setIfInBounds i true).getD j false = true → ∀ m ∈ an.getD j [], (listed.setIfInBounds i true).getD m false = true := fun j hj hjl m hm => by
        rw [hset] at hjl ⊢
        by_cases e : j = i
        · subst e; simp [hani m hm]
        · simp only [beq_eq_false_iff_ne.2 e, Bool.or_false] at hjl
          simp [hcl j hj hjl m hm]
      by_cases hall : ∃ k, k < n ∧ (listed.setIfInBounds i true).getD k false = false
      · refine ih _ _ (by simpa using hz) hcnt (fun m _ hm _ => ?_) hcl' himp hall
        rw [hset] at hm
        simp only [Bool.or_eq_true, beq_iff_eq] at hm
        rcases hm with hm | rfl
        · exact hln m hm
        · exact hin
      · have hall' : ∀ m, m < n → (listed.setIfInBounds i true).getD m false = true := fun m hm => by
          cases h : (listed.setIfInBounds i true).getD m false with
          | true => rfl
          | false => exact (hall ⟨m, hm, h⟩).elim
        have hdec : ∀ m, m < es.length → (listed.setIfInBounds i true).getD m false = decide (m < n) := fun m hm => by
          by_cases h : m < n
          · simp [h, hall' m h]
          · have : (listed.setIfInBounds i true).getD m false = false := by
              rw [hset]
              cases h' : listed.getD m false with
              | true => exact absurd (hln m h') h
              | false => simp; omega
            simp [h, this]
        refine any_end hlen hes hend han fuel n _ _ _ (Nat.le_refl _) ?_ (by simpa using hz) hdec himp ?_
        · have hl : (listed.setIfInBounds i true).toList = List.replicate n true ++ List.replicate (es.length - n) false := by
            apply List.ext_getElem?
            intro m
            rw [Array.getElem?_toList]
            by_cases h : m < es.length
            · have h1 := hdec m h
              have hb : (listed.setIfInBounds i true)[m]? = some ((listed.setIfInBounds i true)[m]'(by simpa [hz] using h)) := by simp [hz, h]
              simp only [Array.getD_eq_getD_getElem?, hb, Option.getD_some] at h1
              rw [hb, h1]
              by_cases h2 : m < n
              · rw [List.getElem?_append_left (by simpa using h2)]; simp [h2]
              · rw [List.getElem?_append_right (by simpa using h2), List.length_replicate, List.getElem?_replicate, if_pos (by omega)]; simp [h2]
            · have hb : (listed.setIfInBounds i true)[m]? = none := Array.getElem?_eq_none (by simp only [Array.size_setIfInBounds, hz]; omega)
              rw [hb]; symm; rw [List.getElem?_eq_none_iff]; simp; omega
          rw [hl] at hcnt
          simp [List.count_append, List.count_replicate] at hcnt
          omega
        · have hff : (fun k => (listed.setIfInBounds i true).getD k false && decide (k < n)) = (fun k => decide (k < n)) := by
            funext m
            by_cases h : m < n
            · simp [h, hall' m h]
            · simp [h]
          rw [hff]; exact hops
end
end Go.Proofs.YtplhecjngmkngaaT

/- Trees: a step done beside entries that it does not touch. No condition. -/
set_option linter.unusedVariables false
set_option linter.unusedSimpArgs false
namespace Go.Proofs.YtplhecjngmkngaaT
open Go

/-- nothing there leads to the root r -/
structure Av (e : St) (r : Nat) : Prop where
  root : get e.roots r = none
  env : noRefE r e.env = true
section
variable {f : Ren} {r : Nat} (hf : ∀ r' p, r' ≠ r → f r' p = some (r', p))
include hf
end
section
variable {f : Ren} {S : Nat → Prop} (hf : ∀ r p, ¬ S r → f r p = some (r, p))
include hf
end
end Go.Proofs.YtplhecjngmkngaaT

/- Trees: calls done beside entries that they do not touch. No condition. -/
set_option linter.unusedVariables false
set_option linter.unusedSimpArgs false
namespace Go.Proofs.YtplhecjngmkngaaT
open Go

end Go.Proofs.YtplhecjngmkngaaT

/- Trees: a step done beside entries that it does not touch: all of it. No condition. -/
set_option linter.unusedVariables false
set_option linter.unusedSimpArgs false
namespace Go.Proofs.YtplhecjngmkngaaT
open Go

section
variable {r : Nat} {st : Option Nat}
end
end Go.Proofs.YtplhecjngmkngaaT

/- Trees: a region in any order, told by a family of states. No condition. -/
set_option linter.unusedVariables false
set_option linter.unusedSimpArgs false
namespace Go.Proofs.YtplhecjngmkngaaT
open Go

end Go.Proofs.YtplhecjngmkngaaT

/- Trees: regions in any order, as conditions, which simp reckons: operations that only add, then an end in order. No condition. -/
set_option linter.unusedVariables false
set_option linter.unusedSimpArgs false
namespace Go.Proofs.YtplhecjngmkngaaT
open Go

def getN {α : Type} : List (List α) → Nat → List α
  | [], _ => []
  | x :: _, 0 => x
  | _ :: l, n + 1 => getN l n
theorem getN_eq {α : Type} : ∀ (l : List (List α)) (n : Nat), getN l n = l.getD n []
  | [], n => rfl
  | x :: l, 0 => rfl
  | x :: l, n + 1 => by simpa [getN] using getN_eq l n
def pickL {α : Type} (E : List (List (Nat × α))) : List Nat → List (Nat × α) → List (Nat × α)
  | [], b => b
  | k :: ks, b => getN E k ++ pickL E ks b
theorem pickL_some {α : Type} {E : List (List (Nat × α))} {b : List (Nat × α)} {i : Nat} {a : α} : ∀ {ks : List Nat}, get (pickL E ks b) i = some a → (∃ k ∈ ks, get (E.getD k []) i = some a) ∨ ((∀ k ∈ ks, get (E.getD k []) i = none) ∧ get b i = some a)
  | [], h => .inr ⟨by simp, h⟩
  | k :: ks, h => by
    simp only [pickL, get_append, getN_eq] at h
    cases hc : get (E.getD k []) i with
    | some c => simp only [hc, Option.some.injEq] at h; subst h; exact .inl ⟨k, by simp, hc⟩
    | none =>
      simp only [hc] at h
      rcases pickL_some h with ⟨k', h1, h2⟩ | ⟨h1, h2⟩
      · exact .inl ⟨k', by simp [h1], h2⟩
      · refine .inr ⟨fun q hq => ?_, h2⟩
        rcases List.mem_cons.1 hq with rfl | hq
        · exact hc
        · exact h1 q hq
theorem pickL_sub {α : Type} {E : List (List (Nat × α))} {b : List (Nat × α)} (hU : Uniq E b) {ks : List Nat} {f : Nat → Bool} (hf : ∀ k ∈ ks, f k = true) {i : Nat} {a : α} (h : get (pickL E ks b) i = some a) : get (catA f 0 E ++ b) i = some a := by
  have hel : ∀ k c, get (E.getD k []) i = some c → E[k]? = some (E.getD k []) := fun k c hk => by
    by_cases hl : k < E.length
    · simp [List.getD_eq_getElem?_getD, hl]
    · simp [List.getD_eq_getElem?_getD, hl, get] at hk
  rw [get_append]
  rcases pickL_some h with ⟨k, h1, h2⟩ | ⟨h1, h2⟩
  · rw [catA_get hU (hel k a h2) (hf k h1) h2]
  · cases hc : get (catA f 0 E) i with
    | none => exact h2
    | some c =>
      obtain ⟨j, l, q1, _, q3⟩ := catA_some hc
      rw [(hU j l i c q1 q3).1] at h2; simp at h2
theorem pickL_ext {α : Type} {E E' : List (List (Nat × α))} {b : List (Nat × α)} : ∀ {ks : List Nat}, (∀ k ∈ ks, k < E.length) → pickL (E ++ E') ks b = pickL E ks b
  | [], _ => rfl
  | k :: ks, h => by
    have := h k (by simp)
    have e1 : pickL (E ++ E') ks b = pickL E ks b := pickL_ext fun q hq => h q (List.mem_cons_of_mem _ hq)
    simp only [pickL, getN_eq, e1]
    rw [show (E ++ E').getD k [] = E.getD k [] by simp [List.getD_eq_getElem?_getD, List.getElem?_append_left this]]

/-- cells told, nothing moved -/
def cellA (z : St) : H → (T → Prop) → Prop
  | .hs r p off st n, K => pO (get z.roots r) fun t => pO (sub t p) fun o => pSlT o fun own st' n0 cs => need (own = false ∧ st' = st) (K (.sl false st n (cut cs off (n * st))))
  | .hp r p off, K => need (off = 0) (pO (get z.roots r) fun t => pO (sub t p) fun o => pBxT o fun own cs => need (own = false) (K (.bx false cs)))
  | g, K => pO (cellX z.roots g) K
theorem cellA_ok {z : St} {g : H} {K : T → Prop} (h : cellA z g K) : ∃ t, CellT z.roots g t ∧ K t := by
  unfold cellA at h
  split at h
  · obtain ⟨t, h1, h2⟩ := pO_ok h
    obtain ⟨o, h3, h4⟩ := pO_ok h2
    obtain ⟨own, st', n0, cs, rfl, ⟨rfl, rfl⟩, h5⟩ := pSlT_ok h4
    exact ⟨_, .ro h1 h3, h5⟩
  · obtain ⟨rfl, h⟩ := h
    obtain ⟨t, h1, h2⟩ := pO_ok h
    obtain ⟨o, h3, h4⟩ := pO_ok h2
    obtain ⟨own, cs, rfl, rfl, h5⟩ := pBxT_ok h4
    exact ⟨_, .roBx h1 h3, h5⟩
  · obtain ⟨t, h1, h2⟩ := pO_ok h
    exact ⟨_, cellX_ok _ _ h1, h2⟩
def cellAL (z : St) : List H → (List T → Prop) → Prop
  | [], K => K []
  | g :: gs, K => cellA z g fun t => cellAL z gs fun ts => K (t :: ts)
theorem cellAL_ok {z : St} : ∀ {gs : List H} {K : List T → Prop}, cellAL z gs K → ∃ ts, CellTL z.roots gs ts ∧ K ts
  | [], K, h => ⟨[], .nil, h⟩
  | g :: gs, K, h => by
    obtain ⟨t, h1, h2⟩ := cellA_ok h
    obtain ⟨ts, h3, h4⟩ := cellAL_ok h2
    exact ⟨_, .cons h1 h3, h4⟩
def srcA (st : Nat) (z : St) : V → (Nat → List T → Prop) → Prop
  | .w (.one (.str b)), K => need (st = 1) (K b.size (b.data.toList.map fun c : UInt8 => T.int .u8 c.toNat))
  | .w (.one .nil), K => K 0 []
  | .w (.one (.hs r p off st' m)), K => need (st' = st) (pO (get z.roots r) fun t => pO (sub t p) fun o => pSlT o fun own st2 n0 cs => need (st2 = st)
      (need ((cut cs off (m * st)).all flatT = true ∨ (own = false ∧ (cut cs off (m * st)).all noHole = true)) (K m (cut cs off (m * st)))))
  | _, _ => False
theorem srcA_ok {st : Nat} {z : St} {v : V} {K} (h : srcA st z v K) : ∃ m ts, SrcA st z.roots v m ts ∧ K m ts := by
  unfold srcA at h
  split at h
  · exact ⟨_, _, .text h.1, h.2⟩
  · exact ⟨_, _, .nil, h⟩
  · obtain ⟨rfl, h⟩ := h
    obtain ⟨t, h1, h2⟩ := pO_ok h
    obtain ⟨o, h3, h4⟩ := pO_ok h2
    obtain ⟨own, st2, n0, cs, rfl, rfl, h5, h6⟩ := pSlT_ok h4
    rcases h5 with h5 | ⟨rfl, h5⟩
    · exact ⟨_, _, .flat h1 h3 h5, h6⟩
    · exact ⟨_, _, .ro h1 h3 h5, h6⟩
  · exact h.elim
def bringA : List T → Nat → (List H → List (Nat × T) → Prop) → Prop
  | [], _, K => K [] []
  | .int k n :: ts, b, K => bringA ts b fun gs rs => K (.int k n :: gs) rs
  | .bool x :: ts, b, K => bringA ts b fun gs rs => K (.bool x :: gs) rs
  | .str x :: ts, b, K => bringA ts b fun gs rs => K (.str x :: gs) rs
  | .nptr :: ts, b, K => bringA ts b fun gs rs => K (.nptr :: gs) rs
  | .sl own 0 n cs :: ts, b, K => need (n = 0 ∧ cs = []) (bringA ts b fun gs rs => K (.nil :: gs) rs)
  | .sl own (st + 1) n cs :: ts, b, K => pN (b + 1) fun b' => bringA ts b' fun gs rs => K (.hs b [] 0 (st + 1) n :: gs) (rs ++ [(b, .sl own (st + 1) n cs)])
  | .bx own cs :: ts, b, K => pN (b + 1) fun b' => bringA ts b' fun gs rs => K (.hp b [] 0 :: gs) (rs ++ [(b, .bx own cs)])
  | _, _, _ => False
theorem bringA_go : ∀ (ts : List T) (b : Nat) (K), bringA ts b K → ∃ gs rs, BringA ts gs rs ∧ K gs rs
  | [], b, K, h => ⟨[], [], .nil, by simpa only [bringA] using h⟩
  | t :: ts, b, K, h => by
    unfold bringA at h
    split at h
    · simp_all
    · rename_i e; cases e; obtain ⟨gs, rs, h1, h2⟩ := bringA_go _ _ _ h; exact ⟨_, _, .int h1, h2⟩
    · rename_i e; cases e; obtain ⟨gs, rs, h1, h2⟩ := bringA_go _ _ _ h; exact ⟨_, _, .bool h1, h2⟩
    · rename_i e; cases e; obtain ⟨gs, rs, h1, h2⟩ := bringA_go _ _ _ h; exact ⟨_, _, .str h1, h2⟩
    · rename_i e; cases e; obtain ⟨gs, rs, h1, h2⟩ := bringA_go _ _ _ h; exact ⟨_, _, .nptr h1, h2⟩
    · rename_i e; cases e; obtain ⟨⟨rfl, rfl⟩, h⟩ := h; obtain ⟨gs, rs, h1, h2⟩ := bringA_go _ _ _ h; exact ⟨_, _, .nil0 h1, h2⟩
    · rename_i e; cases e; obtain ⟨gs, rs, h1, h2⟩ := bringA_go _ _ _ h; exact ⟨_, _, .sl h1, h2⟩
    · rename_i e; cases e; obtain ⟨gs, rs, h1, h2⟩ := bringA_go _ _ _ h; exact ⟨_, _, .bx h1, h2⟩
    · exact h.elim

def callA (P : Program) (f : FuncId) (xs : List X) (z : St) (b : Nat) (K : V → List (Nat × T) → Prop) : Prop := ∃ v rs, OpA P (.call f xs) z v rs ∧ K v rs
def callA' (P : Program) (f : FuncId) (xs : List X) (z : St) (b : Nat) {K : V → List (Nat × T) → Prop} (_ : FxA K) : Prop := callA P f xs z b K
theorem callA_hd {P : Program} {f : FuncId} {xs : List X} {z : St} {b : Nat} {K : V → List (Nat × T) → Prop} : callA P f xs z b K = callA' P f xs z b (hd K) := rfl
/-- an operation that only adds -/
def ai (P : Program) : I → St → Nat → (V → List (Nat × T) → Prop) → Prop
  | .alloc zs, z, b, K => pO (cellXL z.roots zs) fun ts => K (.w (.one (.hp b [] 0))) [(b, .bx true ts)]
  | .box x, z, b, K => pW (ev z x) fun v => need (liveW z.roots v = true) (pL v.cells fun gs => cellAL z gs fun ts => K (.w (.one (.hp b [] 0))) [(b, .bx true ts)])
  | .lit st 0 zs [], z, b, K => K (.w (.one .nil)) []
  | .lit st (len + 1) zs ps, z, b, K => need (zs.length = st ∧ 0 < st) (pO (evp1 z ps) fun vs => need (vs.all (fun q => liveW z.roots q.2) = true) (pO (litH st (len + 1) zs vs) fun gs => need (gs.length = (len + 1) * st)
      (cellAL z gs fun ts => K (.w (.one (.hs b [] 0 st (len + 1)))) [(b, .sl true st (len + 1) ts)])))
  | .make st zs bytes l c, z, b, K => pInt (ev z l) fun _ a => pInt (ev z c) fun _ a' => need (zs.length = st ∧ 0 < st) (need (0 ≤ a ∧ a = a' ∧ bytes * a.toNat ≤ 281474976710656 ∧ a.toNat ≤ 9223372036854775807)
      (pO (cellXL z.roots zs) fun ts => K (.w (.one (.hs b [] 0 st a.toNat))) [(b, .sl true st a.toNat (List.replicate a.toNat ts).flatten)]))
  | .cvb x, z, b, K => pStr (ev z x) fun s => K (.w (.one (.hs b [] 0 1 s.size))) [(b, .sl true 1 s.size (s.data.toList.map fun c : UInt8 => T.int .u8 c.toNat))]
  | .app st bytes zs x y, z, b, K => need (zs.length = st ∧ 0 < st) (pO (ev z y) fun v => pSl (ev z x) (fun _ _ _ _ _ => False) (srcA st z v fun m ts => need (m ≤ 9223372036854775807 ∧ m * bytes ≤ 140737488355328) (K (.w (.one (.hs b [] 0 st m))) [(b, .sl true st m ts)])))
  | .call f xs, z, b, K => callA P f xs z b K
  | i, z, _, K => qi i z fun v => K v []
theorem ai_ok {P : Program} {i : I} {z : St} {b : Nat} {K : V → List (Nat × T) → Prop} (h : ai P i z b K) : ∃ v rs, OpA P i z v rs ∧ K v rs := by
  unfold ai at h
  split at h
  · obtain ⟨ts, h1, h2⟩ := pO_ok h
    exact ⟨_, _, .alloc (cellXL_ok _ _ h1), h2⟩
  · obtain ⟨v, h1, h2, h3⟩ := pW_ok h
    obtain ⟨ts, h4, h5⟩ := cellAL_ok h3
    exact ⟨_, _, .box h1 h2 h4, h5⟩
  · exact ⟨_, _, .lit0, h⟩
  · obtain ⟨⟨h0, h0'⟩, h⟩ := h
    obtain ⟨vs, h1, h2, h3⟩ := pO_ok h
    obtain ⟨gs, h4, h5, h6⟩ := pO_ok h3
    obtain ⟨ts, h7, h8⟩ := cellAL_ok h6
    exact ⟨_, _, .lit (by omega) ⟨h0, h0'⟩ (evp1_ok h1) h2 h4 h5 h7, h8⟩
  · obtain ⟨kl, a, h1, h2⟩ := pInt_ok h
    obtain ⟨kc, a', h3, ⟨h4, h4'⟩, ⟨h5, rfl, h6, h7⟩, h8⟩ := pInt_ok h2
    obtain ⟨ts, h9, h10⟩ := pO_ok h8
    exact ⟨_, _, .make (by rw [Int.toNat_of_nonneg h5]; exact h1) (by rw [Int.toNat_of_nonneg h5]; exact h3) ⟨h4, h4'⟩ h6 h7 (cellXL_ok _ _ h9), h10⟩
  · obtain ⟨b, h1, h2⟩ := pStr_ok h
    exact ⟨_, _, .cvb h1, h2⟩
  · obtain ⟨h0, h⟩ := h
    obtain ⟨v, h1, h2⟩ := pO_ok h
    rcases pSl_ok h2 with ⟨r, p, off, st', n, h3, h4⟩ | ⟨h3, h4⟩
    · exact h4.elim
    · obtain ⟨m, ts, h8, ⟨h9, h10⟩, h11⟩ := srcA_ok h4
      exact ⟨_, _, .app0 h0 h3 h1 h8 h9 h10, h11⟩
  · exact h
  · obtain ⟨v, h1, h2⟩ := qi_ok h
    exact ⟨_, _, .yld h1, h2⟩
/-- a call, the contract given; nothing is taken or lent -/
def callAX (A : Bool) (targs : List TW) (res : TV) (outs : List TW) (xs : List X) (z : St) (b : Nat) (K : V → List (Nat × T) → Prop) : Prop :=
  pO (evws z xs) fun ws => need (tws ws (targs.flatMap TW.cells) = targs) (need (shp outs = shp targs ∧ (outs.flatMap TW.cells).length = (targs.flatMap TW.cells).length) (need (A = true → noRoL res.cells = true ∧ noRoL (outs.flatMap TW.cells) = true)
    (pL (ws.flatMap W.cells) fun gs => pL res.cells fun rs => lookXL A z.roots gs fun ts => need (ts = targs.flatMap TW.cells) (bringA rs b fun gs rs => K (vOf res gs) rs))))
theorem calla_go {P : Program} {f : FuncId} {targs : List TW} {res : TV} {outs : List TW} {xs : List X} {z : St} {b : Nat} {K : V → List (Nat × T) → Prop} (A : Bool) (M : Meets P f targs res outs) (h : callAX A targs res outs xs z b K) : callA P f xs z b K := by
  obtain ⟨ws, h1, h2, ⟨h3, h3'⟩, h4, h5⟩ := pO_ok h
  obtain ⟨ts, h6, rfl, h7⟩ := lookXL_ok _ _ h5
  obtain ⟨gs, rs, h8, h9⟩ := bringA_go _ _ _ h7
  exact ⟨_, _, .call (evws_ok _ _ h1) h6 (by rw [h2]; exact M) h4 (by rw [h2]; exact h3) h3' h8, h9⟩

def ga (P : Program) : Gop → St → Nat → (List (Nat × V) → List (Nat × T) → Prop) → Prop
  | ⟨none, some d, i⟩, z, b, K => ai P i z b fun v rs => K [(d, v)] rs
  | ⟨some (t, want), some d, i⟩, z, b, K => pG (get z.env t) want (ai P i z b fun v rs => K [(d, v)] rs) (K [(d, .tup [])] [])
  | _, _, _, _ => False
theorem ga_ok {P : Program} {g : Gop} {z : St} {b : Nat} {K} (h : ga P g z b K) : ∃ d v rs, g.d = some d ∧ Loc P g z [(d, v)] rs ∧ K [(d, v)] rs := by
  unfold ga at h
  split at h
  · obtain ⟨v, rs, h1, h2⟩ := ai_ok h
    exact ⟨_, v, rs, rfl, .add trivial rfl h1, h2⟩
  · rename_i t want d i
    obtain ⟨x, h1, ⟨rfl, h2⟩ | ⟨hu, h2⟩⟩ := pG_ok h
    · obtain ⟨v, rs, h4, h5⟩ := ai_ok h2
      exact ⟨_, v, rs, rfl, .add h1 rfl h4, h5⟩
    · exact ⟨d, _, _, rfl, .pass (t := t) (want := want) rfl h1 hu rfl, h2⟩
  · exact h.elim

/-- operations that only add, one behind the other: each in the state of those that it must come behind -/
def dax (P : Program) (an : List (List Nat)) (env : List (Nat × V)) (roots : List (Nat × T)) (par : List W) (K : List (List (Nat × V)) → List (List (Nat × T)) → Prop) : List Gop → Nat → List (List (Nat × V)) → List (List (Nat × T)) → Prop
  | [], _, E, R => K E R
  | g :: gs, b, E, R => pL (getN an E.length) fun ks => pL (pickL E ks env) fun e => pL (pickL R ks roots) fun r => ga P g ⟨e, r, par⟩ b fun e' rs => pN (b + rs.length) fun b' => pL (E ++ [e']) fun E' => pL (R ++ [rs]) fun R' => dax P an env roots par K gs b' E' R'
theorem dax_ok {P : Program} {an : List (List Nat)} {env : List (Nat × V)} {roots : List (Nat × T)} {par : List W} {K} : ∀ (gs : List Gop) (b : Nat) (E : List (List (Nat × V))) (R : List (List (Nat × T))), dax P an env roots par K gs b E R → R.length = E.length → (∀ j, E.length ≤ j → j < E.length + gs.length → ∀ k ∈ an.getD j [], k < j) →
    ∃ E' R', E'.length = gs.length ∧ R'.length = gs.length ∧ K (E ++ E') (R ++ R') ∧ ∀ i g, gs[i]? = some g → (∃ d v, g.d = some d ∧ (E ++ E').getD (E.length + i) [] = [(d, v)]) ∧ Loc P g ⟨pickL (E ++ E') (an.getD (E.length + i) []) env, pickL (R ++ R') (an.getD (E.length + i) []) roots, par⟩ ((E ++ E').getD (E.length + i) []) ((R ++ R').getD (E.length + i) [])
  | [], b, E, R, h, _, _ => ⟨[], [], rfl, rfl, by simpa [dax] using h, by simp⟩
  | g :: gs, b, E, R, h, hl, hk => by
    simp only [dax, pL, pN, getN_eq] at h
    obtain ⟨d, v, rs, h1, h2, h3⟩ := ga_ok h
    obtain ⟨E', R', k1, k2, k3, k4⟩ := dax_ok gs _ _ _ h3 (by simp [hl]) (by
      intro j hj hj' k hkm
      simp only [List.length_append, List.length_cons, List.length_nil] at hj hj'
      exact hk j (by omega) (by simp only [List.length_cons]; omega) k hkm)
    simp only [List.append_assoc, List.singleton_append, List.length_append, List.length_cons, List.length_nil] at k3 k4
    refine ⟨[(d, v)] :: E', rs :: R', by simp [k1], by simp [k2], k3, fun i g' hg => ?_⟩
    cases i with
    | zero =>
      simp only [List.getElem?_cons_zero, Option.some.injEq] at hg; subst hg
      have hks := hk E.length (Nat.le_refl _) (by simp)
      have e1 : (E ++ [(d, v)] :: E').getD (E.length + 0) [] = [(d, v)] := by simp [List.getD_eq_getElem?_getD]
      have e2 : (R ++ rs :: R').getD (E.length + 0) [] = rs := by simp [List.getD_eq_getElem?_getD, ← hl]
      rw [e1, e2, Nat.add_zero, pickL_ext hks, pickL_ext (by rw [hl]; exact hks)]
      exact ⟨⟨d, v, h1, rfl⟩, h2⟩
    | succ i =>
      have := k4 i g' (by simpa using hg)
      rw [show E.length + (i + 1) = E.length + (0 + 1) + i by omega]
      exact this

/-- numbers that part -/
def nodN : List Nat → Bool
  | [] => true
  | r :: rs => (rs.all fun q => q != r) && nodN rs
theorem nodN_ok : ∀ {l : List Nat}, nodN l = true → l.Nodup
  | [], _ => List.nodup_nil
  | r :: rs, h => by
    simp only [nodN, Bool.and_eq_true, List.all_eq_true, bne_iff_ne] at h
    exact List.nodup_cons.2 ⟨fun hm => h.1 r hm rfl, nodN_ok h.2⟩
/-- what the roots of others are not named by -/
def frK (ks : List Nat) (k : Nat) (e : List (Nat × V)) : Nat → List (List (Nat × T)) → Bool
  | _, [] => true
  | j, [] :: R => frK ks k e (j + 1) R
  | j, (q :: qs) :: R => (j == k || ks.contains j || (q :: qs).all fun x => noRefE x.1 e) && frK ks k e (j + 1) R
def frE (an : List (List Nat)) (R : List (List (Nat × T))) : Nat → List (List (Nat × V)) → Bool
  | _, [] => true
  | k, e :: E => frK (getN an k) k e 0 R && frE an R (k + 1) E
theorem frK_ok {ks : List Nat} {k : Nat} {e : List (Nat × V)} : ∀ {R : List (List (Nat × T))} {j0 : Nat}, frK ks k e j0 R = true → ∀ j l, R[j]? = some l → j0 + j ≠ k → ks.contains (j0 + j) = false → ∀ x ∈ l, noRefE x.1 e = true
  | [], j0, h, j, l, hj, _, _, x, hx => by simp at hj
  | [] :: R, j0, h, j, l, hj, h1, h2, x, hx => by
    cases j with
    | zero => simp only [List.getElem?_cons_zero, Option.some.injEq] at hj; subst hj; simp at hx
    | succ j => exact frK_ok (R := R) (j0 := j0 + 1) h j l (by simpa using hj) (by omega) (by rw [show j0 + 1 + j = j0 + (j + 1) by omega]; exact h2) x hx
  | (q :: qs) :: R, j0, h, j, l, hj, h1, h2, x, hx => by
    simp only [frK, Bool.and_eq_true] at h
    cases j with
    | zero =>
      simp only [List.getElem?_cons_zero, Option.some.injEq] at hj; subst hj
      have := h.1
      simp only [Nat.add_zero] at h1 h2
      simp only [h2, Bool.or_false, Bool.or_eq_true, beq_iff_eq, h1, false_or] at this
      exact List.all_eq_true.1 this x hx
    | succ j => exact frK_ok (R := R) (j0 := j0 + 1) h.2 j l (by simpa using hj) (by omega) (by rw [show j0 + 1 + j = j0 + (j + 1) by omega]; exact h2) x hx
theorem frE_ok {an : List (List Nat)} {R : List (List (Nat × T))} : ∀ {E : List (List (Nat × V))} {k0 : Nat}, frE an R k0 E = true → ∀ k e, E[k]? = some e → frK (an.getD (k0 + k) []) (k0 + k) e 0 R = true
  | [], k0, h, k, e, hk => by simp at hk
  | e0 :: E, k0, h, k, e, hk => by
    simp only [frE, Bool.and_eq_true, getN_eq] at h
    cases k with
    | zero => simp only [List.getElem?_cons_zero, Option.some.injEq] at hk; subst hk; exact h.1
    | succ k => rw [show k0 + (k + 1) = k0 + 1 + k by omega]; exact frE_ok h.2 k e (by simpa using hk)

/-- the region's form: acyclic; from n on in order; an: the ancestors; the first n yield, each its own -/
def okD (es : List (List Nat)) (gs : List Gop) (n : Nat) (an : List (List Nat)) : Bool :=
  gs.length == es.length && decide (0 < n) && decide (n ≤ es.length) && nodN ((gs.take n).map fun g => g.d.getD 0) && (gs.take n).all (fun g => g.d.isSome) &&
  (List.range es.length).all fun i => ((es.getD i []).all fun m => decide (m < i)) && (decide (i < n) || (List.range i).all fun m => (an.getD i []).contains m) &&
    (an.getD i []).all fun m => decide (m < i) && ((es.getD i []).contains m || (es.getD i []).any fun q => (an.getD q []).contains m)
def dropE {α : Type} : List (Option Nat) → List (Nat × α) → List (Nat × α)
  | [], l => l
  | none :: ds, l => dropE ds l
  | some d :: ds, l => dropE ds (del l d)
theorem dropE_get {α : Type} {i : Nat} {a : α} : ∀ {ds : List (Option Nat)} {l : List (Nat × α)}, get (dropE ds l) i = some a → get l i = some a ∧ some i ∉ ds
  | [], l, h => ⟨h, by simp⟩
  | none :: ds, l, h => by obtain ⟨h1, h2⟩ := dropE_get (ds := ds) h; exact ⟨h1, by simpa using h2⟩
  | some d :: ds, l, h => by
    obtain ⟨h1, h2⟩ := dropE_get (ds := ds) h
    rw [get_del] at h1
    split at h1
    · simp at h1
    · rename_i e; exact ⟨h1, by simp [Ne.symm e, h2]⟩

def frA (s : St) : List (Nat × T) → Bool
  | [] => true
  | (r, _) :: l => fresh s r && frA s l
theorem frA_all {s : St} : ∀ {l : List (Nat × T)}, frA s l = l.all fun q => fresh s q.1
  | [] => rfl
  | (r, t) :: l => by simp only [frA, List.all_cons, frA_all (l := l)]
/-- all that was added, then the end -/
def endD (P : Program) (an : List (List Nat)) (env : List (Nat × V)) (roots : List (Nat × T)) (par : List W) (rest : List Gop) (K : St → Prop) (E : List (List (Nat × V))) (R : List (List (Nat × T))) : Prop :=
  need ((nodN (R.flatten.map (·.1)) && frA ⟨env, roots, par⟩ R.flatten && frE an R 0 E) = true) (pL (E.flatten ++ env) fun e => pL (R.flatten ++ roots) fun r => sx P rest K ⟨e, r, par⟩)
theorem catA_flatten {α : Type} {f : Nat → Bool} : ∀ {ls : List (List (Nat × α))} {k : Nat}, (∀ j, j < ls.length → f (k + j) = true) → catA f k ls = ls.flatten
  | [], k, _ => rfl
  | l :: ls, k, h => by
    have h0 := h 0 (by simp)
    simp only [Nat.add_zero] at h0
    simp only [catA, h0, if_true, List.flatten_cons]
    rw [catA_flatten fun j hj => by rw [show k + 1 + j = k + (j + 1) by omega]; exact h (j + 1) (by simpa using hj)]
theorem flat_key {α : Type} {l : List (Nat × α)} {i : Nat} {a : α} (h : get l i = some a) : ∃ x ∈ l, x.1 = i := by
  induction l with
  | nil => simp [get] at h
  | cons q l ih =>
    obtain ⟨k, b⟩ := q
    simp only [get] at h
    split at h
    · rename_i e; exact ⟨(k, b), by simp, e⟩
    · obtain ⟨x, h1, h2⟩ := ih h; exact ⟨x, by simp [h1], h2⟩
theorem uniq_roots {R : List (List (Nat × T))} {s : St} (h1 : (R.flatten.map (·.1)).Nodup) (h2 : ∀ q ∈ R.flatten, fresh s q.1 = true) : Uniq R s.roots ∧ ∀ j, freshA s (R.getD j []) := by
  have hp : R.Pairwise fun l1 l2 => ∀ x ∈ l1, ∀ y ∈ l2, x.1 ≠ y.1 := (List.pairwise_flatten.1 (List.pairwise_map.1 h1)).2
  have hin := (List.pairwise_flatten.1 (List.pairwise_map.1 h1)).1
  constructor
  · intro j l i a hj hg
    obtain ⟨x, hx, hxi⟩ := flat_key hg
    have hl : l ∈ R := List.mem_of_getElem? hj
    refine ⟨?_, fun j' l' a' hj' hg' => ?_⟩
    · have := h2 x (List.mem_flatten.2 ⟨l, hl, hx⟩)
      simp only [fresh, Bool.and_eq_true, Option.isNone_iff_eq_none] at this
      rw [← hxi]; exact this.1.1
    · obtain ⟨y, hy, hyi⟩ := flat_key hg'
      apply Classical.byContradiction
      intro hne
      rw [List.pairwise_iff_getElem] at hp
      obtain ⟨b1, e1⟩ := List.getElem?_eq_some_iff.1 hj
      obtain ⟨b2, e2⟩ := List.getElem?_eq_some_iff.1 hj'
      rcases Nat.lt_or_gt_of_ne hne with h | h
      · exact hp j' j b2 b1 h y (by rw [e2]; exact hy) x (by rw [e1]; exact hx) (by rw [hxi, hyi])
      · exact hp j j' b1 b2 h x (by rw [e1]; exact hx) y (by rw [e2]; exact hy) (by rw [hxi, hyi])
  · intro j
    by_cases hj : j < R.length
    · have hl : R.getD j [] ∈ R := by simp [List.getD_eq_getElem?_getD, hj]
      have hq := hin _ hl
      have hfr : ∀ q ∈ R.getD j [], fresh s q.1 = true := fun q hq => h2 q (List.mem_flatten.2 ⟨_, hl, hq⟩)
      revert hq hfr
      generalize R.getD j [] = l
      intro hq hfr
      induction l with
      | nil => trivial
      | cons q l ih =>
        obtain ⟨r, t⟩ := q
        rw [List.pairwise_cons] at hq
        exact ⟨hfr (r, t) List.mem_cons_self, fun q hm => Ne.symm (hq.1 q hm), ih hq.2 fun q hm => hfr q (List.mem_cons_of_mem _ hm)⟩
    · simp [List.getD_eq_getElem?_getD, hj, freshA]

theorem draw_go {P : Program} {es : List (List Nat)} {gs : List Gop} {K : St → Prop} {s : St} (n : Nat) (an : List (List Nat)) (ok : okD es gs n an = true)
    (h : pL (dropE ((gs.take n).map (·.d)) s.env) fun env => pL (gs.take n) fun g1 => pL (gs.drop n) fun g2 => pN (newR ⟨env, s.roots, s.par⟩) fun b => dax P an env s.roots s.par (endD P an env s.roots s.par g2 K) g1 b [] []) : drawG P es gs K s := by
  simp only [okD, Bool.and_eq_true, beq_iff_eq, decide_eq_true_eq, List.all_eq_true, List.mem_range, Bool.or_eq_true] at ok
  obtain ⟨⟨⟨⟨⟨hlen, hn0⟩, hn⟩, hnd⟩, hsome⟩, hall⟩ := ok
  simp only [pL, pN] at h
  generalize henv : dropE ((gs.take n).map (·.d)) s.env = env at h
  have hdrop : ∀ i a, get env i = some a → get s.env i = some a ∧ some i ∉ (gs.take n).map (·.d) := fun i a hi => by rw [← henv] at hi; exact dropE_get hi
  have hln : (gs.take n).length = n := by simp [hlen, hn]
  obtain ⟨E, R, hE, hR, hK, hloc⟩ := dax_ok _ _ _ _ h rfl (by
    intro j _ hj k hk
    simp only [List.length_nil, Nat.zero_add, hln] at hj
    exact ((hall j (by omega)).2 k hk).1)
  simp only [List.nil_append, List.length_nil, Nat.zero_add] at hK hloc
  rw [hln] at hE hR
  obtain ⟨hchk, hK⟩ := hK
  simp only [Bool.and_eq_true, frA_all, List.all_eq_true] at hchk
  obtain ⟨⟨c1, c2⟩, c3⟩ := hchk
  obtain ⟨s1, ho, hk1⟩ := sx_ok _ _ _ hK
  refine ⟨s1, ?_, hk1⟩
  have hs0 : Imp s ⟨env, s.roots, s.par⟩ := imp_get (fun i a hi => (hdrop i a hi).1) (fun _ _ h => h) rfl
  have hgs : ∀ j, j < n → ∃ g, gs[j]? = some g ∧ (gs.take n)[j]? = some g := fun j hj => by
    have : gs[j]? = some (gs[j]'(by omega)) := List.getElem?_eq_getElem (by omega)
    exact ⟨_, this, by rw [List.getElem?_take_of_lt hj]; exact this⟩
  have hEj : ∀ j, j < n → ∃ g d v, (gs.take n)[j]? = some g ∧ g.d = some d ∧ E.getD j [] = [(d, v)] := fun j hj => by
    obtain ⟨g, _, h2⟩ := hgs j hj
    obtain ⟨⟨d, v, h3, h4⟩, _⟩ := hloc j g h2
    exact ⟨g, d, v, h2, h3, h4⟩
  have hget : ∀ {j : Nat} {l : List (Nat × V)}, E[j]? = some l → j < n ∧ E.getD j [] = l := fun {j l} hj => by
    obtain ⟨b1, e1⟩ := List.getElem?_eq_some_iff.1 hj
    exact ⟨by omega, by simp [List.getD_eq_getElem?_getD, hj]⟩
  have hnd' : ∀ (j j' : Nat) (g g' : Gop) (d : Nat), (gs.take n)[j]? = some g → (gs.take n)[j']? = some g' → g.d = some d → g'.d = some d → j = j' := by
    have hN := nodN_ok hnd
    intro j j' g g' d h1 h2 h3 h4
    obtain ⟨b1, e1⟩ := List.getElem?_eq_some_iff.1 h1
    obtain ⟨b2, e2⟩ := List.getElem?_eq_some_iff.1 h2
    have := (List.getElem_inj (h₀ := by simpa using b1) (h₁ := by simpa using b2) hN).1 (by rw [List.getElem_map, List.getElem_map, e1, e2, h3, h4])
    exact this
  have hU : Uniq E env := by
    intro j l i a hj hg
    obtain ⟨b1, e1⟩ := hget hj
    obtain ⟨g, d, v, k1, k2, k3⟩ := hEj j b1
    rw [e1] at k3; subst k3
    simp only [get] at hg
    split at hg
    · rename_i e; subst e
      refine ⟨?_, fun j' l' a' hj' hg' => ?_⟩
      · cases hc : get env d with
        | none => rfl
        | some c =>
          exfalso
          refine (hdrop d c hc).2 ?_
          rw [← k2]; exact List.mem_map.2 ⟨g, List.mem_of_getElem? k1, rfl⟩
      · obtain ⟨b2, e2⟩ := hget hj'
        obtain ⟨g', d', v', q1, q2, q3⟩ := hEj j' b2
        rw [e2] at q3; subst q3
        simp only [get] at hg'
        split at hg'
        · rename_i e; subst e; exact hnd' _ _ _ _ _ q1 k1 q2 k2
        · simp at hg'
    · simp at hg
  obtain ⟨hV, hfA⟩ := uniq_roots (s := ⟨env, s.roots, s.par⟩) (nodN_ok c1) c2
  have hes : ∀ (i : Nat) (e : List Nat), es[i]? = some e → ∀ m ∈ e, m < i := fun i e he m hm => by
    obtain ⟨b1, e1⟩ := List.getElem?_eq_some_iff.1 he
    have := (hall i b1).1.1 m (by simp [List.getD_eq_getElem?_getD, he, hm])
    exact this
  have hgd : ∀ (i : Nat) (e : List Nat), es[i]? = some e → es.getD i [] = e := fun i e he => by simp [List.getD_eq_getElem?_getD, he]
  have hend : ∀ (i : Nat) (e : List Nat), n ≤ i → es[i]? = some e → ∀ m, m < i → m ∈ an.getD i [] := fun i e hi he m hm => by
    obtain ⟨b1, e1⟩ := List.getElem?_eq_some_iff.1 he
    rcases (hall i b1).1.2 with h | h
    · omega
    · have := h m hm; exact List.contains_iff_mem.1 this
  have han : ∀ j e, es[j]? = some e → ∀ m ∈ an.getD j [], m < j ∧ (m ∈ e ∨ ∃ q ∈ e, m ∈ an.getD q []) := fun j e he m hm => by
    obtain ⟨b1, e1⟩ := List.getElem?_eq_some_iff.1 he
    have := (hall j b1).2 m hm
    rw [hgd j e he] at this
    exact ⟨this.1, by simpa using this.2⟩
  have hfin : stA ⟨env, s.roots, s.par⟩ E R (fun k => decide (k < n)) = ⟨E.flatten ++ env, R.flatten ++ s.roots, s.par⟩ := by
    simp only [stA]
    rw [catA_flatten (fun j hj => by simpa using (by omega : j < n)), catA_flatten (fun j hj => by simpa using (by omega : j < n))]
  refine any_add (n := n) (s := ⟨env, s.roots, s.par⟩) (E := E) (R := R) (an := an) hlen hes hend hn hE hR hU hV han ?_ ?_ (by rw [hfin]; exact ho) _ _ _ (by simp) (by simp) ?_ ?_ ?_ ⟨0, hn0, by simp [Array.getD_eq_getD_getElem?, Array.getElem?_replicate]; split <;> rfl⟩
  · intro j hj
    obtain ⟨g, h1, h2⟩ := hgs j hj
    obtain ⟨_, hl⟩ := hloc j g h2
    refine ⟨g, h1, ?_⟩
    have hsub : Sub ⟨pickL E (an.getD j []) env, pickL R (an.getD j []) s.roots, s.par⟩ (stA ⟨env, s.roots, s.par⟩ E R (fun k => (an.getD j []).contains k)) :=
      ⟨fun i v h => pickL_sub hU (fun k hk => by simpa using hk) h, fun i v h => pickL_sub hV (fun k hk => by simpa using hk) h⟩
    have par : ∀ (z z' : St) (e : List (Nat × V)) (rs : List (Nat × T)), Loc P g z e rs → Sub z z' → Loc P g z' e rs := by
      intro z z' e rs hl hs
      cases hl with
      | add h1 h2 h3 =>
        refine .add ?_ h2 (opA_mono hs h3)
        cases hg : g.g with
        | none => trivial
        | some tw => obtain ⟨t, want⟩ := tw; rw [hg] at h1; exact hs.env _ _ h1
      | pass h1 h2 hu h3 => exact .pass h1 (hs.env _ _ h2) hu h3
    exact par _ _ _ _ hl hsub
  · intro j hj
    refine ⟨hfA j, fun k hk hkj hc x hx => ?_⟩
    have hEk : E[k]? = some (E.getD k []) := by simp [List.getD_eq_getElem?_getD, hE, hk]
    have hRj : R[j]? = some (R.getD j []) := by simp [List.getD_eq_getElem?_getD, hR, hj]
    have := frE_ok c3 k _ hEk
    simp only [Nat.zero_add] at this
    exact frK_ok this j _ hRj (by simpa using Ne.symm hkj) (by simpa using hc) x hx
  · intro i hi hl
    exfalso
    simp [Array.getD_eq_getD_getElem?, Array.getElem?_replicate, hi] at hl
  · intro j hj hl
    exfalso
    simp [Array.getD_eq_getD_getElem?, Array.getElem?_replicate, show j < es.length by omega] at hl
  · refine hs0.trans ?_
    have e0 : (fun k => (Array.replicate es.length false).getD k false && decide (k < n)) = fun _ => false := by
      funext k
      simp only [Array.getD_eq_getD_getElem?, Array.getElem?_replicate]
      split <;> simp
    rw [e0]
    have hn : ∀ {α : Type} (ls : List (List (Nat × α))) (k : Nat), catA (fun _ => false) k ls = [] := by
      intro α ls
      induction ls with
      | nil => intro k; rfl
      | cons l ls ih => intro k; simp [catA, ih]
    simp only [stA, hn, List.nil_append]
    exact Imp.refl _
attribute [go_sem ↓] callA_hd dax ga ai cellA cellAL srcA bringA callAX endD
attribute [go_sem] frA dax ga ai cellA cellAL srcA bringA callAX endD getN pickL nodN frK frE dropE List.filterMap_cons List.take_succ_cons List.drop_succ_cons List.contains List.elem
end Go.Proofs.YtplhecjngmkngaaT

/- Trees: a region in any order with operations that move and store among those that only add: by stages. No condition. -/
set_option linter.unusedVariables false
set_option linter.unusedSimpArgs false
namespace Go.Proofs.YtplhecjngmkngaaT
open Go

/-- the entries that are not yet within the stage -/
def mask {α : Type} (A : List Nat) : Nat → List (List α) → List (List α)
  | _, [] => []
  | k, l :: ls => (if A.contains k then [] else l) :: mask A (k + 1) ls
section
variable {P : Program} {es : List (List Nat)} {gs : List Gop} {n : Nat} {s1 : St} {an : List (List Nat)} {ms : List Nat} {Z : Nat → St} {E : List (List (Nat × V))} {R : List (List (Nat × T))} {par : List W}

/-- what some of the operations X gave -/
def catX (sub : Nat → Bool) (E : List (List (Nat × V))) : List Nat → List (Nat × V)
  | [] => []
  | q :: X => (if sub q then E.getD q [] else []) ++ catX sub E X
end
end Go.Proofs.YtplhecjngmkngaaT

/- Trees: a region in any order with operations that move and store among those that only add, as conditions, which simp reckons. No condition. -/
set_option linter.unusedVariables false
set_option linter.unusedSimpArgs false
namespace Go.Proofs.YtplhecjngmkngaaT
open Go

/-- how an operation that moves or stores is done: beside what the roots σ are named by; or a flat cell -/
inductive Mu where
  | framed (σ : List Nat)
  | flat
  | many (σ X : List Nat)
structure Stg where
  m : Option Nat
  A : List Nat
  env : List (Nat × V)
  roots : List (Nat × T)
  N : List Nat
  X : List Nat
instance : Inhabited Stg := ⟨⟨none, [], [], [], [], []⟩⟩

def pSt (P : Program) (par : List W) (E : List (List (Nat × V))) (R : List (List (Nat × T))) (ks : List Nat) (g : Gop) (b : Nat) : Stg → (List (Nat × V) → List (Nat × T) → Prop) → Prop
  | ⟨_, A, env, roots, _, _⟩, K => pL (pickL (mask A 0 E) ks env) fun e => pL (pickL (mask A 0 R) ks roots) fun r => ga P g ⟨e, r, par⟩ b K
def AtS (P : Program) (par : List W) (E : List (List (Nat × V))) (R : List (List (Nat × T))) (ks : List Nat) (g : Gop) (z : Stg) (e : List (Nat × V)) (r : List (Nat × T)) : Prop :=
  (∃ d v, g.d = some d ∧ e = [(d, v)]) ∧ Loc P g ⟨pickL (mask z.A 0 E) ks z.env, pickL (mask z.A 0 R) ks z.roots, par⟩ e r
section
variable {P : Program} {par : List W} {E : List (List (Nat × V))} {R : List (List (Nat × T))} {ks : List Nat} {g : Gop} {b : Nat}
def reS (P : Program) (par : List W) (E : List (List (Nat × V))) (R : List (List (Nat × T))) (ks : List Nat) (g : Gop) (b : Nat) (e : List (Nat × V)) (r : List (Nat × T)) : List Stg → Prop → Prop
  | [], K => K
  | z :: zs, K => pSt P par E R ks g b z fun e' r' => need (e' = e ∧ r' = r) (reS P par E R ks g b e r zs K)
def inM (ks : List Nat) : Stg → Bool
  | ⟨none, _, _, _, _, _⟩ => false
  | ⟨some m, _, _, _, _, _⟩ => ks.contains m
def addM (P : Program) (par : List W) (E : List (List (Nat × V))) (R : List (List (Nat × T))) (ks : List Nat) (g : Gop) (b : Nat) : List Stg → (List (Nat × V) → List (Nat × T) → Prop) → Prop
  | [], _ => False
  | [z], K => pSt P par E R ks g b z K
  | z :: z' :: zs, K => pI (inM ks z') (addM P par E R ks g b (z' :: zs) K) (pSt P par E R ks g b z fun e r => reS P par E R ks g b e r (z' :: zs) (K e r))
end

def baseOf : List (Nat × T) → Nat
  | [] => 0
  | [(r, _)] => r
  | _ :: l => baseOf l
/-- the operations before, done at a new stage -/
def reM (P : Program) (an : List (List Nat)) (par : List W) (ms : List Nat) (E0 : List (List (Nat × V))) (R0 : List (List (Nat × T))) (z : Stg) : Nat → List Gop → List (List (Nat × V)) → List (List (Nat × T)) → Prop → Prop
  | j, g :: gs, e :: E, r :: R, K => pI (z.A.contains j || ms.contains j) (reM P an par ms E0 R0 z (j + 1) gs E R K)
      (pL (getN an j) fun ks => pSt P par E0 R0 ks g (baseOf r) z fun e' r' => need (e' = e ∧ r' = r) (reM P an par ms E0 R0 z (j + 1) gs E R K))
  | _, _, _, _, K => K
theorem reM_nil {P : Program} {an : List (List Nat)} {par : List W} {ms : List Nat} {E0 : List (List (Nat × V))} {R0 : List (List (Nat × T))} {z : Stg} {K : Prop} {gs : List Gop} {R : List (List (Nat × T))} {j : Nat} : reM P an par ms E0 R0 z j gs [] R K = K := by cases gs <;> rfl
/-- what names none, some of the roots -/
def noS (σ : List Nat) (v : V) : Bool := σ.all fun r => noRefV r v
def inE (σ : List Nat) : List (Nat × V) → List (Nat × V)
  | [] => []
  | (k, v) :: l => cond (noS σ v) ((k, v) :: inE σ l) (del (inE σ l) k)
def outE (σ : List Nat) : List (Nat × V) → List (Nat × V)
  | [] => []
  | (k, v) :: l => cond (noS σ v) (del (outE σ l) k) ((k, v) :: outE σ l)
def inR (σ : List Nat) : List (Nat × T) → List (Nat × T)
  | [] => []
  | (k, v) :: l => cond (σ.contains k) (inR σ l) ((k, v) :: inR σ l)
def outR (σ : List Nat) : List (Nat × T) → List (Nat × T)
  | [] => []
  | (k, v) :: l => cond (σ.contains k) ((k, v) :: outR σ l) (outR σ l)
def flatC : H → Option T
  | .int k n => some (.int k n)
  | .bool b => some (.bool b)
  | .str b => some (.str b)
  | _ => none
/-- the floats' places -/
def flD (A ms : List Nat) : Nat → List Gop → List Nat
  | _, [] => []
  | k, ⟨_, d, _⟩ :: gs => cond (A.contains k || ms.contains k) (flD A ms (k + 1) gs) (d.getD 0 :: flD A ms (k + 1) gs)
def avA (eY : List (Nat × V)) (rY : List (Nat × T)) : List Nat → Bool
  | [] => true
  | r :: N => noRefE r eY && (get rY r).isNone && avA eY rY N
def noneA (e : List (Nat × V)) : List Nat → Bool
  | [] => true
  | d :: l => (get e d).isNone && noneA e l
/-- X are operations ahead of the j-th, and no ancestors of it -/
def okX (ks : List Nat) (j : Nat) : List Nat → Prop → Prop
  | [], K => K
  | q :: X, K => need (q < j) (need (ks.contains q = false) (okX ks j X K))
/-- the same step beside what some of X gave -/
def sideX (P : Program) (i : I) (d : Option Nat) (E : List (List (Nat × V))) (rL : List (Nat × T)) (par : List W) (eL : List (Nat × V)) (s' : St) : List Nat → List (Nat × V) → Prop → Prop
  | [], xs, K => si P i d ⟨eL ++ xs, rL, par⟩ fun s'' => need (s'' = ⟨s'.env ++ xs, s'.roots, s'.par⟩) K
  | q :: X, xs, K => pL (xs ++ getN E q) fun xs' => sideX P i d E rL par eL s' X xs' (sideX P i d E rL par eL s' X xs K)
def mutM (P : Program) (par : List W) (ms : List Nat) (gs0 : List Gop) (E : List (List (Nat × V))) (R : List (List (Nat × T))) (ks : List Nat) (j : Nat) : Gop → Mu → Stg → (Stg → Prop) → Prop
  | ⟨none, d, i⟩, .framed σ, ⟨_, A, env, roots, _, _⟩, K => pL (pickL (mask A 0 E) ks env) fun e => pL (pickL (mask A 0 R) ks roots) fun r => pL (inE σ e) fun eL => pL (outE σ e) fun eY => pL (inR σ r) fun rL => pL (outR σ r) fun rY =>
      si P i d ⟨eL, rL, par⟩ fun s' => need (s'.par = par) (pL (rL.map (·.1) ++ s'.roots.map (·.1)) fun N => need (avA eY rY N = true)
        (pL (s'.env ++ eY) fun e' => pL (s'.roots ++ rY) fun r' => need (noneA e' (flD ks ms 0 gs0) = true) (K ⟨some j, ks, e', r', N, []⟩)))
  | ⟨none, d, i⟩, .many σ X, ⟨_, A, env, roots, _, _⟩, K => pL (pickL (mask A 0 E) ks env) fun e => pL (pickL (mask A 0 R) ks roots) fun r => pL (inE σ e) fun eL => pL (outE σ e) fun eY => pL (inR σ r) fun rL => pL (outR σ r) fun rY =>
      si P i d ⟨eL, rL, par⟩ fun s' => need (s'.par = par) (okX ks j X (sideX P i d E rL par eL s' X [] (pL (rL.map (·.1) ++ s'.roots.map (·.1)) fun N => need (avA eY rY N = true)
        (pL (s'.env ++ eY) fun e' => pL (s'.roots ++ rY) fun r' => need (noneA e' (flD ks ms 0 gs0) = true) (K ⟨some j, ks, e', r', N, X⟩)))))
  | ⟨none, none, .store 1 a x⟩, .flat, ⟨_, A, env, roots, _, _⟩, K => pL (pickL (mask A 0 E) ks env) fun e => pL (pickL (mask A 0 R) ks roots) fun r =>
      pHp (ev ⟨e, r, par⟩ a) fun q p off => pW (ev ⟨e, r, par⟩ x) fun v => match v with
        | .one h => pO (flatC h) fun c => pO (get r q) fun t => pO (sub t (p ++ [off])) fun old => need (isOb old = false) (pO (upd c t (p ++ [off])) fun t2 => pL (set r q t2) fun r' => need (noneA e (flD ks ms 0 gs0) = true) (K ⟨some j, ks, e, r', [], []⟩))
        | _ => False
  | _, _, _, _ => False
/-- what is known of it, but for the floats -/
inductive Pre (P : Program) (par : List W) (E : List (List (Nat × V))) (R : List (List (Nat × T))) (ks : List Nat) (g : Gop) (z z' : Stg) : Prop
  | framed {L L' Y : St} {X : List Nat} : (∀ sub : Nat → Bool, GStep P g ⟨L.env ++ catX sub E X, L.roots, L.par⟩ ⟨L'.env ++ catX sub E X, L'.roots, L'.par⟩) → L'.par = par →
      (∀ k v, get L.env k = some v → get (pickL (mask z.A 0 E) ks z.env) k = some v) → (∀ k v, get L.roots k = some v → get (pickL (mask z.A 0 R) ks z.roots) k = some v) →
      (∀ k v, get Y.env k = some v → get (pickL (mask z.A 0 E) ks z.env) k = some v) → (∀ k v, get Y.roots k = some v → get (pickL (mask z.A 0 R) ks z.roots) k = some v) →
      L.par = par → z'.env = L'.env ++ Y.env → z'.roots = L'.roots ++ Y.roots → (∀ r, (get L.roots r).isSome = true ∨ (get L'.roots r).isSome = true → r ∈ z'.N ∧ Av Y r) → z'.X = X → (∀ q ∈ X, q < E.length ∧ q ∉ ks) → Pre P par E R ks g z z'
  | flat {a x : X} {r : Nat} {t2 : T} : g = ⟨none, none, .store 1 a x⟩ → (∀ w, Sub ⟨pickL (mask z.A 0 E) ks z.env, pickL (mask z.A 0 R) ks z.roots, par⟩ w → w.par = par → OpR P (.store 1 a x) none w { w with roots := set w.roots r t2 }) →
      z'.env = pickL (mask z.A 0 E) ks z.env → z'.roots = set (pickL (mask z.A 0 R) ks z.roots) r t2 → Pre P par E R ks g z z'
/-- all of them -/
def dmx (P : Program) (an : List (List Nat)) (par : List W) (ms : List Nat) (gs0 : List Gop) (K : List (List (Nat × V)) → List (List (Nat × T)) → List Stg → Stg → Prop) : List Gop → Nat → Nat → List (Nat × Mu) → List (List (Nat × V)) → List (List (Nat × T)) → List Stg → Stg → Prop
  | [], _, _, _, E, R, zs, z => K E R zs z
  | g :: gs, j, b, [], E, R, zs, z => pL (getN an j) fun ks => pL (zs ++ [z]) fun zz => addM P par E R ks g b zz fun e r => pN (b + r.length) fun b' => pL (E ++ [e]) fun E' => pL (R ++ [r]) fun R' => pN (j + 1) fun j' => dmx P an par ms gs0 K gs j' b' [] E' R' zs z
  | g :: gs, j, b, (m, md) :: mu, E, R, zs, z => pL (getN an j) fun ks => pI (j == m)
      (mutM P par ms gs0 E R ks j g md z fun z' => reM P an par ms E R z' 0 gs0 E R (pN (max b (newR ⟨z'.env, z'.roots, par⟩)) fun b' => pL (E ++ [[]]) fun E' => pL (R ++ [[]]) fun R' => pL (zs ++ [z]) fun zs' => pN (j + 1) fun j' => dmx P an par ms gs0 K gs j' b' mu E' R' zs' z'))
      (pL (zs ++ [z]) fun zz => addM P par E R ks g b zz fun e r => pN (b + r.length) fun b' => pL (E ++ [e]) fun E' => pL (R ++ [r]) fun R' => pN (j + 1) fun j' => dmx P an par ms gs0 K gs j' b' ((m, md) :: mu) E' R' zs z)

/-- what is known behind the first j operations -/
structure MI (P : Program) (an : List (List Nat)) (par : List W) (ms : List Nat) (gs0 : List Gop) (j : Nat) (mu : List (Nat × Mu)) (E : List (List (Nat × V))) (R : List (List (Nat × T))) (b0 : Stg) (Zs : List Stg) : Prop where
  hE : E.length = j
  hR : R.length = j
  hZ : ∃ dn : List Nat, ms = dn ++ mu.map (·.1) ∧ Zs.length = dn.length + 1
  stg : ∀ (i : Nat) (z : Stg), Zs[i + 1]? = some z → z.m = some (ms.getD i 0) ∧ z.A = an.getD (ms.getD i 0) [] ∧ (∀ d ∈ flD z.A ms 0 gs0, get z.env d = none) ∧ ms.getD i 0 < j ∧
    ∃ z0 g, Zs[i]? = some z0 ∧ gs0[ms.getD i 0]? = some g ∧ Pre P par E R (an.getD (ms.getD i 0) []) g z0 z
  stg0 : Zs[0]? = some b0
  add : ∀ (q : Nat) (g : Gop), q < j → q ∉ ms → gs0[q]? = some g → (∃ d v, g.d = some d ∧ E.getD q [] = [(d, v)]) ∧ ∀ (i : Nat) (z : Stg), Zs[i]? = some z → (∀ (i' : Nat) (z' : Stg), i < i' → Zs[i']? = some z' → inM (an.getD q []) z' = false) → q ∉ z.A → AtS P par E R (an.getD q []) g z (E.getD q []) (R.getD q [])
  mt : ∀ q, q < j → q ∈ ms → E.getD q [] = [] ∧ R.getD q [] = []
theorem maskA {α : Type} {A : List Nat} : ∀ {E E' : List (List α)} {k : Nat}, mask A k (E ++ E') = mask A k E ++ mask A (k + E.length) E'
  | [], E', k => by simp [mask]
  | e :: E, E', k => by
    simp only [List.cons_append, mask, List.length_cons]
    rw [maskA, show k + 1 + E.length = k + (E.length + 1) by omega]
theorem maskL {α : Type} {A : List Nat} : ∀ {E : List (List α)} {k : Nat}, (mask A k E).length = E.length
  | [], k => rfl
  | e :: E, k => by simp [mask, maskL]
theorem pick_grow {α : Type} {A : List Nat} {E E' : List (List (Nat × α))} {ks : List Nat} {b : List (Nat × α)} (h : ∀ k ∈ ks, k < E.length) : pickL (mask A 0 (E ++ E')) ks b = pickL (mask A 0 E) ks b := by
  rw [maskA]; exact pickL_ext (by simpa [maskL] using h)
theorem AtS.grow {P : Program} {par : List W} {E E' : List (List (Nat × V))} {R R' : List (List (Nat × T))} {ks : List Nat} {g : Gop} {z : Stg} {e : List (Nat × V)} {r : List (Nat × T)} (h : AtS P par E R ks g z e r) (hE : ∀ k ∈ ks, k < E.length) (hR : ∀ k ∈ ks, k < R.length) : AtS P par (E ++ E') (R ++ R') ks g z e r := by
  unfold AtS at h ⊢
  rw [pick_grow hE, pick_grow hR]; exact h
theorem catX_grow {sub : Nat → Bool} {E E' : List (List (Nat × V))} : ∀ {X : List Nat}, (∀ q ∈ X, q < E.length) → catX sub (E ++ E') X = catX sub E X
  | [], _ => rfl
  | q :: X, h => by
    have h1 := h q List.mem_cons_self
    simp only [catX]
    rw [catX_grow fun q' hq => h q' (List.mem_cons_of_mem _ hq)]
    simp only [List.getD_eq_getElem?_getD, List.getElem?_append_left h1]
theorem Pre.grow {P : Program} {par : List W} {E E' : List (List (Nat × V))} {R R' : List (List (Nat × T))} {ks : List Nat} {g : Gop} {z z' : Stg} (h : Pre P par E R ks g z z') (hE : ∀ k ∈ ks, k < E.length) (hR : ∀ k ∈ ks, k < R.length) : Pre P par (E ++ E') (R ++ R') ks g z z' := by
  cases h with
  | framed k1 k2 k3 k4 k5 k6 k7 k8 k9 k10 k11 k12 => exact .framed (fun sub => by rw [catX_grow fun q hq => (k12 q hq).1]; exact k1 sub) k2 (by rw [pick_grow hE]; exact k3) (by rw [pick_grow hR]; exact k4) (by rw [pick_grow hE]; exact k5) (by rw [pick_grow hR]; exact k6) k7 k8 k9 k10 k11 (fun q hq => ⟨by have := (k12 q hq).1; simp only [List.length_append]; omega, (k12 q hq).2⟩)
  | flat k1 k2 k3 k4 => exact .flat k1 (by rw [pick_grow hE, pick_grow hR]; exact k2) (by rw [pick_grow hE]; exact k3) (by rw [pick_grow hR]; exact k4)
theorem getD_app {α : Type} {l m : List (List α)} {i : Nat} (h : i < l.length) : (l ++ m).getD i [] = l.getD i [] := by
  simp [List.getD_eq_getElem?_getD, List.getElem?_append_left h]
theorem getD_end {α : Type} {l : List (List α)} {x : List α} {i : Nat} (h : i = l.length) : (l ++ [x]).getD i [] = x := by
  subst h; simp [List.getD_eq_getElem?_getD]

section
variable {P : Program} {an : List (List Nat)} {par : List W} {ms : List Nat} {gs0 : List Gop} {b0 : Stg} {K : List (List (Nat × V)) → List (List (Nat × T)) → List Stg → Stg → Prop} (hlt : ∀ j, ∀ k ∈ an.getD j [], k < j) (hnod : ms.Nodup)
include hlt hnod
/-- one that adds -/
theorem MI.more {j : Nat} {mu : List (Nat × Mu)} {E : List (List (Nat × V))} {R : List (List (Nat × T))} {Zs : List Stg} (h : MI P an par ms gs0 j mu E R b0 Zs) {g : Gop} (hg : gs0[j]? = some g) (hm : j ∉ ms) {e : List (Nat × V)} {r : List (Nat × T)} (hd : ∃ d v, g.d = some d ∧ e = [(d, v)])
    (ha : ∀ (i : Nat) (z : Stg), Zs[i]? = some z → (∀ (i' : Nat) (z' : Stg), i < i' → Zs[i']? = some z' → inM (an.getD j []) z' = false) → AtS P par E R (an.getD j []) g z e r) : MI P an par ms gs0 (j + 1) mu (E ++ [e]) (R ++ [r]) b0 Zs where
  hE := by simp [h.hE]
  hR := by simp [h.hR]
  hZ := h.hZ
  stg i z hz := by
    obtain ⟨h1, h2, h3, h4, z0, g0, h5, h6, h7⟩ := h.stg i z hz
    exact ⟨h1, h2, h3, by omega, z0, g0, h5, h6, h7.grow (fun k hk => by have := hlt _ k hk; rw [h.hE]; omega) (fun k hk => by have := hlt _ k hk; rw [h.hR]; omega)⟩
  stg0 := h.stg0
  add q g' hq hqm hg' := by
    by_cases e1 : q < j
    · obtain ⟨h1, h2⟩ := h.add q g' e1 hqm hg'
      rw [getD_app (by rw [h.hE]; omega), getD_app (by rw [h.hR]; omega)]
      exact ⟨h1, fun i z hz hl hA => (h2 i z hz hl hA).grow (fun k hk => by have := hlt _ k hk; rw [h.hE]; omega) (fun k hk => by have := hlt _ k hk; rw [h.hR]; omega)⟩
    · obtain rfl : q = j := by omega
      rw [hg] at hg'; obtain rfl := Option.some.inj hg'
      rw [getD_end (by rw [h.hE]), getD_end (by rw [h.hR])]
      exact ⟨hd, fun i z hz hl _ => (ha i z hz hl).grow (fun k hk => by have := hlt _ k hk; rw [h.hE]; omega) (fun k hk => by have := hlt _ k hk; rw [h.hR]; omega)⟩
  mt q hq hqm := by
    have : q ≠ j := fun e => hm (e ▸ hqm)
    rw [getD_app (by rw [h.hE]; omega), getD_app (by rw [h.hR]; omega)]
    exact h.mt q (by omega) hqm
/-- one that moves or stores -/
theorem MI.stage {j : Nat} {md : Mu} {mu : List (Nat × Mu)} {E : List (List (Nat × V))} {R : List (List (Nat × T))} {zs : List Stg} {z z' : Stg} (h : MI P an par ms gs0 j ((j, md) :: mu) E R b0 (zs ++ [z])) {g : Gop} (hg : gs0[j]? = some g) (h1 : z'.m = some j) (h2 : z'.A = an.getD j []) (h3 : ∀ d ∈ flD (an.getD j []) ms 0 gs0, get z'.env d = none)
    (h4 : Pre P par E R (an.getD j []) g z z') (ha : ∀ (i : Nat) (g : Gop), i < E.length → gs0[i]? = some g → i ∉ z'.A → i ∉ ms → AtS P par E R (an.getD i []) g z' (E.getD i []) (R.getD i [])) : MI P an par ms gs0 (j + 1) mu (E ++ [[]]) (R ++ [[]]) b0 (zs ++ [z] ++ [z']) := by
  obtain ⟨dn, hd1, hd2⟩ := h.hZ
  have hzl : zs.length = dn.length := by simpa using hd2
  have hjd : ms.getD dn.length 0 = j := by rw [hd1]; simp [List.getD_eq_getElem?_getD]
  have hdn : ∀ i, i < dn.length → ms.getD i 0 ≠ j := fun i hi e => by
    have : i = dn.length := by
      refine (List.getElem_inj (h₀ := by rw [hd1]; simp; omega) (h₁ := by rw [hd1]; simp) hnod).1 ?_
      have e1 : ms.getD i 0 = ms[i]'(by rw [hd1]; simp; omega) := by rw [List.getD_eq_getElem?_getD, List.getElem?_eq_getElem (by rw [hd1]; simp; omega)]; rfl
      have e2 : ms.getD dn.length 0 = ms[dn.length]'(by rw [hd1]; simp) := by rw [List.getD_eq_getElem?_getD, List.getElem?_eq_getElem (by rw [hd1]; simp)]; rfl
      rw [← e1, ← e2, e, hjd]
    omega
  have hold : ∀ {i : Nat} {x : Stg}, (zs ++ [z] ++ [z'])[i]? = some x → i ≤ zs.length → (zs ++ [z])[i]? = some x := fun {i x} hx hi => by
    rw [List.getElem?_append_left (by simp; omega)] at hx; exact hx
  have hnew : ∀ {x : Stg}, (zs ++ [z] ++ [z'])[zs.length + 1]? = some x → x = z' := fun {x} hx => by
    rw [List.getElem?_append_right (by simp)] at hx
    simpa using hx.symm
  have hlen : ∀ {i : Nat} {x : Stg}, (zs ++ [z] ++ [z'])[i]? = some x → i ≤ zs.length ∨ i = zs.length + 1 := fun {i x} hx => by
    have := (List.getElem?_eq_some_iff.1 hx).1
    simp at this; omega
  have gE : ∀ q, q ≤ j → ∀ k ∈ an.getD q [], k < E.length := fun q hq k hk => by have := hlt _ k hk; rw [h.hE]; omega
  have gR : ∀ q, q ≤ j → ∀ k ∈ an.getD q [], k < R.length := fun q hq k hk => by have := hlt _ k hk; rw [h.hR]; omega
  refine ⟨by simp [h.hE], by simp [h.hR], ⟨dn ++ [j], by simpa using hd1, by simp [hzl]⟩, ?_, ?_, ?_, ?_⟩
  · intro i x hx
    rcases hlen hx with hi | hi
    · obtain ⟨k1, k2, k3, k4, z0, g0, k5, k6, k7⟩ := h.stg i x (hold hx hi)
      refine ⟨k1, k2, k3, by omega, z0, g0, ?_, k6, k7.grow (gE _ (by omega)) (gR _ (by omega))⟩
      have hb := (List.getElem?_eq_some_iff.1 k5).1
      rw [List.getElem?_append_left hb]; exact k5
    · obtain rfl : i = dn.length := by omega
      have := hnew (by rwa [hi] at hx)
      subst this
      rw [hjd]
      refine ⟨h1, h2, by rw [h2]; exact h3, by omega, z, g, ?_, hg, h4.grow (gE _ (Nat.le_refl _)) (gR _ (Nat.le_refl _))⟩
      rw [← hzl]; simp
  · have := h.stg0
    rw [List.getElem?_append_left (by simp)]; exact this
  · intro q g' hq hqm hg'
    have hqj : q < j := by
      have : q ≠ j := fun e => hqm (by rw [e, hd1]; simp)
      omega
    obtain ⟨k1, k2⟩ := h.add q g' hqj hqm hg'
    rw [getD_app (by rw [h.hE]; omega), getD_app (by rw [h.hR]; omega)]
    refine ⟨k1, fun i x hx hl hA => ?_⟩
    rcases hlen hx with hi | hi
    · exact (k2 i x (hold hx hi) (fun i' x' hlt' hx' => hl i' x' hlt' (by have hb := (List.getElem?_eq_some_iff.1 hx').1; rw [List.getElem?_append_left hb]; exact hx')) hA).grow (gE _ (by omega)) (gR _ (by omega))
    · have := hnew (by rwa [hi] at hx)
      subst this
      exact (ha q g' (by rw [h.hE]; omega) hg' hA hqm).grow (gE _ (by omega)) (gR _ (by omega))
  · intro q hq hqm
    by_cases e : q = j
    · subst e; rw [getD_end (by rw [h.hE]), getD_end (by rw [h.hR])]; exact ⟨rfl, rfl⟩
    · rw [getD_app (by rw [h.hE]; omega), getD_app (by rw [h.hR]; omega)]
      exact h.mt q (by omega) hqm
end
end Go.Proofs.YtplhecjngmkngaaT

/- Trees: a region in any order: what simp reckons, and that it is enough. No condition. -/
set_option linter.unusedVariables false
set_option linter.unusedSimpArgs false
namespace Go.Proofs.YtplhecjngmkngaaT
open Go

/-- what the floats do not name -/
def chkF (an : List (List Nat)) (m : Nat) (A N X : List Nat) : Nat → List (List (Nat × V)) → List (List (Nat × T)) → Bool
  | j, e :: E, r :: R => (A.contains j || (getN an j).contains m || avA (cond (X.contains j) [] e) r N) && chkF an m A N X (j + 1) E R
  | _, _, _ => true
theorem chkF_nil {an : List (List Nat)} {m : Nat} {A N X : List Nat} {R : List (List (Nat × T))} {j : Nat} : chkF an m A N X j [] R = true := rfl
def chkS (an : List (List Nat)) (par : List W) (E : List (List (Nat × V))) (R : List (List (Nat × T))) : Stg → Bool
  | ⟨none, A, env, roots, N, X⟩ => frA ⟨env, roots, par⟩ (mask A 0 R).flatten
  | ⟨some m, A, env, roots, N, X⟩ => frA ⟨env, roots, par⟩ (mask A 0 R).flatten && chkF an m A N X 0 E R
def chkSs (an : List (List Nat)) (par : List W) (E : List (List (Nat × V))) (R : List (List (Nat × T))) : List Stg → Bool
  | [] => true
  | z :: zs => chkS an par E R z && chkSs an par E R zs
def endM (P : Program) (an : List (List Nat)) (par : List W) (rest : List Gop) (K : St → Prop) (E : List (List (Nat × V))) (R : List (List (Nat × T))) (zs : List Stg) : Stg → Prop
  | ⟨m, A, env, roots, N, X⟩ => need ((nodN (R.flatten.map (·.1)) && frE an R 0 E && chkSs an par E R (zs ++ [⟨m, A, env, roots, N, X⟩])) = true) (pL ((mask A 0 E).flatten ++ env) fun e => pL ((mask A 0 R).flatten ++ roots) fun r => sx P rest K ⟨e, r, par⟩)
attribute [go_sem ↓] reM_nil pSt reS addM reM okX sideX mutM dmx endM
attribute [go_sem] Option.getD_some Option.getD_none reM_nil chkF_nil avA noneA pSt reS addM reM okX sideX mutM dmx endM mask inM baseOf noS inE outE inR outR flatC flD chkF chkS chkSs Bool.cond_true Bool.cond_false Bool.or_true Bool.true_or Bool.or_false Bool.false_or List.flatten_cons List.flatten_nil
end Go.Proofs.YtplhecjngmkngaaT

/- Trees: more of what simp reckons with. No condition. -/
set_option linter.unusedVariables false
set_option linter.unusedSimpArgs false
namespace Go.Proofs.YtplhecjngmkngaaT
open Go
theorem toRo_int_l {k : IntKind} {l : List Int} : (l.map (T.int k)).map toRo = l.map (T.int k) := by rw [List.map_map]; exact List.map_congr_left fun _ _ => toRo_int ..
theorem toRo_str_l {l : List ByteArray} : (l.map T.str).map toRo = l.map T.str := by rw [List.map_map]; exact List.map_congr_left fun _ _ => toRo_str ..
theorem toRo_bool_l {l : List Bool} : (l.map T.bool).map toRo = l.map T.bool := by rw [List.map_map]; exact List.map_congr_left fun _ _ => toRo_bool ..
attribute [go_sem] false_and and_false or_false false_or or_true true_or not_true_eq_false not_false_eq_true toRo_int_l toRo_str_l toRo_bool_l toRo_sl toRo_bx toRo_int toRo_str toRo_bool toRo_nptr toRo_hole
theorem beq_bool {a b : Bool} : (a == b) = decide (a = b) := by cases a <;> cases b <;> rfl
attribute [go_sem low] beq_bool
theorem take_eq_succ {α : Type} [Inhabited α] {a b : List α} {i : Nat} (ha : i < a.length) (hb : i < b.length) (h : a.take i = b.take i) (e : a.getD i default = b.getD i default) : a.take (i + 1) = b.take (i + 1) := by
  simp only [List.getD_eq_getElem?_getD, List.getElem?_eq_getElem ha, List.getElem?_eq_getElem hb, Option.getD_some] at e
  rw [List.take_add_one, List.take_add_one, h, List.getElem?_eq_getElem ha, List.getElem?_eq_getElem hb, e]
theorem eq_of_take {α : Type} {a b : List α} {n : Nat} (h : a.take n = b.take n) (ha : a.length ≤ n) (hb : b.length ≤ n) : a = b := by
  rwa [List.take_of_length_le ha, List.take_of_length_le hb] at h
/-- a row that is told anew, as far as i -/
def fillL {α : Type} (a : List α) (d : α) (i : Nat) : List α := a.take i ++ List.replicate (a.length - i) d
theorem fillL_len {α : Type} {a : List α} {d : α} {i : Nat} : (fillL a d i).length = a.length := by simp only [fillL, List.length_append, List.length_take, List.length_replicate]; omega
theorem fillL_set {α : Type} [Inhabited α] {a : List α} {d : α} {i : Nat} (h : i < a.length) : (fillL a d i).set i (a.getD i default) = fillL a d (i + 1) := by
  apply List.ext_getElem
  · simp [fillL_len]
  · intro j h1 h2
    simp only [List.length_set, fillL_len] at h1
    simp only [fillL, List.getElem_set, List.getElem_append, List.length_take, List.getElem_take, List.getElem_replicate]
    by_cases e : i = j
    · subst e
      rw [if_pos rfl, dif_pos (by omega)]
      simp [List.getD_eq_getElem?_getD, h]
    · rw [if_neg e]
      by_cases h3 : j < i
      · rw [dif_pos (by omega), dif_pos (by omega)]
      · rw [dif_neg (by omega), dif_neg (by omega)]
theorem rep_flat {α : Type} {n : Nat} {x : α} : (List.replicate n [x]).flatten = List.replicate n x := List.flatten_replicate_singleton
theorem set_map_int {k : IntKind} {l : List Int} {i : Nat} {x : Int} : (l.map (T.int k)).set i (T.int k x) = (l.set i x).map (T.int k) := List.map_set.symm
theorem set_map_str {l : List ByteArray} {i : Nat} {x : ByteArray} : (l.map T.str).set i (T.str x) = (l.set i x).map T.str := List.map_set.symm
theorem set_map_bool {l : List Bool} {i : Nat} {x : Bool} : (l.map T.bool).set i (T.bool x) = (l.set i x).map T.bool := List.map_set.symm
attribute [go_sem] fillL_len fillL_set set_map_int set_map_str set_map_bool rep_flat List.length_set
/-- a row that is written over, as far as i -/
def mixL {α : Type} [Inhabited α] (g : Nat → α) (a : List α) (i : Nat) : List α := (List.range a.length).map fun j => if j < i then g j else a.getD j default
theorem mixL_len {α : Type} [Inhabited α] {g : Nat → α} {a : List α} {i : Nat} : (mixL g a i).length = a.length := by simp [mixL]
theorem mixL_0 {α : Type} [Inhabited α] {g : Nat → α} {a : List α} : mixL g a 0 = a := by
  apply List.ext_getElem
  · simp [mixL]
  · intro j h1 h2; simp [mixL, List.getD_eq_getElem?_getD, h2]
theorem mixL_end {α : Type} [Inhabited α] {g : Nat → α} {a : List α} : mixL g a a.length = (List.range a.length).map g := by
  apply List.ext_getElem
  · simp [mixL]
  · intro j h1 h2; simp only [List.length_map, List.length_range] at h2; simp [mixL, h2]
theorem mixL_set {α : Type} [Inhabited α] {g : Nat → α} {a : List α} {i : Nat} (h : i < a.length) : (mixL g a i).set i (g i) = mixL g a (i + 1) := by
  apply List.ext_getElem
  · simp [mixL]
  · intro j h1 h2
    simp only [mixL, List.getElem_set, List.getElem_map, List.getElem_range]
    by_cases e : i = j
    · subst e; simp
    · rw [if_neg e]
      by_cases h3 : j < i
      · rw [if_pos h3, if_pos (by omega)]
      · rw [if_neg h3, if_neg (by omega)]
theorem range_getD {α : Type} [Inhabited α] {g : Nat → α} {n i : Nat} (h : i < n) : ((List.range n).map g).getD i default = g i := by simp [List.getD_eq_getElem?_getD, h]
attribute [go_sem] mixL_len List.length_range
theorem cut_le {α : Type} {f : α → T} {l : List α} {n : Nat} (h : l.length ≤ n) : cut (l.map f) 0 n = l.map f := cut_all (by simpa using h)
attribute [go_sem] cut_le
theorem imp_T {p : Prop} : (True → p) = p := by simp
theorem imp_F {p : Prop} : (False → p) = True := by simp
theorem noRoL_str {l : List ByteArray} : noRoL (l.map T.str) = true := by
  induction l with
  | nil => rfl
  | cons x l ih => simp only [List.map_cons, noRoL, noRo, ih, Bool.and_self]
theorem noRoL_int {k : IntKind} {l : List Int} : noRoL (l.map (T.int k)) = true := by
  induction l with
  | nil => rfl
  | cons x l ih => simp only [List.map_cons, noRoL, noRo, ih, Bool.and_self]
theorem noRoL_bool {l : List Bool} : noRoL (l.map T.bool) = true := by
  induction l with
  | nil => rfl
  | cons x l ih => simp only [List.map_cons, noRoL, noRo, ih, Bool.and_self]
attribute [go_sem] imp_T imp_F noRoL_str noRoL_int noRoL_bool
theorem ba_append {l m : List UInt8} : (⟨l.toArray⟩ : ByteArray) ++ ⟨m.toArray⟩ = ⟨(l ++ m).toArray⟩ := by
  apply ByteArray.ext
  simp [ByteArray.data_append]
theorem bytesT_nil : bytesT [] = some [] := rfl
theorem bytesT_cons {c : UInt8} {l : List T} : bytesT (T.int .u8 (c.toNat : Int) :: l) = (bytesT l).map (c :: ·) := by
  have h : (0 : Int) ≤ c.toNat ∧ (c.toNat : Int) < 256 := ⟨by omega, by have := c.toNat_lt; omega⟩
  simp only [bytesT, if_pos h, Int.toNat_natCast]
  rw [show UInt8.ofNat c.toNat = c from UInt8.ofNat_toNat]
theorem bytesT_map {l : List UInt8} : bytesT (l.map fun c => T.int .u8 (c.toNat : Int)) = some l := by
  induction l with
  | nil => rfl
  | cons c l ih => simp only [List.map_cons, bytesT_cons, ih, Option.map_some]
theorem ex_sl {a : Bool} {b st : Nat} {cs : List T} : (∃ own n0, T.sl a st b cs = T.sl own st n0 cs) = True := eq_true ⟨_, _, rfl⟩
attribute [go_sem] bytesT_nil bytesT_cons bytesT_map ex_sl ba_append List.size_toArray
theorem u8_wrap {x : Int} (h : 0 ≤ x ∧ x < 256) : IntKind.u8.wrap x = x := by
  simp only [IntKind.wrap, IntKind.bits, IntKind.signed, Bool.false_and, Bool.false_eq_true, if_false]
  omega
theorem lt_T {a b : Int} (h : a < b) : (a < b) = True := eq_true h
theorem lt_F {a b : Int} (h : ¬ a < b) : (a < b) = False := eq_false h
theorem le_T {a b : Int} (h : a ≤ b) : (a ≤ b) = True := eq_true h
theorem le_F {a b : Int} (h : ¬ a ≤ b) : (a ≤ b) = False := eq_false h
theorem eq_T {a b : Int} (h : a = b) : (a = b) = True := eq_true h
theorem eq_F {a b : Int} (h : ¬ a = b) : (a = b) = False := eq_false h
theorem and_F {a b c d : Int} (h : ¬ (a ≤ b ∧ c ≤ d)) : (a ≤ b ∧ c ≤ d) = False := eq_false h
theorem mapMo_nil {α β : Type} {f : α → Option β} : List.mapM f [] = some [] := rfl
theorem mapMo_cons {α β : Type} {f : α → Option β} {x : α} {l : List α} : List.mapM f (x :: l) = (f x).bind fun a => (List.mapM f l).map (a :: ·) := by
  rw [List.mapM_cons]
  cases f x with
  | none => rfl
  | some a => cases List.mapM f l <;> rfl
attribute [go_sem] mapMo_nil mapMo_cons
theorem mixL_get {α : Type} [Inhabited α] {g : Nat → α} {a : List α} {i : Nat} (h : i < a.length) : (mixL g a i).getD i default = a.getD i default := by
  simp [mixL, List.getD_eq_getElem?_getD, h]
theorem set_map_u8 {l : List UInt8} {i : Nat} {x : UInt8} : (l.map fun c => T.int .u8 (c.toNat : Int)).set i (T.int .u8 (x.toNat : Int)) = (l.set i x).map fun c => T.int .u8 (c.toNat : Int) := List.map_set.symm
theorem ba_len {b : ByteArray} : b.data.toList.length = b.size := by rw [Array.length_toList]; rfl
theorem ba_get {b : ByteArray} {i : Nat} (h : i < b.size) : b[i]? = some (b.data.toList.getD i default) := by
  rw [getElem?_pos b i h]
  congr 1
  rw [List.getD_eq_getElem?_getD, List.getElem?_eq_getElem (by rw [ba_len]; exact h)]
  rfl
theorem u8_bv (a : UInt8) : BitVec.ofInt 8 (a.toNat : Int) = a.toBitVec := by
  rw [BitVec.ofInt_natCast]; exact BitVec.ofNat_toNat ..
theorem u8_xor {a b : UInt8} : IntKind.u8.wrap ((BitVec.ofInt IntKind.u8.bits (a.toNat : Int) ^^^ BitVec.ofInt IntKind.u8.bits (b.toNat : Int)).toNat : Int) = ((a ^^^ b).toNat : Int) := by
  have e : (BitVec.ofInt IntKind.u8.bits (a.toNat : Int) ^^^ BitVec.ofInt IntKind.u8.bits (b.toNat : Int)).toNat = (a ^^^ b).toNat := by
    show (BitVec.ofInt 8 (a.toNat : Int) ^^^ BitVec.ofInt 8 (b.toNat : Int)).toNat = _
    rw [u8_bv, u8_bv]; rfl
  rw [e]
  have := (a ^^^ b).toNat_lt
  exact u8_wrap ⟨by omega, by omega⟩
attribute [go_sem] set_map_u8 ba_get u8_xor
end Go.Proofs.YtplhecjngmkngaaT

/- Trees: contracts told of memory as contracts of trees: rows of flat cells. No condition. -/
set_option linter.unusedVariables false
set_option linter.unusedSimpArgs false
namespace Go.Proofs.YtplhecjngmkngaaT
open Go

/-- flat cells -/
structure FlatK (α : Type) where
  tv : α → T
  vv : α → Value
  rep : ∀ w ro x v F, Rep w ro (tv x) v F ↔ v = vv x ∧ F = []
section
variable {α : Type} (K : FlatK α)
theorem Since.of_below {w w' : World} {F : List Nat} (h : RowKit.Below w.heap.size w w') : Since w F w' where
  os := h.os
  tape := h.tape
  output := h.output
  size := h.size
  block k hk _ := h.block k hk
  shape k hk := by unfold World.shape?; rw [h.block k hk]
end
end Go.Proofs.YtplhecjngmkngaaT

/- Trees: what an argument's value reads as, told by trees that are read alone. No condition. -/
set_option linter.unusedVariables false
set_option linter.unusedSimpArgs false
namespace Go.Proofs.YtplhecjngmkngaaT
open Go Go.RowKit

/-- what lies in a world may be read -/
def inW (w : World) : Nat → Prop := fun b => b < w.heap.size
section
variable {P : Program}
end
theorem since_below {w w' : World} (h : Since w [] w') : Below w.heap.size w w' := ⟨h.os, h.tape, h.output, h.size, fun k hk => h.block k hk (by simp)⟩
/-- a law's contract, run on what came in: it answers true and leaves what lay there -/
theorem law_run {P : Program} {f : FuncId} {targs : List TW} {outs : List TW} {w : World} {args : List Value} (M : Meets P f targs (.w (.one (.bool true))) outs) (h : RTWL w (inW w) targs args []) : Calls P f args.toArray w fun e w' => e = .returned (.bool true) ∧ Below w.heap.size w w' := by
  refine (M w (inW w) args [] h List.nodup_nil (by simp) (fun b hb => hb)).mono ?_
  rintro e w' ⟨v, ro', Fr, Fo, rfl, hv, _, _, _, _, _, _, _, hS⟩
  simp only [RTV, RTW, Rep] at hv
  exact ⟨by rw [hv.1], since_below hS⟩
end Go.Proofs.YtplhecjngmkngaaT

/- Trees: rows of structs of four cells. No condition. -/
set_option linter.unusedVariables false
set_option linter.unusedSimpArgs false
namespace Go.Proofs.YtplhecjngmkngaaT
open Go

section
variable {α : Type} {g0 g1 g2 g3 : α → T}
end
end Go.Proofs.YtplhecjngmkngaaT

/- Trees: loops whose rounds are known to go on somewhere. No condition. -/
set_option linter.unusedVariables false
set_option linter.unusedSimpArgs false
namespace Go.Proofs.YtplhecjngmkngaaT
open Go

end Go.Proofs.YtplhecjngmkngaaT

/- Trees: rows of structs of two cells. No condition. -/
set_option linter.unusedVariables false
set_option linter.unusedSimpArgs false
namespace Go.Proofs.YtplhecjngmkngaaT
open Go

section
variable {α : Type} {g0 g1 : α → T}
end
end Go.Proofs.YtplhecjngmkngaaT

/- Trees: an inner row becomes a root. No condition. -/
set_option linter.unusedVariables false
set_option linter.unusedSimpArgs false
set_option linter.unusedSectionVars false
namespace Go.Proofs.YtplhecjngmkngaaT
open Go

/-- what a tree is of a value that a way may begin at -/
def Base (x : T) (v : Value) : Prop := (∀ own st n cs, x = .sl own st n cs → cs.length = n * st ∧ ∃ A c, v = .slice A n c) ∧ (∀ own cs, x = .bx own cs → ∃ b o, adr v = some (b, o))
/-- the ways that are told anew lead to what they led to; a way within a root may become a root -/
def Leads2 (f : Ren) (w : World) (roots : List (Nat × T)) (hv : Nat → Value) (roots' : List (Nat × T)) (hv' : Nat → Value) : Prop :=
  ∀ r p r' p', f r p = some (r', p') → (p' = [] → (p = [] ∧ hv' r' = hv r) ∨ ∃ t x, get roots r = some t ∧ sub t p = some x ∧ walk w (hv r) p = some (hv' r') ∧ Base x (hv' r')) ∧ ∀ t', get roots' r' = some t' → ∃ t, get roots r = some t ∧ ∀ x, sub t p = some x → isOb x = true → ∃ x', sub t' p' = some x' ∧ Alike x x' ∧ ∀ h, walk w (hv r) p = some h → walk w (hv' r') p' = some h
section
variable {f : Ren} {w : World} {roots roots' : List (Nat × T)} {hv hv' : Nat → Value} (L : Leads2 f w roots hv roots' hv')
include L
end

/-- what is left of a way behind its head -/
def strip : List Nat → List Nat → Option (List Nat)
  | [], p => some p
  | a :: q, b :: p => if a = b then strip q p else none
  | _ :: _, [] => none
def outRn (r : Nat) (q : List Nat) (b : Nat) : Ren := fun x p => if x = r then (match strip q p with | some s => some (b, s) | none => some (x, p)) else if x = b then none else some (x, p)
def St.out (s : St) (r : Nat) (q : List Nat) (b : Nat) (o t2 : T) : St := ⟨mapv (renV (outRn r q b)) s.env, (b, o) :: (r, t2) :: s.roots, s.par.map (renW (outRn r q b))⟩
def oHs : Option (List Nat) → Nat → Nat → List Nat → Nat → Nat → Nat → H
  | some s, b, _, _, off, st, n => .hs b s off st n
  | none, _, r, p, off, st, n => .hs r p off st n
def oHp : Option (List Nat) → Nat → Nat → List Nat → Nat → H
  | some s, b, _, _, off => .hp b s off
  | none, _, r, p, off => .hp r p off
theorem out_hs {r b x off st n : Nat} {q p : List Nat} : renH (outRn r q b) (.hs x p off st n) = if x = r then oHs (strip q p) b x p off st n else if x = b then .un else .hs x p off st n := by
  simp only [renH, outRn]
  by_cases h : x = r
  · simp only [h, if_true]; cases strip q p <;> rfl
  · by_cases h2 : x = b
    · subst h2; simp [h]
    · simp [h, h2]
theorem out_hp {r b x off : Nat} {q p : List Nat} : renH (outRn r q b) (.hp x p off) = if x = r then oHp (strip q p) b x p off else if x = b then .un else .hp x p off := by
  simp only [renH, outRn]
  by_cases h : x = r
  · simp only [h, if_true]; cases strip q p <;> rfl
  · by_cases h2 : x = b
    · subst h2; simp [h]
    · simp [h, h2]
theorem out_st {s : St} {r b : Nat} {q : List Nat} {o t2 : T} : s.out r q b o t2 = ⟨mapv (renV (outRn r q b)) s.env, (b, o) :: (r, t2) :: s.roots, s.par.map (renW (outRn r q b))⟩ := rfl
attribute [go_sem] out_hs out_hp oHs oHp strip out_st
end Go.Proofs.YtplhecjngmkngaaT

/- Trees: what is one's own is read alone from then on. No condition. -/
set_option linter.unusedVariables false
set_option linter.unusedSimpArgs false
set_option linter.unusedSectionVars false
namespace Go.Proofs.YtplhecjngmkngaaT
open Go

theorem RepL.more {w : World} {ro ro' : Nat → Prop} (hr : ∀ b, ro b → ro' b) {b o : Nat} {cs : List T} {F : List Nat} (h : RepL w ro b o cs F) (hb : b ∈ F ∨ ro b ∨ cs = []) : RepL w ro' b o cs F := by
  rcases hb with hb | hb | rfl
  · exact RepL.same (G := F) (fun _ _ => rfl) hr (Nat.le_refl _) b o cs F h (fun _ h => h) (.inl hb)
  · exact RepL.same (G := F) (fun _ _ => rfl) hr (Nat.le_refl _) b o cs F h (fun _ h => h) (.inr hb)
  · simpa only [RepL] using h
theorem Rep.more {w : World} {ro ro' : Nat → Prop} (hr : ∀ b, ro b → ro' b) {t : T} {v : Value} {F : List Nat} (h : Rep w ro t v F) : Rep w ro' t v F :=
  Rep.same (G := F) (fun _ _ => rfl) hr (Nat.le_refl _) t v F h fun _ h => h
theorem Blk.more {w : World} {ro ro' : Nat → Prop} (hr : ∀ b, ro b → ro' b) {own : Bool} {b o ext : Nat} {F F' : List Nat} (h : Blk w ro own b o ext F F') : Blk w ro' own b o ext F F' := by
  unfold Blk at h ⊢
  cases own
  · simp only [Bool.false_eq_true, if_false] at h ⊢; exact ⟨h.1, h.2.1, h.2.2.1, hr _ h.2.2.2⟩
  · simpa using h
end Go.Proofs.YtplhecjngmkngaaT

/- Trees: all cells of a row are read alone from then on. No condition. -/
set_option linter.unusedVariables false
set_option linter.unusedSimpArgs false
set_option linter.unusedSectionVars false
namespace Go.Proofs.YtplhecjngmkngaaT
open Go

end Go.Proofs.YtplhecjngmkngaaT

/- Trees: a region in any order, its operations told in another order. No condition. -/
set_option linter.unusedVariables false
set_option linter.unusedSimpArgs false
set_option linter.unusedSectionVars false
namespace Go.Proofs.YtplhecjngmkngaaT
open Go

section
variable {P : Program} {es : List (List Nat)} {gs : List Gop} {π : List Nat}
end
end Go.Proofs.YtplhecjngmkngaaT

/- Trees: what lies in a cell of one's own becomes a root of its own. No condition. -/
set_option linter.unusedVariables false
set_option linter.unusedSimpArgs false
set_option linter.unusedSectionVars false
namespace Go.Proofs.YtplhecjngmkngaaT
open Go

section
variable {w : World} {ro : Nat → Prop} {roots : List (Nat × T)} {hv : Nat → Value} {r r' : Nat} {q : List Nat} {t t2 : T} {st n0 : Nat} {cs : List T} {vo : Value} {Fo : List Nat}
  (hr : get roots r = some t) (hq : q ≠ []) (ho : sub t q = some (.sl true st n0 cs)) (hu : upd .hole t q = some t2) (hw : walk w (hv r) q = some vo) (hR : Rep w ro (.sl true st n0 cs) vo Fo) (hne : r' ≠ r)
include hr hq ho hu hw hR hne
end
end Go.Proofs.YtplhecjngmkngaaT
