/- A program's values as trees, and its code as steps on them. No condition. -/
import Derived.WalkKit
import Derived.Deep.MidRow
set_option linter.all false
set_option linter.unusedVariables false
set_option linter.unusedSimpArgs false
set_option linter.unusedSectionVars false
set_option linter.unnecessarySimpa false
set_option linter.deprecated false
/- Trees: what a value of Go's is as data, each slice with its cells inline; how a tree is laid out in memory; reading, taking out, putting back. No condition. -/
set_option linter.unusedVariables false
set_option linter.unusedSimpArgs false
namespace Go.Proofs.YtplhecjngmkngaaT
open Go

/-- A cell's value as data. A slice bears its cells; `own`: nobody else has them. A box is what a pointer points to. A hole is a cell of which nothing is said. -/
inductive T where
  | int (k : IntKind) (n : Int)
  | bool (b : Bool)
  | str (s : ByteArray)
  | nptr
  | sl (own : Bool) (st n : Nat) (cs : List T)
  | bx (own : Bool) (cs : List T)
  | fn (f : FuncId) (caps : List T)
  | hole

/-- the block behind a slice or a box -/
def Blk (w : World) (ro : Nat → Prop) (own : Bool) (b o ext : Nat) (F F' : List Nat) : Prop :=
  b < w.heap.size ∧ if own then F = b :: F' ∧ (∃ arr e fr, w.heap[b]? = some (.cells arr e fr) ∧ o + ext ≤ arr.size ∧ ∀ j, j < arr.size → w.frozen? ⟨b, j, none⟩ = false) else F = [] ∧ F' = [] ∧ ro b

mutual
/-- the tree t is the value v in the world w; F: the blocks that are its own -/
def Rep (w : World) (ro : Nat → Prop) : T → Value → List Nat → Prop
  | .int k n, v, F => v = .int k n ∧ F = []
  | .bool b, v, F => v = .bool b ∧ F = []
  | .str s, v, F => v = .string s ∧ F = []
  | .nptr, v, F => v = .pointer none ∧ F = []
  | .sl own st n cs, v, F => (n = 0 ∧ cs = [] ∧ F = [] ∧ ∃ a, v = .slice a 0 0) ∨
      ∃ b o cap F', v = .slice (some ⟨b, o, none⟩) n cap ∧ (n ≤ cap ∧ 0 < st) ∧ cs.length = n * st ∧ Blk w ro own b o (cap * st) F F' ∧ RepL w ro b o cs F'
  | .bx own cs, v, F => ∃ b o F', v = .pointer (some ⟨b, o, none⟩) ∧ Blk w ro own b o cs.length F F' ∧ RepL w ro b o cs F'
  | .fn f caps, v, F => ∃ vs : List Value, v = .func (.func f) #[] vs.toArray ∧ RepV w ro caps vs F
  | .hole, v, F => F = []
/-- cells, one behind the other, from o on -/
def RepL (w : World) (ro : Nat → Prop) (b : Nat) (o : Nat) : List T → List Nat → Prop
  | [], F => F = []
  | t :: ts, F => ∃ v F1 F2, w.cell? ⟨b, o, none⟩ = some v ∧ Rep w ro t v F1 ∧ RepL w ro b (o + 1) ts F2 ∧ F = F1 ++ F2
/-- values in a row -/
def RepV (w : World) (ro : Nat → Prop) : List T → List Value → List Nat → Prop
  | [], vs, F => vs = [] ∧ F = []
  | t :: ts, vs, F => ∃ v vs' F1 F2, vs = v :: vs' ∧ Rep w ro t v F1 ∧ RepV w ro ts vs' F2 ∧ F = F1 ++ F2
end

/-- one world's blocks read as another's, where it matters -/
def Same (w w' : World) (F : List Nat) (ro : Nat → Prop) : Prop := ∀ b, (b ∈ F ∨ ro b) → w'.heap[b]? = w.heap[b]?

theorem Same.cell {w w' : World} {F : List Nat} {ro : Nat → Prop} (h : Same w w' F ro) {b o : Nat} (hb : b ∈ F ∨ ro b) : w'.cell? ⟨b, o, none⟩ = w.cell? ⟨b, o, none⟩ := by
  simp [World.cell?, h b hb]

theorem Same.mono {w w' : World} {F F' : List Nat} {ro : Nat → Prop} (h : Same w w' F ro) (hs : ∀ b ∈ F', b ∈ F) : Same w w' F' ro :=
  fun b hb => h b (hb.imp (hs b) id)

theorem Blk.same {w w' : World} {ro ro' : Nat → Prop} {own : Bool} {b o ext : Nat} {F F' G : List Nat} (h : Blk w ro own b o ext F F') (hs : Same w w' G ro) (hF : ∀ b ∈ F, b ∈ G) (hr : ∀ b, ro b → ro' b) (hz : w.heap.size ≤ w'.heap.size) : Blk w' ro' own b o ext F F' := by
  unfold Blk at h ⊢
  obtain ⟨hlt, h⟩ := h
  refine ⟨by omega, ?_⟩
  cases own
  · simp only [Bool.false_eq_true, if_false] at h ⊢
    exact ⟨h.1, h.2.1, hr _ h.2.2⟩
  · simp only [if_true] at h ⊢
    obtain ⟨hf, arr, e, fr, ha, hx, hz⟩ := h
    have hb : w'.heap[b]? = w.heap[b]? := hs b (.inl (hF b (by simp [hf])))
    refine ⟨hf, arr, e, fr, hb.trans ha, hx, fun j hj => ?_⟩
    have := hz j hj
    simp only [World.frozen?, hb] at this ⊢
    exact this

theorem Blk.sub {w : World} {ro : Nat → Prop} {own : Bool} {b o ext : Nat} {F F' : List Nat} (h : Blk w ro own b o ext F F') : ∀ x ∈ F', x ∈ F := by
  cases own
  · intro x hx; simp only [Blk, Bool.false_eq_true, if_false] at h; simp [h.2.2.1] at hx
  · intro x hx; simp only [Blk, if_true] at h; simp [h.2.1, hx]

theorem Blk.mem {w : World} {ro : Nat → Prop} {own : Bool} {b o ext : Nat} {F F' : List Nat} (h : Blk w ro own b o ext F F') : b ∈ F ∨ ro b := by
  cases own
  · simp only [Blk, Bool.false_eq_true, if_false] at h; exact .inr h.2.2.2
  · simp only [Blk, if_true] at h; exact .inl (by simp [h.2.1])

theorem Blk.shrink {w : World} {ro : Nat → Prop} {own : Bool} {b o ext o' ext' : Nat} {F F' : List Nat} (h : Blk w ro own b o ext F F') (hx : o' + ext' ≤ o + ext) : Blk w ro own b o' ext' F F' := by
  unfold Blk at h ⊢
  obtain ⟨hlt, h⟩ := h
  refine ⟨hlt, ?_⟩
  cases own
  · simpa using h
  · simp only [if_true] at h ⊢
    obtain ⟨hf, arr, e, fr, ha, hx', hz⟩ := h
    exact ⟨hf, arr, e, fr, ha, by omega, hz⟩

mutual
theorem Rep.same {w w' : World} {ro ro' : Nat → Prop} {G : List Nat} (hs : Same w w' G ro) (hr : ∀ b, ro b → ro' b) (hz : w.heap.size ≤ w'.heap.size) : ∀ (t : T) (v : Value) (F : List Nat), Rep w ro t v F → (∀ b ∈ F, b ∈ G) → Rep w' ro' t v F
  | .int k n, v, F, h, _ => by simpa only [Rep] using h
  | .bool b, v, F, h, _ => by simpa only [Rep] using h
  | .str s, v, F, h, _ => by simpa only [Rep] using h
  | .nptr, v, F, h, _ => by simpa only [Rep] using h
  | .hole, v, F, h, _ => by simpa only [Rep] using h
  | .sl own st n cs, v, F, h, hF => by
    simp only [Rep] at h ⊢
    rcases h with h | ⟨b, o, cap, F', h1, h2, h3, h4, h5⟩
    · exact .inl h
    · exact .inr ⟨b, o, cap, F', h1, h2, h3, h4.same hs hF hr hz, RepL.same hs hr hz b o cs F' h5 (fun x hx => hF x (h4.sub x hx)) (h4.mem.imp (hF b) id)⟩
  | .bx own cs, v, F, h, hF => by
    simp only [Rep] at h ⊢
    obtain ⟨b, o, F', h1, h4, h5⟩ := h
    exact ⟨b, o, F', h1, h4.same hs hF hr hz, RepL.same hs hr hz b o cs F' h5 (fun x hx => hF x (h4.sub x hx)) (h4.mem.imp (hF b) id)⟩
  | .fn f caps, v, F, h, hF => by
    simp only [Rep] at h ⊢
    obtain ⟨vs, h1, h2⟩ := h
    exact ⟨vs, h1, RepV.same hs hr hz caps vs F h2 hF⟩
theorem RepL.same {w w' : World} {ro ro' : Nat → Prop} {G : List Nat} (hs : Same w w' G ro) (hr : ∀ b, ro b → ro' b) (hz : w.heap.size ≤ w'.heap.size) (b o : Nat) : ∀ (cs : List T) (F : List Nat), RepL w ro b o cs F → (∀ x ∈ F, x ∈ G) → (b ∈ G ∨ ro b) → RepL w' ro' b o cs F
  | [], F, h, _, _ => by simpa only [RepL] using h
  | t :: ts, F, h, hF, hb => by
    simp only [RepL] at h ⊢
    obtain ⟨v, F1, F2, h1, h2, h3, rfl⟩ := h
    exact ⟨v, F1, F2, (hs.cell hb).trans h1, Rep.same hs hr hz t v F1 h2 (fun x hx => hF x (by simp [hx])), RepL.same hs hr hz b (o + 1) ts F2 h3 (fun x hx => hF x (by simp [hx])) hb, rfl⟩
theorem RepV.same {w w' : World} {ro ro' : Nat → Prop} {G : List Nat} (hs : Same w w' G ro) (hr : ∀ b, ro b → ro' b) (hz : w.heap.size ≤ w'.heap.size) : ∀ (ts : List T) (vs : List Value) (F : List Nat), RepV w ro ts vs F → (∀ x ∈ F, x ∈ G) → RepV w' ro' ts vs F
  | [], vs, F, h, _ => by simpa only [RepV] using h
  | t :: ts, vs, F, h, hF => by
    simp only [RepV] at h ⊢
    obtain ⟨v, vs', F1, F2, h1, h2, h3, rfl⟩ := h
    exact ⟨v, vs', F1, F2, h1, Rep.same hs hr hz t v F1 h2 (fun x hx => hF x (by simp [hx])), RepV.same hs hr hz ts vs' F2 h3 (fun x hx => hF x (by simp [hx])), rfl⟩
end

mutual
/-- own blocks lie in the world -/
theorem Rep.lt {w : World} {ro : Nat → Prop} : ∀ (t : T) (v : Value) (F : List Nat), Rep w ro t v F → ∀ b ∈ F, b < w.heap.size
  | .int k n, v, F, h, b, hb => by simp only [Rep] at h; simp [h.2] at hb
  | .bool _, v, F, h, b, hb => by simp only [Rep] at h; simp [h.2] at hb
  | .str _, v, F, h, b, hb => by simp only [Rep] at h; simp [h.2] at hb
  | .nptr, v, F, h, b, hb => by simp only [Rep] at h; simp [h.2] at hb
  | .hole, v, F, h, b, hb => by simp only [Rep] at h; simp [h] at hb
  | .sl own st n cs, v, F, h, b, hb => by
    simp only [Rep] at h
    rcases h with h | ⟨b', o, cap, F', h1, h2, h3, h4, h5⟩
    · simp [h.2.2.1] at hb
    · cases own
      · simp only [Blk, Bool.false_eq_true, if_false] at h4; simp [h4.2.1] at hb
      · simp only [Blk, if_true] at h4
        rw [h4.2.1] at hb
        rcases List.mem_cons.1 hb with rfl | hb
        · exact h4.1
        · exact RepL.lt b' o cs F' h5 b hb
  | .bx own cs, v, F, h, b, hb => by
    simp only [Rep] at h
    obtain ⟨b', o, F', h1, h4, h5⟩ := h
    cases own
    · simp only [Blk, Bool.false_eq_true, if_false] at h4; simp [h4.2.1] at hb
    · simp only [Blk, if_true] at h4
      rw [h4.2.1] at hb
      rcases List.mem_cons.1 hb with rfl | hb
      · exact h4.1
      · exact RepL.lt b' o cs F' h5 b hb
  | .fn f caps, v, F, h, b, hb => by
    simp only [Rep] at h
    obtain ⟨vs, h1, h2⟩ := h
    exact RepV.lt caps vs F h2 b hb
theorem RepL.lt {w : World} {ro : Nat → Prop} (b o : Nat) : ∀ (cs : List T) (F : List Nat), RepL w ro b o cs F → ∀ x ∈ F, x < w.heap.size
  | [], F, h, x, hx => by simp only [RepL] at h; simp [h] at hx
  | t :: ts, F, h, x, hx => by
    simp only [RepL] at h
    obtain ⟨v, F1, F2, h1, h2, h3, rfl⟩ := h
    rcases List.mem_append.1 hx with hx | hx
    · exact Rep.lt t v F1 h2 x hx
    · exact RepL.lt b (o + 1) ts F2 h3 x hx
theorem RepV.lt {w : World} {ro : Nat → Prop} : ∀ (ts : List T) (vs : List Value) (F : List Nat), RepV w ro ts vs F → ∀ x ∈ F, x < w.heap.size
  | [], vs, F, h, x, hx => by simp only [RepV] at h; simp [h.2] at hx
  | t :: ts, vs, F, h, x, hx => by
    simp only [RepV] at h
    obtain ⟨v, vs', F1, F2, h1, h2, h3, rfl⟩ := h
    rcases List.mem_append.1 hx with hx | hx
    · exact Rep.lt t v F1 h2 x hx
    · exact RepV.lt ts vs' F2 h3 x hx
end

/-- the same tree, read alone -/
def toRo : T → T
  | .sl _ st n cs => .sl false st n (cs.attach.map fun ⟨c, _⟩ => toRo c)
  | .bx _ cs => .bx false (cs.attach.map fun ⟨c, _⟩ => toRo c)
  | .fn f caps => .fn f (caps.attach.map fun ⟨c, _⟩ => toRo c)
  | t => t
decreasing_by all_goals (simp_wf; have := List.sizeOf_lt_of_mem ‹_›; omega)

@[simp] theorem toRo_sl (o : Bool) (st n : Nat) (cs : List T) : toRo (.sl o st n cs) = .sl false st n (cs.map toRo) := by simp [toRo]
@[simp] theorem toRo_bx (o : Bool) (cs : List T) : toRo (.bx o cs) = .bx false (cs.map toRo) := by simp [toRo]
@[simp] theorem toRo_fn (f : FuncId) (cs : List T) : toRo (.fn f cs) = .fn f (cs.map toRo) := by simp [toRo]
@[simp] theorem toRo_int (k : IntKind) (n : Int) : toRo (.int k n) = .int k n := by simp [toRo]
@[simp] theorem toRo_bool (b : Bool) : toRo (.bool b) = .bool b := by simp [toRo]
@[simp] theorem toRo_str (b : ByteArray) : toRo (.str b) = .str b := by simp [toRo]
@[simp] theorem toRo_nptr : toRo .nptr = .nptr := by simp [toRo]
@[simp] theorem toRo_hole : toRo .hole = .hole := by simp [toRo]

mutual
theorem Rep.toRo {w : World} {ro ro' : Nat → Prop} (hr : ∀ b, ro b → ro' b) : ∀ (t : T) (v : Value) (F : List Nat), Rep w ro t v F → (∀ b ∈ F, ro' b) → Rep w ro' (toRo t) v []
  | .int k n, v, F, h, _ => by simp only [Rep, toRo_int] at h ⊢; exact ⟨h.1, trivial⟩
  | .bool _, v, F, h, _ => by simp only [Rep, toRo_bool] at h ⊢; exact ⟨h.1, trivial⟩
  | .str _, v, F, h, _ => by simp only [Rep, toRo_str] at h ⊢; exact ⟨h.1, trivial⟩
  | .nptr, v, F, h, _ => by simp only [Rep, toRo_nptr] at h ⊢; exact ⟨h.1, trivial⟩
  | .hole, v, F, h, _ => by simp only [Rep, toRo_hole] at h ⊢
  | .sl own st n cs, v, F, h, hF => by
    simp only [Rep, toRo_sl] at h ⊢
    rcases h with ⟨h1, h2, h3, h4⟩ | ⟨b, o, cap, F', h1, h2, h3, h4, h5⟩
    · exact .inl ⟨h1, by simp [h2], trivial, h4⟩
    · refine .inr ⟨b, o, cap, [], h1, h2, by simpa using h3, ⟨h4.1, ?_⟩, RepL.toRo hr b o cs F' h5 (fun x hx => hF x (h4.sub x hx))⟩
      simp only [Bool.false_eq_true, if_false]
      exact ⟨trivial, trivial, h4.mem.elim (hF b) (hr b)⟩
  | .bx own cs, v, F, h, hF => by
    simp only [Rep, toRo_bx] at h ⊢
    obtain ⟨b, o, F', h1, h4, h5⟩ := h
    refine ⟨b, o, [], h1, ⟨h4.1, ?_⟩, RepL.toRo hr b o cs F' h5 (fun x hx => hF x (h4.sub x hx))⟩
    simp only [Bool.false_eq_true, if_false]
    exact ⟨trivial, trivial, h4.mem.elim (hF b) (hr b)⟩
  | .fn f caps, v, F, h, hF => by
    simp only [Rep, toRo_fn] at h ⊢
    obtain ⟨vs, h1, h2⟩ := h
    exact ⟨vs, h1, RepV.toRo hr caps vs F h2 hF⟩
theorem RepL.toRo {w : World} {ro ro' : Nat → Prop} (hr : ∀ b, ro b → ro' b) (b o : Nat) : ∀ (cs : List T) (F : List Nat), RepL w ro b o cs F → (∀ x ∈ F, ro' x) → RepL w ro' b o (cs.map toRo) []
  | [], F, h, _ => by simp only [RepL, List.map_nil]
  | t :: ts, F, h, hF => by
    simp only [RepL, List.map_cons] at h ⊢
    obtain ⟨v, F1, F2, h1, h2, h3, rfl⟩ := h
    exact ⟨v, [], [], h1, Rep.toRo hr t v F1 h2 (fun x hx => hF x (by simp [hx])), RepL.toRo hr b (o + 1) ts F2 h3 (fun x hx => hF x (by simp [hx])), rfl⟩
theorem RepV.toRo {w : World} {ro ro' : Nat → Prop} (hr : ∀ b, ro b → ro' b) : ∀ (ts : List T) (vs : List Value) (F : List Nat), RepV w ro ts vs F → (∀ x ∈ F, ro' x) → RepV w ro' (ts.map toRo) vs []
  | [], vs, F, h, _ => by simp only [RepV, List.map_nil] at h ⊢; exact ⟨h.1, trivial⟩
  | t :: ts, vs, F, h, hF => by
    simp only [RepV, List.map_cons] at h ⊢
    obtain ⟨v, vs', F1, F2, h1, h2, h3, rfl⟩ := h
    exact ⟨v, vs', [], [], h1, Rep.toRo hr t v F1 h2 (fun x hx => hF x (by simp [hx])), RepV.toRo hr ts vs' F2 h3 (fun x hx => hF x (by simp [hx])), rfl⟩
end

end Go.Proofs.YtplhecjngmkngaaT

/- Trees: the way to a tree within a tree; taking it out, putting another in; a store of one cell. No condition. -/
set_option linter.unusedVariables false
set_option linter.unusedSimpArgs false
namespace Go.Proofs.YtplhecjngmkngaaT
open Go

/-- the tree at a path: each step is a cell's number -/
def sub : T → List Nat → Option T
  | t, [] => some t
  | .sl _ _ _ cs, j :: p => (cs[j]?).bind (sub · p)
  | .bx _ cs, j :: p => (cs[j]?).bind (sub · p)
  | _, _ :: _ => none

/-- another tree put in at a path, through what is one's own -/
def upd (t' : T) : T → List Nat → Option T
  | _, [] => some t'
  | .sl true st n cs, j :: p => (cs[j]?).bind fun c => (upd t' c p).map fun c' => .sl true st n (cs.set j c')
  | .bx true cs, j :: p => (cs[j]?).bind fun c => (upd t' c p).map fun c' => .bx true (cs.set j c')
  | _, _ :: _ => none

def walk (w : World) : Value → List Nat → Option Value
  | v, [] => some v
  | .slice (some a) _ _, j :: p => (w.cell? ⟨a.block, a.off + j, none⟩).bind (walk w · p)
  | .pointer (some a), j :: p => (w.cell? ⟨a.block, a.off + j, none⟩).bind (walk w · p)
  | _, _ :: _ => none

theorem RepL.keep {w w' : World} {ro : Nat → Prop} {b : Nat} (hz : w.heap.size ≤ w'.heap.size) : ∀ (cs : List T) (o : Nat) (F : List Nat), RepL w ro b o cs F → (∀ i, i < cs.length → w'.cell? ⟨b, o + i, none⟩ = w.cell? ⟨b, o + i, none⟩) → Same w w' F ro → RepL w' ro b o cs F
  | [], o, F, h, _, _ => by simpa only [RepL] using h
  | c :: cs, o, F, h, hc, hs => by
    simp only [RepL] at h ⊢
    obtain ⟨v, F1, F2, h1, h2, h3, rfl⟩ := h
    exact ⟨v, F1, F2, (hc 0 (by simp)).trans h1, Rep.same hs (fun _ h => h) hz _ _ _ h2 (fun x hx => by simp [hx]),
      RepL.keep hz cs (o + 1) F2 h3 (fun i hi => by have := hc (i + 1) (by simp; omega); rwa [show o + (i + 1) = o + 1 + i by omega] at this) (hs.mono (fun x hx => by simp [hx])), rfl⟩

theorem walk_snoc (w : World) : ∀ (p : List Nat) (v : Value) (j : Nat), walk w v (p ++ [j]) = (walk w v p).bind (walk w · [j])
  | [], v, j => by simp [walk]
  | i :: p, v, j => by
    have ih := walk_snoc w p
    cases v with
    | slice a l c => cases a <;> simp [walk, ih, Option.bind_assoc]
    | pointer a => cases a <;> simp [walk, ih, Option.bind_assoc]
    | _ => simp [walk]

/-- one cell of a row, and the row with another tree there, in a world that is the same else -/
theorem RepL.at2 {w : World} {ro : Nat → Prop} {b : Nat} : ∀ (cs : List T) (o : Nat) (F : List Nat) (j : Nat) (t : T), RepL w ro b o cs F → cs[j]? = some t →
    ∃ v pre Fj post, w.cell? ⟨b, o + j, none⟩ = some v ∧ Rep w ro t v Fj ∧ F = pre ++ Fj ++ post ∧
      ∀ w' t' F', w.heap.size ≤ w'.heap.size → Same w w' (pre ++ post) ro → (∀ i, i < cs.length → w'.cell? ⟨b, o + i, none⟩ = w.cell? ⟨b, o + i, none⟩) → Rep w' ro t' v F' → RepL w' ro b o (cs.set j t') (pre ++ F' ++ post)
  | [], o, F, j, t, h, hj => by simp at hj
  | c :: cs, o, F, 0, t, h, hj => by
    simp at hj; subst hj
    simp only [RepL] at h
    obtain ⟨v, F1, F2, h1, h2, h3, rfl⟩ := h
    refine ⟨v, [], F1, F2, by simpa using h1, h2, by simp, fun w' t' F' hz hs hc h' => ?_⟩
    simp only [List.set_cons_zero, RepL]
    exact ⟨v, F', F2, (hc 0 (by simp)).trans h1, h', RepL.keep hz cs (o + 1) F2 h3 (fun i hi => by have := hc (i + 1) (by simp; omega); rwa [show o + (i + 1) = o + 1 + i by omega] at this) (by simpa using hs), by simp⟩
  | c :: cs, o, F, j + 1, t, h, hj => by
    simp at hj
    simp only [RepL] at h
    obtain ⟨v, F1, F2, h1, h2, h3, rfl⟩ := h
    obtain ⟨v', pre, Fj, post, g1, g2, rfl, g4⟩ := RepL.at2 cs (o + 1) F2 j t h3 hj
    refine ⟨v', F1 ++ pre, Fj, post, by rw [← g1]; congr 2; omega, g2, by simp, fun w' t' F' hz hs hc h' => ?_⟩
    simp only [List.set_cons_succ, RepL]
    exact ⟨v, F1, pre ++ F' ++ post, (hc 0 (by simp)).trans h1, Rep.same (hs.mono (fun x hx => by simp only [List.mem_append]; exact .inl (.inl hx))) (fun _ h => h) hz _ _ _ h2 (fun _ h => h),
      g4 w' t' F' hz (hs.mono (fun x hx => by simp only [List.mem_append] at hx ⊢; exact hx.imp .inr id)) (fun i hi => by have := hc (i + 1) (by simp; omega); rwa [show o + (i + 1) = o + 1 + i by omega] at this) h', by simp⟩

theorem RepL.at {w : World} {ro : Nat → Prop} {b : Nat} (cs : List T) (o : Nat) (F : List Nat) (j : Nat) (t : T) (h : RepL w ro b o cs F) (hj : cs[j]? = some t) :
    ∃ v pre Fj post, w.cell? ⟨b, o + j, none⟩ = some v ∧ Rep w ro t v Fj ∧ F = pre ++ Fj ++ post ∧ ∀ t' F', Rep w ro t' v F' → RepL w ro b o (cs.set j t') (pre ++ F' ++ post) := by
  obtain ⟨v, pre, Fj, post, g1, g2, g3, g4⟩ := RepL.at2 cs o F j t h hj
  exact ⟨v, pre, Fj, post, g1, g2, g3, fun t' F' h' => g4 w t' F' (Nat.le_refl _) (fun _ _ => rfl) (fun _ _ => rfl) h'⟩

/-- a tree within a tree -/
theorem Rep.sub {w : World} {ro : Nat → Prop} : ∀ (p : List Nat) (t t' : T) (v : Value) (F : List Nat), Rep w ro t v F → sub t p = some t' →
    ∃ v' pre F' post, walk w v p = some v' ∧ Rep w ro t' v' F' ∧ F = pre ++ F' ++ post ∧ ((upd t' t p).isSome → ∀ t'' F'', Rep w ro t'' v' F'' → ∃ t2, upd t'' t p = some t2 ∧ Rep w ro t2 v (pre ++ F'' ++ post))
  | [], t, t', v, F, h, hs => by
    cases t <;> (simp only [Go.Proofs.YtplhecjngmkngaaT.sub, Option.some.injEq] at hs; subst hs; exact ⟨v, [], F, [], rfl, h, by simp, fun _ t'' F'' h' => ⟨t'', rfl, by simpa using h'⟩⟩)
  | j :: p, .sl own st n cs, t', v, F, h, hs => by
    simp only [Go.Proofs.YtplhecjngmkngaaT.sub] at hs
    obtain ⟨c, hc, hs⟩ := Option.bind_eq_some_iff.1 hs
    simp only [Rep] at h
    rcases h with ⟨_, rfl, _⟩ | ⟨b, o, cap, F', rfl, h2, h3, h4, h5⟩
    · simp at hc
    obtain ⟨vc, pre, Fj, post, g1, g2, rfl, g4⟩ := RepL.at cs o F' j c h5 hc
    obtain ⟨v', pre', F', post', k1, k2, rfl, k4⟩ := Rep.sub p c t' vc Fj g2 hs
    cases own with
    | false =>
      have hB := h4
      simp only [Blk, Bool.false_eq_true, if_false] at hB
      obtain ⟨_, rfl, hn, _⟩ := hB
      simp only [List.append_eq_nil_iff] at hn
      obtain ⟨⟨rfl, ⟨rfl, rfl⟩, rfl⟩, rfl⟩ := hn
      exact ⟨v', [], [], [], by simp [walk, g1, k1], k2, rfl, fun hu => by simp [upd] at hu⟩
    | true =>
      have hB := h4
      simp only [Blk, if_true] at hB
      obtain ⟨hlt, rfl, hrest⟩ := hB
      refine ⟨v', b :: (pre ++ pre'), F', post' ++ post, by simp [walk, g1, k1], k2, by simp, fun hu t'' F'' h' => ?_⟩
      simp only [upd, hc, Option.bind_some, Option.isSome_map] at hu
      obtain ⟨c2, e2, r2⟩ := k4 hu t'' F'' h'
      refine ⟨.sl true st n (cs.set j c2), by simp [upd, hc, e2], ?_⟩
      simp only [Rep]
      refine .inr ⟨b, o, cap, pre ++ (pre' ++ F'' ++ post') ++ post, rfl, h2, by simpa using h3, ?_, g4 c2 _ r2⟩
      simp only [Blk, if_true]
      exact ⟨hlt, by simp, hrest⟩
  | j :: p, .bx own cs, t', v, F, h, hs => by
    simp only [Go.Proofs.YtplhecjngmkngaaT.sub] at hs
    obtain ⟨c, hc, hs⟩ := Option.bind_eq_some_iff.1 hs
    simp only [Rep] at h
    obtain ⟨b, o, F', rfl, h4, h5⟩ := h
    obtain ⟨vc, pre, Fj, post, g1, g2, rfl, g4⟩ := RepL.at cs o F' j c h5 hc
    obtain ⟨v', pre', F', post', k1, k2, rfl, k4⟩ := Rep.sub p c t' vc Fj g2 hs
    cases own with
    | false =>
      have hB := h4
      simp only [Blk, Bool.false_eq_true, if_false] at hB
      obtain ⟨_, rfl, hn, _⟩ := hB
      simp only [List.append_eq_nil_iff] at hn
      obtain ⟨⟨rfl, ⟨rfl, rfl⟩, rfl⟩, rfl⟩ := hn
      exact ⟨v', [], [], [], by simp [walk, g1, k1], k2, rfl, fun hu => by simp [upd] at hu⟩
    | true =>
      have hB := h4
      simp only [Blk, if_true] at hB
      obtain ⟨hlt, rfl, hrest⟩ := hB
      refine ⟨v', b :: (pre ++ pre'), F', post' ++ post, by simp [walk, g1, k1], k2, by simp, fun hu t'' F'' h' => ?_⟩
      simp only [upd, hc, Option.bind_some, Option.isSome_map] at hu
      obtain ⟨c2, e2, r2⟩ := k4 hu t'' F'' h'
      refine ⟨.bx true (cs.set j c2), by simp [upd, hc, e2], ?_⟩
      simp only [Rep]
      refine ⟨b, o, pre ++ (pre' ++ F'' ++ post') ++ post, rfl, ?_, g4 c2 _ r2⟩
      simp only [Blk, if_true, List.length_set]
      exact ⟨hlt, by simp, hrest⟩
  | _ :: _, .int _ _, _, _, _, _, hs => by simp [Go.Proofs.YtplhecjngmkngaaT.sub] at hs
  | _ :: _, .bool _, _, _, _, _, hs => by simp [Go.Proofs.YtplhecjngmkngaaT.sub] at hs
  | _ :: _, .str _, _, _, _, _, hs => by simp [Go.Proofs.YtplhecjngmkngaaT.sub] at hs
  | _ :: _, .nptr, _, _, _, _, hs => by simp [Go.Proofs.YtplhecjngmkngaaT.sub] at hs
  | _ :: _, .fn _ _, _, _, _, _, hs => by simp [Go.Proofs.YtplhecjngmkngaaT.sub] at hs
  | _ :: _, .hole, _, _, _, _, hs => by simp [Go.Proofs.YtplhecjngmkngaaT.sub] at hs

end Go.Proofs.YtplhecjngmkngaaT

/- Trees: a store of one cell. No condition. -/
set_option linter.unusedVariables false
set_option linter.unusedSimpArgs false
namespace Go.Proofs.YtplhecjngmkngaaT
open Go

def adr : Value → Option (Nat × Nat)
  | .slice (some a) _ _ => some (a.block, a.off)
  | .pointer (some a) => some (a.block, a.off)
  | _ => none

theorem same_setCell {w : World} {ro : Nat → Prop} {G : List Nat} {b o : Nat} {x : Value} (hb : b ∉ G) (hr : ¬ ro b) : Same w (w.setCell ⟨b, o, none⟩ x) G ro := by
  intro k hk
  have : b ≠ k := fun e => by subst e; exact hk.elim hb hr
  simp [World.setCell, Array.getElem?_modify, this]

theorem RepL.store {w : World} {ro : Nat → Prop} {b : Nat} (hr : ¬ ro b) : ∀ (cs : List T) (o j : Nat) (F : List Nat) (t : T), RepL w ro b o cs F → b ∉ F → cs[j]? = some t →
    ∃ pre Fj post, F = pre ++ Fj ++ post ∧ (∃ v, w.cell? ⟨b, o + j, none⟩ = some v ∧ Rep w ro t v Fj) ∧ ∀ x t' F', Rep (w.setCell ⟨b, o + j, none⟩ x) ro t' x F' → RepL (w.setCell ⟨b, o + j, none⟩ x) ro b o (cs.set j t') (pre ++ F' ++ post)
  | [], o, j, F, t, h, hb, hj => by simp at hj
  | c :: cs, o, 0, F, t, h, hb, hj => by
    simp at hj; subst hj
    simp only [RepL] at h
    obtain ⟨v, F1, F2, h1, h2, h3, rfl⟩ := h
    simp only [List.mem_append, not_or] at hb
    refine ⟨[], F1, F2, by simp, ⟨v, h1, h2⟩, fun x t' F' h' => ?_⟩
    simp only [List.set_cons_zero, RepL]
    exact ⟨x, F', F2, World.cell?_setCell_same _ _ _ h1, h', RepL.keep (by simp) cs (o + 1) F2 h3 (fun i hi => World.cell?_setCell_other _ _ _ _ (by simp)) (same_setCell hb.2 hr), by simp⟩
  | c :: cs, o, j + 1, F, t, h, hb, hj => by
    simp at hj
    simp only [RepL] at h
    obtain ⟨v, F1, F2, h1, h2, h3, rfl⟩ := h
    simp only [List.mem_append, not_or] at hb
    obtain ⟨pre, Fj, post, rfl, g3, g4⟩ := RepL.store hr cs (o + 1) j F2 t h3 hb.2 hj
    rw [show o + 1 + j = o + (j + 1) by omega] at g3 g4
    refine ⟨F1 ++ pre, Fj, post, by simp, g3, fun x t' F' h' => ?_⟩
    simp only [List.set_cons_succ, RepL]
    exact ⟨v, F1, pre ++ F' ++ post, (World.cell?_setCell_other _ _ _ _ (by simp)).trans h1, Rep.same (same_setCell hb.1 hr) (fun _ h => h) (by simp) _ _ _ h2 (fun _ h => h), g4 x t' F' h', by simp⟩

theorem Blk.setCell {w : World} {ro : Nat → Prop} {own : Bool} {b o ext : Nat} {F F' : List Nat} (h : Blk w ro own b o ext F F') (a : Addr) (x : Value) : Blk (w.setCell a x) ro own b o ext F F' := by
  unfold Blk at h ⊢
  obtain ⟨hlt, h⟩ := h
  refine ⟨by simpa using hlt, ?_⟩
  cases own
  · simpa using h
  · simp only [if_true] at h ⊢
    obtain ⟨hf, arr, e, fr, ha, hx', hz⟩ := h
    by_cases hb : a.block = b
    · refine ⟨hf, if a.spot.isSome then arr else arr.setIfInBounds a.off x, e, fr, ?_, ?_, fun j hj => ?_⟩
      · simp [World.setCell, Array.getElem?_modify, hb, ha]
      · split <;> simpa using hx'
      · rw [World.frozen?_setCell]; exact hz j (by split at hj <;> simpa using hj)
    · exact ⟨hf, arr, e, fr, by simpa [World.setCell, Array.getElem?_modify, hb] using ha, hx', fun j hj => by rw [World.frozen?_setCell]; exact hz j hj⟩

/-- what a store in an own object needs and does -/
theorem Rep.store {w : World} {ro : Nat → Prop} : ∀ (p : List Nat) (t : T) (v : Value) (F : List Nat) (j : Nat) (old : T), Rep w ro t v F → F.Nodup → (∀ b ∈ F, ¬ ro b) → Go.Proofs.YtplhecjngmkngaaT.sub t (p ++ [j]) = some old → (upd old t (p ++ [j])).isSome →
    ∃ hv b o pre Fo post vo, walk w v p = some hv ∧ adr hv = some (b, o) ∧ w.cell? ⟨b, o + j, none⟩ = some vo ∧ Rep w ro old vo Fo ∧ w.frozen? ⟨b, o + j, none⟩ = false ∧ b ∈ pre ∧ F = pre ++ Fo ++ post ∧
      ∀ x t' F', Rep (w.setCell ⟨b, o + j, none⟩ x) ro t' x F' → ∃ t2, upd t' t (p ++ [j]) = some t2 ∧ Rep (w.setCell ⟨b, o + j, none⟩ x) ro t2 v (pre ++ F' ++ post)
  | [], .sl own st n cs, v, F, j, old, h, hn, hr, hs, hu => by
    simp only [List.nil_append, Go.Proofs.YtplhecjngmkngaaT.sub] at hs
    obtain ⟨c, hc, hs⟩ := Option.bind_eq_some_iff.1 hs
    simp only [Option.some.injEq] at hs; subst hs
    simp only [Rep] at h
    rcases h with ⟨_, rfl, _⟩ | ⟨b, o, cap, F', rfl, h2, h3, h4, h5⟩
    · simp at hc
    cases own with
    | false => simp [upd] at hu
    | true =>
      have hB := h4
      simp only [Blk, if_true] at hB
      obtain ⟨hlt, rfl, arr, e, fr, ha, hx, hz⟩ := hB
      simp only [List.nodup_cons] at hn
      obtain ⟨pre, Fj, post, rfl, ⟨vj, g1, g2⟩, g4⟩ := RepL.store (hr b (by simp)) cs o j F' c h5 hn.1 hc
      have hj : j < cs.length := (List.getElem?_eq_some_iff.1 hc).1
      have hjj : o + j < arr.size := by
        have : cs.length ≤ cap * st := by rw [h3]; exact Nat.mul_le_mul_right _ h2.1
        omega
      refine ⟨_, b, o, b :: pre, Fj, post, vj, rfl, rfl, g1, g2, hz _ hjj, by simp, by simp, fun x t' F' h' => ⟨.sl true st n (cs.set j t'), by simp [upd, hc], ?_⟩⟩
      simp only [Rep]
      refine .inr ⟨b, o, cap, pre ++ F' ++ post, rfl, h2, by simpa using h3, ?_, g4 x t' F' h'⟩
      have := Blk.setCell h4 ⟨b, o + j, none⟩ x
      simp only [Blk, if_true] at this ⊢
      exact ⟨this.1, by simp, this.2.2⟩
  | [], .bx own cs, v, F, j, old, h, hn, hr, hs, hu => by
    simp only [List.nil_append, Go.Proofs.YtplhecjngmkngaaT.sub] at hs
    obtain ⟨c, hc, hs⟩ := Option.bind_eq_some_iff.1 hs
    simp only [Option.some.injEq] at hs; subst hs
    simp only [Rep] at h
    obtain ⟨b, o, F', rfl, h4, h5⟩ := h
    cases own with
    | false => simp [upd] at hu
    | true =>
      have hB := h4
      simp only [Blk, if_true] at hB
      obtain ⟨hlt, rfl, arr, e, fr, ha, hx, hz⟩ := hB
      simp only [List.nodup_cons] at hn
      obtain ⟨pre, Fj, post, rfl, ⟨vj, g1, g2⟩, g4⟩ := RepL.store (hr b (by simp)) cs o j F' c h5 hn.1 hc
      have hj : j < cs.length := (List.getElem?_eq_some_iff.1 hc).1
      refine ⟨_, b, o, b :: pre, Fj, post, vj, rfl, rfl, g1, g2, hz _ (by omega), by simp, by simp, fun x t' F' h' => ⟨.bx true (cs.set j t'), by simp [upd, hc], ?_⟩⟩
      simp only [Rep]
      refine ⟨b, o, pre ++ F' ++ post, rfl, ?_, g4 x t' F' h'⟩
      have := Blk.setCell h4 ⟨b, o + j, none⟩ x
      simp only [Blk, if_true, List.length_set] at this ⊢
      exact ⟨this.1, by simp, this.2.2⟩
  | i :: p, .sl own st n cs, v, F, j, old, h, hn, hr, hs, hu => by
    simp only [List.cons_append, Go.Proofs.YtplhecjngmkngaaT.sub] at hs
    obtain ⟨c, hc, hs⟩ := Option.bind_eq_some_iff.1 hs
    simp only [Rep] at h
    rcases h with ⟨_, rfl, _⟩ | ⟨b, o, cap, F', rfl, h2, h3, h4, h5⟩
    · simp at hc
    cases own with
    | false => simp [upd] at hu
    | true =>
      simp only [List.cons_append, upd, hc, Option.bind_some, Option.isSome_map] at hu
      have hB := h4
      simp only [Blk, if_true] at hB
      obtain ⟨hlt, rfl, arr, e, fr, ha, hx, hz⟩ := hB
      simp only [List.nodup_cons] at hn
      obtain ⟨vi, pre, Fi, post, g1, g2, rfl, g4⟩ := RepL.at2 cs o F' i c h5 hc
      have hni : Fi.Nodup := by have := hn.2; simp only [List.nodup_append] at this; exact this.1.2.1
      obtain ⟨hv, b1, o1, pre1, Fo, post1, vo, k1, k2, k3, k4, k5, k6, rfl, k8⟩ := Rep.store p c vi Fi j old g2 hni (fun x hx => hr x (by simp only [List.mem_cons, List.mem_append]; exact .inr (.inl (.inr hx)))) hs hu
      have hm : b1 ∈ pre1 ++ Fo ++ post1 := by simp [k6]
      have hm2 : (b1 ∈ pre1 ∨ b1 ∈ Fo) ∨ b1 ∈ post1 := .inl (.inl k6)
      have hbb : b1 ≠ b := fun e => hn.1 (by subst e; simp only [List.mem_append]; exact .inl (.inr (hm2)))
      have hpp : b1 ∉ pre ++ post := by
        have := hn.2
        simp only [List.nodup_append, List.mem_append] at this
        intro hx
        rcases List.mem_append.1 hx with hx | hx
        · exact this.1.2.2 _ hx _ (hm2) rfl
        · exact this.2.2 _ (.inr (hm2)) _ hx rfl
      refine ⟨hv, b1, o1, b :: (pre ++ pre1), Fo, post1 ++ post, vo, by simp [walk, g1, k1], k2, k3, k4, k5, by simp [k6], by simp, fun x t' F' h' => ?_⟩
      obtain ⟨c2, e2, r2⟩ := k8 x t' F' h'
      refine ⟨.sl true st n (cs.set i c2), by simp [upd, hc, e2], ?_⟩
      simp only [Rep]
      refine .inr ⟨b, o, cap, pre ++ (pre1 ++ F' ++ post1) ++ post, rfl, h2, by simpa using h3, ?_, g4 _ c2 _ (by simp) (same_setCell hpp (hr b1 (by simp only [List.mem_cons, List.mem_append]; exact .inr (.inl (.inr (hm2)))))) (fun y _ => World.cell?_setCell_other _ _ _ _ (by simp [hbb])) r2⟩
      have := Blk.setCell h4 ⟨b1, o1 + j, none⟩ x
      simp only [Blk, if_true] at this ⊢
      exact ⟨this.1, by simp, this.2.2⟩
  | i :: p, .bx own cs, v, F, j, old, h, hn, hr, hs, hu => by
    simp only [List.cons_append, Go.Proofs.YtplhecjngmkngaaT.sub] at hs
    obtain ⟨c, hc, hs⟩ := Option.bind_eq_some_iff.1 hs
    simp only [Rep] at h
    obtain ⟨b, o, F', rfl, h4, h5⟩ := h
    cases own with
    | false => simp [upd] at hu
    | true =>
      simp only [List.cons_append, upd, hc, Option.bind_some, Option.isSome_map] at hu
      have hB := h4
      simp only [Blk, if_true] at hB
      obtain ⟨hlt, rfl, arr, e, fr, ha, hx, hz⟩ := hB
      simp only [List.nodup_cons] at hn
      obtain ⟨vi, pre, Fi, post, g1, g2, rfl, g4⟩ := RepL.at2 cs o F' i c h5 hc
      have hni : Fi.Nodup := by have := hn.2; simp only [List.nodup_append] at this; exact this.1.2.1
      obtain ⟨hv, b1, o1, pre1, Fo, post1, vo, k1, k2, k3, k4, k5, k6, rfl, k8⟩ := Rep.store p c vi Fi j old g2 hni (fun x hx => hr x (by simp only [List.mem_cons, List.mem_append]; exact .inr (.inl (.inr hx)))) hs hu
      have hm : b1 ∈ pre1 ++ Fo ++ post1 := by simp [k6]
      have hm2 : (b1 ∈ pre1 ∨ b1 ∈ Fo) ∨ b1 ∈ post1 := .inl (.inl k6)
      have hbb : b1 ≠ b := fun e => hn.1 (by subst e; simp only [List.mem_append]; exact .inl (.inr (hm2)))
      have hpp : b1 ∉ pre ++ post := by
        have := hn.2
        simp only [List.nodup_append, List.mem_append] at this
        intro hx
        rcases List.mem_append.1 hx with hx | hx
        · exact this.1.2.2 _ hx _ (hm2) rfl
        · exact this.2.2 _ (.inr (hm2)) _ hx rfl
      refine ⟨hv, b1, o1, b :: (pre ++ pre1), Fo, post1 ++ post, vo, by simp [walk, g1, k1], k2, k3, k4, k5, by simp [k6], by simp, fun x t' F' h' => ?_⟩
      obtain ⟨c2, e2, r2⟩ := k8 x t' F' h'
      refine ⟨.bx true (cs.set i c2), by simp [upd, hc, e2], ?_⟩
      simp only [Rep]
      refine ⟨b, o, pre ++ (pre1 ++ F' ++ post1) ++ post, rfl, ?_, g4 _ c2 _ (by simp) (same_setCell hpp (hr b1 (by simp only [List.mem_cons, List.mem_append]; exact .inr (.inl (.inr (hm2)))))) (fun y _ => World.cell?_setCell_other _ _ _ _ (by simp [hbb])) r2⟩
      have := Blk.setCell h4 ⟨b1, o1 + j, none⟩ x
      simp only [Blk, if_true, List.length_set] at this ⊢
      exact ⟨this.1, by simp, this.2.2⟩
  | [], .int _ _, _, _, _, _, _, _, _, hs, _ => by simp [Go.Proofs.YtplhecjngmkngaaT.sub] at hs
  | [], .bool _, _, _, _, _, _, _, _, hs, _ => by simp [Go.Proofs.YtplhecjngmkngaaT.sub] at hs
  | [], .str _, _, _, _, _, _, _, _, hs, _ => by simp [Go.Proofs.YtplhecjngmkngaaT.sub] at hs
  | [], .nptr, _, _, _, _, _, _, _, hs, _ => by simp [Go.Proofs.YtplhecjngmkngaaT.sub] at hs
  | [], .fn _ _, _, _, _, _, _, _, _, hs, _ => by simp [Go.Proofs.YtplhecjngmkngaaT.sub] at hs
  | [], .hole, _, _, _, _, _, _, _, hs, _ => by simp [Go.Proofs.YtplhecjngmkngaaT.sub] at hs
  | _ :: _, .int _ _, _, _, _, _, _, _, _, hs, _ => by simp [Go.Proofs.YtplhecjngmkngaaT.sub] at hs
  | _ :: _, .bool _, _, _, _, _, _, _, _, hs, _ => by simp [Go.Proofs.YtplhecjngmkngaaT.sub] at hs
  | _ :: _, .str _, _, _, _, _, _, _, _, hs, _ => by simp [Go.Proofs.YtplhecjngmkngaaT.sub] at hs
  | _ :: _, .nptr, _, _, _, _, _, _, _, hs, _ => by simp [Go.Proofs.YtplhecjngmkngaaT.sub] at hs
  | _ :: _, .fn _ _, _, _, _, _, _, _, _, hs, _ => by simp [Go.Proofs.YtplhecjngmkngaaT.sub] at hs
  | _ :: _, .hole, _, _, _, _, _, _, _, hs, _ => by simp [Go.Proofs.YtplhecjngmkngaaT.sub] at hs
end Go.Proofs.YtplhecjngmkngaaT

/- Trees: a call's state: what its temporaries are, the trees that they lead to; what it is of a world. No condition. -/
set_option linter.unusedVariables false
set_option linter.unusedSimpArgs false
set_option linter.unusedSectionVars false
namespace Go.Proofs.YtplhecjngmkngaaT
open Go

def get {α : Type} : List (Nat × α) → Nat → Option α
  | [], _ => none
  | (k, a) :: l, i => if k = i then some a else get l i
def set {α : Type} (l : List (Nat × α)) (i : Nat) (b : α) : List (Nat × α) := (i, b) :: l
def del {α : Type} : List (Nat × α) → Nat → List (Nat × α)
  | [], _ => []
  | (k, a) :: l, i => if k = i then del l i else (k, a) :: del l i
def mapv {α β : Type} (f : α → β) : List (Nat × α) → List (Nat × β)
  | [] => []
  | (k, a) :: l => (k, f a) :: mapv f l

theorem get_set {α : Type} (b : α) (i j : Nat) (l : List (Nat × α)) : get (set l i b) j = if i = j then some b else get l j := rfl
theorem get_del {α : Type} (i j : Nat) : ∀ (l : List (Nat × α)), get (del l i) j = if i = j then none else get l j
  | [] => by simp [del, get]
  | (k, a) :: l => by
    by_cases h : k = i
    · subst h; simp only [del, get, if_true, get_del k j l]; split <;> simp_all
    · simp only [del, get, h, if_false, get_del i j l]
      by_cases h2 : k = j
      · subst h2; simp [Ne.symm h]
      · simp [h2]
theorem get_mapv {α β : Type} (f : α → β) (j : Nat) : ∀ (l : List (Nat × α)), get (mapv f l) j = (get l j).map f
  | [] => rfl
  | (k, a) :: l => by simp only [mapv, get, get_mapv f j l]; split <;> rfl

/-- a cell of a temporary: numbers and texts, and the way to an object: `hs`: a slice of the object at a path of a root; `hp`: the address of a cell there -/
inductive H where
  | int (k : IntKind) (n : Int)
  | bool (b : Bool)
  | str (s : ByteArray)
  | nil
  | nptr
  | hs (r : Nat) (p : List Nat) (off st n : Nat)
  | hp (r : Nat) (p : List Nat) (off : Nat)
  | fn (f : FuncId) (caps : List H)
  | un
inductive W where
  | one (h : H)
  | agg (hs : List H)
inductive V where
  | w (x : W)
  | tup (xs : List W)

structure St where
  env : List (Nat × V)
  roots : List (Nat × T)
  par : List W

def SlOf (h : Value) (off st n : Nat) (v : Value) : Prop :=
  (n = 0 ∧ ∃ a, v = .slice a 0 0) ∨ ∃ b o n0 cap0 cap, h = .slice (some ⟨b, o, none⟩) n0 cap0 ∧ v = .slice (some ⟨b, o + off, none⟩) n cap ∧ n ≤ cap ∧ off + cap * st ≤ cap0 * st ∧ 0 < st

def isOb : T → Bool
  | .sl .. => true
  | .bx .. => true
  | _ => false

/-- a handle's value is the header itself, where it is the whole -/
def Ex (h : Value) (off n : Nat) (v : Value) : Prop := off = 0 → ∀ A c, h = .slice A n c → v = h
def UnH (h : Value) (off st n : Nat) (v : Value) : Prop := SlOf h off st n v ∧ (∀ A n0 c, h = .slice A n0 c → off + n * st ≤ n0 * st) ∧ Ex h off n v

mutual
def HRep (w : World) (roots : List (Nat × T)) (hv : Nat → Value) : H → Value → Prop
  | .int k n, v => v = .int k n
  | .bool b, v => v = .bool b
  | .str s, v => v = .string s
  | .nil, v => ∃ a, v = .slice a 0 0
  | .nptr, v => v = .pointer none
  | .hs r p off st n, v => (p = [] → UnH (hv r) off st n v) ∧ ∀ t, get roots r = some t → ∃ own n0 cs h, sub t p = some (.sl own st n0 cs) ∧ walk w (hv r) p = some h ∧ (off + n * st ≤ cs.length ∧ Ex h off n v) ∧ SlOf h off st n v
  | .hp r p off, v => (p = [] → ∃ b o, adr (hv r) = some (b, o) ∧ v = .pointer (some ⟨b, o + off, none⟩)) ∧ ∀ t, get roots r = some t → ∃ t' h b o, (sub t p = some t' ∧ isOb t' = true) ∧ walk w (hv r) p = some h ∧ adr h = some (b, o) ∧ v = .pointer (some ⟨b, o + off, none⟩)
  | .fn f caps, v => ∃ vs : List Value, v = .func (.func f) #[] vs.toArray ∧ HRepL w roots hv caps vs
  | .un, _ => True
def HRepL (w : World) (roots : List (Nat × T)) (hv : Nat → Value) : List H → List Value → Prop
  | [], vs => vs = []
  | h :: hs, vs => ∃ v vs', vs = v :: vs' ∧ HRep w roots hv h v ∧ HRepL w roots hv hs vs'
end
def WRep (w : World) (roots : List (Nat × T)) (hv : Nat → Value) : W → Value → Prop
  | .one h, v => HRep w roots hv h v
  | .agg hs, v => ∃ vs : List Value, v = .agg vs.toArray ∧ HRepL w roots hv hs vs
def WRepL (w : World) (roots : List (Nat × T)) (hv : Nat → Value) : List W → List Value → Prop
  | [], vs => vs = []
  | x :: xs, vs => ∃ v vs', vs = v :: vs' ∧ WRep w roots hv x v ∧ WRepL w roots hv xs vs'
def VRep (w : World) (roots : List (Nat × T)) (hv : Nat → Value) : V → Value → Prop
  | .w x, v => WRep w roots hv x v
  | .tup xs, v => ∃ vs : List Value, v = .tuple vs.toArray ∧ WRepL w roots hv xs vs

/-- ways told anew: none: forgotten -/
abbrev Ren := Nat → List Nat → Option (Nat × List Nat)
mutual
def renH (f : Ren) : H → H
  | .hs r p off st n => match f r p with | some (r', p') => .hs r' p' off st n | none => .un
  | .hp r p off => match f r p with | some (r', p') => .hp r' p' off | none => .un
  | .fn g caps => .fn g (renHL f caps)
  | h => h
def renHL (f : Ren) : List H → List H
  | [] => []
  | h :: hs => renH f h :: renHL f hs
end
def renW (f : Ren) : W → W
  | .one h => .one (renH f h)
  | .agg hs => .agg (renHL f hs)
def renV (f : Ren) : V → V
  | .w x => .w (renW f x)
  | .tup xs => .tup (xs.map (renW f))

def Alike : T → T → Prop
  | .sl own st n cs, t => ∃ own' cs', t = .sl own' st n cs' ∧ cs'.length = cs.length
  | x, t => isOb x = true → isOb t = true

/-- the ways that are told anew lead to what they led to -/
def Leads (f : Ren) (w : World) (roots : List (Nat × T)) (hv : Nat → Value) (w' : World) (roots' : List (Nat × T)) (hv' : Nat → Value) : Prop :=
  ∀ r p r' p', f r p = some (r', p') → (p' = [] → p = [] ∧ hv' r' = hv r) ∧ ∀ t', get roots' r' = some t' → ∃ t, get roots r = some t ∧ ∀ x, sub t p = some x → isOb x = true → ∃ x', sub t' p' = some x' ∧ Alike x x' ∧ ∀ h, walk w (hv r) p = some h → walk w' (hv' r') p' = some h

section
variable {f : Ren} {w w' : World} {roots roots' : List (Nat × T)} {hv hv' : Nat → Value} (L : Leads f w roots hv w' roots' hv')
include L
mutual
theorem HRep_ren : ∀ (h : H) (v : Value), HRep w roots hv h v → HRep w' roots' hv' (renH f h) v
  | .int k n, v, h => by simpa only [renH, HRep] using h
  | .bool b, v, h => by simpa only [renH, HRep] using h
  | .str s, v, h => by simpa only [renH, HRep] using h
  | .nil, v, h => by simpa only [renH, HRep] using h
  | .nptr, v, h => by simpa only [renH, HRep] using h
  | .un, v, h => by simp only [renH, HRep]
  | .hs r p off st n, v, h => by
    simp only [renH]
    cases hf : f r p with
    | none => simp only [HRep]
    | some q =>
      obtain ⟨r', p'⟩ := q
      simp only [HRep] at h ⊢
      refine ⟨fun hp => ?_, fun t' ht' => ?_⟩
      · obtain ⟨hp1, hp2⟩ := (L r p r' p' hf).1 hp
        rw [hp2]; exact h.1 hp1
      obtain ⟨t, ht, hx⟩ := (L r p r' p' hf).2 t' ht'
      obtain ⟨own, n0, cs, hh, h1, h2, h3, h4⟩ := h.2 t ht
      obtain ⟨x', e1, e2, e3⟩ := hx _ h1 rfl
      obtain ⟨own', cs', rfl, hl⟩ := e2
      exact ⟨own', n0, cs', hh, e1, e3 hh h2, ⟨by omega, h3.2⟩, h4⟩
  | .hp r p off, v, h => by
    simp only [renH]
    cases hf : f r p with
    | none => simp only [HRep]
    | some q =>
      obtain ⟨r', p'⟩ := q
      simp only [HRep] at h ⊢
      refine ⟨fun hp => ?_, fun t' ht' => ?_⟩
      · obtain ⟨hp1, hp2⟩ := (L r p r' p' hf).1 hp
        rw [hp2]; exact h.1 hp1
      obtain ⟨t, ht, hx⟩ := (L r p r' p' hf).2 t' ht'
      obtain ⟨x, hh, b, o, ⟨h1, h1'⟩, h2, h3, h4⟩ := h.2 t ht
      obtain ⟨x', e1, e2, e3⟩ := hx _ h1 h1'
      refine ⟨x', hh, b, o, ⟨e1, ?_⟩, e3 hh h2, h3, h4⟩
      cases x with
      | sl own st n cs => obtain ⟨own', cs', rfl, _⟩ := e2; rfl
      | bx => exact e2 h1'
      | _ => simp [isOb] at h1'
  | .fn g caps, v, h => by
    simp only [renH, HRep] at h ⊢
    obtain ⟨vs, h1, h2⟩ := h
    exact ⟨vs, h1, HRepL_ren caps vs h2⟩
theorem HRepL_ren : ∀ (hs : List H) (vs : List Value), HRepL w roots hv hs vs → HRepL w' roots' hv' (renHL f hs) vs
  | [], vs, h => by simpa only [renHL, HRepL] using h
  | h :: hs, vs, hh => by
    simp only [renHL, HRepL] at hh ⊢
    obtain ⟨v, vs', rfl, h1, h2⟩ := hh
    exact ⟨v, vs', rfl, HRep_ren h v h1, HRepL_ren hs vs' h2⟩
end
theorem WRep_ren : ∀ (x : W) (v : Value), WRep w roots hv x v → WRep w' roots' hv' (renW f x) v
  | .one h, v, hh => HRep_ren L h v hh
  | .agg hs, v, ⟨vs, h1, h2⟩ => ⟨vs, h1, HRepL_ren L hs vs h2⟩
theorem WRepL_ren : ∀ (xs : List W) (vs : List Value), WRepL w roots hv xs vs → WRepL w' roots' hv' (xs.map (renW f)) vs
  | [], vs, h => h
  | x :: xs, vs, ⟨v, vs', h1, h2, h3⟩ => ⟨v, vs', h1, WRep_ren L x v h2, WRepL_ren xs vs' h3⟩
theorem VRep_ren : ∀ (x : V) (v : Value), VRep w roots hv x v → VRep w' roots' hv' (renV f x) v
  | .w x, v, h => WRep_ren L x v h
  | .tup xs, v, ⟨vs, h1, h2⟩ => ⟨vs, h1, WRepL_ren L xs vs h2⟩
end

/-- a state is told of a world -/
structure Inv (nt : Nat) (w : World) (ro : Nat → Prop) (s : St) (tm : Array Value) (args : List Value) (hv : Nat → Value) (F : Nat → List Nat) (G : List Nat) : Prop where
  rep : ∀ r t, get s.roots r = some t → Rep w ro t (hv r) (F r)
  nd : ∀ r t, get s.roots r = some t → (F r).Nodup
  dis : ∀ r t r' t', get s.roots r = some t → get s.roots r' = some t' → r ≠ r' → ∀ b ∈ F r, b ∉ F r'
  nro : ∀ r t, get s.roots r = some t → ∀ b ∈ F r, ¬ ro b
  gnd : G.Nodup
  gdis : ∀ r t, get s.roots r = some t → ∀ b ∈ F r, b ∉ G
  gnro : ∀ b ∈ G, ¬ ro b
  glt : ∀ b ∈ G, b < w.heap.size
  rolt : ∀ b, ro b → b < w.heap.size
  sz : tm.size = nt
  env : ∀ i v, get s.env i = some v → ∃ x, tm[i]? = some x ∧ VRep w s.roots hv v x
  par : WRepL w s.roots hv s.par args

def idRen : Ren := fun r p => some (r, p)
mutual
theorem renH_id : ∀ h : H, renH idRen h = h
  | .hs .. | .hp .. => by simp [renH, idRen]
  | .fn g caps => by simp only [renH, renHL_id caps]
  | .int .. | .bool .. | .str .. | .nil | .nptr | .un => by simp [renH]
theorem renHL_id : ∀ hs : List H, renHL idRen hs = hs
  | [] => rfl
  | h :: hs => by simp only [renHL, renH_id h, renHL_id hs]
end
theorem renW_id (x : W) : renW idRen x = x := by cases x <;> simp [renW, renH_id, renHL_id]
theorem renV_id (x : V) : renV idRen x = x := by
  cases x with
  | w x => simp [renV, renW_id]
  | tup xs => simp only [renV]; congr 1; induction xs with
    | nil => rfl
    | cons x xs ih => simp [renW_id, ih]

def St.put (s : St) (d : Nat) (v : V) : St := { s with env := set s.env d v }

theorem Inv.put {nt : Nat} {w : World} {ro : Nat → Prop} {s : St} {tm : Array Value} {args : List Value} {hv : Nat → Value} {F : Nat → List Nat} {G : List Nat} (h : Inv nt w ro s tm args hv F G) {d : Nat} (hd : d < nt) {v : V} {x : Value} (hx : VRep w s.roots hv v x) :
    Inv nt w ro (s.put d v) (tm.setIfInBounds d x) args hv F G where
  rep := h.rep
  nd := h.nd
  dis := h.dis
  nro := h.nro
  gnd := h.gnd
  gdis := h.gdis
  gnro := h.gnro
  glt := h.glt
  rolt := h.rolt
  sz := by simpa using h.sz
  env := by
    intro i u hi
    simp only [St.put, get_set] at hi
    split at hi
    · rename_i e
      simp only [Option.some.injEq] at hi
      subst hi; subst e
      exact ⟨x, by rw [Array.getElem?_setIfInBounds]; simp [h.sz, hd], hx⟩
    · rename_i e
      obtain ⟨y, h1, h2⟩ := h.env i u hi
      exact ⟨y, by rw [Array.getElem?_setIfInBounds]; simp [e, h1], h2⟩
  par := h.par

/-- the world goes on, the trees stay, ways are told anew -/
theorem Inv.move {nt : Nat} {w w' : World} {ro ro' : Nat → Prop} {s : St} {tm : Array Value} {args : List Value} {hv hv' : Nat → Value} {F F' : Nat → List Nat} {G G' : List Nat} (h : Inv nt w ro s tm args hv F G) {f : Ren} {roots' : List (Nat × T)}
    (L : Leads f w s.roots hv w' roots' hv') (rep : ∀ r t, get roots' r = some t → Rep w' ro' t (hv' r) (F' r)) (nd : ∀ r t, get roots' r = some t → (F' r).Nodup)
    (dis : ∀ r t r' t', get roots' r = some t → get roots' r' = some t' → r ≠ r' → ∀ b ∈ F' r, b ∉ F' r') (nro : ∀ r t, get roots' r = some t → ∀ b ∈ F' r, ¬ ro' b) (gnd : G'.Nodup) (gdis : ∀ r t, get roots' r = some t → ∀ b ∈ F' r, b ∉ G') (gnro : ∀ b ∈ G', ¬ ro' b) (glt : ∀ b ∈ G', b < w'.heap.size) (rolt : ∀ b, ro' b → b < w'.heap.size) :
    Inv nt w' ro' { env := mapv (renV f) s.env, roots := roots', par := s.par.map (renW f) } tm args hv' F' G' where
  rep := rep
  nd := nd
  dis := dis
  nro := nro
  gnd := gnd
  gdis := gdis
  gnro := gnro
  glt := glt
  rolt := rolt
  sz := h.sz
  env := by
    intro i v hi
    simp only [get_mapv, Option.map_eq_some_iff] at hi
    obtain ⟨u, hu, rfl⟩ := hi
    obtain ⟨x, h1, h2⟩ := h.env i u hu
    exact ⟨x, h1, VRep_ren L u x h2⟩
  par := WRepL_ren L _ _ h.par

/-- a way within a tree whose blocks stay -/
theorem walk_same {w w' : World} {ro : Nat → Prop} : ∀ (p : List Nat) (t t' : T) (v : Value) (F : List Nat), Rep w ro t v F → Same w w' F ro → sub t p = some t' → walk w' v p = walk w v p
  | [], t, t', v, F, h, hs, hp => rfl
  | j :: p, .sl own st n cs, t', v, F, h, hs, hp => by
    simp only [sub] at hp
    obtain ⟨c, hc, hp⟩ := Option.bind_eq_some_iff.1 hp
    simp only [Rep] at h
    rcases h with ⟨_, rfl, _⟩ | ⟨b, o, cap, F', rfl, h2, h3, h4, h5⟩
    · simp at hc
    obtain ⟨vc, pre, Fj, post, g1, g2, rfl, g4⟩ := RepL.at cs o F' j c h5 hc
    simp only [walk, hs.cell h4.mem, g1, Option.bind_some]
    exact walk_same p c t' vc Fj g2 (hs.mono (fun x hx => h4.sub x (by simp [hx]))) hp
  | j :: p, .bx own cs, t', v, F, h, hs, hp => by
    simp only [sub] at hp
    obtain ⟨c, hc, hp⟩ := Option.bind_eq_some_iff.1 hp
    simp only [Rep] at h
    obtain ⟨b, o, F', rfl, h4, h5⟩ := h
    obtain ⟨vc, pre, Fj, post, g1, g2, rfl, g4⟩ := RepL.at cs o F' j c h5 hc
    simp only [walk, hs.cell h4.mem, g1, Option.bind_some]
    exact walk_same p c t' vc Fj g2 (hs.mono (fun x hx => h4.sub x (by simp [hx]))) hp
  | _ :: _, .int _ _, _, _, _, _, _, hs => by simp [sub] at hs
  | _ :: _, .bool _, _, _, _, _, _, hs => by simp [sub] at hs
  | _ :: _, .str _, _, _, _, _, _, hs => by simp [sub] at hs
  | _ :: _, .nptr, _, _, _, _, _, hs => by simp [sub] at hs
  | _ :: _, .fn _ _, _, _, _, _, _, hs => by simp [sub] at hs
  | _ :: _, .hole, _, _, _, _, _, hs => by simp [sub] at hs
end Go.Proofs.YtplhecjngmkngaaT

/- Trees: the operations, as they act on a call's state; what is asked of a function. No condition. -/
set_option linter.unusedVariables false
set_option linter.unusedSimpArgs false
namespace Go.Proofs.YtplhecjngmkngaaT
open Go

inductive X where
  | t (n : Nat)
  | k (v : W)

inductive I where
  | mov (x : X)
  | pick (c a b : X)
  | alloc (zs : List H)
  | box (x : X)
  | build (zero : List H) (parts : List (Nat × Nat × X))
  | lit (st len : Nat) (zero : List H) (parts : List (Nat × X))
  | load (k : Option Nat) (a : X)
  | store (k : Nat) (a x : X)
  | nilc (x : X)
  | bin (op : BinOp) (x y : X)
  | beq (ne : Bool) (x y : X)
  | un (op : UnOp) (x : X)
  | cvi (k : IntKind) (x : X)
  | cvs (x : X)
  | cvb (x : X)
  | make (st : Nat) (zero : List H) (bytes : Nat) (len cap : X)
  | slice (st : Nat) (x : X) (lo hi mx : Option X)
  | substr (x : X) (lo hi : Option X)
  | faddr (x : X) (off : Nat)
  | field (x : X) (off : Nat) (k : Option Nat)
  | iaddr (st : Nat) (x i : X)
  | at (x i : X)
  | ext (x : X) (i : Nat)
  | call (f : FuncId) (args : List X)
  | callv (x : X) (args : List X)
  | len (x : X)
  | lent (x : X)
  | app (st bytes : Nat) (zero : List H) (x y : X)
  | mm (mx : Bool) (xs : List X)
  | mkf (f : FuncId) (caps : List X)

structure Op where
  g : Option (Nat × Bool)
  d : Option Nat
  i : I

inductive TW where
  | one (t : T)
  | agg (ts : List T)
inductive TV where
  | w (x : TW)
  | tup (xs : List TW)

def RTW (w : World) (ro : Nat → Prop) : TW → Value → List Nat → Prop
  | .one t, v, F => Rep w ro t v F
  | .agg ts, v, F => ∃ vs : List Value, v = .agg vs.toArray ∧ RepV w ro ts vs F
def RTWL (w : World) (ro : Nat → Prop) : List TW → List Value → List Nat → Prop
  | [], vs, F => vs = [] ∧ F = []
  | t :: ts, vs, F => ∃ v vs' F1 F2, vs = v :: vs' ∧ RTW w ro t v F1 ∧ RTWL w ro ts vs' F2 ∧ F = F1 ++ F2
def RTV (w : World) (ro : Nat → Prop) : TV → Value → List Nat → Prop
  | .w x, v, F => RTW w ro x v F
  | .tup xs, v, F => ∃ vs : List Value, v = .tuple vs.toArray ∧ RTWL w ro xs vs F

/-- the world w is later than w0; of what was there only the blocks F have turned -/
structure Since (w0 : World) (F : List Nat) (w : World) : Prop where
  os : w.os = w0.os
  tape : w.tape = w0.tape
  output : w.output = w0.output
  size : w0.heap.size ≤ w.heap.size
  block : ∀ k, k < w0.heap.size → k ∉ F → w.heap[k]? = w0.heap[k]?
  shape : ∀ k, k < w0.heap.size → w.shape? k = w0.shape? k

theorem Since.refl (w : World) (F : List Nat) : Since w F w := ⟨rfl, rfl, rfl, Nat.le_refl _, fun _ _ _ => rfl, fun _ _ => rfl⟩
theorem Since.trans {a b c : World} {F G : List Nat} (h : Since a F b) (k : Since b G c) (hG : ∀ x ∈ G, x ∈ F ∨ a.heap.size ≤ x) : Since a F c where
  os := k.os.trans h.os
  tape := k.tape.trans h.tape
  output := k.output.trans h.output
  size := Nat.le_trans h.size k.size
  block := fun i hi hF => (k.block i (Nat.lt_of_lt_of_le hi h.size) (fun hg => (hG i hg).elim hF (fun h' => by omega))).trans (h.block i hi hF)
  shape := fun i hi => (k.shape i (Nat.lt_of_lt_of_le hi h.size)).trans (h.shape i hi)

/-- the function f, handed targs, returns res and leaves outs of what it was handed -/
def Meets (P : Program) (f : FuncId) (targs : List TW) (res : TV) (outs : List TW) : Prop :=
  ∀ (w : World) (ro : Nat → Prop) (args : List Value) (F : List Nat), RTWL w ro targs args F → F.Nodup → (∀ b ∈ F, ¬ ro b) → (∀ b, ro b → b < w.heap.size) →
    Calls P f args.toArray w fun e w' => ∃ (v : Value) (ro' : Nat → Prop) (Fr Fo : List Nat), e = .returned v ∧ RTV w' ro' res v Fr ∧ RTWL w' ro' outs args Fo ∧ (Fr ++ Fo).Nodup ∧ (∀ b ∈ Fr ++ Fo, ¬ ro' b) ∧
      (∀ b ∈ Fr ++ Fo, b ∈ F ∨ w.heap.size ≤ b) ∧ (∀ b, ro b → ro' b) ∧ (∀ b, ro' b → ro b ∨ b ∈ F ∨ w.heap.size ≤ b) ∧ (∀ b, ro' b → b < w'.heap.size) ∧ Since w F w'

def ev (s : St) : X → Option V
  | .t n => get s.env n
  | .k v => some (.w v)
def evs (s : St) : List X → Option (List V)
  | [] => some []
  | x :: xs => match ev s x, evs s xs with | some v, some vs => some (v :: vs) | _, _ => none

/-- what a cell of an object is to a temporary -/
def hOf (r : Nat) (q : List Nat) : T → Option H
  | .int k n => some (.int k n)
  | .bool b => some (.bool b)
  | .str s => some (.str s)
  | .nptr => some .nptr
  | .sl _ st n _ => if st = 0 then some .nil else some (.hs r q 0 st n)
  | .bx _ _ => some (.hp r q 0)
  | _ => none

/-- the cells from o on -/
def hsOf (r : Nat) (p : List Nat) (cs : List T) (o : Nat) : Nat → Option (List H)
  | 0 => some []
  | n + 1 => match cs[o]? with
    | some c => match hOf r (p ++ [o]) c, hsOf r p cs (o + 1) n with | some h, some hs => some (h :: hs) | _, _ => none
    | none => none

def cells : T → List T
  | .sl _ _ _ cs => cs
  | .bx _ cs => cs
  | _ => []

def W.cells : W → List H
  | .one h => [h]
  | .agg hs => hs

/-- parts put into a struct's cells -/
def fillH : List H → List (Nat × Nat × W) → Option (List H)
  | cs, [] => some cs
  | cs, (off, size, v) :: l => if v.cells.length = size ∧ off + size ≤ cs.length then fillH (cs.take off ++ v.cells ++ cs.drop (off + size)) l else none

def binInt (op : BinOp) (k : IntKind) (a b : Int) : Option H :=
  match op with
  | .add => some (.int k (k.wrap (a + b)))
  | .sub => some (.int k (k.wrap (a - b)))
  | .mul => some (.int k (k.wrap (a * b)))
  | .quo => if b = 0 then none else some (.int k (k.wrap (a.tdiv b)))
  | .rem => if b = 0 then none else some (.int k (a.tmod b))
  | .and => some (.int k (k.wrap (BitVec.ofInt k.bits a &&& BitVec.ofInt k.bits b).toNat))
  | .or => some (.int k (k.wrap (BitVec.ofInt k.bits a ||| BitVec.ofInt k.bits b).toNat))
  | .xor => some (.int k (k.wrap (BitVec.ofInt k.bits a ^^^ BitVec.ofInt k.bits b).toNat))
  | .eql => some (.bool (a == b))
  | .neq => some (.bool (a != b))
  | .lss => some (.bool (decide (a < b)))
  | .leq => some (.bool (decide (a ≤ b)))
  | .gtr => some (.bool (decide (a > b)))
  | .geq => some (.bool (decide (a ≥ b)))
  | _ => none
def binShift (op : BinOp) (k : IntKind) (a b : Int) : Option H :=
  match op with
  | .shl => some (.int k (k.wrap (a * 2 ^ (min b.toNat k.bits))))
  | .shr => some (.int k (a.fdiv (2 ^ (min b.toNat k.bits))))
  | _ => none
def binStr (op : BinOp) (a b : ByteArray) : Option H :=
  match op with
  | .eql => some (.bool (a.toList == b.toList))
  | .neq => some (.bool (!(a.toList == b.toList)))
  | _ => none

def live (roots : List (Nat × T)) : H → Bool
  | .hs r _ _ _ _ => (get roots r).isSome
  | .hp r _ _ => (get roots r).isSome
  | .un => false
  | _ => true
def liveW (roots : List (Nat × T)) : W → Bool
  | .one g => live roots g
  | .agg _ => true

/-- operations that turn nothing: what they yield -/
inductive Yld : I → St → V → Prop
  | mov {x s v} : ev s x = some v → Yld (.mov x) s v
  | pickT {c a b s v} : ev s c = some (.w (.one (.bool true))) → ev s a = some v → Yld (.pick c a b) s v
  | pickF {c a b s v} : ev s c = some (.w (.one (.bool false))) → ev s b = some v → Yld (.pick c a b) s v
  | build {zero parts s vs cs} : (parts.map fun (o, z, x) => (o, z, ev s x)) = (vs.map fun (o, z, v) => (o, z, some (V.w v))) → vs.all (fun q => liveW s.roots q.2.2) = true → fillH zero vs = some cs → Yld (.build zero parts) s (.w (.agg cs))
  | load1 {a s r p off t c h} : ev s a = some (.w (.one (.hp r p off))) → get s.roots r = some t → sub t (p ++ [off]) = some c → hOf r (p ++ [off]) c = some h → Yld (.load none a) s (.w (.one h))
  | loadK {a k s r p off t o hs} : ev s a = some (.w (.one (.hp r p off))) → get s.roots r = some t → sub t p = some o → hsOf r p (cells o) off k = some hs → Yld (.load (some k) a) s (.w (.agg hs))
  | nilc {x s r p off} : ev s x = some (.w (.one (.hp r p off))) → (get s.roots r).isSome → Yld (.nilc x) s (.w (.one (.hp r p off)))
  | binI {op x y s k a b h} : ev s x = some (.w (.one (.int k a))) → ev s y = some (.w (.one (.int k b))) → binInt op k a b = some h → Yld (.bin op x y) s (.w (.one h))
  | binSh {op x y s k k' a b h} : ev s x = some (.w (.one (.int k a))) → ev s y = some (.w (.one (.int k' b))) → 0 ≤ b → binShift op k a b = some h → Yld (.bin op x y) s (.w (.one h))
  | binS {op x y s a b h} : ev s x = some (.w (.one (.str a))) → ev s y = some (.w (.one (.str b))) → binStr op a b = some h → Yld (.bin op x y) s (.w (.one h))
  | cat {x y s a b} : ev s x = some (.w (.one (.str a))) → ev s y = some (.w (.one (.str b))) → a.size + b.size ≤ 9223372036854775807 → Yld (.bin .add x y) s (.w (.one (.str (a ++ b))))
  | beq {ne x y s a b} : ev s x = some (.w (.one (.bool a))) → ev s y = some (.w (.one (.bool b))) → Yld (.beq ne x y) s (.w (.one (.bool (if ne then !(a == b) else a == b))))
  | not {x s b} : ev s x = some (.w (.one (.bool b))) → Yld (.un .not x) s (.w (.one (.bool (!b))))
  | neg {x s k a} : ev s x = some (.w (.one (.int k a))) → Yld (.un .neg x) s (.w (.one (.int k (k.wrap (0 - a)))))
  | cvi {x s k k' a} : ev s x = some (.w (.one (.int k' a))) → Yld (.cvi k x) s (.w (.one (.int k (k.wrap a))))
  | cvs {x s r p off n t own n0 cs} {bs : List UInt8} : ev s x = some (.w (.one (.hs r p off 1 n))) → get s.roots r = some t → sub t p = some (.sl own 1 n0 cs) → (cs.drop off).take n = bs.map (fun b : UInt8 => T.int .u8 b.toNat) → bs.length = n → Yld (.cvs x) s (.w (.one (.str ⟨bs.toArray⟩)))
  | cvs0 {x s} : ev s x = some (.w (.one .nil)) → Yld (.cvs x) s (.w (.one (.str ByteArray.empty)))
  | substr {x lo hi s b l h} : ev s x = some (.w (.one (.str b))) → (match lo with | none => l = 0 | some y => ∃ k, ev s y = some (.w (.one (.int k (l : Nat))))) → (match hi with | none => h = b.size | some y => ∃ k, ev s y = some (.w (.one (.int k (h : Nat))))) → l ≤ h → h ≤ b.size → Yld (.substr x lo hi) s (.w (.one (.str (b.extract l h))))
  | slice {st x lo hi s r p off n l h} : ev s x = some (.w (.one (.hs r p off st n))) → (get s.roots r).isSome → (match lo with | none => l = 0 | some y => ∃ k, ev s y = some (.w (.one (.int k (l : Nat))))) → (match hi with | none => h = n | some y => ∃ k, ev s y = some (.w (.one (.int k (h : Nat))))) → l ≤ h → h ≤ n → Yld (.slice st x lo hi none) s (.w (.one (.hs r p (off + l * st) st (h - l))))
  | slice0 {st x lo hi mx s r p off n k1 k2} : ev s x = some (.w (.one (.hs r p off st n))) → (get s.roots r).isSome → lo = none → ev s hi = some (.w (.one (.int k1 0))) → ev s mx = some (.w (.one (.int k2 0))) → Yld (.slice st x lo (some hi) (some mx)) s (.w (.one .nil))
  | faddr {x s r p o off} : ev s x = some (.w (.one (.hp r p o))) → (get s.roots r).isSome → Yld (.faddr x off) s (.w (.one (.hp r p (o + off))))
  | field1 {x s hs off h} : ev s x = some (.w (.agg hs)) → hs[off]? = some h → Yld (.field x off none) s (.w (.one h))
  | fieldK {x s hs off k} : ev s x = some (.w (.agg hs)) → off + k ≤ hs.length → Yld (.field x off (some k)) s (.w (.agg ((hs.drop off).take k)))
  | iaddr {st x i s r p off n k j} : ev s x = some (.w (.one (.hs r p off st n))) → (get s.roots r).isSome → ev s i = some (.w (.one (.int k j))) → 0 ≤ j → j < n → Yld (.iaddr st x i) s (.w (.one (.hp r p (off + j.toNat * st))))
  | at {x i s b k j c} : ev s x = some (.w (.one (.str b))) → ev s i = some (.w (.one (.int k j))) → 0 ≤ j → b[j.toNat]? = some c → Yld (.at x i) s (.w (.one (.int .u8 c.toNat)))
  | ext {x s xs i v} : ev s x = some (.tup xs) → xs[i]? = some v → Yld (.ext x i) s (.w v)
  | lenS {x s r p off st n} : ev s x = some (.w (.one (.hs r p off st n))) → (get s.roots r).isSome → Yld (.len x) s (.w (.one (.int .i64 n)))
  | lenT {x s b} : ev s x = some (.w (.one (.str b))) → Yld (.lent x) s (.w (.one (.int .i64 b.size)))
  | len0 {x s} : ev s x = some (.w (.one .nil)) → Yld (.len x) s (.w (.one (.int .i64 0)))
  | mm2 {mx x y s k a b} : ev s x = some (.w (.one (.int k a))) → ev s y = some (.w (.one (.int k b))) → Yld (.mm mx [x, y]) s (.w (.one (.int k (if mx then (if b > a then b else a) else (if b < a then b else a)))))
  | mkf {f caps s hs} : (caps.map (ev s)) = (hs.map fun h => some (V.w (.one h))) → Yld (.mkf f caps) s (.w (.one (.fn f hs)))
end Go.Proofs.YtplhecjngmkngaaT

/- Trees: an operation of the program told as one on states. No condition. -/
set_option linter.unusedVariables false
set_option linter.unusedSimpArgs false
namespace Go.Proofs.YtplhecjngmkngaaT
open Go

def constH : Value → Option H
  | .int k n => some (.int k n)
  | .bool b => some (.bool b)
  | .string s => some (.str s)
  | .slice none 0 0 => some .nil
  | .pointer none => some .nptr
  | _ => none
def constHs : List Value → Option (List H)
  | [] => some []
  | v :: vs => match constH v, constHs vs with | some h, some hs => some (h :: hs) | _, _ => none
def constW : Value → Option W
  | .agg cs => (constHs cs.toList).map .agg
  | v => (constH v).map .one
def toX : Operand → Option X
  | .tmp t => some (.t t)
  | .const v => (constW v).map .k
  | .func f => some (.k (.one (.fn f [])))
  | .global _ => none
def toXs : List Operand → Option (List X)
  | [] => some []
  | x :: xs => match toX x, toXs xs with | some y, some ys => some (y :: ys) | _, _ => none
def toXo : Option Operand → Option (Option X)
  | none => some none
  | some x => (toX x).map some
/-- one cell, or a struct's cells -/
def kOf (P : Program) (t : TypeId) : Option (Option Nat) :=
  match P.underlying t, P.info? t with
  | some d, some i => if d.isRow then some (some i.size) else if i.size = 1 then some none else none
  | _, _ => none
def szOf (P : Program) (t : TypeId) : Option Nat := (P.info? t).map (·.size)
def zeroOf (P : Program) (t : TypeId) : Option (List H) := ((P.info? t).bind (·.zero)).bind fun z => constHs z.cells.toList
def slOf (P : Program) (t : TypeId) : Option TypeId := match P.underlying t with | some (.slice e) => some e | _ => none
def placesOf (P : Program) (fs : Array Field) : Option (List (Nat × Nat)) := fs.toList.mapM (fun f => (P.info? f.type).map fun i => (f.offset, i.size))
def partsOf (pl : List (Nat × Nat)) : List (Nat × Operand) → Option (List (Nat × Nat × X))
  | [] => some []
  | (i, x) :: l => match pl[i]?, toX x, partsOf pl l with
    | some (o, z), some y, some r => some ((o, z, y) :: r)
    | _, _, _ => none
def litOf : List (Nat × Operand) → Option (List (Nat × X))
  | [] => some []
  | (i, x) :: l => match toX x, litOf l with | some y, some r => some ((i, y) :: r) | _, _ => none

def isU8 (P : Program) (e : TypeId) : Bool := match P.underlying e with | some (.int .u8) => true | _ => false

def compI (P : Program) (o : Oper) : Option I :=
  match o.op with
  | .move x | .assign x => (toX x).map .mov
  | .pick c a b => match toX c, toX a, toX b with | some c, some a, some b => some (.pick c a b) | _, _, _ => none
  | .alloc e => (zeroOf P e).map .alloc
  | .box e x => (toX x).map .box
  | .build t parts => match P.underlying t, zeroOf P t with
    | some (.struct fs), some z => match placesOf P fs with
      | some pl => (partsOf pl parts.toList).map (.build z)
      | none => none
    | _, _ => none
  | .buildSlice t len parts => match slOf P t with
    | some e => match szOf P e, zeroOf P e, litOf parts.toList with
      | some st, some z, some ps => if len * st ≤ 2 ^ 24 then some (.lit st len z ps) else none
      | _, _, _ => none
    | none => none
  | .load t a => match kOf P t, toX a with | some k, some a => some (.load k a) | _, _ => none
  | .store t a x => match szOf P t, toX a, toX x with | some k, some a, some x => some (.store k a x) | _, _, _ => none
  | .nilCheck x => (toX x).map .nilc
  | .binOp op t x y _ => match toX x, toX y with
    | some x, some y => match op with
      | .eql | .neq => match P.underlying t with
        | some (.int _) | some .string => some (.bin op x y)
        | some .bool => some (.beq (op == .neq) x y)
        | _ => none
      | op => some (.bin op x y)
    | _, _ => none
  | .unOp op _ x => (toX x).map (.un op)
  | .convert src dst x => match P.underlying src, P.underlying dst, toX x with
    | some (.int _), some (.int k), some x => some (.cvi k x)
    | some .string, some (.slice e), some x => if isU8 P e then some (.cvb x) else none
    | some (.slice e), some .string, some x => if isU8 P e then some (.cvs x) else none
    | _, _, _ => none
  | .makeSlice t l c => match slOf P t with
    | some e => match P.info? e, zeroOf P e, toX l, toX c with | some i, some z, some l, some c => some (.make i.size z i.bytes l c) | _, _, _, _ => none
    | none => none
  | .slice t x lo hi mx => match P.underlying t, toX x, toXo lo, toXo hi, toXo mx with
    | some .string, some x, some lo, some hi, some none => some (.substr x lo hi)
    | some (.slice e), some x, some lo, some hi, some mx => (szOf P e).map fun st => .slice st x lo hi mx
    | _, _, _, _, _ => none
  | .fieldAddr t x i => match P.underlying t, toX x with
    | some (.struct fs), some x => match fs[i]? with
      | some f => match szOf P f.type with | some (n + 1) => some (.faddr x f.offset) | _ => none
      | none => none
    | _, _ => none
  | .field t x i => match P.underlying t, toX x with
    | some (.struct fs), some x => match fs[i]? with
      | some f => (kOf P f.type).map (.field x f.offset)
      | none => none
    | _, _ => none
  | .indexAddr t x i => match slOf P t, toX x, toX i with
    | some e, some x, some i => (szOf P e).map fun st => .iaddr st x i
    | _, _, _ => none
  | .index t x i => match P.underlying t, toX x, toX i with
    | some .string, some x, some i => some (.at x i)
    | _, _, _ => none
  | .extract x i => (toX x).map (.ext · i)
  | .makeFunc (.func f) first caps => if first.size = 0 then (toXs caps.toList).map (.mkf f) else none
  | .call c => match c.callee with
    | .value (.func f) => match P.funcs[f]? with
      | some fn => if fn.body.isSome && fn.name != "runtime.NumGoroutine" then (toXs c.args.toList).map (.call f) else none
      | none => none
    | .value (.tmp t) => (toXs c.args.toList).map (.callv (.t t))
    | .builtin .len => match c.args.toList, c.argTypes[0]?.bind P.underlying with
      | [x], some .string => (toX x).map .lent
      | [x], some (.slice _) => (toX x).map .len
      | _, _ => none
    | .builtin .append => match c.args.toList, c.argTypes[0]?.bind (slOf P), c.argTypes[1]?.bind P.underlying with
      | [x, y], some e, some (.slice _) | [x, y], some e, some .string => match P.info? e, zeroOf P e, toX x, toX y with
        | some i, some z, some x, some y => some (.app i.size i.bytes z x y)
        | _, _, _, _ => none
      | _, _, _ => none
    | .builtin .max => (toXs c.args.toList).map (.mm true)
    | .builtin .min => (toXs c.args.toList).map (.mm false)
    | _ => none
  | _ => none

theorem constH_rep {w : World} {roots : List (Nat × T)} {hv : Nat → Value} : ∀ (v : Value) (h : H), constH v = some h → HRep w roots hv h v := by
  intro v h e
  cases v <;> simp only [constH] at e <;> try (simp at e; done)
  case bool b => simp at e; subst e; simp [HRep]
  case int k n => simp at e; subst e; simp [HRep]
  case string s => simp at e; subst e; simp [HRep]
  case pointer a => cases a <;> simp at e; subst e; simp [HRep]
  case slice a l c =>
    cases a with
    | some a => simp at e
    | none =>
      cases l with
      | succ l => simp at e
      | zero => cases c with
        | succ c => simp at e
        | zero => simp at e; subst e; simp [HRep]
theorem constHs_rep {w : World} {roots : List (Nat × T)} {hv : Nat → Value} : ∀ (vs : List Value) (hs : List H), constHs vs = some hs → HRepL w roots hv hs vs
  | [], hs, e => by simp only [constHs, Option.some.injEq] at e; subst e; simp [HRepL]
  | v :: vs, hs, e => by
    simp only [constHs] at e
    cases h1 : constH v with
    | none => simp [h1] at e
    | some h =>
      cases h2 : constHs vs with
      | none => simp [h1, h2] at e
      | some hs' =>
        simp only [h1, h2, Option.some.injEq] at e; subst e
        simp only [HRepL]
        exact ⟨v, vs, rfl, constH_rep v h h1, constHs_rep vs hs' h2⟩
theorem constW_rep {w : World} {roots : List (Nat × T)} {hv : Nat → Value} (v : Value) (x : W) (e : constW v = some x) : WRep w roots hv x v := by
  have one : ∀ {u : Value}, (constH u).map W.one = some x → WRep w roots hv x u := by
    intro u hu
    obtain ⟨h, h1, rfl⟩ := Option.map_eq_some_iff.1 hu
    exact constH_rep u h h1
  cases v
  case agg cs =>
    simp only [constW] at e
    obtain ⟨hs, h1, rfl⟩ := Option.map_eq_some_iff.1 e
    exact ⟨cs.toList, by simp, constHs_rep _ _ h1⟩
  all_goals exact one e


theorem ev_rep {nt : Nat} {w : World} {ro : Nat → Prop} {s : St} {a : Go.Act} {args : List Value} {hv : Nat → Value} {F : Nat → List Nat} {G : List Nat} (h : Inv nt w ro s a.tmps args hv F G) {x : Operand} {y : X} (hx : toX x = some y) {v : V} (hy : ev s y = some v) : VRep w s.roots hv v (a.eval x) := by
  cases x with
  | tmp t =>
    simp only [toX, Option.some.injEq] at hx; subst hx
    simp only [ev] at hy
    obtain ⟨z, h1, h2⟩ := h.env t v hy
    simp only [Act.eval, Array.getD_eq_getD_getElem?, h1, Option.getD_some]
    exact h2
  | const c =>
    simp only [toX] at hx
    obtain ⟨u, h1, rfl⟩ := Option.map_eq_some_iff.1 hx
    simp only [ev, Option.some.injEq] at hy; subst hy
    exact constW_rep c u h1
  | func f =>
    simp only [toX, Option.some.injEq] at hx; subst hx
    simp only [ev, Option.some.injEq] at hy; subst hy
    simp only [VRep, WRep, HRep]
    exact ⟨[], rfl, by simp [HRepL]⟩
  | global g => simp [toX] at hx
end Go.Proofs.YtplhecjngmkngaaT

/- Trees: an operation that turns nothing, run: it yields what is told. No condition. -/
set_option linter.unusedVariables false
set_option linter.unusedSimpArgs false
namespace Go.Proofs.YtplhecjngmkngaaT
open Go

section
variable {P : Program} {nt : Nat} {w : World} {ro : Nat → Prop} {s : St} {a : Go.Act} {args : List Value} {hv : Nat → Value} {F : Nat → List Nat} {G : List Nat}

theorem HRepL_get {roots : List (Nat × T)} : ∀ (hs : List H) (vs : List Value) (i : Nat) (h : H), HRepL w roots hv hs vs → hs[i]? = some h → ∃ v, vs[i]? = some v ∧ HRep w roots hv h v
  | [], vs, i, h, hh, e => by simp at e
  | g :: hs, vs, 0, h, hh, e => by
    simp only [HRepL] at hh; obtain ⟨v, vs', rfl, h1, h2⟩ := hh
    simp at e; subst e; exact ⟨v, rfl, h1⟩
  | g :: hs, vs, i + 1, h, hh, e => by
    simp only [HRepL] at hh; obtain ⟨v, vs', rfl, h1, h2⟩ := hh
    simp at e; obtain ⟨u, e1, e2⟩ := HRepL_get hs vs' i h h2 e
    exact ⟨u, by simpa using e1, e2⟩
theorem HRepL_len {roots : List (Nat × T)} : ∀ (hs : List H) (vs : List Value), HRepL w roots hv hs vs → vs.length = hs.length
  | [], vs, h => by simp only [HRepL] at h; subst h; rfl
  | g :: hs, vs, h => by
    simp only [HRepL] at h; obtain ⟨v, vs', rfl, h1, h2⟩ := h
    simp [HRepL_len hs vs' h2]
theorem HRepL_drop {roots : List (Nat × T)} : ∀ (n : Nat) (hs : List H) (vs : List Value), HRepL w roots hv hs vs → HRepL w roots hv (hs.drop n) (vs.drop n)
  | 0, hs, vs, h => by simpa using h
  | n + 1, [], vs, h => by simp only [HRepL] at h; subst h; simp [HRepL]
  | n + 1, g :: hs, vs, h => by
    simp only [HRepL] at h; obtain ⟨v, vs', rfl, h1, h2⟩ := h
    simpa using HRepL_drop n hs vs' h2
theorem HRepL_take {roots : List (Nat × T)} : ∀ (n : Nat) (hs : List H) (vs : List Value), HRepL w roots hv hs vs → HRepL w roots hv (hs.take n) (vs.take n)
  | 0, hs, vs, h => by simp [HRepL]
  | n + 1, [], vs, h => by simp only [HRepL] at h; subst h; simp [HRepL]
  | n + 1, g :: hs, vs, h => by
    simp only [HRepL] at h; obtain ⟨v, vs', rfl, h1, h2⟩ := h
    simp only [List.take_succ_cons, HRepL]
    exact ⟨v, _, rfl, h1, HRepL_take n hs vs' h2⟩
theorem HRepL_append {roots : List (Nat × T)} : ∀ (hs gs : List H) (vs us : List Value), HRepL w roots hv hs vs → HRepL w roots hv gs us → HRepL w roots hv (hs ++ gs) (vs ++ us)
  | [], gs, vs, us, h, k => by simp only [HRepL] at h; subst h; simpa using k
  | g :: hs, gs, vs, us, h, k => by
    simp only [HRepL] at h; obtain ⟨v, vs', rfl, h1, h2⟩ := h
    simp only [List.cons_append, HRepL]
    exact ⟨v, _, rfl, h1, HRepL_append hs gs vs' us h2 k⟩
theorem WRepL_get {roots : List (Nat × T)} : ∀ (hs : List W) (vs : List Value) (i : Nat) (h : W), WRepL w roots hv hs vs → hs[i]? = some h → ∃ v, vs[i]? = some v ∧ WRep w roots hv h v
  | [], vs, i, h, hh, e => by simp at e
  | g :: hs, vs, 0, h, ⟨v, vs', e0, h1, h2⟩, e => by
    subst e0; simp at e; subst e; exact ⟨v, rfl, h1⟩
  | g :: hs, vs, i + 1, h, ⟨v, vs', e0, h1, h2⟩, e => by
    subst e0; simp at e; obtain ⟨u, e1, e2⟩ := WRepL_get hs vs' i h h2 e
    exact ⟨u, by simpa using e1, e2⟩

/-- what a cell holds, as a temporary has it -/
theorem hOf_rep (h : Inv nt w ro s a.tmps args hv F G) {r : Nat} {q : List Nat} {t c : T} {g : H} {x : Value} (ht : get s.roots r = some t) (hs : sub t q = some c) (hg : hOf r q c = some g) (hw : walk w (hv r) q = some x) {Fc : List Nat} (hx : Rep w ro c x Fc) : HRep w s.roots hv g x := by
  cases c <;> simp only [hOf] at hg
  case int k n => simp at hg; subst hg; simp only [Rep] at hx; simp only [HRep]; exact hx.1
  case bool b => simp at hg; subst hg; simp only [Rep] at hx; simp only [HRep]; exact hx.1
  case str b => simp at hg; subst hg; simp only [Rep] at hx; simp only [HRep]; exact hx.1
  case nptr => simp at hg; subst hg; simp only [Rep] at hx; simp only [HRep]; exact hx.1
  case hole => simp at hg
  case fn => simp at hg
  case sl own st n cs =>
    split at hg
    · rename_i h0
      subst h0
      simp at hg; subst hg
      simp only [Rep] at hx
      rcases hx with ⟨rfl, rfl, _, h4⟩ | ⟨b, o, cap, F', h1, h2, h3, _⟩
      · simp only [HRep]; exact h4
      · omega
    rename_i h0
    simp at hg; subst hg
    have key : (0 + n * st ≤ cs.length ∧ Ex x 0 n x) ∧ SlOf x 0 st n x ∧ (∀ A n0 c, x = .slice A n0 c → 0 + n * st ≤ n0 * st) := by
      simp only [Rep] at hx
      rcases hx with ⟨rfl, rfl, _, h4⟩ | ⟨b, o, cap, F', h1, h2, h3, _⟩
      · exact ⟨⟨by simp, fun _ _ _ _ => rfl⟩, .inl ⟨rfl, h4⟩, by simp⟩
      · refine ⟨⟨by omega, fun _ _ _ _ => rfl⟩, .inr ⟨b, o, n, cap, cap, h1, by simpa using h1, h2.1, by omega, h2.2⟩, fun A n0 c e => ?_⟩
        rw [h1] at e; simp only [Value.slice.injEq] at e; obtain ⟨_, rfl, _⟩ := e; omega
    simp only [HRep]
    refine ⟨fun hq => ?_, fun t' ht' => ?_⟩
    · subst hq
      simp only [walk, Option.some.injEq] at hw; rw [hw]
      exact ⟨key.2.1, key.2.2, key.1.2⟩
    · rw [ht] at ht'; obtain rfl := Option.some.inj ht'
      exact ⟨own, n, cs, x, hs, hw, key.1, key.2.1⟩
  case bx own cs =>
    simp at hg; subst hg
    simp only [HRep]
    simp only [Rep] at hx
    obtain ⟨b, o, F', h1, _⟩ := hx
    refine ⟨fun hq => ?_, fun t' ht' => ?_⟩
    · subst hq
      simp only [walk, Option.some.injEq] at hw; rw [hw]
      exact ⟨b, o, by simp [h1, adr], by simp [h1]⟩
    · rw [ht] at ht'; obtain rfl := Option.some.inj ht'
      exact ⟨_, x, b, o, ⟨hs, rfl⟩, hw, by simp [h1, adr], by simp [h1]⟩

theorem sub_snoc : ∀ (p : List Nat) (t : T) (j : Nat), sub t (p ++ [j]) = (sub t p).bind (sub · [j])
  | [], t, j => by simp [sub]
  | i :: p, t, j => by
    have ih := sub_snoc p
    cases t <;> simp [sub, ih, Option.bind_assoc]

/-- the cell behind an address -/
theorem cell_at (h : Inv nt w ro s a.tmps args hv F G) {r : Nat} {p : List Nat} {off : Nat} {t c : T} {x : Value} (ht : get s.roots r = some t) (hs : sub t (p ++ [off]) = some c) (hx : HRep w s.roots hv (.hp r p off) x) :
    ∃ b o v Fc, x = .pointer (some ⟨b, o, none⟩) ∧ w.cell? ⟨b, o, none⟩ = some v ∧ walk w (hv r) (p ++ [off]) = some v ∧ Rep w ro c v Fc := by
  simp only [HRep] at hx
  obtain ⟨t', hh, b, o, h1, h2, h3, h4⟩ := hx.2 t ht
  obtain ⟨v', pre, F', post, e1, e2, _, _⟩ := Rep.sub (p ++ [off]) t c (hv r) (F r) (h.rep r t ht) hs
  have hw := e1
  rw [walk_snoc, h2] at e1
  refine ⟨b, o + off, v', F', h4, ?_, hw, e2⟩
  cases hh with
  | slice A l cp => cases A with
    | none => simp [adr] at h3
    | some A => simp only [adr, Option.some.injEq, Prod.mk.injEq] at h3; obtain ⟨rfl, rfl⟩ := h3; simpa [walk] using e1
  | pointer A => cases A with
    | none => simp [adr] at h3
    | some A => simp only [adr, Option.some.injEq, Prod.mk.injEq] at h3; obtain ⟨rfl, rfl⟩ := h3; simpa [walk] using e1
  | _ => simp [adr] at h3
end
end Go.Proofs.YtplhecjngmkngaaT

/- Trees: an operation that turns nothing, run: numbers, texts, structs. No condition. -/
set_option linter.unusedVariables false
set_option linter.unusedSimpArgs false
namespace Go.Proofs.YtplhecjngmkngaaT
open Go

section
variable {P : Program} {nt : Nat} {w : World} {ro : Nat → Prop} {s : St} {a : Go.Act} {args : List Value} {hv : Nat → Value} {F : Nat → List Nat} {G : List Nat}

/-- an operation run, and what it yields -/
def Runs (P : Program) (w : World) (s : St) (hv : Nat → Value) (a : Go.Act) (o : Oper) (v : V) : Prop := ∃ x, (execOp a.eval o).run P w = .ok (.value x) w ∧ VRep w s.roots hv v x

theorem eqGuard_int (op : BinOp) (t : TypeId) (x y : Operand) (k k' : IntKind) (u v : Int) : (eqGuard op t x y (.int k u) (.int k' v)).run P w = .ok () w := by cases op <;> simp [eqGuard]
theorem eqGuard_str (op : BinOp) (t : TypeId) (x y : Operand) (u v : ByteArray) : (eqGuard op t x y (.string u) (.string v)).run P w = .ok () w := by cases op <;> simp [eqGuard]
theorem eqGuard_bool (op : BinOp) (t : TypeId) (x y : Operand) (u v : Bool) : (eqGuard op t x y (.bool u) (.bool v)).run P w = .ok () w := by cases op <;> simp [eqGuard]

theorem r_bin (h : Inv nt w ro s a.tmps args hv F G) {o : Oper} {op : BinOp} {t yt : TypeId} {x y : Operand} {X' Y' : X} (ho : o.op = .binOp op t x y yt) (hx : toX x = some X') (hy : toX y = some Y') {v : V} (hY : Yld (.bin op X' Y') s v) : Runs P w s hv a o v := by
  cases hY with
  | binI e1 e2 e3 =>
    have r1 := ev_rep h hx e1
    have r2 := ev_rep h hy e2
    simp only [VRep, WRep, HRep] at r1 r2
    rename_i k A B g
    refine ⟨match g with | .int k n => .int k n | .bool b => .bool b | _ => undef, ?_, ?_⟩
    · cases op <;> simp only [binInt, reduceCtorEq, Option.some.injEq] at e3 <;> (try (split at e3 <;> simp at e3)) <;> (try subst e3) <;>
        simp_all [execOp, eqGuard_int, eqGuard_str, binOp, Op.intArith, Op.intDiv, Op.intBits, Op.intCmp]
    · cases op <;> simp only [binInt, reduceCtorEq, Option.some.injEq] at e3 <;> (try (split at e3 <;> simp at e3)) <;> (try subst e3) <;> simp_all [VRep, WRep, HRep]
  | binSh e1 e2 hb e3 =>
    have r1 := ev_rep h hx e1
    have r2 := ev_rep h hy e2
    simp only [VRep, WRep, HRep] at r1 r2
    rename_i k k' A B g
    have hb' : ¬ B < 0 := by omega
    refine ⟨match g with | .int k n => .int k n | .bool b => .bool b | _ => undef, ?_, ?_⟩
    · cases op <;> simp only [binShift, reduceCtorEq, Option.some.injEq] at e3 <;> (try subst e3) <;>
        simp_all [execOp, eqGuard_int, eqGuard_str, binOp, Op.shift] <;> (intro hn; exact absurd hn (by omega))
    · cases op <;> simp only [binShift, reduceCtorEq, Option.some.injEq] at e3 <;> (try subst e3) <;> simp_all [VRep, WRep, HRep]
  | binS e1 e2 e3 =>
    have r1 := ev_rep h hx e1
    have r2 := ev_rep h hy e2
    simp only [VRep, WRep, HRep] at r1 r2
    rename_i A B g
    refine ⟨match g with | .bool b => .bool b | _ => undef, ?_, ?_⟩
    · cases op <;> simp only [binStr, reduceCtorEq, Option.some.injEq] at e3 <;> (try subst e3) <;>
        simp_all [execOp, eqGuard_int, eqGuard_str, binOp, Op.stringOp]
    · cases op <;> simp only [binStr, reduceCtorEq, Option.some.injEq] at e3 <;> (try subst e3) <;> simp_all [VRep, WRep, HRep]
  | cat e1 e2 hb =>
    have r1 := ev_rep h hx e1
    have r2 := ev_rep h hy e2
    simp only [VRep, WRep, HRep] at r1 r2
    refine ⟨_, ?_, rfl⟩
    simp [execOp, ho, eqGuard_int, eqGuard_str, binOp, r1, r2, run_string_add_sum _ _ _ hb]

theorem r_beq (h : Inv nt w ro s a.tmps args hv F G) {o : Oper} {op : BinOp} {t yt : TypeId} {x y : Operand} {X' Y' : X} {ne : Bool} (ho : o.op = .binOp op t x y yt) (hop : op = if ne then .neq else .eql) (ht : P.underlying t = some .bool) (hx : toX x = some X') (hy : toX y = some Y') {v : V} (hY : Yld (.beq ne X' Y') s v) : Runs P w s hv a o v := by
  cases hY with
  | beq e1 e2 =>
    have r1 := ev_rep h hx e1
    have r2 := ev_rep h hy e2
    simp only [VRep, WRep, HRep] at r1 r2
    refine ⟨_, ?_, rfl⟩
    cases ne <;> subst hop <;> simp [execOp, ho, eqGuard_bool, binOp, r1, r2, run_equal_bool _ _ _ _ ht]

theorem r_un (h : Inv nt w ro s a.tmps args hv F G) {o : Oper} {op : UnOp} {t : TypeId} {x : Operand} {X' : X} (ho : o.op = .unOp op t x) (hx : toX x = some X') {v : V} (hY : Yld (.un op X') s v) : Runs P w s hv a o v := by
  cases hY with
  | not e1 =>
    have r1 := ev_rep h hx e1
    simp only [VRep, WRep, HRep] at r1
    exact ⟨_, by simp [execOp, ho, r1, Op.unary], rfl⟩
  | neg e1 =>
    have r1 := ev_rep h hx e1
    simp only [VRep, WRep, HRep] at r1
    exact ⟨_, by simp [execOp, ho, r1, Op.unary, Op.intArith], rfl⟩

theorem r_mov (h : Inv nt w ro s a.tmps args hv F G) {o : Oper} {x : Operand} {X' : X} (ho : o.op = .move x ∨ o.op = .assign x) (hx : toX x = some X') {v : V} (hY : Yld (.mov X') s v) : Runs P w s hv a o v := by
  cases hY with
  | mov e1 => exact ⟨_, by rcases ho with ho | ho <;> simp [execOp, ho], ev_rep h hx e1⟩

theorem r_pick (h : Inv nt w ro s a.tmps args hv F G) {o : Oper} {c x y : Operand} {C' X' Y' : X} (ho : o.op = .pick c x y) (hc : toX c = some C') (hx : toX x = some X') (hy : toX y = some Y') {v : V} (hY : Yld (.pick C' X' Y') s v) : Runs P w s hv a o v := by
  cases hY with
  | pickT e1 e2 =>
    have r1 := ev_rep h hc e1
    simp only [VRep, WRep, HRep] at r1
    exact ⟨_, by simp [execOp, ho, r1, asBool], ev_rep h hx e2⟩
  | pickF e1 e2 =>
    have r1 := ev_rep h hc e1
    simp only [VRep, WRep, HRep] at r1
    exact ⟨_, by simp [execOp, ho, r1, asBool], ev_rep h hy e2⟩

theorem r_cvi (h : Inv nt w ro s a.tmps args hv F G) {o : Oper} {src dst : TypeId} {j k : IntKind} {x : Operand} {X' : X} (ho : o.op = .convert src dst x) (hs : P.underlying src = some (.int j)) (hd : P.underlying dst = some (.int k)) (hx : toX x = some X') {v : V} (hY : Yld (.cvi k X') s v) : Runs P w s hv a o v := by
  cases hY with
  | cvi e1 =>
    have r1 := ev_rep h hx e1
    simp only [VRep, WRep, HRep] at r1
    exact ⟨_, by simp [execOp, ho, r1, convert, run_underlying hs, run_underlying hd, Conv.intToInt], rfl⟩

theorem r_ext (h : Inv nt w ro s a.tmps args hv F G) {o : Oper} {x : Operand} {X' : X} {i : Nat} (ho : o.op = .extract x i) (hx : toX x = some X') {v : V} (hY : Yld (.ext X' i) s v) : Runs P w s hv a o v := by
  cases hY with
  | ext e1 e2 =>
    obtain ⟨vs, r1, r2⟩ := ev_rep h hx e1
    obtain ⟨u, e3, e4⟩ := WRepL_get _ _ _ _ r2 e2
    exact ⟨u, by simp [execOp, ho, r1, Instr.extract, e3], e4⟩

theorem r_field (h : Inv nt w ro s a.tmps args hv F G) {o : Oper} {t : TypeId} {x : Operand} {X' : X} {i : Nat} {fs : Array Field} {f : Field} {k : Option Nat} (ho : o.op = .field t x i) (ht : P.underlying t = some (.struct fs)) (hf : fs[i]? = some f) (hk : kOf P f.type = some k) (hx : toX x = some X') {v : V} (hY : Yld (.field X' f.offset k) s v) : Runs P w s hv a o v := by
  unfold kOf at hk
  cases hu : P.underlying f.type with
  | none => simp [hu] at hk
  | some d =>
    cases hi : P.info? f.type with
    | none => simp [hu, hi] at hk
    | some inf =>
      simp only [hu, hi] at hk
      cases hY with
      | field1 e1 e2 =>
        obtain ⟨vs, r1, r2⟩ := ev_rep h hx e1
        obtain ⟨u, e3, e4⟩ := HRepL_get _ _ _ _ r2 e2
        split at hk
        · simp at hk
        · rename_i hd
          refine ⟨u, ?_, e4⟩
          have hagg : (isAgg f.type).run P w = .ok false w := by
            unfold isAgg
            rw [Sem.run_bind, run_underlying hu w]
            cases d <;> simp_all
          simp [execOp, ho, r1, Instr.field, run_underlying ht, hf, asAgg, part, hagg, e3]
      | fieldK e1 e2 =>
        obtain ⟨vs, r1, r2⟩ := ev_rep h hx e1
        have hl := HRepL_len _ _ r2
        split at hk
        · rename_i hd
          simp only [Option.some.injEq] at hk; subst hk
          have hagg : (isAgg f.type).run P w = .ok true w := by
            unfold isAgg
            rw [Sem.run_bind, run_underlying hu w]
            cases d <;> simp_all
          refine ⟨.agg ((vs.drop f.offset).take inf.size).toArray, ?_, _, rfl, HRepL_take _ _ _ (HRepL_drop _ _ _ r2)⟩
          simp [execOp, ho, r1, Instr.field, run_underlying ht, hf, asAgg, part, hagg, sizeOf, typeInfo, hi]
        · split at hk <;> simp at hk

/-- what a slice is -/
theorem hs_slice (h : Inv nt w ro s a.tmps args hv F G) {r : Nat} {p : List Nat} {off st n : Nat} {x : Value} (hr : (get s.roots r).isSome) (hx : HRep w s.roots hv (.hs r p off st n) x) : ∃ A c, x = .slice A n c := by
  simp only [HRep] at hx
  obtain ⟨t, ht⟩ := Option.isSome_iff_exists.1 hr
  obtain ⟨own, n0, cs, hh, h1, h2, h3, h4⟩ := hx.2 t ht
  rcases h4 with ⟨rfl, A, rfl⟩ | ⟨b, o, n0, cap0, cap, h5, h6, h7, h8⟩
  · exact ⟨_, _, rfl⟩
  · exact ⟨_, _, h6⟩

theorem r_len (h : Inv nt w ro s a.tmps args hv F G) {o : Oper} {c : Call} {x : Operand} {X' : X} {e : TypeId} (ho : o.op = .call c) (hb : c.callee = .builtin .len) (hc : c.args.toList = [x]) (ht : (c.argTypes[0]?).bind P.underlying = some (.slice e)) (hx : toX x = some X') {v : V} (hY : Yld (.len X') s v) : Runs P w s hv a o v := by
  have hca : c.args = #[x] := by rw [← Array.toList_inj]; simpa using hc
  obtain ⟨ti, hti, hu⟩ := Option.bind_eq_some_iff.1 ht
  cases hY with
  | lenS e1 e2 =>
    have r1 := ev_rep h hx e1
    simp only [VRep, WRep] at r1
    obtain ⟨A, cp, r2⟩ := hs_slice h e2 r1
    exact ⟨_, by simp [execOp, ho, resolve, hb, hca, invoke, builtin, Builtin.len_, hti, run_underlying hu, r2, goInt], rfl⟩
  | len0 e1 =>
    have r1 := ev_rep h hx e1
    simp only [VRep, WRep, HRep] at r1
    obtain ⟨A, r2⟩ := r1
    exact ⟨_, by simp [execOp, ho, resolve, hb, hca, invoke, builtin, Builtin.len_, hti, run_underlying hu, r2, goInt], rfl⟩
theorem r_lent (h : Inv nt w ro s a.tmps args hv F G) {o : Oper} {c : Call} {x : Operand} {X' : X} (ho : o.op = .call c) (hb : c.callee = .builtin .len) (hc : c.args.toList = [x]) (ht : (c.argTypes[0]?).bind P.underlying = some .string) (hx : toX x = some X') {v : V} (hY : Yld (.lent X') s v) : Runs P w s hv a o v := by
  have hca : c.args = #[x] := by rw [← Array.toList_inj]; simpa using hc
  obtain ⟨ti, hti, hu⟩ := Option.bind_eq_some_iff.1 ht
  cases hY with
  | lenT e1 =>
    have r1 := ev_rep h hx e1
    simp only [VRep, WRep, HRep] at r1
    exact ⟨_, by simp [execOp, ho, resolve, hb, hca, invoke, builtin, Builtin.len_, hti, run_underlying hu, r1, goInt], rfl⟩

theorem r_mm (h : Inv nt w ro s a.tmps args hv F G) {o : Oper} {c : Call} {mx : Bool} {Xs : List X} (ho : o.op = .call c) (hb : c.callee = .builtin (if mx then .max else .min)) (hx : toXs c.args.toList = some Xs) {v : V} (hY : Yld (.mm mx Xs) s v) : Runs P w s hv a o v := by
  cases hY with
  | mm2 e1 e2 =>
    rename_i X1 Y1 kk A B
    have hca : ∃ x y, c.args = #[x, y] ∧ toX x = some X1 ∧ toX y = some Y1 := by
      generalize hl : c.args.toList = l at hx
      match l, hx with
      | [x, y], hx =>
        refine ⟨x, y, by rw [← Array.toList_inj]; simpa using hl, ?_⟩
        simp only [toXs] at hx
        cases h1 : toX x <;> cases h2 : toX y <;> simp [h1, h2] at hx
        exact ⟨congrArg some hx.1, congrArg some hx.2⟩
      | [], hx => simp [toXs] at hx
      | [x], hx => simp only [toXs] at hx; cases h1 : toX x <;> simp [h1] at hx
      | x :: y :: z :: l, hx =>
        simp only [toXs] at hx
        cases h1 : toX x <;> cases h2 : toX y <;> cases h3 : toX z <;> cases h4 : toXs l <;> simp [h1, h2, h3, h4] at hx
    obtain ⟨x, y, hca, k1, k2⟩ := hca
    have r1 := ev_rep h k1 e1
    have r2 := ev_rep h k2 e2
    simp only [VRep, WRep, HRep] at r1 r2
    refine ⟨_, ?_, rfl⟩
    cases mx <;> simp [execOp, ho, resolve, hb, hca, invoke, builtin, Builtin.max_, Builtin.min_, Builtin.max2, Builtin.min2, r1, r2, List.foldlM]

theorem r_at (h : Inv nt w ro s a.tmps args hv F G) {o : Oper} {t : TypeId} {x i : Operand} {X' I' : X} (ho : o.op = .index t x i) (ht : P.underlying t = some .string) (hx : toX x = some X') (hi : toX i = some I') {v : V} (hY : Yld (.at X' I') s v) : Runs P w s hv a o v := by
  cases hY with
  | «at» e1 e2 h0 h1 =>
    have r1 := ev_rep h hx e1
    have r2 := ev_rep h hi e2
    simp only [VRep, WRep, HRep] at r1 r2
    exact ⟨_, by simp [execOp, ho, r1, r2, Instr.index, asIntOf, run_underlying ht, h0, h1], rfl⟩

theorem r_nilc (h : Inv nt w ro s a.tmps args hv F G) {o : Oper} {x : Operand} {X' : X} (ho : o.op = .nilCheck x) (hx : toX x = some X') {v : V} (hY : Yld (.nilc X') s v) : Runs P w s hv a o v := by
  cases hY with
  | nilc e1 e2 =>
    have r1 := ev_rep h hx e1
    have r2 := r1
    simp only [VRep, WRep, HRep] at r1
    obtain ⟨t, ht⟩ := Option.isSome_iff_exists.1 e2
    obtain ⟨_, _, b, o', _, _, _, r3⟩ := r1.2 t ht
    exact ⟨a.eval x, by simp [execOp, ho, r3], r2⟩

theorem r_faddr (h : Inv nt w ro s a.tmps args hv F G) {o : Oper} {t : TypeId} {x : Operand} {X' : X} {i : Nat} {fs : Array Field} {f : Field} {m : Nat} (ho : o.op = .fieldAddr t x i) (ht : P.underlying t = some (.struct fs)) (hf : fs[i]? = some f) (hk : szOf P f.type = some (m + 1)) (hx : toX x = some X') {v : V} (hY : Yld (.faddr X' f.offset) s v) : Runs P w s hv a o v := by
  cases hY with
  | faddr e1 e2 =>
    rename_i rr pp oo
    have r1 := ev_rep h hx e1
    simp only [VRep, WRep, HRep] at r1
    obtain ⟨t', ht'⟩ := Option.isSome_iff_exists.1 e2
    obtain ⟨t1, hh, b, o', q1, q2, q3, r3⟩ := r1.2 t' ht'
    unfold szOf at hk
    obtain ⟨inf, hinf, hsz⟩ := Option.map_eq_some_iff.1 hk
    refine ⟨.pointer (some ⟨b, o' + oo + f.offset, none⟩), ?_, ?_⟩
    rotate_left
    · simp only [VRep, WRep, HRep]
      refine ⟨fun hp => ?_, fun t2 ht2 => ?_⟩
      · obtain ⟨b1, o1, u1, u2⟩ := r1.1 hp
        rw [u2] at r3
        simp only [Value.pointer.injEq, Option.some.injEq, Addr.mk.injEq, and_true] at r3
        exact ⟨b1, o1, u1, by rw [r3.1, ← Nat.add_assoc, r3.2]⟩
      rw [ht'] at ht2; obtain rfl := Option.some.inj ht2
      exact ⟨t1, hh, b, o', q1, q2, q3, by rw [Nat.add_assoc]⟩
    · simp [execOp, ho, r3, Instr.fieldAt, run_underlying ht, hf, Instr.sureAddr, fieldPlace, sizeOf, typeInfo, hinf, hsz, Addr.add_mid]

theorem r_iaddr (h : Inv nt w ro s a.tmps args hv F G) {o : Oper} {t e : TypeId} {x i : Operand} {X' I' : X} {st : Nat} (ho : o.op = .indexAddr t x i) (ht : P.underlying t = some (.slice e)) (hk : szOf P e = some st) (hx : toX x = some X') (hi : toX i = some I') {v : V} (hY : Yld (.iaddr st X' I') s v) : Runs P w s hv a o v := by
  cases hY with
  | iaddr e1 e2 e3 h0 h1 =>
    rename_i rr pp oo nn kk jj
    have r1 := ev_rep h hx e1
    have r2 := ev_rep h hi e3
    simp only [VRep, WRep, HRep] at r1 r2
    obtain ⟨t', ht'⟩ := Option.isSome_iff_exists.1 e2
    obtain ⟨own, n0, cs, hh, q1, q2, q3, q4⟩ := r1.2 t' ht'
    unfold szOf at hk
    obtain ⟨inf, hinf, hsz⟩ := Option.map_eq_some_iff.1 hk
    rcases q4 with ⟨rfl, _⟩ | ⟨b, o', n1, cap0, cap, q5, q6, q7, q8⟩
    · omega
    refine ⟨.pointer (some ⟨b, o' + (oo + jj.toNat * st), none⟩), ?_, ?_⟩
    rotate_left
    · simp only [VRep, WRep, HRep]
      refine ⟨fun hp => ?_, fun t2 ht2 => ?_⟩
      · subst hp
        simp only [walk, Option.some.injEq] at q2
        exact ⟨b, o', by rw [q2]; simp [q5, adr], rfl⟩
      rw [ht'] at ht2; obtain rfl := Option.some.inj ht2
      exact ⟨_, hh, b, o', ⟨q1, rfl⟩, q2, by simp [q5, adr], rfl⟩
    · simp [execOp, ho, q6, r2, Instr.indexAt, asIntOf, run_underlying ht, h0, h1, sizeOf, typeInfo, hinf, hsz, Addr.add_mid, Nat.add_assoc]

theorem r_mkf (h : Inv nt w ro s a.tmps args hv F G) {o : Oper} {f : FuncId} {first caps : Array Operand} {Xs : List X} (ho : o.op = .makeFunc (.func f) first caps) (hf : first.size = 0) (hx : toXs caps.toList = some Xs) {v : V} (hY : Yld (.mkf f Xs) s v) : Runs P w s hv a o v := by
  cases hY with
  | mkf e1 =>
    rename_i hs
    have hl : ∀ (l : List Operand) (Xs : List X) (hs : List H), toXs l = some Xs → Xs.map (ev s) = (hs.map fun h => some (V.w (W.one h))) → HRepL w s.roots hv hs (l.map a.eval) := by
      intro l
      induction l with
      | nil =>
        intro Xs hs h1 h2
        simp only [toXs, Option.some.injEq] at h1; subst h1
        cases hs <;> simp at h2
        simp [HRepL]
      | cons x l ih =>
        intro Xs hs h1 h2
        simp only [toXs] at h1
        cases k1 : toX x with
        | none => simp [k1] at h1
        | some y =>
          cases k2 : toXs l with
          | none => simp [k1, k2] at h1
          | some ys =>
            simp only [k1, k2, Option.some.injEq] at h1; subst h1
            cases hs with
            | nil => simp at h2
            | cons g hs =>
              simp only [List.map_cons, List.cons.injEq] at h2
              simp only [List.map_cons, HRepL]
              have r1 := ev_rep h k1 h2.1
              exact ⟨_, _, rfl, r1, ih ys hs k2 h2.2⟩
    have hfe : first = #[] := Array.eq_empty_of_size_eq_zero hf
    refine ⟨.func (.func f) #[] (caps.toList.map a.eval).toArray, ?_, ?_⟩
    · simp [execOp, ho, Instr.makeFunc, hfe]
      apply Array.ext'
      simp
    · simp only [VRep, WRep, HRep]
      exact ⟨_, rfl, hl _ _ _ hx e1⟩
end
end Go.Proofs.YtplhecjngmkngaaT

/- Trees: an operation that turns nothing, run: loads, slices, texts. No condition. -/
set_option linter.unusedVariables false
set_option linter.unusedSimpArgs false
namespace Go.Proofs.YtplhecjngmkngaaT
open Go

section
variable {P : Program} {nt : Nat} {w : World} {ro : Nat → Prop} {s : St} {a : Go.Act} {args : List Value} {hv : Nat → Value} {F : Nat → List Nat} {G : List Nat}

theorem sub_cells {t ob c : T} {p : List Nat} {j : Nat} (h : sub t p = some ob) (hc : (cells ob)[j]? = some c) : sub t (p ++ [j]) = some c := by
  rw [sub_snoc, h, Option.bind_some]
  cases ob <;> simp [cells] at hc <;> simp [sub, hc]

/-- cells behind an address -/
theorem cells_at (h : Inv nt w ro s a.tmps args hv F G) {r : Nat} {p : List Nat} {t ob : T} (ht : get s.roots r = some t) (hs : sub t p = some ob) : ∀ (k off : Nat) (gs : List H) (b o : Nat), hsOf r p (cells ob) off k = some gs → HRep w s.roots hv (.hp r p off) (.pointer (some ⟨b, o, none⟩)) →
    ∃ vs : List Value, vs.length = k ∧ w.rangeAt b o vs ∧ HRepL w s.roots hv gs vs
  | 0, off, gs, b, o, hg, hx => by
    simp only [hsOf, Option.some.injEq] at hg; subst hg
    exact ⟨[], rfl, fun j v hj => by simp at hj, by simp [HRepL]⟩
  | k + 1, off, gs, b, o, hg, hx => by
    simp only [hsOf] at hg
    cases hc : (cells ob)[off]? with
    | none => simp [hc] at hg
    | some c =>
      simp only [hc] at hg
      cases h1 : hOf r (p ++ [off]) c with
      | none => simp [h1] at hg
      | some g =>
        cases h2 : hsOf r p (cells ob) (off + 1) k with
        | none => simp [h1, h2] at hg
        | some gs' =>
          simp only [h1, h2, Option.some.injEq] at hg; subst hg
          obtain ⟨b', o', v, Fc, e1, e2, e3, e4⟩ := cell_at h ht (sub_cells hs hc) hx
          simp only [Value.pointer.injEq, Option.some.injEq, Addr.mk.injEq, and_true] at e1
          obtain ⟨rfl, rfl⟩ := e1
          have hx' : HRep w s.roots hv (.hp r p (off + 1)) (.pointer (some ⟨b, o + 1, none⟩)) := by
            simp only [HRep] at hx ⊢
            refine ⟨fun hp => ?_, fun t' ht' => ?_⟩
            · obtain ⟨b1, o1, u1, u2⟩ := hx.1 hp
              simp only [Value.pointer.injEq, Option.some.injEq, Addr.mk.injEq, and_true] at u2
              exact ⟨b1, o1, u1, by rw [u2.1, u2.2, Nat.add_assoc]⟩
            obtain ⟨t1, hh, b1, o1, q1, q2, q3, q4⟩ := hx.2 t' ht'
            simp only [Value.pointer.injEq, Option.some.injEq, Addr.mk.injEq, and_true] at q4
            obtain ⟨rfl, rfl⟩ := q4
            exact ⟨t1, hh, b, o1, q1, q2, q3, by rw [Nat.add_assoc]⟩
          obtain ⟨vs, l1, l2, l3⟩ := cells_at h ht hs k (off + 1) gs' b (o + 1) h2 hx'
          refine ⟨v :: vs, by simp [l1], fun j u hj => ?_, ?_⟩
          · cases j with
            | zero => simp at hj; subst hj; simpa using e2
            | succ j => simp at hj; have := l2 j u hj; rwa [show o + 1 + j = o + (j + 1) by omega] at this
          · simp only [HRepL]
            exact ⟨v, vs, rfl, hOf_rep h ht (sub_cells hs hc) h1 e3 e4, l3⟩

theorem r_load (h : Inv nt w ro s a.tmps args hv F G) {o : Oper} {t : TypeId} {x : Operand} {X' : X} {k : Option Nat} (ho : o.op = .load t x) (hk : kOf P t = some k) (hx : toX x = some X') {v : V} (hY : Yld (.load k X') s v) : Runs P w s hv a o v := by
  unfold kOf at hk
  cases hu : P.underlying t with
  | none => simp [hu] at hk
  | some d =>
    cases hi : P.info? t with
    | none => simp [hu, hi] at hk
    | some inf =>
      simp only [hu, hi] at hk
      cases hY with
      | load1 e1 e2 e3 e4 =>
        have r1 := ev_rep h hx e1
        simp only [VRep, WRep] at r1
        obtain ⟨b, o', u, Fc, q1, q2, q3, q4⟩ := cell_at h e2 e3 r1
        split at hk
        · simp at hk
        · rename_i hd
          have hagg : (isAgg t).run P w = .ok false w := by
            unfold isAgg
            rw [Sem.run_bind, run_underlying hu w]
            cases d <;> simp_all
          refine ⟨u, ?_, hOf_rep h e2 e3 e4 q3 q4⟩
          simp [execOp, ho, q1, Instr.loadAt, Instr.sureAddr, loadVar, hagg, load, Sem.run, q2]
      | loadK e1 e2 e3 e4 =>
        have r1 := ev_rep h hx e1
        simp only [VRep, WRep] at r1
        have r2 := r1
        simp only [HRep] at r2
        obtain ⟨t1, hh, b, o', p1, p2, p3, p4⟩ := r2.2 _ e2
        rw [p4] at r1
        split at hk
        · rename_i hd
          simp only [Option.some.injEq] at hk; subst hk
          obtain ⟨vs, l1, l2, l3⟩ := cells_at h e2 e3 _ _ _ _ _ e4 r1
          refine ⟨.agg vs.toArray, ?_, vs, rfl, l3⟩
          simp [execOp, ho, p4, run_loadAt_mid w b _ t vs d l2 hu hd (by simp [hi, l1])]
        · split at hk <;> simp at hk

theorem r_substr (h : Inv nt w ro s a.tmps args hv F G) {o : Oper} {t : TypeId} {x : Operand} {lo hi : Option Operand} {X' : X} {Lo Hi : Option X} (ho : o.op = .slice t x lo hi none) (ht : P.underlying t = some .string) (hx : toX x = some X') (hl : toXo lo = some Lo) (hh : toXo hi = some Hi) {v : V} (hY : Yld (.substr X' Lo Hi) s v) : Runs P w s hv a o v := by
  cases hY with
  | substr e1 e2 e3 e4 e5 =>
    rename_i bb l hgh
    have r1 := ev_rep h hx e1
    simp only [VRep, WRep, HRep] at r1
    have hlo : (lo = none ∧ l = 0) ∨ ∃ y k, lo = some y ∧ a.eval y = .int k (l : Nat) := by
      cases lo with
      | none => simp only [toXo, Option.some.injEq] at hl; subst hl; exact .inl ⟨rfl, e2⟩
      | some y =>
        simp only [toXo] at hl
        obtain ⟨y', q1, rfl⟩ := Option.map_eq_some_iff.1 hl
        obtain ⟨k, e2⟩ := e2
        have := ev_rep h q1 e2
        simp only [VRep, WRep, HRep] at this
        exact .inr ⟨y, k, rfl, this⟩
    have hhi : (hi = none ∧ hgh = bb.size) ∨ ∃ y k, hi = some y ∧ a.eval y = .int k (hgh : Nat) := by
      cases hi with
      | none => simp only [toXo, Option.some.injEq] at hh; subst hh; exact .inl ⟨rfl, e3⟩
      | some y =>
        simp only [toXo] at hh
        obtain ⟨y', q1, rfl⟩ := Option.map_eq_some_iff.1 hh
        obtain ⟨k, e3⟩ := e3
        have := ev_rep h q1 e3
        simp only [VRep, WRep, HRep] at this
        exact .inr ⟨y, k, rfl, this⟩
    refine ⟨.string (bb.extract l hgh), ?_, rfl⟩
    rcases hlo with ⟨rfl, rfl⟩ | ⟨y, k, rfl, hy⟩ <;> rcases hhi with ⟨rfl, rfl⟩ | ⟨z, k2, rfl, hz⟩ <;>
      simp_all [execOp, Instr.sliceAt, Instr.slice, run_underlying ht, Instr.sliceBounds, Instr.sliceBound, asIntOf]

theorem r_slice (h : Inv nt w ro s a.tmps args hv F G) {o : Oper} {t e : TypeId} {x : Operand} {lo hi mx : Option Operand} {X' : X} {Lo Hi Mx : Option X} {st : Nat} (ho : o.op = .slice t x lo hi mx) (ht : P.underlying t = some (.slice e)) (hz : szOf P e = some st) (hx : toX x = some X') (hl : toXo lo = some Lo) (hh : toXo hi = some Hi) (hm : toXo mx = some Mx) {v : V} (hY : Yld (.slice st X' Lo Hi Mx) s v) : Runs P w s hv a o v := by
  unfold szOf at hz
  obtain ⟨inf, hinf, hsz⟩ := Option.map_eq_some_iff.1 hz
  cases hY with
  | slice e1 e2 e3 e4 e5 e6 =>
    rename_i rr pp oo nn l hgh
    have r1 := ev_rep h hx e1
    simp only [VRep, WRep, HRep] at r1
    obtain ⟨t', ht'⟩ := Option.isSome_iff_exists.1 e2
    obtain ⟨own, n0, cs, hd, q1, q2, q3, q4⟩ := r1.2 t' ht'
    have hmx : mx = none := by cases mx with
      | none => rfl
      | some y => simp only [toXo] at hm; obtain ⟨_, _, hm⟩ := Option.map_eq_some_iff.1 hm; simp at hm
    subst hmx
    have hlo : (lo = none ∧ l = 0) ∨ ∃ y k, lo = some y ∧ a.eval y = .int k (l : Nat) := by
      cases lo with
      | none => simp only [toXo, Option.some.injEq] at hl; subst hl; exact .inl ⟨rfl, e3⟩
      | some y =>
        simp only [toXo] at hl
        obtain ⟨y', q1, rfl⟩ := Option.map_eq_some_iff.1 hl
        obtain ⟨k, e3⟩ := e3
        have := ev_rep h q1 e3
        simp only [VRep, WRep, HRep] at this
        exact .inr ⟨y, k, rfl, this⟩
    have hhi : (hi = none ∧ hgh = nn) ∨ ∃ y k, hi = some y ∧ a.eval y = .int k (hgh : Nat) := by
      cases hi with
      | none => simp only [toXo, Option.some.injEq] at hh; subst hh; exact .inl ⟨rfl, e4⟩
      | some y =>
        simp only [toXo] at hh
        obtain ⟨y', q1, rfl⟩ := Option.map_eq_some_iff.1 hh
        obtain ⟨k, e4⟩ := e4
        have := ev_rep h q1 e4
        simp only [VRep, WRep, HRep] at this
        exact .inr ⟨y, k, rfl, this⟩
    obtain ⟨A, cap, hA, hnc⟩ : ∃ A cap, a.eval x = .slice A nn cap ∧ nn ≤ cap := by
      rcases q4 with ⟨rfl, A, q4⟩ | ⟨b, o', n1, cap0, cap, q5, q6, q7, q8⟩
      · exact ⟨_, _, q4, Nat.le_refl _⟩
      · exact ⟨_, _, q6, q7⟩
    refine ⟨.slice (if cap = l then A else A.map (·.add (l * st))) (hgh - l) (cap - l), ?_, ?_⟩
    · have hhc : hgh ≤ cap := by omega
      have hnc' : (nn : Int) ≤ cap := by omega
      rcases hlo with ⟨rfl, rfl⟩ | ⟨y, k, rfl, hy⟩ <;> rcases hhi with ⟨rfl, rfl⟩ | ⟨z, k2, rfl, hz⟩ <;>
        simp_all [execOp, Instr.sliceAt, Instr.slice, run_underlying ht, Instr.sliceBounds, Instr.sliceBound, asIntOf, sizeOf, typeInfo]
    · have hmul : (l + (hgh - l)) * st ≤ nn * st := Nat.mul_le_mul_right _ (by omega)
      rw [Nat.add_mul] at hmul
      have hcut : ∀ (h0 : Value), SlOf h0 oo st nn (.slice A nn cap) → SlOf h0 (oo + l * st) st (hgh - l) (.slice (if cap = l then A else A.map (·.add (l * st))) (hgh - l) (cap - l)) := by
        rintro h0 (⟨rfl, A', q4⟩ | ⟨b, o', n1, cap0, cap', q5, q6, q7, q8⟩)
        · simp only [Value.slice.injEq] at q4
          obtain ⟨rfl, _, rfl⟩ := q4
          obtain rfl : l = 0 := by omega
          obtain rfl : hgh = 0 := by omega
          exact .inl ⟨rfl, by simp⟩
        · simp only [Value.slice.injEq] at q6
          obtain ⟨rfl, _, rfl⟩ := q6
          by_cases hcl : cap = l
          · subst hcl
            have : hgh - cap = 0 := by omega
            exact .inl ⟨this, by simp [this]⟩
          · refine .inr ⟨b, o', n1, cap0, cap - l, q5, ?_, by omega, ?_, q8.2⟩
            · simp [hcl, Addr.add_mid, Nat.add_assoc]
            · have : (l + (cap - l)) * st = cap * st := by congr 1; omega
              rw [Nat.add_mul] at this
              omega
      have hst : 0 < st ∨ nn = 0 := by
        rcases q4 with ⟨h, _⟩ | ⟨_, _, _, _, _, _, _, _, _, h⟩
        · exact .inr h
        · exact .inl h
      have hex : ∀ (h0 : Value), (∀ A' n1 c, h0 = .slice A' n1 c → oo + nn * st ≤ n1 * st) → Ex h0 oo nn (.slice A nn cap) → Ex h0 (oo + l * st) (hgh - l) (.slice (if cap = l then A else A.map (·.add (l * st))) (hgh - l) (cap - l)) := by
        intro h0 hlen hE h00 A' c' e
        have hl0 : l = 0 := by
          rcases hst with hst | hst
          · have : l * st = 0 := by omega
            rcases Nat.mul_eq_zero.1 this with h | h <;> omega
          · omega
        subst hl0
        have hoo : oo = 0 := by omega
        subst hoo
        simp only [Nat.sub_zero] at e ⊢
        have hnn : hgh = nn := by
          have := hlen A' hgh c' e
          rcases hst with hst | hst
          · have := Nat.le_of_mul_le_mul_right (by simpa using this) hst; omega
          · omega
        subst hnn
        have := hE rfl A' c' e
        rw [← this]
        simp only [Nat.zero_mul]
        cases A <;> simp [Addr.add]
      have hhd : ∀ A' n1 c, hd = .slice A' n1 c → oo + nn * st ≤ n1 * st := by
        intro A' n1 c e
        obtain ⟨v', pre, F', post, e1, e2, _, _⟩ := Rep.sub pp t' _ (hv rr) (F rr) (h.rep rr t' ht') q1
        rw [q2] at e1; obtain rfl := Option.some.inj e1
        simp only [Rep] at e2
        rcases e2 with ⟨rfl, rfl, _, A2, e4⟩ | ⟨b', o', cap', F'', k1, k2, k3, _⟩
        · rw [e4] at e; simp only [Value.slice.injEq] at e; obtain ⟨_, rfl, _⟩ := e
          simpa using q3.1
        · rw [k1] at e; simp only [Value.slice.injEq] at e; obtain ⟨_, rfl, _⟩ := e
          omega
      simp only [VRep, WRep, HRep]
      rw [hA] at r1 q4 q3
      refine ⟨fun hp => ?_, fun t2 ht2 => ?_⟩
      · obtain ⟨u1, u2, u3⟩ := r1.1 hp
        exact ⟨hcut _ u1, fun A' n1 c e => by have := u2 A' n1 c e; omega, hex _ u2 u3⟩
      rw [ht'] at ht2; obtain rfl := Option.some.inj ht2
      exact ⟨own, n0, cs, hd, q1, q2, ⟨by omega, hex _ hhd q3.2⟩, hcut _ q4⟩
  | slice0 e1 e2 e3 e4 e5 =>
    subst e3
    have r1 := ev_rep h hx e1
    simp only [VRep, WRep] at r1
    obtain ⟨A, cp, hA⟩ := hs_slice h e2 r1
    have hlo : lo = none := by cases lo with
      | none => rfl
      | some y => simp only [toXo] at hl; obtain ⟨_, _, hl⟩ := Option.map_eq_some_iff.1 hl; simp at hl
    subst hlo
    obtain ⟨y, rfl, hy⟩ : ∃ y, hi = some y ∧ toX y = some _ := by cases hi with
      | none => simp [toXo] at hh
      | some y => simp only [toXo] at hh; obtain ⟨y', k1, hh⟩ := Option.map_eq_some_iff.1 hh; simp only [Option.some.injEq] at hh; subst hh; exact ⟨y, rfl, k1⟩
    obtain ⟨z, rfl, hz'⟩ : ∃ z, mx = some z ∧ toX z = some _ := by cases mx with
      | none => simp [toXo] at hm
      | some y => simp only [toXo] at hm; obtain ⟨y', k1, hm⟩ := Option.map_eq_some_iff.1 hm; simp only [Option.some.injEq] at hm; subst hm; exact ⟨y, rfl, k1⟩
    have r4 := ev_rep h hy e4
    have r5 := ev_rep h hz' e5
    simp only [VRep, WRep, HRep] at r4 r5
    refine ⟨.slice A 0 0, ?_, A, rfl⟩
    simp [execOp, ho, hA, r4, r5, Instr.sliceAt, Instr.slice, run_underlying ht, Instr.sliceBounds, Instr.sliceBound, asIntOf, sizeOf, typeInfo, hinf]
end
end Go.Proofs.YtplhecjngmkngaaT
