/- CutsOf of the program and of the reference return the same, for every string, in new memory. -/
import Derived.Test.YtlmnlmcahhegkaaPFnExactCutsOfx2
set_option maxRecDepth 100000
set_option linter.unusedVariables false
set_option linter.unusedSimpArgs false
namespace Go.Proofs.Ytlmnlmcahhegkaa.Pure
open Go.RowKit Go.Proofs.Ytlmnlmcahhegkaa.PFnExactCutsOf Go.Proofs.YtlmnlmcahhegkaaW.PrintWords Go.Proofs.YtlmnlmcahhegkaaW.PrintLast

theorem wrap_id {x : Int} (h0 : -9223372036854775808 ≤ x) (h1 : x < 9223372036854775808) : wrap64 x = x := by
  unfold wrap64; omega
theorem Ev.pos {α : Type} {c : Prop} [Decidable c] {g f : Nat → Option α} {r : α} (h : c) (k : Ev g r) : Ev (fun n => if c then g n else f n) r := by
  simpa only [if_pos h] using k
theorem Ev.neg {α : Type} {c : Prop} [Decidable c] {g f : Nat → Option α} {r : α} (h : ¬ c) (k : Ev f r) : Ev (fun n => if c then g n else f n) r := by
  simpa only [if_neg h] using k
theorem Ev.val {α : Type} {x : Option α} {r : α} (h : x = some r) : Ev (fun _ => x) r := by
  rw [h]; exact Ev.now r
theorem Ev.end {α : Type} {g : Nat → Option α} {r : α} (h : ∀ k, g (k + 1) = some r) : Ev g r := Ev.step (f := fun _ => some r) h (Ev.now r)
theorem Ev.cbind {α β : Type} {x : Option α} {f : Nat → α → Option β} {a : α} {r : β} (h : x = some a) (k : Ev (fun n => f n a) r) : Ev (fun n => x.bind (f n)) r := by
  subst h; exact k
theorem Ev.uniq {α : Type} {g : Nat → Option α} {r q : α} (h : Ev g r) (k : Ev g q) : r = q := by
  obtain ⟨K, h⟩ := h
  obtain ⟨L, k⟩ := k
  have h1 := h (max K L) (by omega)
  have h2 := k (max K L) (by omega)
  rw [h1] at h2
  exact Option.some.inj h2
theorem Ev.succ {α : Type} {g : Nat → Option α} {r : α} (h : Ev (fun k => g (k + 1)) r) : Ev g r := Ev.step (fun _ => rfl) h

theorem finger_both (s : ByteArray) (hs : s.size ≤ 140737488351232) (d : Nat) : ∀ (x i : Int), 0 ≤ i → i ≤ s.size → (s.size : Int) - i = d →
    ∃ r, Ev (fun k => spec_l9Finger.l0 k s x i) r ∧ Ev (fun k => impl_finger.l0 k s x s.size i) r := by
  induction d with
  | zero =>
    intro x i h0 h1 hd
    refine ⟨x, Ev.end (fun k => ?_), Ev.end (fun k => ?_)⟩
    · simp only [spec_l9Finger.l0]; rw [if_neg (by omega)]
    · simp only [impl_finger.l0]; rw [if_neg (by omega)]
  | succ d ih =>
    intro x i h0 h1 hd
    obtain ⟨r, hr1, hr2⟩ := ih (Int.tmod (wrap64 ((wrap64 (x * 257)) + (wrap64 (bt s i)))) 8191) (i + 1) (by omega) (by omega) (by omega)
    have hw : wrap64 (i + 1) = i + 1 := wrap_id (by omega) (by omega)
    refine ⟨r, Ev.step (fun k => ?_) hr1, Ev.step (fun k => ?_) hr2⟩
    · simp only [spec_l9Finger.l0]; rw [if_pos (by omega), if_pos h0, hw]
    · simp only [impl_finger.l0]; rw [if_pos (by omega), if_pos h0, if_pos (by omega), hw]
theorem finger_eq (s : ByteArray) (hs : s.size ≤ 140737488351232) : ∃ r, Ev (fun k => spec_l9Finger.f k s) r ∧ Ev (fun k => impl_finger.f k s) r := by
  obtain ⟨r, h1, h2⟩ := finger_both s hs s.size 0 0 (by omega) (by omega) (by omega)
  exact ⟨r, h1, h2⟩

/-- numbers that rise from b, none past n -/
def rising (n : Int) : Int → List Int → Prop
  | _, [] => True
  | b, x :: t => b ≤ x ∧ x ≤ n ∧ rising n x t
theorem extract_le (s : ByteArray) (a b : Nat) : (s.extract a b).size ≤ s.size := by
  rw [ByteArray.size_extract]; omega
theorem cuts_both (s : ByteArray) (hs : s.size ≤ 300) (d : Nat) : ∀ (x : List Int) (b i : Int), 0 ≤ b → b < i → i ≤ s.size + 1 → x.length ≤ i → (s.size : Int) + 1 - i = d →
    ∃ t : List Int, Ev (fun k => spec_l9Cuts.l0 k s x b i) (x ++ t) ∧ Ev (fun k => impl_cutsOf.l0 k s x b i) (x ++ t) ∧ rising s.size b t ∧ t.length ≤ d := by
  induction d with
  | zero =>
    intro x b i hb h0 h1 hx hd
    refine ⟨[], Ev.end (fun k => ?_), Ev.end (fun k => ?_), trivial, by simp⟩
    · simp only [spec_l9Cuts.l0]; rw [if_neg (by omega)]; simp
    · simp only [impl_cutsOf.l0]; rw [if_neg (by omega)]; simp
  | succ d ih =>
    intro x b i hb h0 h1 hx hd
    have w1 : wrap64 (i + 1) = i + 1 := wrap_id (by omega) (by omega)
    have w2 : wrap64 (i - b) = i - b := wrap_id (by omega) (by omega)
    have w3 : wrap64 (i - 4) = i - 4 := wrap_id (by omega) (by omega)
    obtain ⟨t, c1, c2, c3, c4⟩ := ih (x ++ [i]) i (i + 1) (by omega) (by omega) (by omega) (by simp; omega) (by omega)
    obtain ⟨t', n1, n2, n3, n4⟩ := ih x b (i + 1) (by omega) (by omega) (by omega) (by omega) (by omega)
    simp only [List.append_assoc, List.singleton_append] at c1 c2
    have hr : rising s.size b (i :: t) := ⟨by omega, by omega, c3⟩
    have hlt : (i :: t).length ≤ d + 1 := by simp; omega
    by_cases g1 : i = s.size
    · refine ⟨i :: t, Ev.step (fun k => ?_) c1, Ev.step (fun k => ?_) c2, hr, hlt⟩
      · simp only [spec_l9Cuts.l0]; rw [if_pos (by omega), if_pos g1, if_pos (by omega), w1]
      · simp only [impl_cutsOf.l0]; rw [if_pos (by omega), if_pos g1, if_pos (by omega), w1]
    by_cases g2 : i - b = 20
    · refine ⟨i :: t, Ev.step (fun k => ?_) c1, Ev.step (fun k => ?_) c2, hr, hlt⟩
      · simp only [spec_l9Cuts.l0]; rw [if_pos (by omega), if_neg g1, w2, if_pos g2, if_pos (by omega), w1]
      · simp only [impl_cutsOf.l0]; rw [if_pos (by omega), if_neg g1, w2, if_pos g2, if_pos (by omega), w1]
    by_cases g3 : i - b ≥ 4
    · obtain ⟨v, f1, f2⟩ := finger_eq (s.extract (i - 4).toNat i.toNat) (by have := extract_le s (i - 4).toNat i.toNat; omega)
      by_cases g4 : Int.tmod v 8 = 7
      · refine ⟨i :: t, ?_, ?_, hr, hlt⟩
        · refine Ev.step (f := fun k => (spec_l9Finger.f k (s.extract (i - 4).toNat i.toNat)).bind fun y => if Int.tmod y 8 = 7 then spec_l9Cuts.l0 k s (x ++ [i]) i (i + 1) else spec_l9Cuts.l0 k s x b (i + 1)) (fun k => ?_) (Ev.bind f1 (Ev.pos g4 c1))
          simp only [spec_l9Cuts.l0]; rw [if_pos (by omega), if_neg g1, w2, if_neg g2, if_pos g3, w3, if_pos (by omega), if_pos (by omega), w1, if_pos (by omega)]
        · refine Ev.step (f := fun k => (impl_finger.f k (s.extract (i - 4).toNat i.toNat)).bind fun y => if Int.tmod y 8 = 7 then impl_cutsOf.l0 k s (x ++ [i]) i (i + 1) else impl_cutsOf.l0 k s x b (i + 1)) (fun k => ?_) (Ev.bind f2 (Ev.pos g4 c2))
          simp only [impl_cutsOf.l0]; rw [if_pos (by omega), if_neg g1, w2, if_neg g2, if_pos g3, w3, if_pos (by omega), if_pos (by omega), w1, if_pos (by omega)]
      · refine ⟨t', ?_, ?_, n3, by omega⟩
        · refine Ev.step (f := fun k => (spec_l9Finger.f k (s.extract (i - 4).toNat i.toNat)).bind fun y => if Int.tmod y 8 = 7 then spec_l9Cuts.l0 k s (x ++ [i]) i (i + 1) else spec_l9Cuts.l0 k s x b (i + 1)) (fun k => ?_) (Ev.bind f1 (Ev.neg g4 n1))
          simp only [spec_l9Cuts.l0]; rw [if_pos (by omega), if_neg g1, w2, if_neg g2, if_pos g3, w3, if_pos (by omega), if_pos (by omega), w1, if_pos (by omega)]
        · refine Ev.step (f := fun k => (impl_finger.f k (s.extract (i - 4).toNat i.toNat)).bind fun y => if Int.tmod y 8 = 7 then impl_cutsOf.l0 k s (x ++ [i]) i (i + 1) else impl_cutsOf.l0 k s x b (i + 1)) (fun k => ?_) (Ev.bind f2 (Ev.neg g4 n2))
          simp only [impl_cutsOf.l0]; rw [if_pos (by omega), if_neg g1, w2, if_neg g2, if_pos g3, w3, if_pos (by omega), if_pos (by omega), w1, if_pos (by omega)]
    · refine ⟨t', Ev.step (fun k => ?_) n1, Ev.step (fun k => ?_) n2, n3, by omega⟩
      · simp only [spec_l9Cuts.l0]; rw [if_pos (by omega), if_neg g1, w2, if_neg g2, if_neg g3, w1]
      · simp only [impl_cutsOf.l0]; rw [if_pos (by omega), if_neg g1, w2, if_neg g2, if_neg g3, w1]
theorem cuts_eq (s : ByteArray) (hs : s.size ≤ 300) : ∃ t : List Int, Ev (fun k => spec_l9Cuts.f k s) t ∧ Ev (fun k => impl_cutsOf.f k s) t ∧ rising s.size 0 t ∧ t.length ≤ 300 := by
  obtain ⟨t, h1, h2, h3, h4⟩ := cuts_both s hs s.size [] 0 1 (by omega) (by omega) (by omega) (by simp) (by omega)
  exact ⟨t, h1, h2, h3, by omega⟩

theorem eqIntS_loop (l : List Int) (hl : l.length ≤ 4611686018427387904) (d : Nat) : ∀ i : Int, 0 ≤ i → i ≤ l.length → (l.length : Int) - i = d → Ev (fun k => laws_eqIntS.l0 k l l i) true := by
  induction d with
  | zero => intro i h0 h1 hd; exact Ev.end (fun k => by simp only [laws_eqIntS.l0]; rw [if_neg (by omega)])
  | succ d ih =>
    intro i h0 h1 hd
    refine Ev.step (fun k => ?_) (ih (i + 1) (by omega) (by omega) (by omega))
    have hw := wrap_id (x := i + 1) (by omega) (by omega)
    rw [laws_eqIntS.l0, if_pos (by omega), if_pos h0, if_pos (by omega), if_pos rfl, hw]
theorem eqIntS_same (l : List Int) (hl : l.length ≤ 4611686018427387904) : Ev (fun k => laws_eqIntS.f k l l) true := by
  unfold laws_eqIntS.f; exact Ev.pos rfl (eqIntS_loop l hl l.length 0 (by omega) (by omega) (by omega))


/-- what marking makes of numbers -/
def ints (v : Int) : Nat → List Int
  | 0 => []
  | n + 1 => v :: ints (v + 1) n
theorem ints_length (v : Int) (n : Nat) : (ints v n).length = n := by
  induction n generalizing v with
  | zero => rfl
  | succ n ih => simp [ints, ih]
theorem markIntS_loop (rest : List Int) : ∀ (pre : List Int) (v : Int), 0 ≤ v → v + rest.length ≤ 4611686018427387904 → pre.length + rest.length ≤ 4611686018427387904 →
    Ev (fun k => laws_markIntS.l0 k (pre ++ rest) v pre.length) (v + rest.length, pre ++ ints v rest.length) := by
  induction rest with
  | nil => intro pre v h0 h1 h2; exact Ev.end (fun k => by simp only [laws_markIntS.l0]; rw [if_neg (by simp)]; simp [ints])
  | cons a rest ih =>
    intro pre v h0 h1 h2
    simp only [List.length_cons] at h1 h2
    have := ih (pre ++ [v]) (v + 1) (by omega) (by push_cast at h1 ⊢; omega) (by simp; omega)
    simp only [List.append_assoc, List.singleton_append, List.length_append, List.length_singleton] at this
    rw [show (v + 1 + (rest.length : Int)) = v + ((a :: rest).length : Int) by simp; omega] at this
    refine Ev.step (fun k => ?_) this
    rw [laws_markIntS.l0]
    rw [if_pos (by simp; omega), if_pos (by omega), wrap_id (x := v + 1) (by omega) (by push_cast at h1; omega), wrap_id (x := (pre.length : Int) + 1) (by omega) (by omega)]
    simp
theorem heldIntS_loop (n : Nat) : ∀ (pre : List Int) (v : Int), 0 ≤ v → v + n ≤ 4611686018427387904 → pre.length + n ≤ 4611686018427387904 →
    Ev (fun k => laws_heldIntS.l0 k (pre ++ ints v n) v pre.length) (v + n) := by
  induction n with
  | zero => intro pre v h0 h1 h2; exact Ev.end (fun k => by simp only [laws_heldIntS.l0]; rw [if_neg (by simp [ints])]; simp)
  | succ n ih =>
    intro pre v h0 h1 h2
    have := ih (pre ++ [v]) (v + 1) (by omega) (by push_cast at h1 ⊢; omega) (by simp; omega)
    simp only [List.append_assoc, List.singleton_append, List.length_append, List.length_singleton] at this
    rw [show (v + 1 + (n : Int)) = v + ((n + 1 : Nat) : Int) by push_cast; omega] at this
    show Ev (fun k => laws_heldIntS.l0 k (pre ++ (v :: ints (v + 1) n)) v pre.length) _
    refine Ev.step (fun k => ?_) this
    rw [laws_heldIntS.l0]
    rw [if_pos (by simp; omega), if_pos (by omega), if_pos (by simp [rd, List.getD_eq_getElem?_getD]), wrap_id (x := v + 1) (by omega) (by push_cast at h1; omega), wrap_id (x := (pre.length : Int) + 1) (by omega) (by omega)]
    simp
theorem markIntS_ev (l : List Int) (v : Int) (h0 : 0 ≤ v) (h : v + l.length ≤ 4611686018427387904) : Ev (fun k => laws_markIntS.f k l v) (v + l.length, ints v l.length) :=
  markIntS_loop l [] v h0 h (by simp; omega)
theorem heldIntS_ev (n : Nat) (v : Int) (h0 : 0 ≤ v) (h : v + n ≤ 4611686018427387904) : Ev (fun k => laws_heldIntS.f k (ints v n) v) (v + n) :=
  heldIntS_loop n [] v h0 h (by simp; omega)

theorem CutsOf_eq (s : ByteArray) : ∃ r : List Int × Bool, Ev (fun k => spec_CutsOf.f k s) r ∧ Ev (fun k => impl_CutsOf.f k s) r ∧ r.1.length ≤ 300 := by
  by_cases h : (s.size : Int) ≤ 300
  · obtain ⟨t, h1, h2, h3, h4⟩ := cuts_eq s (by omega)
    refine ⟨(t, true), ?_, ?_, h4⟩
    · simp only [spec_CutsOf.f]; exact Ev.neg (by omega) (Ev.bind h1 (Ev.now _))
    · simp only [impl_CutsOf.f, impl_isText.f, Option.bind_some]; exact Ev.pos (by simpa using h) (Ev.bind h2 (Ev.now _))
  · refine ⟨([], false), ?_, ?_, by simp⟩
    · simp only [spec_CutsOf.f]; exact Ev.pos (by omega) (Ev.now _)
    · simp only [impl_CutsOf.f, impl_isText.f, Option.bind_some]; exact Ev.neg (by simpa using h) (Ev.now _)
theorem FnExactCutsOf : laws_FnExactCutsOf.Pure := by
  intro s hs
  refine Ev.rounds (g := fun k => laws_FnExactCutsOf.f k s) (r := true) ?_
  simp only [laws_FnExactCutsOf.f]
  by_cases hb : (s.size : Int) > 1048576
  · exact Ev.pos hb (Ev.now _)
  refine Ev.neg hb ?_
  obtain ⟨⟨l, b⟩, h1, h2, hl⟩ := CutsOf_eq s
  simp only at hl
  have he := eqIntS_same l (by omega)
  have hm := markIntS_ev l 1 (by omega) (by omega)
  have hh := heldIntS_ev l.length 1 (by omega) (by omega)
  refine Ev.bind h1 (Ev.bind h2 (Ev.bind he (Ev.pos rfl ?_)))
  refine Ev.succ ?_
  simp only [laws_FnExactCutsOf.j0]
  refine Ev.neg (by simp) (Ev.bind hm (Ev.bind hh (Ev.neg (by omega) (Ev.pos rfl (Ev.bind h2 (Ev.bind he (Ev.pos rfl ?_)))))))
  refine Ev.succ ?_
  simp only [laws_FnExactCutsOf.j1]
  exact Ev.neg (by simp) (Ev.bind hh (Ev.neg (by omega) (Ev.pos rfl (Ev.now _))))

end Go.Proofs.Ytlmnlmcahhegkaa.Pure
