/- ChunksOf of the program and of the reference return the same, for every string, in new memory. -/
import Derived.Test.YtlmnlmcahhegkaaPFnExactChunksOfx3
set_option maxRecDepth 100000
set_option linter.unusedVariables false
set_option linter.unusedSimpArgs false
namespace Go.Proofs.Ytlmnlmcahhegkaa.Pure
open Go.RowKit Go.Proofs.Ytlmnlmcahhegkaa.PFnExactChunksOf Go.Proofs.YtlmnlmcahhegkaaW.PrintWords Go.Proofs.YtlmnlmcahhegkaaW.PrintLast

theorem wrap_id {x : Int} (h0 : -9223372036854775808 ≤ x) (h1 : x < 9223372036854775808) : wrap64 x = x := by
  unfold wrap64; omega
theorem Ev.pos {α : Type} {c : Prop} [Decidable c] {g f : Nat → Option α} {r : α} (h : c) (k : Ev g r) : Ev (fun n => if c then g n else f n) r := by
  simpa only [if_pos h] using k
theorem Ev.neg {α : Type} {c : Prop} [Decidable c] {g f : Nat → Option α} {r : α} (h : ¬ c) (k : Ev f r) : Ev (fun n => if c then g n else f n) r := by
  simpa only [if_neg h] using k
theorem Ev.val {α : Type} {x : Option α} {r : α} (h : x = some r) : Ev (fun _ => x) r := by
  rw [h]; exact Ev.now r
theorem Ev.end {α : Type} {g : Nat → Option α} {r : α} (h : ∀ k, g (k + 1) = some r) : Ev g r := Ev.step (f := fun _ => some r) h (Ev.now r)
theorem Ev.cbind {α β : Type} {x : Option α} {f : Nat → α → Option β} {a : α} {r : β} (h : x = some a) (k : Ev (fun n => f n a) r) : Ev (fun n => x.bind (f n)) r := by
  subst h; exact k
theorem Ev.uniq {α : Type} {g : Nat → Option α} {r q : α} (h : Ev g r) (k : Ev g q) : r = q := by
  obtain ⟨K, h⟩ := h
  obtain ⟨L, k⟩ := k
  have h1 := h (max K L) (by omega)
  have h2 := k (max K L) (by omega)
  rw [h1] at h2
  exact Option.some.inj h2
theorem Ev.succ {α : Type} {g : Nat → Option α} {r : α} (h : Ev (fun k => g (k + 1)) r) : Ev g r := Ev.step (fun _ => rfl) h

theorem finger_both (s : ByteArray) (hs : s.size ≤ 140737488351232) (d : Nat) : ∀ (x i : Int), 0 ≤ i → i ≤ s.size → (s.size : Int) - i = d →
    ∃ r, Ev (fun k => spec_l9Finger.l0 k s x i) r ∧ Ev (fun k => impl_finger.l0 k s x s.size i) r := by
  induction d with
  | zero =>
    intro x i h0 h1 hd
    refine ⟨x, Ev.end (fun k => ?_), Ev.end (fun k => ?_)⟩
    · simp only [spec_l9Finger.l0]; rw [if_neg (by omega)]
    · simp only [impl_finger.l0]; rw [if_neg (by omega)]
  | succ d ih =>
    intro x i h0 h1 hd
    obtain ⟨r, hr1, hr2⟩ := ih (Int.tmod (wrap64 ((wrap64 (x * 257)) + (wrap64 (bt s i)))) 8191) (i + 1) (by omega) (by omega) (by omega)
    have hw : wrap64 (i + 1) = i + 1 := wrap_id (by omega) (by omega)
    refine ⟨r, Ev.step (fun k => ?_) hr1, Ev.step (fun k => ?_) hr2⟩
    · simp only [spec_l9Finger.l0]; rw [if_pos (by omega), if_pos h0, hw]
    · simp only [impl_finger.l0]; rw [if_pos (by omega), if_pos h0, if_pos (by omega), hw]
theorem finger_eq (s : ByteArray) (hs : s.size ≤ 140737488351232) : ∃ r, Ev (fun k => spec_l9Finger.f k s) r ∧ Ev (fun k => impl_finger.f k s) r := by
  obtain ⟨r, h1, h2⟩ := finger_both s hs s.size 0 0 (by omega) (by omega) (by omega)
  exact ⟨r, h1, h2⟩

/-- numbers that rise from b, none past n -/
def rising (n : Int) : Int → List Int → Prop
  | _, [] => True
  | b, x :: t => b ≤ x ∧ x ≤ n ∧ rising n x t
theorem extract_le (s : ByteArray) (a b : Nat) : (s.extract a b).size ≤ s.size := by
  rw [ByteArray.size_extract]; omega
theorem cuts_both (s : ByteArray) (hs : s.size ≤ 300) (d : Nat) : ∀ (x : List Int) (b i : Int), 0 ≤ b → b < i → i ≤ s.size + 1 → x.length ≤ i → (s.size : Int) + 1 - i = d →
    ∃ t : List Int, Ev (fun k => spec_l9Cuts.l0 k s x b i) (x ++ t) ∧ Ev (fun k => impl_cutsOf.l0 k s x b i) (x ++ t) ∧ rising s.size b t ∧ t.length ≤ d := by
  induction d with
  | zero =>
    intro x b i hb h0 h1 hx hd
    refine ⟨[], Ev.end (fun k => ?_), Ev.end (fun k => ?_), trivial, by simp⟩
    · simp only [spec_l9Cuts.l0]; rw [if_neg (by omega)]; simp
    · simp only [impl_cutsOf.l0]; rw [if_neg (by omega)]; simp
  | succ d ih =>
    intro x b i hb h0 h1 hx hd
    have w1 : wrap64 (i + 1) = i + 1 := wrap_id (by omega) (by omega)
    have w2 : wrap64 (i - b) = i - b := wrap_id (by omega) (by omega)
    have w3 : wrap64 (i - 4) = i - 4 := wrap_id (by omega) (by omega)
    obtain ⟨t, c1, c2, c3, c4⟩ := ih (x ++ [i]) i (i + 1) (by omega) (by omega) (by omega) (by simp; omega) (by omega)
    obtain ⟨t', n1, n2, n3, n4⟩ := ih x b (i + 1) (by omega) (by omega) (by omega) (by omega) (by omega)
    simp only [List.append_assoc, List.singleton_append] at c1 c2
    have hr : rising s.size b (i :: t) := ⟨by omega, by omega, c3⟩
    have hlt : (i :: t).length ≤ d + 1 := by simp; omega
    by_cases g1 : i = s.size
    · refine ⟨i :: t, Ev.step (fun k => ?_) c1, Ev.step (fun k => ?_) c2, hr, hlt⟩
      · simp only [spec_l9Cuts.l0]; rw [if_pos (by omega), if_pos g1, if_pos (by omega), w1]
      · simp only [impl_cutsOf.l0]; rw [if_pos (by omega), if_pos g1, if_pos (by omega), w1]
    by_cases g2 : i - b = 20
    · refine ⟨i :: t, Ev.step (fun k => ?_) c1, Ev.step (fun k => ?_) c2, hr, hlt⟩
      · simp only [spec_l9Cuts.l0]; rw [if_pos (by omega), if_neg g1, w2, if_pos g2, if_pos (by omega), w1]
      · simp only [impl_cutsOf.l0]; rw [if_pos (by omega), if_neg g1, w2, if_pos g2, if_pos (by omega), w1]
    by_cases g3 : i - b ≥ 4
    · obtain ⟨v, f1, f2⟩ := finger_eq (s.extract (i - 4).toNat i.toNat) (by have := extract_le s (i - 4).toNat i.toNat; omega)
      by_cases g4 : Int.tmod v 8 = 7
      · refine ⟨i :: t, ?_, ?_, hr, hlt⟩
        · refine Ev.step (f := fun k => (spec_l9Finger.f k (s.extract (i - 4).toNat i.toNat)).bind fun y => if Int.tmod y 8 = 7 then spec_l9Cuts.l0 k s (x ++ [i]) i (i + 1) else spec_l9Cuts.l0 k s x b (i + 1)) (fun k => ?_) (Ev.bind f1 (Ev.pos g4 c1))
          simp only [spec_l9Cuts.l0]; rw [if_pos (by omega), if_neg g1, w2, if_neg g2, if_pos g3, w3, if_pos (by omega), if_pos (by omega), w1, if_pos (by omega)]
        · refine Ev.step (f := fun k => (impl_finger.f k (s.extract (i - 4).toNat i.toNat)).bind fun y => if Int.tmod y 8 = 7 then impl_cutsOf.l0 k s (x ++ [i]) i (i + 1) else impl_cutsOf.l0 k s x b (i + 1)) (fun k => ?_) (Ev.bind f2 (Ev.pos g4 c2))
          simp only [impl_cutsOf.l0]; rw [if_pos (by omega), if_neg g1, w2, if_neg g2, if_pos g3, w3, if_pos (by omega), if_pos (by omega), w1, if_pos (by omega)]
      · refine ⟨t', ?_, ?_, n3, by omega⟩
        · refine Ev.step (f := fun k => (spec_l9Finger.f k (s.extract (i - 4).toNat i.toNat)).bind fun y => if Int.tmod y 8 = 7 then spec_l9Cuts.l0 k s (x ++ [i]) i (i + 1) else spec_l9Cuts.l0 k s x b (i + 1)) (fun k => ?_) (Ev.bind f1 (Ev.neg g4 n1))
          simp only [spec_l9Cuts.l0]; rw [if_pos (by omega), if_neg g1, w2, if_neg g2, if_pos g3, w3, if_pos (by omega), if_pos (by omega), w1, if_pos (by omega)]
        · refine Ev.step (f := fun k => (impl_finger.f k (s.extract (i - 4).toNat i.toNat)).bind fun y => if Int.tmod y 8 = 7 then impl_cutsOf.l0 k s (x ++ [i]) i (i + 1) else impl_cutsOf.l0 k s x b (i + 1)) (fun k => ?_) (Ev.bind f2 (Ev.neg g4 n2))
          simp only [impl_cutsOf.l0]; rw [if_pos (by omega), if_neg g1, w2, if_neg g2, if_pos g3, w3, if_pos (by omega), if_pos (by omega), w1, if_pos (by omega)]
    · refine ⟨t', Ev.step (fun k => ?_) n1, Ev.step (fun k => ?_) n2, n3, by omega⟩
      · simp only [spec_l9Cuts.l0]; rw [if_pos (by omega), if_neg g1, w2, if_neg g2, if_neg g3, w1]
      · simp only [impl_cutsOf.l0]; rw [if_pos (by omega), if_neg g1, w2, if_neg g2, if_neg g3, w1]
theorem cuts_eq (s : ByteArray) (hs : s.size ≤ 300) : ∃ t : List Int, Ev (fun k => spec_l9Cuts.f k s) t ∧ Ev (fun k => impl_cutsOf.f k s) t ∧ rising s.size 0 t ∧ t.length ≤ 300 := by
  obtain ⟨t, h1, h2, h3, h4⟩ := cuts_both s hs s.size [] 0 1 (by omega) (by omega) (by omega) (by simp) (by omega)
  exact ⟨t, h1, h2, h3, by omega⟩

theorem chunks_both (s : ByteArray) (cuts : List Int) (hc : cuts.length ≤ 300) (rest : List Int) : ∀ (pre : List Int) (out : List ByteArray) (b : Int), cuts = pre ++ rest → 0 ≤ b → rising s.size b rest → out.length ≤ pre.length →
    ∃ r : List ByteArray, Ev (fun k => spec_l9Chunks.l0 k s out b cuts cuts.length pre.length) (out ++ r) ∧ Ev (fun k => impl_ChunksOf.l0 k s out b cuts cuts.length pre.length) (out ++ r, true) ∧ r.length = rest.length := by
  induction rest with
  | nil =>
    intro pre out b he hb hr ho
    subst he
    refine ⟨[], Ev.end (fun k => ?_), Ev.end (fun k => ?_), rfl⟩
    · simp only [spec_l9Chunks.l0]; rw [if_neg (by simp)]; simp
    · simp only [impl_ChunksOf.l0]; rw [if_neg (by simp)]; simp
  | cons x rest ih =>
    intro pre out b he hb hr ho
    obtain ⟨r1, r2, r3⟩ := hr
    have hl : cuts.length = pre.length + (rest.length + 1) := by rw [he]; simp
    obtain ⟨r, h1, h2, h3⟩ := ih (pre ++ [x]) (out ++ [s.extract b.toNat x.toNat]) x (by simp [he]) (by omega) r3 (by simp; omega)
    have hx : rd cuts (pre.length : Int) = x := by rw [he]; simp [rd, List.getD_eq_getElem?_getD]
    have hw : wrap64 ((pre.length : Int) + 1) = ((pre.length + 1 : Nat) : Int) := by rw [wrap_id (by omega) (by omega)]; simp
    simp only [List.append_assoc, List.singleton_append, List.length_append, List.length_singleton] at h1 h2
    refine ⟨s.extract b.toNat x.toNat :: r, Ev.step (fun k => ?_) h1, Ev.step (fun k => ?_) h2, by simp [h3]⟩
    · rw [spec_l9Chunks.l0, if_pos (by omega), if_pos (by omega), if_pos (by omega), if_pos hb, hx, if_pos r1, if_pos r2, if_pos (by omega), hw]
    · rw [impl_ChunksOf.l0, if_pos (by omega), if_pos (by omega), if_pos (by omega), if_pos hb, hx, if_pos r1, if_pos r2, if_pos (by omega), hw]
theorem ChunksOf_eq (s : ByteArray) : ∃ r : List ByteArray × Bool, Ev (fun k => spec_ChunksOf.f k s) r ∧ Ev (fun k => impl_ChunksOf.f k s) r ∧ r.1.length ≤ 300 := by
  by_cases h : (s.size : Int) ≤ 300
  · obtain ⟨t, h1, h2, h3, h4⟩ := cuts_eq s (by omega)
    obtain ⟨r, c1, c2, c3⟩ := chunks_both s t h4 t [] [] 0 rfl (by omega) h3 (by simp)
    refine ⟨(r, true), ?_, ?_, by simp only; omega⟩
    · simp only [spec_ChunksOf.f, spec_l9Chunks.f]; exact Ev.neg (by omega) (Ev.bind (Ev.bind h1 c1) (Ev.now _))
    · simp only [impl_ChunksOf.f, impl_isText.f, Option.bind_some]; exact Ev.pos (by simpa using h) (Ev.bind h2 c2)
  · refine ⟨([], false), ?_, ?_, by simp⟩
    · simp only [spec_ChunksOf.f]; exact Ev.pos (by omega) (Ev.now _)
    · simp only [impl_ChunksOf.f, impl_isText.f, Option.bind_some]; exact Ev.neg (by simpa using h) (Ev.now _)

theorem eqStringS_loop (l : List ByteArray) (hl : l.length ≤ 4611686018427387904) (d : Nat) : ∀ i : Int, 0 ≤ i → i ≤ l.length → (l.length : Int) - i = d → Ev (fun k => laws_eqStringS.l0 k l l i) true := by
  induction d with
  | zero => intro i h0 h1 hd; exact Ev.end (fun k => by simp only [laws_eqStringS.l0]; rw [if_neg (by omega)])
  | succ d ih =>
    intro i h0 h1 hd
    refine Ev.step (fun k => ?_) (ih (i + 1) (by omega) (by omega) (by omega))
    have hw := wrap_id (x := i + 1) (by omega) (by omega)
    rw [laws_eqStringS.l0, if_pos (by omega), if_pos h0, if_pos (by omega), if_pos rfl, hw]
theorem eqStringS_same (l : List ByteArray) (hl : l.length ≤ 4611686018427387904) : Ev (fun k => laws_eqStringS.f k l l) true := by
  unfold laws_eqStringS.f; exact Ev.pos rfl (eqStringS_loop l hl l.length 0 (by omega) (by omega) (by omega))


theorem markText_loop (d : Nat) : ∀ (v : Int) (s : ByteArray), 0 ≤ v → v < 10 ^ d → d ≤ 18 → s.size + d ≤ 1000 → ∃ t, Ev (fun k => laws_markText.l0 k v s) t := by
  induction d with
  | zero =>
    intro v s h0 h1 h2 h3
    have hv : v = 0 := by simp at h1; omega
    exact ⟨_, Ev.end (fun k => by simp only [laws_markText.l0]; rw [if_neg (by omega), if_pos (by omega)])⟩
  | succ d ih =>
    intro v s h0 h1 h2 h3
    by_cases hz : v = 0
    · exact ⟨_, Ev.end (fun k => by simp only [laws_markText.l0]; rw [if_neg (by omega), if_pos (by omega)])⟩
    have hb : (10 : Int) ^ (d + 1) ≤ 10 ^ 18 := by
      have : (10 : Nat) ^ (d + 1) ≤ 10 ^ 18 := Nat.pow_le_pow_right (by omega) (by omega)
      exact_mod_cast this
    have hc : (10 : Int) ^ 18 = 1000000000000000000 := by decide +kernel
    have hdiv : Int.tdiv v 10 = v / 10 := Int.tdiv_eq_ediv_of_nonneg h0
    have hlt : v / 10 < 10 ^ d := by
      have : v < 10 ^ d * 10 := by rw [Int.pow_succ] at h1; exact h1
      omega
    have h48 : (strOfNums [(wrap64 (48 + Int.tmod v 10)) % 256]).size = 1 := by simp [strOfNums]; rfl
    obtain ⟨t, ht⟩ := ih (v / 10) (strOfNums [(wrap64 (48 + Int.tmod v 10)) % 256] ++ s) (by omega) hlt (by omega) (by rw [ByteArray.size_append, h48]; omega)
    refine ⟨t, Ev.step (fun k => ?_) ht⟩
    simp only [laws_markText.l0]
    rw [if_pos (by omega)]
    simp only [Option.bind_some]
    rw [if_pos (by rw [h48]; omega), hdiv, wrap_id (x := v / 10) (by omega) (by omega)]
theorem markText_ex (v : Int) (h0 : 0 ≤ v) (h1 : v < 1000000000000000000) : ∃ t, Ev (fun k => laws_markText.f k v) t := by
  simp only [laws_markText.f]
  by_cases hz : v ≤ 0
  · exact ⟨_, Ev.pos hz (Ev.now _)⟩
  · obtain ⟨t, ht⟩ := markText_loop 18 v ⟨#[]⟩ h0 (by rw [show (10 : Int) ^ 18 = 1000000000000000000 from by decide +kernel]; exact h1) (by omega) (by decide)
    exact ⟨t, Ev.neg hz ht⟩
/-- the text that marks -/
noncomputable def mt (v : Int) : ByteArray := Classical.epsilon (fun t => Ev (fun k => laws_markText.f k v) t)
theorem mt_ev (v : Int) (h0 : 0 ≤ v) (h1 : v < 1000000000000000000) : Ev (fun k => laws_markText.f k v) (mt v) := Classical.epsilon_spec (markText_ex v h0 h1)
noncomputable def strs_ (v : Int) : Nat → List ByteArray
  | 0 => []
  | n + 1 => mt v :: strs_ (v + 1) n
theorem strs__length (v : Int) (n : Nat) : (strs_ v n).length = n := by
  induction n generalizing v with
  | zero => rfl
  | succ n ih => simp [strs_, ih]
theorem markStringS_loop (rest : List ByteArray) : ∀ (pre : List ByteArray) (v : Int), 0 ≤ v → v + rest.length ≤ 500000000000000000 → pre.length + rest.length ≤ 4611686018427387904 →
    Ev (fun k => laws_markStringS.l0 k (pre ++ rest) v pre.length) (v + rest.length, pre ++ strs_ v rest.length) := by
  induction rest with
  | nil => intro pre v h0 h1 h2; exact Ev.end (fun k => by simp only [laws_markStringS.l0]; rw [if_neg (by simp)]; simp [strs_])
  | cons a rest ih =>
    intro pre v h0 h1 h2
    simp only [List.length_cons] at h1 h2
    have := ih (pre ++ [mt v]) (v + 1) (by omega) (by push_cast at h1 ⊢; omega) (by simp; omega)
    simp only [List.append_assoc, List.singleton_append, List.length_append, List.length_singleton] at this
    rw [show (v + 1 + (rest.length : Int)) = v + ((a :: rest).length : Int) by simp; omega] at this
    refine Ev.step (f := fun k => (laws_markText.f k v).bind fun t => laws_markStringS.l0 k ((pre ++ a :: rest).set pre.length t) (v + 1) ((pre.length + 1 : Nat) : Int)) (fun k => ?_) (Ev.bind (mt_ev v h0 (by push_cast at h1; omega)) ?_)
    · rw [laws_markStringS.l0]
      rw [if_pos (by simp; omega), wrap_id (x := v + 1) (by omega) (by push_cast at h1; omega), wrap_id (x := (pre.length : Int) + 1) (by omega) (by omega)]
      simp
    · simpa [strs_] using this
theorem heldStringS_loop (n : Nat) : ∀ (pre : List ByteArray) (v : Int), 0 ≤ v → v + n ≤ 500000000000000000 → pre.length + n ≤ 4611686018427387904 →
    Ev (fun k => laws_heldStringS.l0 k (pre ++ strs_ v n) v pre.length) (v + n) := by
  induction n with
  | zero => intro pre v h0 h1 h2; exact Ev.end (fun k => by simp only [laws_heldStringS.l0]; rw [if_neg (by simp [strs_])]; simp)
  | succ n ih =>
    intro pre v h0 h1 h2
    have := ih (pre ++ [mt v]) (v + 1) (by omega) (by push_cast at h1 ⊢; omega) (by simp; omega)
    simp only [List.append_assoc, List.singleton_append, List.length_append, List.length_singleton] at this
    rw [show (v + 1 + (n : Int)) = v + ((n + 1 : Nat) : Int) by push_cast; omega] at this
    show Ev (fun k => laws_heldStringS.l0 k (pre ++ (mt v :: strs_ (v + 1) n)) v pre.length) _
    refine Ev.step (f := fun k => (laws_markText.f k v).bind fun t => if (mt v).toList = t.toList then laws_heldStringS.l0 k (pre ++ (mt v :: strs_ (v + 1) n)) (v + 1) ((pre.length + 1 : Nat) : Int) else some (-1)) (fun k => ?_) (Ev.bind (mt_ev v h0 (by push_cast at h1; omega)) (Ev.pos rfl this))
    rw [laws_heldStringS.l0]
    have hr : rdOf ByteArray.empty (pre ++ (mt v :: strs_ (v + 1) n)) (pre.length : Int) = mt v := by simp [rdOf, List.getD_eq_getElem?_getD]
    rw [if_pos (by simp; omega), if_pos (by omega), hr, wrap_id (x := v + 1) (by omega) (by push_cast at h1; omega), wrap_id (x := (pre.length : Int) + 1) (by omega) (by omega)]
    simp
theorem markStringS_ev (l : List ByteArray) (v : Int) (h0 : 0 ≤ v) (h : v + l.length ≤ 500000000000000000) : Ev (fun k => laws_markStringS.f k l v) (v + l.length, strs_ v l.length) :=
  markStringS_loop l [] v h0 h (by simp; omega)
theorem heldStringS_ev (n : Nat) (v : Int) (h0 : 0 ≤ v) (h : v + n ≤ 500000000000000000) : Ev (fun k => laws_heldStringS.f k (strs_ v n) v) (v + n) :=
  heldStringS_loop n [] v h0 h (by simp; omega)

theorem FnExactChunksOf : laws_FnExactChunksOf.Pure := by
  intro s hs
  refine Ev.rounds (g := fun k => laws_FnExactChunksOf.f k s) (r := true) ?_
  simp only [laws_FnExactChunksOf.f]
  by_cases hb : (s.size : Int) > 1048576
  · exact Ev.pos hb (Ev.now _)
  refine Ev.neg hb ?_
  obtain ⟨⟨l, b⟩, h1, h2, hl⟩ := ChunksOf_eq s
  simp only at hl
  have he := eqStringS_same l (by omega)
  have hm := markStringS_ev l 1 (by omega) (by omega)
  have hh := heldStringS_ev l.length 1 (by omega) (by omega)
  refine Ev.bind h1 (Ev.bind h2 (Ev.bind he (Ev.pos rfl ?_)))
  refine Ev.succ ?_
  simp only [laws_FnExactChunksOf.j0]
  refine Ev.neg (by simp) (Ev.bind hm (Ev.bind hh (Ev.neg (by omega) (Ev.pos rfl (Ev.bind h2 (Ev.bind he (Ev.pos rfl ?_)))))))
  refine Ev.succ ?_
  simp only [laws_FnExactChunksOf.j1]
  exact Ev.neg (by simp) (Ev.bind hh (Ev.neg (by omega) (Ev.pos rfl (Ev.now _))))

end Go.Proofs.Ytlmnlmcahhegkaa.Pure
