/- SavedBy of the program and of the reference return the same, for every list of texts that can be read, in new memory, and leave their argument as it was. -/
import Derived.Test.YtlmnlmcahhegkaaPFnExactSavedByx4
set_option maxRecDepth 100000
set_option linter.unusedVariables false
set_option linter.unusedSimpArgs false
namespace Go.Proofs.Ytlmnlmcahhegkaa.Pure
open Go.Proofs.Ytlmnlmcahhegkaa Go.RowKit Go.Proofs.Ytlmnlmcahhegkaa.PFnExactSavedBy Go.Proofs.YtlmnlmcahhegkaaW.PrintWords Go.Proofs.YtlmnlmcahhegkaaW.PrintLast

theorem wrap_id {x : Int} (h0 : -9223372036854775808 ≤ x) (h1 : x < 9223372036854775808) : wrap64 x = x := by
  unfold wrap64; omega
theorem Ev.pos {α : Type} {c : Prop} [Decidable c] {g f : Nat → Option α} {r : α} (h : c) (k : Ev g r) : Ev (fun n => if c then g n else f n) r := by
  simpa only [if_pos h] using k
theorem Ev.neg {α : Type} {c : Prop} [Decidable c] {g f : Nat → Option α} {r : α} (h : ¬ c) (k : Ev f r) : Ev (fun n => if c then g n else f n) r := by
  simpa only [if_neg h] using k
theorem Ev.val {α : Type} {x : Option α} {r : α} (h : x = some r) : Ev (fun _ => x) r := by
  rw [h]; exact Ev.now r
theorem Ev.end {α : Type} {g : Nat → Option α} {r : α} (h : ∀ k, g (k + 1) = some r) : Ev g r := Ev.step (f := fun _ => some r) h (Ev.now r)
theorem Ev.cbind {α β : Type} {x : Option α} {f : Nat → α → Option β} {a : α} {r : β} (h : x = some a) (k : Ev (fun n => f n a) r) : Ev (fun n => x.bind (f n)) r := by
  subst h; exact k
theorem Ev.uniq {α : Type} {g : Nat → Option α} {r q : α} (h : Ev g r) (k : Ev g q) : r = q := by
  obtain ⟨K, h⟩ := h
  obtain ⟨L, k⟩ := k
  have h1 := h (max K L) (by omega)
  have h2 := k (max K L) (by omega)
  rw [h1] at h2
  exact Option.some.inj h2
theorem Ev.succ {α : Type} {g : Nat → Option α} {r : α} (h : Ev (fun k => g (k + 1)) r) : Ev g r := Ev.step (fun _ => rfl) h

theorem eq_gen {α : Type} {L : Nat → List α → List α → Int → Option Bool} (B : α → Prop) (M : Nat)
    (hend : ∀ (x : List α) (i : Int), ¬ i < x.length → Ev (fun k => L k x x i) true)
    (hstep : ∀ (x : List α) (i : Nat) (a : α), i < x.length → x.length ≤ M → x[i]? = some a → B a → Ev (fun k => L k x x ((i + 1 : Nat) : Int)) true → Ev (fun k => L k x x i) true)
    (rest : List α) : ∀ (pre : List α), pre.length + rest.length ≤ M → (∀ a ∈ rest, B a) → Ev (fun k => L k (pre ++ rest) (pre ++ rest) pre.length) true := by
  induction rest with
  | nil => intro pre hM hB; exact hend _ _ (by simp)
  | cons a rest ih =>
    intro pre hM hB
    simp only [List.length_cons] at hM
    have h := ih (pre ++ [a]) (by simp; omega) (fun x hx => hB x (by simp [hx]))
    simp only [List.append_assoc, List.singleton_append, List.length_append, List.length_singleton] at h
    exact hstep _ _ a (by simp) (by simp; omega) (by simp) (hB a (by simp)) h

theorem eqStringS_loop (l : List ByteArray) (hl : l.length ≤ 4611686018427387904) (d : Nat) : ∀ i : Int, 0 ≤ i → i ≤ l.length → (l.length : Int) - i = d → Ev (fun k => laws_eqStringS.l0 k l l i) true := by
  induction d with
  | zero => intro i h0 h1 hd; exact Ev.end (fun k => by simp only [laws_eqStringS.l0]; rw [if_neg (by omega)])
  | succ d ih =>
    intro i h0 h1 hd
    refine Ev.step (fun k => ?_) (ih (i + 1) (by omega) (by omega) (by omega))
    have hw := wrap_id (x := i + 1) (by omega) (by omega)
    rw [laws_eqStringS.l0, if_pos (by omega), if_pos h0, if_pos (by omega), if_pos rfl, hw]
theorem eqStringS_same (l : List ByteArray) (hl : l.length ≤ 4611686018427387904) : Ev (fun k => laws_eqStringS.f k l l) true := by
  unfold laws_eqStringS.f; exact Ev.pos (by trivial) (eqStringS_loop l hl l.length 0 (by omega) (by omega) (by omega))


/-- A slice written element by element from another: one induction for all kinds. -/
theorem copy_gen {α β : Type} {L : Nat → List α → List β → Int → Option (List β)} (conv : α → β) (M : Nat) (B : α → Prop)
    (hend : ∀ (x : List α) (y : List β) (i : Int), ¬ i < x.length → Ev (fun k => L k x y i) y)
    (hstep : ∀ (x : List α) (y : List β) (i : Nat) (a : α) (r : List β), i < x.length → i < y.length → x.length ≤ M → x[i]? = some a → B a → Ev (fun k => L k x (y.set i (conv a)) ((i + 1 : Nat) : Int)) r → Ev (fun k => L k x y i) r)
    (rest : List α) : ∀ (pre : List α) (tail : List β), tail.length = rest.length → pre.length + rest.length ≤ M → (∀ a ∈ rest, B a) →
      Ev (fun k => L k (pre ++ rest) (pre.map conv ++ tail) pre.length) ((pre ++ rest).map conv) := by
  induction rest with
  | nil =>
    intro pre tail hl hM hB
    obtain rfl : tail = [] := List.length_eq_zero_iff.1 hl
    simpa using hend pre (pre.map conv) pre.length (by omega)
  | cons a rest ih =>
    intro pre tail hl hM hB
    match tail, hl with
    | b :: tail, hl =>
      simp only [List.length_cons] at hl hM
      have h := ih (pre ++ [a]) tail (by omega) (by simp; omega) (fun x hx => hB x (by simp [hx]))
      simp only [List.append_assoc, List.singleton_append, List.length_append, List.length_singleton, List.map_append, List.map_cons, List.map_nil] at h
      refine hstep _ _ _ a _ (by simp) (by simp) (by simp; omega) (by simp) (hB a (by simp)) ?_
      have e : (List.map conv pre ++ b :: tail).set pre.length (conv a) = List.map conv pre ++ conv a :: tail := by
        rw [List.set_append_right _ _ (by simp)]
        simp
      rw [e]
      simpa using h

theorem toStringS_ev (l : List ByteArray) (hl : l.length ≤ 17592186044416) : Ev (fun k => laws_toStringS.f k l) l := by
  have h := copy_gen (L := laws_toStringS.l0) (fun a => a) 17592186044416 (fun _ => True) (fun x y i hi => Ev.end (fun k => by rw [laws_toStringS.l0, if_neg hi]))
    (fun x y i a r hi hy hM ha _ he => Ev.step (fun k => by
      have hw := wrap_id (x := (i : Int) + 1) (by omega) (by omega)
      have hr : rdOf ByteArray.empty x i = a := by simp [rd, rdOf, List.getD_eq_getElem?_getD, ha]
      rw [laws_toStringS.l0, if_pos (by omega), if_pos (by omega), if_pos (by omega), hr, hw]
      simp) he) l [] (List.replicate l.length (⟨#[]⟩ : ByteArray)) (by simp) (by simpa using hl) (fun _ _ => trivial)
  unfold laws_toStringS.f
  refine Ev.pos (by omega) (Ev.pos (by simpa using hl) ?_)
  simpa using h


theorem szStringS_loop (l : List ByteArray) (hM : l.length ≤ maxLen) (hq : ∀ y ∈ l, y.size ≤ maxLen) (d : Nat) : ∀ (v : Int) (i : Int), 0 ≤ v → v ≤ 1048576 → 0 ≤ i → i ≤ l.length → (l.length : Int) - i = d →
    ∃ r, Ev (fun k => laws_szStringS.l0 k l v i) r ∧ r ≤ v ∧ (-1 ≤ r) := by
  unfold maxLen at hM hq
  induction d with
  | zero => intro v i h0 h1 h2 h3 hd; exact ⟨v, Ev.end (fun k => by simp only [laws_szStringS.l0]; rw [if_neg (by omega)]), by omega, by omega⟩
  | succ d ih =>
    intro v i h0 h1 h2 h3 hd
    have hs : (rdOf ByteArray.empty l i).size ≤ 9223372036854775807 := by
      refine hq _ ?_
      have hi : i.toNat < l.length := by omega
      simp [rdOf, List.getD_eq_getElem?_getD, hi]
    have e : wrap64 (v - ((rdOf ByteArray.empty l i).size : Int)) = v - (rdOf ByteArray.empty l i).size := wrap_id (by omega) (by omega)
    have hw : wrap64 (i + 1) = i + 1 := wrap_id (by omega) (by omega)
    by_cases hn : v - ((rdOf ByteArray.empty l i).size : Int) < 0
    · exact ⟨-1, Ev.end (fun k => by rw [laws_szStringS.l0, if_pos (by omega), if_pos (by omega), e, if_pos hn]), by omega, by omega⟩
    · obtain ⟨r, h, h5, h6⟩ := ih (v - (rdOf ByteArray.empty l i).size) (i + 1) (by omega) (by omega) (by omega) (by omega) (by omega)
      exact ⟨r, Ev.step (fun k => by rw [laws_szStringS.l0, if_pos (by omega), if_pos (by omega), e, if_neg hn, hw]) h, by omega, h6⟩
theorem szStringS_ev (l : List ByteArray) (hM : l.length ≤ maxLen) (hq : ∀ y ∈ l, y.size ≤ maxLen) (v : Int) (h0 : 0 ≤ v) (h1 : v ≤ 1048576) :
    ∃ r, Ev (fun k => laws_szStringS.f k l v) r ∧ r ≤ v ∧ -1 ≤ r ∧ (0 ≤ r → l.length ≤ 1048576) := by
  unfold laws_szStringS.f
  have e : wrap64 (v - (l.length : Int)) = v - l.length := by unfold maxLen at hM; exact wrap_id (by omega) (by omega)
  rw [e]
  by_cases hn : v - (l.length : Int) < 0
  · exact ⟨-1, Ev.pos hn (Ev.now _), by omega, by omega, fun h => by omega⟩
  · obtain ⟨r, h, h5, h6⟩ := szStringS_loop l hM hq l.length (v - l.length) 0 (by omega) (by omega) (by omega) (by omega) (by omega)
    exact ⟨r, Ev.neg hn h, by omega, h6, fun _ => by omega⟩

/-- what marking makes of numbers -/
def ints (v : Int) : Nat → List Int
  | 0 => []
  | n + 1 => v :: ints (v + 1) n
theorem ints_length (v : Int) (n : Nat) : (ints v n).length = n := by
  induction n generalizing v with
  | zero => rfl
  | succ n ih => simp [ints, ih]
theorem finger_both (s : ByteArray) (hs : s.size ≤ 140737488351232) (d : Nat) : ∀ (x i : Int), 0 ≤ i → i ≤ s.size → (s.size : Int) - i = d →
    ∃ r, Ev (fun k => spec_l9Finger.l0 k s x i) r ∧ Ev (fun k => impl_finger.l0 k s x s.size i) r := by
  induction d with
  | zero =>
    intro x i h0 h1 hd
    refine ⟨x, Ev.end (fun k => ?_), Ev.end (fun k => ?_)⟩
    · simp only [spec_l9Finger.l0]; rw [if_neg (by omega)]
    · simp only [impl_finger.l0]; rw [if_neg (by omega)]
  | succ d ih =>
    intro x i h0 h1 hd
    obtain ⟨r, hr1, hr2⟩ := ih (Int.tmod (wrap64 ((wrap64 (x * 257)) + (wrap64 (bt s i)))) 8191) (i + 1) (by omega) (by omega) (by omega)
    have hw : wrap64 (i + 1) = i + 1 := wrap_id (by omega) (by omega)
    refine ⟨r, Ev.step (fun k => ?_) hr1, Ev.step (fun k => ?_) hr2⟩
    · simp only [spec_l9Finger.l0]; rw [if_pos (by omega), if_pos h0, hw]
    · simp only [impl_finger.l0]; rw [if_pos (by omega), if_pos h0, if_pos (by omega), hw]
theorem finger_eq (s : ByteArray) (hs : s.size ≤ 140737488351232) : ∃ r, Ev (fun k => spec_l9Finger.f k s) r ∧ Ev (fun k => impl_finger.f k s) r := by
  obtain ⟨r, h1, h2⟩ := finger_both s hs s.size 0 0 (by omega) (by omega) (by omega)
  exact ⟨r, h1, h2⟩

/-- numbers that rise from b, none past n -/
def rising (n : Int) : Int → List Int → Prop
  | _, [] => True
  | b, x :: t => b ≤ x ∧ x ≤ n ∧ rising n x t
theorem extract_le (s : ByteArray) (a b : Nat) : (s.extract a b).size ≤ s.size := by
  rw [ByteArray.size_extract]; omega
theorem cuts_both (s : ByteArray) (hs : s.size ≤ 300) (d : Nat) : ∀ (x : List Int) (b i : Int), 0 ≤ b → b < i → i ≤ s.size + 1 → x.length ≤ i → (s.size : Int) + 1 - i = d →
    ∃ t : List Int, Ev (fun k => spec_l9Cuts.l0 k s x b i) (x ++ t) ∧ Ev (fun k => impl_cutsOf.l0 k s x b i) (x ++ t) ∧ rising s.size b t ∧ t.length ≤ d := by
  induction d with
  | zero =>
    intro x b i hb h0 h1 hx hd
    refine ⟨[], Ev.end (fun k => ?_), Ev.end (fun k => ?_), trivial, by simp⟩
    · simp only [spec_l9Cuts.l0]; rw [if_neg (by omega)]; simp
    · simp only [impl_cutsOf.l0]; rw [if_neg (by omega)]; simp
  | succ d ih =>
    intro x b i hb h0 h1 hx hd
    have w1 : wrap64 (i + 1) = i + 1 := wrap_id (by omega) (by omega)
    have w2 : wrap64 (i - b) = i - b := wrap_id (by omega) (by omega)
    have w3 : wrap64 (i - 4) = i - 4 := wrap_id (by omega) (by omega)
    obtain ⟨t, c1, c2, c3, c4⟩ := ih (x ++ [i]) i (i + 1) (by omega) (by omega) (by omega) (by simp; omega) (by omega)
    obtain ⟨t', n1, n2, n3, n4⟩ := ih x b (i + 1) (by omega) (by omega) (by omega) (by omega) (by omega)
    simp only [List.append_assoc, List.singleton_append] at c1 c2
    have hr : rising s.size b (i :: t) := ⟨by omega, by omega, c3⟩
    have hlt : (i :: t).length ≤ d + 1 := by simp; omega
    by_cases g1 : i = s.size
    · refine ⟨i :: t, Ev.step (fun k => ?_) c1, Ev.step (fun k => ?_) c2, hr, hlt⟩
      · simp only [spec_l9Cuts.l0]; rw [if_pos (by omega), if_pos g1, if_pos (by omega), w1]
      · simp only [impl_cutsOf.l0]; rw [if_pos (by omega), if_pos g1, if_pos (by omega), w1]
    by_cases g2 : i - b = 20
    · refine ⟨i :: t, Ev.step (fun k => ?_) c1, Ev.step (fun k => ?_) c2, hr, hlt⟩
      · simp only [spec_l9Cuts.l0]; rw [if_pos (by omega), if_neg g1, w2, if_pos g2, if_pos (by omega), w1]
      · simp only [impl_cutsOf.l0]; rw [if_pos (by omega), if_neg g1, w2, if_pos g2, if_pos (by omega), w1]
    by_cases g3 : i - b ≥ 4
    · obtain ⟨v, f1, f2⟩ := finger_eq (s.extract (i - 4).toNat i.toNat) (by have := extract_le s (i - 4).toNat i.toNat; omega)
      by_cases g4 : Int.tmod v 8 = 7
      · refine ⟨i :: t, ?_, ?_, hr, hlt⟩
        · refine Ev.step (f := fun k => (spec_l9Finger.f k (s.extract (i - 4).toNat i.toNat)).bind fun y => if Int.tmod y 8 = 7 then spec_l9Cuts.l0 k s (x ++ [i]) i (i + 1) else spec_l9Cuts.l0 k s x b (i + 1)) (fun k => ?_) (Ev.bind f1 (Ev.pos g4 c1))
          simp only [spec_l9Cuts.l0]; rw [if_pos (by omega), if_neg g1, w2, if_neg g2, if_pos g3, w3, if_pos (by omega), if_pos (by omega), w1, if_pos (by omega)]
        · refine Ev.step (f := fun k => (impl_finger.f k (s.extract (i - 4).toNat i.toNat)).bind fun y => if Int.tmod y 8 = 7 then impl_cutsOf.l0 k s (x ++ [i]) i (i + 1) else impl_cutsOf.l0 k s x b (i + 1)) (fun k => ?_) (Ev.bind f2 (Ev.pos g4 c2))
          simp only [impl_cutsOf.l0]; rw [if_pos (by omega), if_neg g1, w2, if_neg g2, if_pos g3, w3, if_pos (by omega), if_pos (by omega), w1, if_pos (by omega)]
      · refine ⟨t', ?_, ?_, n3, by omega⟩
        · refine Ev.step (f := fun k => (spec_l9Finger.f k (s.extract (i - 4).toNat i.toNat)).bind fun y => if Int.tmod y 8 = 7 then spec_l9Cuts.l0 k s (x ++ [i]) i (i + 1) else spec_l9Cuts.l0 k s x b (i + 1)) (fun k => ?_) (Ev.bind f1 (Ev.neg g4 n1))
          simp only [spec_l9Cuts.l0]; rw [if_pos (by omega), if_neg g1, w2, if_neg g2, if_pos g3, w3, if_pos (by omega), if_pos (by omega), w1, if_pos (by omega)]
        · refine Ev.step (f := fun k => (impl_finger.f k (s.extract (i - 4).toNat i.toNat)).bind fun y => if Int.tmod y 8 = 7 then impl_cutsOf.l0 k s (x ++ [i]) i (i + 1) else impl_cutsOf.l0 k s x b (i + 1)) (fun k => ?_) (Ev.bind f2 (Ev.neg g4 n2))
          simp only [impl_cutsOf.l0]; rw [if_pos (by omega), if_neg g1, w2, if_neg g2, if_pos g3, w3, if_pos (by omega), if_pos (by omega), w1, if_pos (by omega)]
    · refine ⟨t', Ev.step (fun k => ?_) n1, Ev.step (fun k => ?_) n2, n3, by omega⟩
      · simp only [spec_l9Cuts.l0]; rw [if_pos (by omega), if_neg g1, w2, if_neg g2, if_neg g3, w1]
      · simp only [impl_cutsOf.l0]; rw [if_pos (by omega), if_neg g1, w2, if_neg g2, if_neg g3, w1]
theorem cuts_eq (s : ByteArray) (hs : s.size ≤ 300) : ∃ t : List Int, Ev (fun k => spec_l9Cuts.f k s) t ∧ Ev (fun k => impl_cutsOf.f k s) t ∧ rising s.size 0 t ∧ t.length ≤ 300 := by
  obtain ⟨t, h1, h2, h3, h4⟩ := cuts_both s hs s.size [] 0 1 (by omega) (by omega) (by omega) (by simp) (by omega)
  exact ⟨t, h1, h2, h3, by omega⟩

theorem chunks_both (s : ByteArray) (cuts : List Int) (hc : cuts.length ≤ 300) (rest : List Int) : ∀ (pre : List Int) (out : List ByteArray) (b : Int), cuts = pre ++ rest → 0 ≤ b → rising s.size b rest → out.length ≤ pre.length →
    ∃ r : List ByteArray, Ev (fun k => spec_l9Chunks.l0 k s out b cuts cuts.length pre.length) (out ++ r) ∧ Ev (fun k => impl_ChunksOf.l0 k s out b cuts cuts.length pre.length) (out ++ r, true) ∧ r.length = rest.length := by
  induction rest with
  | nil =>
    intro pre out b he hb hr ho
    subst he
    refine ⟨[], Ev.end (fun k => ?_), Ev.end (fun k => ?_), rfl⟩
    · simp only [spec_l9Chunks.l0]; rw [if_neg (by simp)]; simp
    · simp only [impl_ChunksOf.l0]; rw [if_neg (by simp)]; simp
  | cons x rest ih =>
    intro pre out b he hb hr ho
    obtain ⟨r1, r2, r3⟩ := hr
    have hl : cuts.length = pre.length + (rest.length + 1) := by rw [he]; simp
    obtain ⟨r, h1, h2, h3⟩ := ih (pre ++ [x]) (out ++ [s.extract b.toNat x.toNat]) x (by simp [he]) (by omega) r3 (by simp; omega)
    have hx : rd cuts (pre.length : Int) = x := by rw [he]; simp [rd, List.getD_eq_getElem?_getD]
    have hw : wrap64 ((pre.length : Int) + 1) = ((pre.length + 1 : Nat) : Int) := by rw [wrap_id (by omega) (by omega)]; simp
    simp only [List.append_assoc, List.singleton_append, List.length_append, List.length_singleton] at h1 h2
    refine ⟨s.extract b.toNat x.toNat :: r, Ev.step (fun k => ?_) h1, Ev.step (fun k => ?_) h2, by simp [h3]⟩
    · rw [spec_l9Chunks.l0, if_pos (by omega), if_pos (by omega), if_pos (by omega), if_pos hb, hx, if_pos r1, if_pos r2, if_pos (by omega), hw]
    · rw [impl_ChunksOf.l0, if_pos (by omega), if_pos (by omega), if_pos (by omega), if_pos hb, hx, if_pos r1, if_pos r2, if_pos (by omega), hw]
/-- what texts are long, together -/
def sumS : List ByteArray → Nat
  | [] => 0
  | t :: r => t.size + sumS r
theorem rdB (pre : List ByteArray) (b : ByteArray) (t : List ByteArray) : rdOf ByteArray.empty (pre ++ b :: t) (pre.length : Int) = b := by
  simp [rdOf, List.getD_eq_getElem?_getD]
theorem szStringS_all_loop (rest : List ByteArray) : ∀ (pre : List ByteArray) (v : Int), (pre ++ rest).length ≤ 9223372036854775807 → (∀ y ∈ rest, y.size ≤ 9223372036854775807) → 0 ≤ v → v ≤ 1048576 →
    ∃ r, Ev (fun k => laws_szStringS.l0 k (pre ++ rest) v (pre.length : Int)) r ∧ r ≤ v ∧ -1 ≤ r ∧ (0 ≤ r → (sumS rest : Int) ≤ v) := by
  induction rest with
  | nil => intro pre v hM hq h0 h1; exact ⟨v, Ev.end (fun k => by rw [laws_szStringS.l0, if_neg (by simp)]), by omega, by omega, fun _ => by simpa [sumS] using h0⟩
  | cons b t ih =>
    intro pre v hM hq h0 h1
    have hb := hq b (by simp)
    have hlen : (pre ++ b :: t).length = pre.length + (t.length + 1) := by simp
    have e : wrap64 (v - (b.size : Int)) = v - b.size := wrap_id (by omega) (by omega)
    have hw : wrap64 ((pre.length : Int) + 1) = ((pre.length + 1 : Nat) : Int) := by rw [wrap_id (by omega) (by omega)]; simp
    by_cases hn : v - (b.size : Int) < 0
    · exact ⟨-1, Ev.end (fun k => by rw [laws_szStringS.l0, if_pos (by omega), if_pos (by omega), rdB, e, if_pos hn]), by omega, by omega, fun h => by omega⟩
    · obtain ⟨r, h, h5, h6, h7⟩ := ih (pre ++ [b]) (v - b.size) (by simpa using hM) (fun y hy => hq y (by simp [hy])) (by omega) (by omega)
      simp only [List.append_assoc, List.singleton_append, List.length_append, List.length_singleton] at h
      exact ⟨r, Ev.step (fun k => by rw [laws_szStringS.l0, if_pos (by omega), if_pos (by omega), rdB, e, if_neg hn, hw]) h, by omega, h6, fun hr => by have := h7 hr; simp only [sumS]; omega⟩
theorem szStringS_all (l : List ByteArray) (hM : l.length ≤ maxLen) (hq : ∀ y ∈ l, y.size ≤ maxLen) (v : Int) (h0 : 0 ≤ v) (h1 : v ≤ 1048576) :
    ∃ r, Ev (fun k => laws_szStringS.f k l v) r ∧ r ≤ v ∧ -1 ≤ r ∧ (0 ≤ r → l.length ≤ 1048576 ∧ sumS l ≤ 1048576) := by
  unfold maxLen at hM hq
  unfold laws_szStringS.f
  have e : wrap64 (v - (l.length : Int)) = v - l.length := wrap_id (by omega) (by omega)
  rw [e]
  by_cases hn : v - (l.length : Int) < 0
  · exact ⟨-1, Ev.pos hn (Ev.now _), by omega, by omega, fun h => by omega⟩
  · obtain ⟨r, h, h5, h6, h7⟩ := szStringS_all_loop l [] (v - l.length) (by simpa using hM) hq (by omega) (by omega)
    exact ⟨r, Ev.neg hn h, by omega, h6, fun hr => by have := h7 hr; omega⟩

theorem text_both (l : List ByteArray) (t : ByteArray) (hl : l.length ≤ 1048576) : ∃ r : Int, Ev (fun k => spec_l9Text.f k l t) r ∧ Ev (fun k => slices_Index_string_string.f k l t) r := by
  have loop : ∀ (rest pre : List ByteArray), l = pre ++ rest → ∃ r : Int, Ev (fun k => spec_l9Text.l0 k t l l.length (pre.length : Int)) r ∧ Ev (fun k => slices_Index_string_string.l0 k l t l.length (pre.length : Int)) r := by
    intro rest
    induction rest with
    | nil => intro pre h; exact ⟨-1, Ev.end (fun k => by rw [spec_l9Text.l0, if_neg (by rw [h]; simp)]), Ev.end (fun k => by rw [slices_Index_string_string.l0, if_neg (by rw [h]; simp)])⟩
    | cons b rest ih =>
      intro pre h
      have hlen : l.length = pre.length + (rest.length + 1) := by rw [h]; simp
      have hb : rdOf ByteArray.empty l (pre.length : Int) = b := by rw [h]; exact rdB pre b rest
      have hw : wrap64 ((pre.length : Int) + 1) = ((pre.length + 1 : Nat) : Int) := by rw [wrap_id (by omega) (by omega)]; simp
      by_cases c : b.toList = t.toList
      · exact ⟨pre.length, Ev.end (fun k => by rw [spec_l9Text.l0, if_pos (by omega), if_pos (by omega), if_pos (by omega), hb, if_pos c]), Ev.end (fun k => by rw [slices_Index_string_string.l0, if_pos (by omega), if_pos (by omega), if_pos (by omega), hb, if_pos c.symm])⟩
      · obtain ⟨r, e1, e2⟩ := ih (pre ++ [b]) (by rw [h]; simp)
        simp only [List.length_append, List.length_singleton] at e1 e2
        exact ⟨r, Ev.step (fun k => by rw [spec_l9Text.l0, if_pos (by omega), if_pos (by omega), if_pos (by omega), hb, if_neg c, hw]) e1, Ev.step (fun k => by rw [slices_Index_string_string.l0, if_pos (by omega), if_pos (by omega), if_pos (by omega), hb, if_neg (fun h => c h.symm), hw]) e2⟩
  exact loop l [] rfl
/-- the pieces are no longer than the text -/
theorem chunks_szs (s : ByteArray) (cuts : List Int) (hc : cuts.length ≤ 300) (rest : List Int) : ∀ (pre : List Int) (out : List ByteArray) (b : Int), cuts = pre ++ rest → 0 ≤ b → rising s.size b rest → out.length ≤ pre.length →
    ∃ r : List ByteArray, Ev (fun k => spec_l9Chunks.l0 k s out b cuts cuts.length pre.length) (out ++ r) ∧ Ev (fun k => impl_ChunksOf.l0 k s out b cuts cuts.length pre.length) (out ++ r, true) ∧ r.length = rest.length ∧ ∀ c ∈ r, c.size ≤ s.size := by
  induction rest with
  | nil =>
    intro pre out b he hb hr ho
    subst he
    refine ⟨[], Ev.end (fun k => ?_), Ev.end (fun k => ?_), rfl, by simp⟩
    · simp only [spec_l9Chunks.l0]; rw [if_neg (by simp)]; simp
    · simp only [impl_ChunksOf.l0]; rw [if_neg (by simp)]; simp
  | cons x rest ih =>
    intro pre out b he hb hr ho
    obtain ⟨r1, r2, r3⟩ := hr
    have hl : cuts.length = pre.length + (rest.length + 1) := by rw [he]; simp
    obtain ⟨r, h1, h2, h3, h4⟩ := ih (pre ++ [x]) (out ++ [s.extract b.toNat x.toNat]) x (by simp [he]) (by omega) r3 (by simp; omega)
    have hx : rd cuts (pre.length : Int) = x := by rw [he]; simp [rd, List.getD_eq_getElem?_getD]
    have hw : wrap64 ((pre.length : Int) + 1) = ((pre.length + 1 : Nat) : Int) := by rw [wrap_id (by omega) (by omega)]; simp
    simp only [List.append_assoc, List.singleton_append, List.length_append, List.length_singleton] at h1 h2
    refine ⟨s.extract b.toNat x.toNat :: r, Ev.step (fun k => ?_) h1, Ev.step (fun k => ?_) h2, by simp [h3], ?_⟩
    · rw [spec_l9Chunks.l0, if_pos (by omega), if_pos (by omega), if_pos (by omega), if_pos hb, hx, if_pos r1, if_pos r2, if_pos (by omega), hw]
    · rw [impl_ChunksOf.l0, if_pos (by omega), if_pos (by omega), if_pos (by omega), if_pos hb, hx, if_pos r1, if_pos r2, if_pos (by omega), hw]
    · intro c hc2
      rcases List.mem_cons.1 hc2 with rfl | hc2
      · exact extract_le s _ _
      · exact h4 c hc2
theorem chunks_ex (s : ByteArray) (h : s.size ≤ 300) : ∃ r : List ByteArray, Ev (fun k => spec_l9Chunks.f k s) r ∧ Ev (fun k => impl_ChunksOf.f k s) (r, true) ∧ r.length ≤ 300 ∧ ∀ c ∈ r, c.size ≤ 300 := by
  obtain ⟨t, h1, h2, h3, h4⟩ := cuts_eq s h
  obtain ⟨r, c1, c2, c3, c4⟩ := chunks_szs s t h4 t [] [] 0 rfl (by omega) h3 (by simp)
  refine ⟨r, ?_, ?_, by omega, fun c hc => by have := c4 c hc; omega⟩
  · simp only [spec_l9Chunks.f]; exact Ev.bind h1 c1
  · simp only [impl_ChunksOf.f, impl_isText.f, Option.bind_some]; exact Ev.pos (by simp; omega) (Ev.bind h2 c2)
theorem chunks_no (s : ByteArray) (h : ¬ s.size ≤ 300) : Ev (fun k => impl_ChunksOf.f k s) ([], false) := by
  simp only [impl_ChunksOf.f, impl_isText.f, Option.bind_some]; exact Ev.neg (by simp; omega) (Ev.now _)
theorem texts_ev (ts : List ByteArray) (hl : ts.length ≤ 1048576) : Ev (fun k => spec_l9Texts.f k ts) (ts.all (fun s => decide (s.size ≤ 300)) && decide (ts.length ≤ 8)) := by
  have loop : ∀ (rest pre : List ByteArray), ts = pre ++ rest → Ev (fun k => spec_l9Texts.l0 k ts ts ts.length (pre.length : Int)) (rest.all (fun s => decide (s.size ≤ 300)) && decide (ts.length ≤ 8)) := by
    intro rest
    induction rest with
    | nil => intro pre h; exact Ev.end (fun k => by rw [spec_l9Texts.l0, if_neg (by rw [h]; simp)]; simp only [List.all_nil, Bool.true_and, Option.some.injEq]; exact decide_eq_decide.2 (by omega))
    | cons b rest ih =>
      intro pre h
      have hlen : ts.length = pre.length + (rest.length + 1) := by rw [h]; simp
      have hb : rdOf ByteArray.empty ts (pre.length : Int) = b := by rw [h]; exact rdB pre b rest
      have hw : wrap64 ((pre.length : Int) + 1) = ((pre.length + 1 : Nat) : Int) := by rw [wrap_id (by omega) (by omega)]; simp
      by_cases c : b.size ≤ 300
      · have e := ih (pre ++ [b]) (by rw [h]; simp)
        simp only [List.length_append, List.length_singleton] at e
        simp only [List.all_cons, decide_eq_true c, Bool.true_and]
        exact Ev.step (fun k => by rw [spec_l9Texts.l0, if_pos (by omega), if_pos (by omega), if_pos (by omega), hb, if_neg (by omega), hw]) e
      · simp only [List.all_cons, decide_eq_false c, Bool.false_and]
        exact Ev.end (fun k => by rw [spec_l9Texts.l0, if_pos (by omega), if_pos (by omega), if_pos (by omega), hb, if_pos (by omega)])
  exact loop ts [] rfl
theorem use_both (ts : List ByteArray) (n j : Int) (cs : List ByteArray) (hc : cs.length ≤ 300) (hz : ∀ c ∈ cs, c.size ≤ 300) (B : Nat) (hB : B ≤ 2400) (rest : List ByteArray) : ∀ (pre : List ByteArray) (x : List Int) (ch : List ByteArray), cs = pre ++ rest → x.length = pre.length → ch.length ≤ B + pre.length → (∀ c ∈ ch, c.size ≤ 300) →
    ∃ (x' : List Int) (ch' : List ByteArray), x'.length = cs.length ∧ ch'.length ≤ B + cs.length ∧ (∀ c ∈ ch', c.size ≤ 300) ∧ ∀ (use : List (List Int)), use.length ≤ 1000 → ∀ r,
      (Ev (fun k => spec_DedupAll.l0 k ts n (wrap64 (j + 1)) ch' (use ++ [x'])) r → Ev (fun k => spec_DedupAll.l1 k x ts n j cs cs.length (pre.length : Int) ch use) r) ∧
      (Ev (fun k => impl_DedupAll.l0 k ts n (wrap64 (j + 1)) ch' (use ++ [x'])) r → Ev (fun k => impl_DedupAll.l1 k x ts n j cs cs.length (pre.length : Int) ch use) r) := by
  induction rest with
  | nil =>
    intro pre x ch h hx hch hcz
    refine ⟨x, ch, by rw [h, hx]; simp, by rw [h]; simpa using hch, hcz, fun use hu r => ⟨fun e => Ev.step (fun k => ?_) e, fun e => Ev.step (fun k => ?_) e⟩⟩
    · rw [spec_DedupAll.l1, if_neg (by rw [h]; simp), if_pos (by omega)]
    · rw [impl_DedupAll.l1, if_neg (by rw [h]; simp), if_pos (by omega)]
  | cons b rest ih =>
    intro pre x ch h hx hch hcz
    have hlen : cs.length = pre.length + (rest.length + 1) := by rw [h]; simp
    have hb : rdOf ByteArray.empty cs (pre.length : Int) = b := by rw [h]; exact rdB pre b rest
    have hw : wrap64 ((pre.length : Int) + 1) = ((pre.length + 1 : Nat) : Int) := by rw [wrap_id (by omega) (by omega)]; simp
    obtain ⟨t, e1, e2⟩ := text_both ch b (by omega)
    have hbz : b.size ≤ 300 := hz b (by rw [h]; simp)
    by_cases c : t < 0
    · obtain ⟨x', ch', a1, a2, a3, a4⟩ := ih (pre ++ [b]) (x ++ [(ch.length : Int)]) (ch ++ [b]) (by rw [h]; simp) (by simp [hx]) (by simp; omega) (by intro c hc; rcases List.mem_append.1 hc with h | h; exact hcz c h; simp at h; rw [h]; exact hbz)
      refine ⟨x', ch', a1, a2, a3, fun use hu r => ?_⟩
      obtain ⟨f1, f2⟩ := a4 use hu r
      simp only [List.length_append, List.length_singleton] at f1 f2
      refine ⟨fun e => ?_, fun e => ?_⟩
      · refine Ev.step (fun k => by rw [spec_DedupAll.l1, if_pos (by omega), if_pos (by omega), if_pos (by omega), hb, hw]) ?_
        exact Ev.bind e1 (Ev.pos c (Ev.pos (by omega) (Ev.pos (by omega) (f1 e))))
      · refine Ev.step (fun k => by rw [impl_DedupAll.l1, if_pos (by omega), if_pos (by omega), if_pos (by omega), hb, hw]) ?_
        exact Ev.bind e2 (Ev.pos c (Ev.pos (by omega) (Ev.pos (by omega) (f2 e))))
    · obtain ⟨x', ch', a1, a2, a3, a4⟩ := ih (pre ++ [b]) (x ++ [t]) ch (by rw [h]; simp) (by simp [hx]) (by simp; omega) hcz
      refine ⟨x', ch', a1, a2, a3, fun use hu r => ?_⟩
      obtain ⟨f1, f2⟩ := a4 use hu r
      simp only [List.length_append, List.length_singleton] at f1 f2
      refine ⟨fun e => ?_, fun e => ?_⟩
      · refine Ev.step (fun k => by rw [spec_DedupAll.l1, if_pos (by omega), if_pos (by omega), if_pos (by omega), hb, hw]) ?_
        exact Ev.bind e1 (Ev.neg c (Ev.pos (by omega) (f1 e)))
      · refine Ev.step (fun k => by rw [impl_DedupAll.l1, if_pos (by omega), if_pos (by omega), if_pos (by omega), hb, hw]) ?_
        exact Ev.bind e2 (Ev.neg c (Ev.pos (by omega) (f2 e)))
theorem all_both (ts : List ByteArray) (hl : ts.length ≤ 8) (rest : List ByteArray) : ∀ (pre : List ByteArray) (ch : List ByteArray) (use : List (List Int)), ts = pre ++ rest → (∀ s ∈ rest, s.size ≤ 300) → ch.length ≤ 300 * pre.length → use.length = pre.length → (∀ u ∈ use, u.length ≤ 300) → (∀ c ∈ ch, c.size ≤ 300) →
    ∃ (ch' : List ByteArray) (use' : List (List Int)), Ev (fun k => spec_DedupAll.l0 k ts ts.length (pre.length : Int) ch use) (ch', use', true) ∧ Ev (fun k => impl_DedupAll.l0 k ts ts.length (pre.length : Int) ch use) (ch', use', true) ∧ ch'.length ≤ 2400 ∧ use'.length ≤ 8 ∧ (∀ u ∈ use', u.length ≤ 300) ∧ (∀ c ∈ ch', c.size ≤ 300) := by
  induction rest with
  | nil =>
    intro pre ch use h hs hch hu hul hcz
    have : ts.length = pre.length := by rw [h]; simp
    exact ⟨ch, use, Ev.end (fun k => by rw [spec_DedupAll.l0, if_neg (by omega)]), Ev.end (fun k => by rw [impl_DedupAll.l0, if_neg (by omega)]), by omega, by omega, hul, hcz⟩
  | cons b rest ih =>
    intro pre ch use h hs hch hu hul hcz
    have hlen : ts.length = pre.length + (rest.length + 1) := by rw [h]; simp
    have hb : rdOf ByteArray.empty ts (pre.length : Int) = b := by rw [h]; exact rdB pre b rest
    have hw : wrap64 ((pre.length : Int) + 1) = ((pre.length + 1 : Nat) : Int) := by rw [wrap_id (by omega) (by omega)]; simp
    obtain ⟨cs, k1, k2, k3, k4⟩ := chunks_ex b (hs b (by simp))
    obtain ⟨x', ch', a1, a2, a3, a4⟩ := use_both ts ts.length pre.length cs k3 k4 (300 * pre.length) (by omega) cs [] [] ch rfl rfl (by simpa using hch) hcz
    obtain ⟨ch2, use2, e1, e2, b1, b2, b3, b4⟩ := ih (pre ++ [b]) ch' (use ++ [x']) (by rw [h]; simp) (fun s h => hs s (by simp [h])) (by simp; omega) (by simp [hu]) (by intro u hu2; rcases List.mem_append.1 hu2 with h | h; exact hul u h; simp at h; rw [h, a1]; exact k3) a3
    simp only [List.length_append, List.length_singleton] at e1 e2
    obtain ⟨f1, f2⟩ := a4 use (by omega) (ch2, use2, true)
    rw [hw] at f1 f2
    simp only [List.length_nil, Int.natCast_zero] at f1 f2
    refine ⟨ch2, use2, ?_, ?_, b1, b2, b3, b4⟩
    · refine Ev.step (fun k => by rw [spec_DedupAll.l0, if_pos (by omega), if_pos (by omega), if_pos (by omega), hb]) ?_
      exact Ev.bind k1 (f1 e1)
    · refine Ev.step (fun k => by rw [impl_DedupAll.l0, if_pos (by omega), if_pos (by omega), if_pos (by omega), hb]) ?_
      exact Ev.bind k2 (Ev.pos rfl (f2 e2))
theorem all_bad (ts : List ByteArray) (hl : ts.length ≤ 8) (rest : List ByteArray) : ∀ (pre : List ByteArray) (ch : List ByteArray) (use : List (List Int)), ts = pre ++ rest → (∃ s ∈ rest, ¬ s.size ≤ 300) → ch.length ≤ 300 * pre.length → use.length = pre.length → (∀ c ∈ ch, c.size ≤ 300) →
    Ev (fun k => impl_DedupAll.l0 k ts ts.length (pre.length : Int) ch use) ([], [], false) := by
  induction rest with
  | nil => intro pre ch use h hs; obtain ⟨s, hs, _⟩ := hs; simp at hs
  | cons b rest ih =>
    intro pre ch use h hs hch hu hcz
    have hlen : ts.length = pre.length + (rest.length + 1) := by rw [h]; simp
    have hb : rdOf ByteArray.empty ts (pre.length : Int) = b := by rw [h]; exact rdB pre b rest
    have hw : wrap64 ((pre.length : Int) + 1) = ((pre.length + 1 : Nat) : Int) := by rw [wrap_id (by omega) (by omega)]; simp
    by_cases c : b.size ≤ 300
    · obtain ⟨cs, k1, k2, k3, k4⟩ := chunks_ex b c
      obtain ⟨x', ch', a1, a2, a3, a4⟩ := use_both ts ts.length pre.length cs k3 k4 (300 * pre.length) (by omega) cs [] [] ch rfl rfl (by simpa using hch) hcz
      have e2 := ih (pre ++ [b]) ch' (use ++ [x']) (by rw [h]; simp) (by obtain ⟨s, h1, h2⟩ := hs; rcases List.mem_cons.1 h1 with rfl | h1; exact absurd c h2; exact ⟨s, h1, h2⟩) (by simp; omega) (by simp [hu]) a3
      simp only [List.length_append, List.length_singleton] at e2
      obtain ⟨f1, f2⟩ := a4 use (by omega) ([], [], false)
      rw [hw] at f2
      simp only [List.length_nil, Int.natCast_zero] at f2
      refine Ev.step (fun k => by rw [impl_DedupAll.l0, if_pos (by omega), if_pos (by omega), if_pos (by omega), hb]) ?_
      exact Ev.bind k2 (Ev.pos rfl (f2 e2))
    · refine Ev.step (fun k => by rw [impl_DedupAll.l0, if_pos (by omega), if_pos (by omega), if_pos (by omega), hb]) ?_
      exact Ev.bind (chunks_no b c) (Ev.neg (by simp) (Ev.now _))
theorem Dedup_eq (ts : List ByteArray) (hl : ts.length ≤ 1048576) : ∃ (ch : List ByteArray) (use : List (List Int)) (ok : Bool), Ev (fun k => spec_DedupAll.f k ts) (ch, use, ok) ∧ Ev (fun k => impl_DedupAll.f k ts) (ch, use, ok) ∧ ch.length ≤ 2400 ∧ use.length ≤ 8 ∧ (∀ u ∈ use, u.length ≤ 300) ∧ (∀ c ∈ ch, c.size ≤ 300) := by
  have ht := texts_ev ts hl
  unfold spec_DedupAll.f impl_DedupAll.f
  by_cases h8 : ts.length ≤ 8
  · by_cases ha : ∀ s ∈ ts, s.size ≤ 300
    · have e : (ts.all (fun s => decide (s.size ≤ 300)) && decide (ts.length ≤ 8)) = true := by simp only [Bool.and_eq_true, List.all_eq_true, decide_eq_true_eq]; exact ⟨ha, h8⟩
      rw [e] at ht
      obtain ⟨ch, use, e1, e2, b1, b2, b3, b4⟩ := all_both ts h8 ts [] [] [] rfl ha (by simp) rfl (by simp) (by simp)
      exact ⟨ch, use, true, Ev.bind ht (Ev.pos rfl e1), Ev.neg (by omega) e2, b1, b2, b3, b4⟩
    · have e : (ts.all (fun s => decide (s.size ≤ 300)) && decide (ts.length ≤ 8)) = false := by
        rw [Bool.and_eq_false_iff]; left
        rw [Bool.eq_false_iff]
        intro h
        simp only [List.all_eq_true, decide_eq_true_eq] at h
        exact ha h
      rw [e] at ht
      have hb : ∃ s ∈ ts, ¬ s.size ≤ 300 := by
        apply Classical.byContradiction
        intro h
        exact ha (fun s hs => Classical.byContradiction (fun h2 => h ⟨s, hs, h2⟩))
      have e2 := all_bad ts h8 ts [] [] [] rfl hb (by simp) rfl (by simp)
      exact ⟨[], [], false, Ev.bind ht (Ev.neg (by simp) (Ev.now _)), Ev.neg (by omega) e2, by simp, by simp, by simp, by simp⟩
  · have e : (ts.all (fun s => decide (s.size ≤ 300)) && decide (ts.length ≤ 8)) = false := by rw [decide_eq_false h8, Bool.and_false]
    rw [e] at ht
    exact ⟨[], [], false, Ev.bind ht (Ev.neg (by simp) (Ev.now _)), Ev.pos (by omega) (Ev.now _), by simp, by simp, by simp, by simp⟩

theorem join_flat (L : List (List UInt8)) : Lib.join L [] = L.flatten := by
  induction L with
  | nil => rfl
  | cons a t ih =>
    cases t with
    | nil => simp [Lib.join]
    | cons b u => simp [Lib.join] at ih ⊢; simpa [Lib.join] using ih
theorem cat_len (l : List ByteArray) : (strings_Join.cat l ⟨#[]⟩).length = sumS l := by
  unfold strings_Join.cat
  rw [show ((⟨#[]⟩ : ByteArray).data.toList) = [] from rfl, join_flat]
  induction l with
  | nil => rfl
  | cons a t ih => simp only [List.map_cons, List.flatten_cons, List.length_append, sumS, ih]; rfl
theorem join_ev (l : List ByteArray) (h0 : l.length ≤ 1048576) (h1 : sumS l ≤ 1048576) : strings_Join.f l ⟨#[]⟩ = some ⟨(strings_Join.cat l ⟨#[]⟩).toArray⟩ := by
  unfold strings_Join.f
  rw [if_pos (by omega), if_pos (by rw [cat_len]; omega)]
theorem join_size (l : List ByteArray) : ((⟨(strings_Join.cat l ⟨#[]⟩).toArray⟩ : ByteArray).size) = sumS l := by
  rw [← cat_len]; simp [ByteArray.size]

theorem saved1 (l : List ByteArray) (a : Int) (hl : l.length ≤ 1048576) (rest : List ByteArray) : ∀ (pre : List ByteArray) (v : Int), l = pre ++ rest → 0 ≤ v → v + sumS rest ≤ 1048576 →
    Ev (fun k => spec_SavedBy.l1 k a v l l.length (pre.length : Int)) (a, v + sumS rest, true) := by
  induction rest with
  | nil => intro pre v h h0 h1; exact Ev.end (fun k => by rw [spec_SavedBy.l1, if_neg (by rw [h]; simp)]; simp [sumS])
  | cons b t ih =>
    intro pre v h h0 h1
    have hlen : l.length = pre.length + (t.length + 1) := by rw [h]; simp
    have hb : rdOf ByteArray.empty l (pre.length : Int) = b := by rw [h]; exact rdB pre b t
    have hw : wrap64 ((pre.length : Int) + 1) = ((pre.length + 1 : Nat) : Int) := by rw [wrap_id (by omega) (by omega)]; simp
    have hs : v + ((sumS (b :: t) : Nat) : Int) = v + b.size + sumS t := by simp only [sumS]; push_cast; omega
    have hv : wrap64 (v + (b.size : Int)) = v + b.size := wrap_id (by omega) (by omega)
    have e := ih (pre ++ [b]) (v + b.size) (by rw [h]; simp) (by omega) (by omega)
    simp only [List.length_append, List.length_singleton] at e
    rw [hs]
    exact Ev.step (fun k => by rw [spec_SavedBy.l1, if_pos (by omega), if_pos (by omega), if_pos (by omega), hb, hv, hw]) e
theorem saved0 (l ch : List ByteArray) (use : List (List Int)) (r : Int × Int × Bool) (hl : l.length ≤ 1048576) (rest : List ByteArray) : ∀ (pre : List ByteArray) (v : Int), l = pre ++ rest → 0 ≤ v → v + sumS rest ≤ 1048576 →
    Ev (fun k => spec_SavedBy.l1 k (v + sumS rest) 0 ch ch.length 0) r → Ev (fun k => spec_SavedBy.l0 k v l l.length (pre.length : Int) ch use) r := by
  induction rest with
  | nil => intro pre v h h0 h1 he; exact Ev.step (fun k => by rw [spec_SavedBy.l0, if_neg (by rw [h]; simp)]) (by simpa [sumS] using he)
  | cons b t ih =>
    intro pre v h h0 h1 he
    have hlen : l.length = pre.length + (t.length + 1) := by rw [h]; simp
    have hb : rdOf ByteArray.empty l (pre.length : Int) = b := by rw [h]; exact rdB pre b t
    have hw : wrap64 ((pre.length : Int) + 1) = ((pre.length + 1 : Nat) : Int) := by rw [wrap_id (by omega) (by omega)]; simp
    have hs : v + ((sumS (b :: t) : Nat) : Int) = v + b.size + sumS t := by simp only [sumS]; push_cast; omega
    have hv : wrap64 (v + (b.size : Int)) = v + b.size := wrap_id (by omega) (by omega)
    rw [hs] at he
    have e := ih (pre ++ [b]) (v + b.size) (by rw [h]; simp) (by omega) (by omega) he
    simp only [List.length_append, List.length_singleton] at e
    exact Ev.step (fun k => by rw [spec_SavedBy.l0, if_pos (by omega), if_pos (by omega), if_pos (by omega), hb, hv, hw]) e
theorem sumS_le (l : List ByteArray) (h : ∀ c ∈ l, c.size ≤ 300) : sumS l ≤ 300 * l.length := by
  induction l with
  | nil => simp [sumS]
  | cons b t ih =>
    have h1 := h b (by simp)
    have h2 := ih (fun c hc => h c (by simp [hc]))
    simp only [sumS, List.length_cons]
    omega
theorem Saved_eq (l : List ByteArray) (hl : l.length ≤ 1048576) (hs : sumS l ≤ 1048576) : ∃ r : Int × Int × Bool, Ev (fun k => spec_SavedBy.f k l) r ∧ Ev (fun k => impl_SavedBy.f k l) r := by
  obtain ⟨ch, use, ok, e1, e2, b1, b2, b3, b4⟩ := Dedup_eq l hl
  unfold spec_SavedBy.f impl_SavedBy.f
  cases ok with
  | false => exact ⟨(0, 0, false), Ev.bind e1 (Ev.neg (by simp) (Ev.now _)), Ev.bind e2 (Ev.neg (by simp) (Ev.now _))⟩
  | true =>
    have hc := sumS_le ch b4
    have j1 := join_ev l hl hs
    have j2 := join_ev ch (by omega) (by omega)
    have s1 := saved1 ch (0 + sumS l) (by omega) ch [] 0 rfl (by omega) (by omega)
    have s0 := saved0 l ch use _ hl l [] 0 rfl (by omega) (by omega) s1
    simp only [List.length_nil, Int.natCast_zero, Int.zero_add] at s0
    refine ⟨((sumS l : Int), (sumS ch : Int), true), Ev.bind e1 (Ev.pos rfl s0), Ev.bind e2 (Ev.pos rfl (Ev.cbind j1 (Ev.cbind j2 ?_)))⟩
    rw [join_size, join_size]
    exact Ev.now _

theorem FnExactSavedBy : laws_FnExactSavedBy.Pure := by
  intro l q0
  refine Ev.rounds (g := fun k => laws_FnExactSavedBy.f k l) (r := true) ?_
  unfold laws_FnExactSavedBy.f
  obtain ⟨z, hz, _, _, hl⟩ := szStringS_all l q0.1 q0.2 1048576 (by omega) (by omega)
  by_cases hn : z < 0
  · exact Ev.bind hz (Ev.pos hn (Ev.now _))
  obtain ⟨l0, l1⟩ := hl (by omega)
  have ht := toStringS_ev l (by omega)
  have hp := eqStringS_same l (by omega)
  obtain ⟨⟨a, b, ok⟩, e1, e2⟩ := Saved_eq l l0 l1
  exact Ev.bind hz (Ev.neg hn (Ev.bind ht (Ev.bind e1 (Ev.bind ht (Ev.bind e2 (Ev.neg (by simp) (Ev.neg (by simp) (Ev.neg (by simp) (Ev.bind ht (Ev.bind hp (Ev.pos rfl (Ev.now _))))))))))))

end Go.Proofs.Ytlmnlmcahhegkaa.Pure
