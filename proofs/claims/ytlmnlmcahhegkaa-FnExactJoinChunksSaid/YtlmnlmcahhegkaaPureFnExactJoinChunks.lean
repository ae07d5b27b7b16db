/- JoinChunks of the program and of the reference return the same, for every list of texts that can be read, in new memory, and leave their argument as it was. -/
import Derived.Test.YtlmnlmcahhegkaaPFnExactJoinChunksx1
set_option maxRecDepth 100000
set_option linter.unusedVariables false
set_option linter.unusedSimpArgs false
namespace Go.Proofs.Ytlmnlmcahhegkaa.Pure
open Go.Proofs.Ytlmnlmcahhegkaa Go.RowKit Go.Proofs.Ytlmnlmcahhegkaa.PFnExactJoinChunks Go.Proofs.YtlmnlmcahhegkaaW.PrintWords Go.Proofs.YtlmnlmcahhegkaaW.PrintLast

theorem wrap_id {x : Int} (h0 : -9223372036854775808 ≤ x) (h1 : x < 9223372036854775808) : wrap64 x = x := by
  unfold wrap64; omega
theorem Ev.pos {α : Type} {c : Prop} [Decidable c] {g f : Nat → Option α} {r : α} (h : c) (k : Ev g r) : Ev (fun n => if c then g n else f n) r := by
  simpa only [if_pos h] using k
theorem Ev.neg {α : Type} {c : Prop} [Decidable c] {g f : Nat → Option α} {r : α} (h : ¬ c) (k : Ev f r) : Ev (fun n => if c then g n else f n) r := by
  simpa only [if_neg h] using k
theorem Ev.val {α : Type} {x : Option α} {r : α} (h : x = some r) : Ev (fun _ => x) r := by
  rw [h]; exact Ev.now r
theorem Ev.end {α : Type} {g : Nat → Option α} {r : α} (h : ∀ k, g (k + 1) = some r) : Ev g r := Ev.step (f := fun _ => some r) h (Ev.now r)
theorem Ev.cbind {α β : Type} {x : Option α} {f : Nat → α → Option β} {a : α} {r : β} (h : x = some a) (k : Ev (fun n => f n a) r) : Ev (fun n => x.bind (f n)) r := by
  subst h; exact k
theorem Ev.uniq {α : Type} {g : Nat → Option α} {r q : α} (h : Ev g r) (k : Ev g q) : r = q := by
  obtain ⟨K, h⟩ := h
  obtain ⟨L, k⟩ := k
  have h1 := h (max K L) (by omega)
  have h2 := k (max K L) (by omega)
  rw [h1] at h2
  exact Option.some.inj h2
theorem Ev.succ {α : Type} {g : Nat → Option α} {r : α} (h : Ev (fun k => g (k + 1)) r) : Ev g r := Ev.step (fun _ => rfl) h

theorem eq_gen {α : Type} {L : Nat → List α → List α → Int → Option Bool} (B : α → Prop) (M : Nat)
    (hend : ∀ (x : List α) (i : Int), ¬ i < x.length → Ev (fun k => L k x x i) true)
    (hstep : ∀ (x : List α) (i : Nat) (a : α), i < x.length → x.length ≤ M → x[i]? = some a → B a → Ev (fun k => L k x x ((i + 1 : Nat) : Int)) true → Ev (fun k => L k x x i) true)
    (rest : List α) : ∀ (pre : List α), pre.length + rest.length ≤ M → (∀ a ∈ rest, B a) → Ev (fun k => L k (pre ++ rest) (pre ++ rest) pre.length) true := by
  induction rest with
  | nil => intro pre hM hB; exact hend _ _ (by simp)
  | cons a rest ih =>
    intro pre hM hB
    simp only [List.length_cons] at hM
    have h := ih (pre ++ [a]) (by simp; omega) (fun x hx => hB x (by simp [hx]))
    simp only [List.append_assoc, List.singleton_append, List.length_append, List.length_singleton] at h
    exact hstep _ _ a (by simp) (by simp; omega) (by simp) (hB a (by simp)) h

theorem eqStringS_loop (l : List ByteArray) (hl : l.length ≤ 4611686018427387904) (d : Nat) : ∀ i : Int, 0 ≤ i → i ≤ l.length → (l.length : Int) - i = d → Ev (fun k => laws_eqStringS.l0 k l l i) true := by
  induction d with
  | zero => intro i h0 h1 hd; exact Ev.end (fun k => by simp only [laws_eqStringS.l0]; rw [if_neg (by omega)])
  | succ d ih =>
    intro i h0 h1 hd
    refine Ev.step (fun k => ?_) (ih (i + 1) (by omega) (by omega) (by omega))
    have hw := wrap_id (x := i + 1) (by omega) (by omega)
    rw [laws_eqStringS.l0, if_pos (by omega), if_pos h0, if_pos (by omega), if_pos rfl, hw]
theorem eqStringS_same (l : List ByteArray) (hl : l.length ≤ 4611686018427387904) : Ev (fun k => laws_eqStringS.f k l l) true := by
  unfold laws_eqStringS.f; exact Ev.pos (by trivial) (eqStringS_loop l hl l.length 0 (by omega) (by omega) (by omega))


/-- A slice written element by element from another: one induction for all kinds. -/
theorem copy_gen {α β : Type} {L : Nat → List α → List β → Int → Option (List β)} (conv : α → β) (M : Nat) (B : α → Prop)
    (hend : ∀ (x : List α) (y : List β) (i : Int), ¬ i < x.length → Ev (fun k => L k x y i) y)
    (hstep : ∀ (x : List α) (y : List β) (i : Nat) (a : α) (r : List β), i < x.length → i < y.length → x.length ≤ M → x[i]? = some a → B a → Ev (fun k => L k x (y.set i (conv a)) ((i + 1 : Nat) : Int)) r → Ev (fun k => L k x y i) r)
    (rest : List α) : ∀ (pre : List α) (tail : List β), tail.length = rest.length → pre.length + rest.length ≤ M → (∀ a ∈ rest, B a) →
      Ev (fun k => L k (pre ++ rest) (pre.map conv ++ tail) pre.length) ((pre ++ rest).map conv) := by
  induction rest with
  | nil =>
    intro pre tail hl hM hB
    obtain rfl : tail = [] := List.length_eq_zero_iff.1 hl
    simpa using hend pre (pre.map conv) pre.length (by omega)
  | cons a rest ih =>
    intro pre tail hl hM hB
    match tail, hl with
    | b :: tail, hl =>
      simp only [List.length_cons] at hl hM
      have h := ih (pre ++ [a]) tail (by omega) (by simp; omega) (fun x hx => hB x (by simp [hx]))
      simp only [List.append_assoc, List.singleton_append, List.length_append, List.length_singleton, List.map_append, List.map_cons, List.map_nil] at h
      refine hstep _ _ _ a _ (by simp) (by simp) (by simp; omega) (by simp) (hB a (by simp)) ?_
      have e : (List.map conv pre ++ b :: tail).set pre.length (conv a) = List.map conv pre ++ conv a :: tail := by
        rw [List.set_append_right _ _ (by simp)]
        simp
      rw [e]
      simpa using h

theorem toStringS_ev (l : List ByteArray) (hl : l.length ≤ 17592186044416) : Ev (fun k => laws_toStringS.f k l) l := by
  have h := copy_gen (L := laws_toStringS.l0) (fun a => a) 17592186044416 (fun _ => True) (fun x y i hi => Ev.end (fun k => by rw [laws_toStringS.l0, if_neg hi]))
    (fun x y i a r hi hy hM ha _ he => Ev.step (fun k => by
      have hw := wrap_id (x := (i : Int) + 1) (by omega) (by omega)
      have hr : rdOf ByteArray.empty x i = a := by simp [rd, rdOf, List.getD_eq_getElem?_getD, ha]
      rw [laws_toStringS.l0, if_pos (by omega), if_pos (by omega), if_pos (by omega), hr, hw]
      simp) he) l [] (List.replicate l.length (⟨#[]⟩ : ByteArray)) (by simp) (by simpa using hl) (fun _ _ => trivial)
  unfold laws_toStringS.f
  refine Ev.pos (by omega) (Ev.pos (by simpa using hl) ?_)
  simpa using h


theorem szStringS_loop (l : List ByteArray) (hM : l.length ≤ maxLen) (hq : ∀ y ∈ l, y.size ≤ maxLen) (d : Nat) : ∀ (v : Int) (i : Int), 0 ≤ v → v ≤ 1048576 → 0 ≤ i → i ≤ l.length → (l.length : Int) - i = d →
    ∃ r, Ev (fun k => laws_szStringS.l0 k l v i) r ∧ r ≤ v ∧ (-1 ≤ r) := by
  unfold maxLen at hM hq
  induction d with
  | zero => intro v i h0 h1 h2 h3 hd; exact ⟨v, Ev.end (fun k => by simp only [laws_szStringS.l0]; rw [if_neg (by omega)]), by omega, by omega⟩
  | succ d ih =>
    intro v i h0 h1 h2 h3 hd
    have hs : (rdOf ByteArray.empty l i).size ≤ 9223372036854775807 := by
      refine hq _ ?_
      have hi : i.toNat < l.length := by omega
      simp [rdOf, List.getD_eq_getElem?_getD, hi]
    have e : wrap64 (v - ((rdOf ByteArray.empty l i).size : Int)) = v - (rdOf ByteArray.empty l i).size := wrap_id (by omega) (by omega)
    have hw : wrap64 (i + 1) = i + 1 := wrap_id (by omega) (by omega)
    by_cases hn : v - ((rdOf ByteArray.empty l i).size : Int) < 0
    · exact ⟨-1, Ev.end (fun k => by rw [laws_szStringS.l0, if_pos (by omega), if_pos (by omega), e, if_pos hn]), by omega, by omega⟩
    · obtain ⟨r, h, h5, h6⟩ := ih (v - (rdOf ByteArray.empty l i).size) (i + 1) (by omega) (by omega) (by omega) (by omega) (by omega)
      exact ⟨r, Ev.step (fun k => by rw [laws_szStringS.l0, if_pos (by omega), if_pos (by omega), e, if_neg hn, hw]) h, by omega, h6⟩
theorem szStringS_ev (l : List ByteArray) (hM : l.length ≤ maxLen) (hq : ∀ y ∈ l, y.size ≤ maxLen) (v : Int) (h0 : 0 ≤ v) (h1 : v ≤ 1048576) :
    ∃ r, Ev (fun k => laws_szStringS.f k l v) r ∧ r ≤ v ∧ -1 ≤ r ∧ (0 ≤ r → l.length ≤ 1048576) := by
  unfold laws_szStringS.f
  have e : wrap64 (v - (l.length : Int)) = v - l.length := by unfold maxLen at hM; exact wrap_id (by omega) (by omega)
  rw [e]
  by_cases hn : v - (l.length : Int) < 0
  · exact ⟨-1, Ev.pos hn (Ev.now _), by omega, by omega, fun h => by omega⟩
  · obtain ⟨r, h, h5, h6⟩ := szStringS_loop l hM hq l.length (v - l.length) 0 (by omega) (by omega) (by omega) (by omega) (by omega)
    exact ⟨r, Ev.neg hn h, by omega, h6, fun _ => by omega⟩

/-- what marking makes of numbers -/
def ints (v : Int) : Nat → List Int
  | 0 => []
  | n + 1 => v :: ints (v + 1) n
theorem ints_length (v : Int) (n : Nat) : (ints v n).length = n := by
  induction n generalizing v with
  | zero => rfl
  | succ n ih => simp [ints, ih]
/-- numbers that rise from b, none past n -/
def rising (n : Int) : Int → List Int → Prop
  | _, [] => True
  | b, x :: t => b ≤ x ∧ x ≤ n ∧ rising n x t
theorem extract_le (s : ByteArray) (a b : Nat) : (s.extract a b).size ≤ s.size := by
  rw [ByteArray.size_extract]; omega
/-- what texts are long, together -/
def sumS : List ByteArray → Nat
  | [] => 0
  | t :: r => t.size + sumS r
theorem rdB (pre : List ByteArray) (b : ByteArray) (t : List ByteArray) : rdOf ByteArray.empty (pre ++ b :: t) (pre.length : Int) = b := by
  simp [rdOf, List.getD_eq_getElem?_getD]
theorem szStringS_all_loop (rest : List ByteArray) : ∀ (pre : List ByteArray) (v : Int), (pre ++ rest).length ≤ 9223372036854775807 → (∀ y ∈ rest, y.size ≤ 9223372036854775807) → 0 ≤ v → v ≤ 1048576 →
    ∃ r, Ev (fun k => laws_szStringS.l0 k (pre ++ rest) v (pre.length : Int)) r ∧ r ≤ v ∧ -1 ≤ r ∧ (0 ≤ r → (sumS rest : Int) ≤ v) := by
  induction rest with
  | nil => intro pre v hM hq h0 h1; exact ⟨v, Ev.end (fun k => by rw [laws_szStringS.l0, if_neg (by simp)]), by omega, by omega, fun _ => by simpa [sumS] using h0⟩
  | cons b t ih =>
    intro pre v hM hq h0 h1
    have hb := hq b (by simp)
    have hlen : (pre ++ b :: t).length = pre.length + (t.length + 1) := by simp
    have e : wrap64 (v - (b.size : Int)) = v - b.size := wrap_id (by omega) (by omega)
    have hw : wrap64 ((pre.length : Int) + 1) = ((pre.length + 1 : Nat) : Int) := by rw [wrap_id (by omega) (by omega)]; simp
    by_cases hn : v - (b.size : Int) < 0
    · exact ⟨-1, Ev.end (fun k => by rw [laws_szStringS.l0, if_pos (by omega), if_pos (by omega), rdB, e, if_pos hn]), by omega, by omega, fun h => by omega⟩
    · obtain ⟨r, h, h5, h6, h7⟩ := ih (pre ++ [b]) (v - b.size) (by simpa using hM) (fun y hy => hq y (by simp [hy])) (by omega) (by omega)
      simp only [List.append_assoc, List.singleton_append, List.length_append, List.length_singleton] at h
      exact ⟨r, Ev.step (fun k => by rw [laws_szStringS.l0, if_pos (by omega), if_pos (by omega), rdB, e, if_neg hn, hw]) h, by omega, h6, fun hr => by have := h7 hr; simp only [sumS]; omega⟩
theorem szStringS_all (l : List ByteArray) (hM : l.length ≤ maxLen) (hq : ∀ y ∈ l, y.size ≤ maxLen) (v : Int) (h0 : 0 ≤ v) (h1 : v ≤ 1048576) :
    ∃ r, Ev (fun k => laws_szStringS.f k l v) r ∧ r ≤ v ∧ -1 ≤ r ∧ (0 ≤ r → l.length ≤ 1048576 ∧ sumS l ≤ 1048576) := by
  unfold maxLen at hM hq
  unfold laws_szStringS.f
  have e : wrap64 (v - (l.length : Int)) = v - l.length := wrap_id (by omega) (by omega)
  rw [e]
  by_cases hn : v - (l.length : Int) < 0
  · exact ⟨-1, Ev.pos hn (Ev.now _), by omega, by omega, fun h => by omega⟩
  · obtain ⟨r, h, h5, h6, h7⟩ := szStringS_all_loop l [] (v - l.length) (by simpa using hM) hq (by omega) (by omega)
    exact ⟨r, Ev.neg hn h, by omega, h6, fun hr => by have := h7 hr; omega⟩

theorem join_flat (L : List (List UInt8)) : Lib.join L [] = L.flatten := by
  induction L with
  | nil => rfl
  | cons a t ih =>
    cases t with
    | nil => simp [Lib.join]
    | cons b u => simp [Lib.join] at ih ⊢; simpa [Lib.join] using ih
theorem cat_len (l : List ByteArray) : (strings_Join.cat l ⟨#[]⟩).length = sumS l := by
  unfold strings_Join.cat
  rw [show ((⟨#[]⟩ : ByteArray).data.toList) = [] from rfl, join_flat]
  induction l with
  | nil => rfl
  | cons a t ih => simp only [List.map_cons, List.flatten_cons, List.length_append, sumS, ih]; rfl
theorem join_ev (l : List ByteArray) (h0 : l.length ≤ 1048576) (h1 : sumS l ≤ 1048576) : strings_Join.f l ⟨#[]⟩ = some ⟨(strings_Join.cat l ⟨#[]⟩).toArray⟩ := by
  unfold strings_Join.f
  rw [if_pos (by omega), if_pos (by rw [cat_len]; omega)]
theorem join_size (l : List ByteArray) : ((⟨(strings_Join.cat l ⟨#[]⟩).toArray⟩ : ByteArray).size) = sumS l := by
  rw [← cat_len]; simp [ByteArray.size]

theorem cat_spec (l : List ByteArray) : ∀ s : ByteArray, s.size ≤ 300 → spec_JoinChunks.cat l s = if s.size + sumS l ≤ 300 then some ⟨(s.data.toList ++ strings_Join.cat l ⟨#[]⟩).toArray⟩ else none := by
  induction l with
  | nil =>
    intro s hs
    rw [if_pos (by simpa [sumS] using hs)]
    have : strings_Join.cat [] ⟨#[]⟩ = [] := by rfl
    rw [this, List.append_nil]
    rfl
  | cons b t ih =>
    intro s hs
    unfold spec_JoinChunks.cat
    by_cases c : (300 : Int) - s.size < b.size
    · rw [if_pos c, if_neg (by simp only [sumS]; omega)]
    · have hz : (s ++ b).size = s.size + b.size := by simp
      rw [if_neg c, ih (s ++ b) (by omega), hz]
      have e : ((s ++ b).data.toList ++ strings_Join.cat t ⟨#[]⟩) = s.data.toList ++ strings_Join.cat (b :: t) ⟨#[]⟩ := by
        unfold strings_Join.cat
        rw [show ((⟨#[]⟩ : ByteArray).data.toList) = [] from rfl, join_flat, join_flat]
        simp
      rw [e]
      by_cases c2 : s.size + b.size + sumS t ≤ 300
      · rw [if_pos c2, if_pos (by simp only [sumS]; omega)]
      · rw [if_neg c2, if_neg (by simp only [sumS]; omega)]
theorem op_eq (l : List ByteArray) (hl : l.length ≤ 1048576) (hs : sumS l ≤ 1048576) : ∃ r : ByteArray × Bool, spec_JoinChunks.f l = some r ∧ impl_JoinChunks.f l = some r := by
  have h := cat_spec l ⟨#[]⟩ (by decide)
  have hj := join_ev l hl hs
  have hz := join_size l
  rw [show ((⟨#[]⟩ : ByteArray).data.toList) = [] from rfl, List.nil_append, show ((⟨#[]⟩ : ByteArray).size) = 0 from rfl, Nat.zero_add] at h
  generalize (⟨(strings_Join.cat l ⟨#[]⟩).toArray⟩ : ByteArray) = t at h hj hz
  unfold spec_JoinChunks.f impl_JoinChunks.f spec_JoinChunks.fin
  by_cases c8 : 80 < l.length
  · rw [if_pos (show (l.length : Int) > 80 by omega)]
    rw [h]
    by_cases c3 : sumS l ≤ 300
    · rw [if_pos c3]; simp only; rw [if_pos c8]; exact ⟨_, rfl, rfl⟩
    · rw [if_neg c3]; exact ⟨_, rfl, rfl⟩
  · rw [if_neg (show ¬ (l.length : Int) > 80 by omega), hj, Option.bind_some]
    simp only [impl_isText.f, Option.bind_some, decide_eq_true_eq]
    rw [h, hz]
    by_cases c3 : sumS l ≤ 300
    · rw [if_pos c3, if_pos (by omega)]; simp only; rw [if_neg c8]; exact ⟨_, rfl, rfl⟩
    · rw [if_neg c3, if_neg (by omega)]; exact ⟨_, rfl, rfl⟩

theorem FnExactJoinChunks : laws_FnExactJoinChunks.Pure := by
  intro l q0
  refine Ev.rounds (g := fun k => laws_FnExactJoinChunks.f k l) (r := true) ?_
  unfold laws_FnExactJoinChunks.f
  obtain ⟨z, hz, _, _, hl⟩ := szStringS_all l q0.1 q0.2 1048576 (by omega) (by omega)
  by_cases hn : z < 0
  · exact Ev.bind hz (Ev.pos hn (Ev.now _))
  obtain ⟨l0, l1⟩ := hl (by omega)
  have ht := toStringS_ev l (by omega)
  have hp := eqStringS_same l (by omega)
  obtain ⟨⟨a, ok⟩, e1, e2⟩ := op_eq l l0 l1
  exact Ev.bind hz (Ev.neg hn (Ev.bind ht (Ev.cbind e1 (Ev.bind ht (Ev.cbind e2 (Ev.neg (by simp) (Ev.neg (by simp) (Ev.bind ht (Ev.bind hp (Ev.pos rfl (Ev.now _)))))))))))

end Go.Proofs.Ytlmnlmcahhegkaa.Pure
