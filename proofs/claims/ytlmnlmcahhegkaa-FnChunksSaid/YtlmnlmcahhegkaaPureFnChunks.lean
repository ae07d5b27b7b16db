/- A drawn text is cut alike by the program and the reference, comes back from its chunks, none too long or too short but the last, behind a cut it is cut as if it began there, and a window's number rolls on: the law answers true for all bytes. -/
import Derived.Test.YtlmnlmcahhegkaaPFnChunksx5
set_option maxRecDepth 100000
set_option linter.unusedVariables false
set_option linter.unusedSimpArgs false
namespace Go.Proofs.Ytlmnlmcahhegkaa.Pure
open Go.Proofs.Ytlmnlmcahhegkaa Go.RowKit Go.Proofs.Ytlmnlmcahhegkaa.PFnChunks Go.Proofs.YtlmnlmcahhegkaaW.PrintWords Go.Proofs.YtlmnlmcahhegkaaW.PrintLast

theorem wrap_id {x : Int} (h0 : -9223372036854775808 ≤ x) (h1 : x < 9223372036854775808) : wrap64 x = x := by
  unfold wrap64; omega
theorem Ev.pos {α : Type} {c : Prop} [Decidable c] {g f : Nat → Option α} {r : α} (h : c) (k : Ev g r) : Ev (fun n => if c then g n else f n) r := by
  simpa only [if_pos h] using k
theorem Ev.neg {α : Type} {c : Prop} [Decidable c] {g f : Nat → Option α} {r : α} (h : ¬ c) (k : Ev f r) : Ev (fun n => if c then g n else f n) r := by
  simpa only [if_neg h] using k
theorem Ev.val {α : Type} {x : Option α} {r : α} (h : x = some r) : Ev (fun _ => x) r := by
  rw [h]; exact Ev.now r
theorem Ev.end {α : Type} {g : Nat → Option α} {r : α} (h : ∀ k, g (k + 1) = some r) : Ev g r := Ev.step (f := fun _ => some r) h (Ev.now r)
theorem Ev.cbind {α β : Type} {x : Option α} {f : Nat → α → Option β} {a : α} {r : β} (h : x = some a) (k : Ev (fun n => f n a) r) : Ev (fun n => x.bind (f n)) r := by
  subst h; exact k
theorem Ev.uniq {α : Type} {g : Nat → Option α} {r q : α} (h : Ev g r) (k : Ev g q) : r = q := by
  obtain ⟨K, h⟩ := h
  obtain ⟨L, k⟩ := k
  have h1 := h (max K L) (by omega)
  have h2 := k (max K L) (by omega)
  rw [h1] at h2
  exact Option.some.inj h2
theorem Ev.succ {α : Type} {g : Nat → Option α} {r : α} (h : Ev (fun k => g (k + 1)) r) : Ev g r := Ev.step (fun _ => rfl) h

theorem within_eq (a b c : Int) : impl_within.f a b c = some (decide (b ≤ a ∧ a ≤ c)) := by
  by_cases h : b ≤ a <;> simp [impl_within.f, h]

theorem l1In_eq (a b c : Int) : spec_l1In.f a b c = some (decide (b ≤ a ∧ a ≤ c)) := by
  by_cases h : b ≤ a <;> simp [spec_l1In.f, h]

theorem isGf_eq (a : Int) : impl_isGf.f a = some (decide (0 ≤ a ∧ a ≤ 255)) := by
  simp [impl_isGf.f, within_eq]

theorem l1Gf_eq (a : Int) : spec_l1Gf.f a = some (decide (0 ≤ a ∧ a ≤ 255)) := by
  simp [spec_l1Gf.f, l1In_eq]

/-- the bytes that choices are read from -/
def Code (c : List Int) : Prop := ∀ x ∈ c, 0 ≤ x ∧ x ≤ 255
theorem code_of {c : List Int} (h : ∀ x ∈ c, (Lit.int .u8 x).wf = true) : Code c := fun x hx => Go.bounds_u8 (h x hx)
theorem wrap_u64_range (n : Int) : 0 ≤ IntKind.u64.wrap n ∧ IntKind.u64.wrap n < 18446744073709551616 := by
  have : IntKind.u64.wrap n = n % 18446744073709551616 := by simp [IntKind.wrap, IntKind.bits, IntKind.signed]
  rw [this]; omega
theorem and255 (x : Int) (h0 : 0 ≤ x) (h1 : x < 18446744073709551616) : 0 ≤ Go.bits .and .u64 x 255 ∧ Go.bits .and .u64 x 255 ≤ 255 := by
  have hw : ∀ n : Int, 0 ≤ n → n < 2 ^ 64 → IntKind.u64.wrap n = n := by
    intro n a b
    have : IntKind.u64.wrap n = n % 18446744073709551616 := by simp [IntKind.wrap, IntKind.bits, IntKind.signed]
    rw [this]; omega
  have e := Go.bits_mask .u64 64 (by decide) hw 8 (by decide) x h0 (by omega)
  have e2 : ((2 : Int) ^ 8 - 1) = 255 := by decide
  rw [e2] at e
  rw [e]; omega
theorem rd_code {c : List Int} (h : Code c) (i : Int) : 0 ≤ rd c i ∧ rd c i ≤ 255 := by
  unfold rd
  rw [List.getD_eq_getElem?_getD]
  by_cases q : i.toNat < c.length
  · rw [List.getElem?_eq_getElem q]; exact h _ (List.getElem_mem q)
  · rw [List.getElem?_eq_none (by omega)]; exact ⟨by decide, by decide⟩
theorem next_ok {c : List Int} (h : Code c) (a s : Int) (a0 : 0 ≤ a) (a1 : a ≤ 1000000000000000) : ∃ x s', spec_l1Cur_next.f c a s = some (x, a + 1, s') ∧ 0 ≤ x ∧ x ≤ 255 := by
  have hw : wrap64 (a + 1) = a + 1 := wrap_id (by omega) (by omega)
  have hb : ∀ n : Int, 0 ≤ wrap64 (Go.bits .and .u64 (IntKind.u64.wrap n / 1099511627776) 255) ∧ wrap64 (Go.bits .and .u64 (IntKind.u64.wrap n / 1099511627776) 255) ≤ 255 := by
    intro n
    have r := wrap_u64_range n
    have b := and255 (IntKind.u64.wrap n / 1099511627776) (by omega) (by omega)
    rw [wrap_id (by omega) (by omega)]; exact b
  have hr : 0 ≤ wrap64 (rd c a) ∧ wrap64 (rd c a) ≤ 255 := by
    have r := rd_code h a
    rw [wrap_id (by omega) (by omega)]; exact r
  unfold spec_l1Cur_next.f
  rw [hw]
  by_cases c1 : a < (c.length : Int)
  · rw [if_pos c1, if_pos a0]
    by_cases c2 : a + 1 ≤ (c.length : Int)
    · rw [if_pos c2]; exact ⟨_, _, rfl, hr.1, hr.2⟩
    · rw [if_neg c2]; exact ⟨_, _, rfl, (hb _).1, (hb _).2⟩
  · rw [if_neg c1]
    by_cases c2 : a + 1 ≤ (c.length : Int)
    · rw [if_pos c2]; exact ⟨_, _, rfl, by omega, by omega⟩
    · rw [if_neg c2]; exact ⟨_, _, rfl, (hb _).1, (hb _).2⟩
theorem tmod_range {x n : Int} (h : 0 ≤ x) (hn : 0 < n) : 0 ≤ Int.tmod x n ∧ Int.tmod x n < n := by
  rw [Int.tmod_eq_emod_of_nonneg h]
  exact ⟨Int.emod_nonneg _ (by omega), Int.emod_lt_of_pos _ hn⟩
theorem pick_ok {c : List Int} (h : Code c) (a s n : Int) (a0 : 0 ≤ a) (a1 : a ≤ 999999999999999) : ∃ x a' s', spec_l1Cur_pick.f c a s n = some (x, a', s') ∧ 0 ≤ x ∧ (x < n ∨ (n ≤ 1 ∧ x = 0)) ∧ a ≤ a' ∧ a' ≤ a + 2 := by
  unfold spec_l1Cur_pick.f
  by_cases c1 : n ≤ 1
  · rw [if_pos c1]; exact ⟨0, a, s, rfl, by omega, .inr ⟨c1, rfl⟩, by omega, by omega⟩
  · rw [if_neg c1]
    obtain ⟨x, s', e, x0, x1⟩ := next_ok h a s a0 (by omega)
    simp only [e, Option.bind_some]
    by_cases c2 : n > 200
    · rw [if_pos c2]
      obtain ⟨y, s2, e2, y0, y1⟩ := next_ok h (a + 1) s' (by omega) (by omega)
      simp only [e2, Option.bind_some]
      rw [if_neg (by omega)]
      have w1 : wrap64 (x * 256) = x * 256 := wrap_id (by omega) (by omega)
      have w2 : wrap64 (x * 256 + y) = x * 256 + y := wrap_id (by omega) (by omega)
      rw [w1, w2]
      have t := tmod_range (x := x * 256 + y) (n := n) (by omega) (by omega)
      exact ⟨_, _, _, rfl, t.1, .inl t.2, by omega, by omega⟩
    · rw [if_neg c2, if_neg (by omega)]
      have t := tmod_range (x := x) (n := n) (by omega) (by omega)
      exact ⟨_, _, _, rfl, t.1, .inl t.2, by omega, by omega⟩
theorem one_ok {c : List Int} (h : Code c) (a s n : Int) (a0 : 0 ≤ a) (a1 : a ≤ 999999999999999) : ∃ b a' s', spec_l1Cur_one.f c a s n = some (b, a', s') ∧ a ≤ a' ∧ a' ≤ a + 2 := by
  obtain ⟨x, a', s', e, _, _, h1, h2⟩ := pick_ok h a s n a0 a1
  unfold spec_l1Cur_one.f
  rw [e, Option.bind_some]
  exact ⟨_, _, _, rfl, h1, h2⟩
theorem of_ok {c : List Int} (h : Code c) (a s : Int) (l : List ByteArray) (hl : l ≠ []) (a0 : 0 ≤ a) (a1 : a ≤ 999999999999999) : ∃ t a' s', spec_l1Cur_of.f c a s l = some (t, a', s') ∧ t ∈ l ∧ a ≤ a' ∧ a' ≤ a + 2 := by
  have hp : 0 < l.length := by cases l with
    | nil => exact absurd rfl hl
    | cons _ _ => simp
  obtain ⟨x, a', s', e, x0, x1, h1, h2⟩ := pick_ok h a s (l.length : Int) a0 a1
  have x2 : x < (l.length : Int) := by omega
  unfold spec_l1Cur_of.f
  rw [e, Option.bind_some]
  simp only
  rw [if_pos x0, if_pos x2]
  refine ⟨_, _, _, rfl, ?_, h1, h2⟩
  have q : x.toNat < l.length := by omega
  unfold rdOf
  rw [List.getD_eq_getElem?_getD, List.getElem?_eq_getElem q]
  exact List.getElem_mem q
theorem among_ok {c : List Int} (h : Code c) (a s : Int) (l : List Int) (hl : l ≠ []) (a0 : 0 ≤ a) (a1 : a ≤ 999999999999999) : ∃ t a' s', spec_l1Cur_among.f c a s l = some (t, a', s') ∧ t ∈ l ∧ a ≤ a' ∧ a' ≤ a + 2 := by
  have hp : 0 < l.length := by cases l with
    | nil => exact absurd rfl hl
    | cons _ _ => simp
  obtain ⟨x, a', s', e, x0, x1, h1, h2⟩ := pick_ok h a s (l.length : Int) a0 a1
  have x2 : x < (l.length : Int) := by omega
  unfold spec_l1Cur_among.f
  rw [e, Option.bind_some]
  simp only
  rw [if_pos x0, if_pos x2]
  refine ⟨_, _, _, rfl, ?_, h1, h2⟩
  have q : x.toNat < l.length := by omega
  unfold rd
  rw [List.getD_eq_getElem?_getD, List.getElem?_eq_getElem q]
  exact List.getElem_mem q
theorem gf_ok {c : List Int} (h : Code c) (a s : Int) (a0 : 0 ≤ a) (a1 : a ≤ 99999999999999) : ∃ t a' s', spec_l1Cur_gf.f c a s = some (t, a', s') ∧ a ≤ a' ∧ a' ≤ a + 4 := by
  obtain ⟨b, a2, s2, e, h1, h2⟩ := one_ok h a s 30 a0 (by omega)
  unfold spec_l1Cur_gf.f
  rw [e, Option.bind_some]
  by_cases q : b = true
  · obtain ⟨t, a3, s3, e3, _, h3, h4⟩ := among_ok h a2 s2 [(-1), 256] (by simp) (by omega) (by omega)
    simp only [q, if_true, e3, Option.bind_some]
    exact ⟨_, _, _, rfl, by omega, by omega⟩
  · obtain ⟨t, a3, s3, e3, _, _, h3, h4⟩ := pick_ok h a2 s2 256 (by omega) (by omega)
    simp only [q, if_false, e3, Option.bind_some]
    exact ⟨_, _, _, rfl, by omega, by omega⟩
theorem numberOf_loop (l : List Int) (hc : Code l) (hl : l.length ≤ 140737488351232) (rest : List Int) : ∀ (pre : List Int) (n : Int), l = pre ++ rest → 0 ≤ n → n < 1000003 → ∃ r, Ev (fun k => laws_numberOf.l0 k n l l.length (pre.length : Int)) r ∧ 0 ≤ r ∧ r < 1000003 := by
  induction rest with
  | nil => intro pre n h n0 n1; exact ⟨n, Ev.end (fun k => by rw [laws_numberOf.l0, if_neg (by rw [h]; simp)]), n0, n1⟩
  | cons b t ih =>
    intro pre n h n0 n1
    have hlen : l.length = pre.length + (t.length + 1) := by rw [h]; simp
    have hw : wrap64 ((pre.length : Int) + 1) = ((pre.length + 1 : Nat) : Int) := by rw [wrap_id (by omega) (by omega)]; simp
    have r := rd_code hc (pre.length : Int)
    have w1 : wrap64 (31 * n) = 31 * n := wrap_id (by omega) (by omega)
    have w2 : wrap64 (rd l (pre.length : Int)) = rd l (pre.length : Int) := wrap_id (by omega) (by omega)
    have w3 : wrap64 (31 * n + rd l (pre.length : Int)) = 31 * n + rd l (pre.length : Int) := wrap_id (by omega) (by omega)
    have t := tmod_range (x := 31 * n + rd l (pre.length : Int)) (n := 1000003) (by omega) (by omega)
    obtain ⟨q, e, q0, q1⟩ := ih (pre ++ [b]) _ (by rw [h]; simp) t.1 t.2
    simp only [List.length_append, List.length_singleton] at e
    exact ⟨q, Ev.step (fun k => by rw [laws_numberOf.l0, if_pos (by omega), if_pos (by omega), if_pos (by omega), w1, w2, w3, hw]) e, q0, q1⟩
theorem numberOf_ev (l : List Int) (hc : Code l) (hl : l.length ≤ 140737488351232) : ∃ r, Ev (fun k => laws_numberOf.f k l) r ∧ 0 ≤ r ∧ r < 1000003 := by
  obtain ⟨r, e, r0, r1⟩ := numberOf_loop l hc hl l [] 0 rfl (by omega) (by omega)
  exact ⟨r, by simpa [laws_numberOf.f] using e, r0, r1⟩

theorem sameInts_loop (l : List Int) (hl : l.length ≤ 4611686018427387904) (d : Nat) : ∀ i : Int, 0 ≤ i → i ≤ l.length → (l.length : Int) - i = d → Ev (fun k => laws_sameInts.l0 k l l l.length i) true := by
  induction d with
  | zero => intro i h0 h1 hd; exact Ev.end (fun k => by rw [laws_sameInts.l0, if_neg (by omega)])
  | succ d ih =>
    intro i h0 h1 hd
    refine Ev.step (fun k => ?_) (ih (i + 1) (by omega) (by omega) (by omega))
    have hw := wrap_id (x := i + 1) (by omega) (by omega)
    rw [laws_sameInts.l0, if_pos (by omega), if_pos h0, if_pos (by omega), if_pos (by omega), if_pos rfl, hw]
theorem sameInts_same (l : List Int) (hl : l.length ≤ 4611686018427387904) : Ev (fun k => laws_sameInts.f k l l) true := by
  unfold laws_sameInts.f; exact Ev.pos (by trivial) (sameInts_loop l hl l.length 0 (by omega) (by omega) (by omega))

theorem sameTexts_loop (l : List ByteArray) (hl : l.length ≤ 4611686018427387904) (d : Nat) : ∀ i : Int, 0 ≤ i → i ≤ l.length → (l.length : Int) - i = d → Ev (fun k => laws_sameTexts.l0 k l l l.length i) true := by
  induction d with
  | zero => intro i h0 h1 hd; exact Ev.end (fun k => by rw [laws_sameTexts.l0, if_neg (by omega)])
  | succ d ih =>
    intro i h0 h1 hd
    refine Ev.step (fun k => ?_) (ih (i + 1) (by omega) (by omega) (by omega))
    have hw := wrap_id (x := i + 1) (by omega) (by omega)
    rw [laws_sameTexts.l0, if_pos (by omega), if_pos h0, if_pos (by omega), if_pos (by omega), if_pos rfl, hw]
theorem sameTexts_same (l : List ByteArray) (hl : l.length ≤ 4611686018427387904) : Ev (fun k => laws_sameTexts.f k l l) true := by
  unfold laws_sameTexts.f; exact Ev.pos (by trivial) (sameTexts_loop l hl l.length 0 (by omega) (by omega) (by omega))

/-- the number of a window -/
def fgo (s : ByteArray) : Nat → Int → Int → Int
  | 0, x, _ => x
  | d + 1, x, i => fgo s d (Int.tmod (wrap64 ((wrap64 (x * 257)) + (wrap64 (bt s i)))) 8191) (i + 1)
def fing (s : ByteArray) : Int := fgo s s.size 0 0
theorem finger_go (s : ByteArray) (hs : s.size ≤ 140737488351232) (d : Nat) : ∀ (x i : Int), 0 ≤ i → i ≤ s.size → (s.size : Int) - i = d →
    Ev (fun k => spec_l9Finger.l0 k s x i) (fgo s d x i) ∧ Ev (fun k => impl_finger.l0 k s x s.size i) (fgo s d x i) := by
  induction d with
  | zero =>
    intro x i h0 h1 hd
    exact ⟨Ev.end (fun k => by rw [spec_l9Finger.l0, if_neg (by omega)]; rfl), Ev.end (fun k => by rw [impl_finger.l0, if_neg (by omega)]; rfl)⟩
  | succ d ih =>
    intro x i h0 h1 hd
    obtain ⟨hr1, hr2⟩ := ih (Int.tmod (wrap64 ((wrap64 (x * 257)) + (wrap64 (bt s i)))) 8191) (i + 1) (by omega) (by omega) (by omega)
    have hw : wrap64 (i + 1) = i + 1 := wrap_id (by omega) (by omega)
    exact ⟨Ev.step (fun k => by rw [spec_l9Finger.l0, if_pos (by omega), if_pos h0, hw]) hr1, Ev.step (fun k => by rw [impl_finger.l0, if_pos (by omega), if_pos h0, if_pos (by omega), hw]) hr2⟩
theorem fing_ev (s : ByteArray) (hs : s.size ≤ 140737488351232) : Ev (fun k => spec_l9Finger.f k s) (fing s) ∧ Ev (fun k => impl_finger.f k s) (fing s) :=
  finger_go s hs s.size 0 0 (by omega) (by omega) (by omega)
/-- is there a cut at i, behind one at b -/
def cutB (s : ByteArray) (b i : Int) : Bool :=
  decide (i = s.size) || (decide (i - b = 20) || (decide (i - b ≥ 4) && decide (Int.tmod (fing (s.extract (i - 4).toNat i.toNat)) 8 = 7)))
def cutF (s : ByteArray) : Nat → Int → Int → List Int
  | 0, _, _ => []
  | d + 1, b, i => if cutB s b i = true then i :: cutF s d i (i + 1) else cutF s d b (i + 1)
theorem extract_le (s : ByteArray) (a b : Nat) : (s.extract a b).size ≤ s.size := by
  rw [ByteArray.size_extract]; omega
theorem cutF_ev (s : ByteArray) (hs : s.size ≤ 300) (d : Nat) : ∀ (x : List Int) (b i : Int), 0 ≤ b → b < i → i ≤ s.size + 1 → x.length ≤ i → (s.size : Int) + 1 - i = d →
    Ev (fun k => spec_l9Cuts.l0 k s x b i) (x ++ cutF s d b i) ∧ Ev (fun k => impl_cutsOf.l0 k s x b i) (x ++ cutF s d b i) := by
  induction d with
  | zero =>
    intro x b i hb h0 h1 hx hd
    refine ⟨Ev.end (fun k => ?_), Ev.end (fun k => ?_)⟩
    · rw [spec_l9Cuts.l0, if_neg (by omega)]; simp [cutF]
    · rw [impl_cutsOf.l0, if_neg (by omega)]; simp [cutF]
  | succ d ih =>
    intro x b i hb h0 h1 hx hd
    have w1 : wrap64 (i + 1) = i + 1 := wrap_id (by omega) (by omega)
    have w2 : wrap64 (i - b) = i - b := wrap_id (by omega) (by omega)
    have w3 : wrap64 (i - 4) = i - 4 := wrap_id (by omega) (by omega)
    obtain ⟨c1, c2⟩ := ih (x ++ [i]) i (i + 1) (by omega) (by omega) (by omega) (by simp; omega) (by omega)
    obtain ⟨n1, n2⟩ := ih x b (i + 1) (by omega) (by omega) (by omega) (by omega) (by omega)
    simp only [List.append_assoc, List.singleton_append] at c1 c2
    unfold cutF cutB
    by_cases g1 : i = s.size
    · rw [decide_eq_true g1, Bool.true_or, if_pos rfl]
      refine ⟨Ev.step (fun k => ?_) c1, Ev.step (fun k => ?_) c2⟩
      · rw [spec_l9Cuts.l0, if_pos (by omega), if_pos g1, if_pos (by omega), w1]
      · rw [impl_cutsOf.l0, if_pos (by omega), if_pos g1, if_pos (by omega), w1]
    rw [decide_eq_false g1, Bool.false_or]
    by_cases g2 : i - b = 20
    · rw [decide_eq_true g2, Bool.true_or, if_pos rfl]
      refine ⟨Ev.step (fun k => ?_) c1, Ev.step (fun k => ?_) c2⟩
      · rw [spec_l9Cuts.l0, if_pos (by omega), if_neg g1, w2, if_pos g2, if_pos (by omega), w1]
      · rw [impl_cutsOf.l0, if_pos (by omega), if_neg g1, w2, if_pos g2, if_pos (by omega), w1]
    rw [decide_eq_false g2, Bool.false_or]
    by_cases g3 : i - b ≥ 4
    · rw [decide_eq_true g3, Bool.true_and]
      obtain ⟨f1, f2⟩ := fing_ev (s.extract (i - 4).toNat i.toNat) (by have := extract_le s (i - 4).toNat i.toNat; omega)
      by_cases g4 : Int.tmod (fing (s.extract (i - 4).toNat i.toNat)) 8 = 7
      · rw [decide_eq_true g4, if_pos rfl]
        refine ⟨?_, ?_⟩
        · refine Ev.step (f := fun k => (spec_l9Finger.f k (s.extract (i - 4).toNat i.toNat)).bind fun y => if Int.tmod y 8 = 7 then spec_l9Cuts.l0 k s (x ++ [i]) i (i + 1) else spec_l9Cuts.l0 k s x b (i + 1)) (fun k => ?_) (Ev.bind f1 (Ev.pos g4 c1))
          rw [spec_l9Cuts.l0, if_pos (by omega), if_neg g1, w2, if_neg g2, if_pos g3, w3, if_pos (by omega), if_pos (by omega), w1, if_pos (by omega)]
        · refine Ev.step (f := fun k => (impl_finger.f k (s.extract (i - 4).toNat i.toNat)).bind fun y => if Int.tmod y 8 = 7 then impl_cutsOf.l0 k s (x ++ [i]) i (i + 1) else impl_cutsOf.l0 k s x b (i + 1)) (fun k => ?_) (Ev.bind f2 (Ev.pos g4 c2))
          rw [impl_cutsOf.l0, if_pos (by omega), if_neg g1, w2, if_neg g2, if_pos g3, w3, if_pos (by omega), if_pos (by omega), w1, if_pos (by omega)]
      · rw [decide_eq_false g4, if_neg (by simp)]
        refine ⟨?_, ?_⟩
        · refine Ev.step (f := fun k => (spec_l9Finger.f k (s.extract (i - 4).toNat i.toNat)).bind fun y => if Int.tmod y 8 = 7 then spec_l9Cuts.l0 k s (x ++ [i]) i (i + 1) else spec_l9Cuts.l0 k s x b (i + 1)) (fun k => ?_) (Ev.bind f1 (Ev.neg g4 n1))
          rw [spec_l9Cuts.l0, if_pos (by omega), if_neg g1, w2, if_neg g2, if_pos g3, w3, if_pos (by omega), if_pos (by omega), w1, if_pos (by omega)]
        · refine Ev.step (f := fun k => (impl_finger.f k (s.extract (i - 4).toNat i.toNat)).bind fun y => if Int.tmod y 8 = 7 then impl_cutsOf.l0 k s (x ++ [i]) i (i + 1) else impl_cutsOf.l0 k s x b (i + 1)) (fun k => ?_) (Ev.bind f2 (Ev.neg g4 n2))
          rw [impl_cutsOf.l0, if_pos (by omega), if_neg g1, w2, if_neg g2, if_pos g3, w3, if_pos (by omega), if_pos (by omega), w1, if_pos (by omega)]
    · rw [decide_eq_false g3, Bool.false_and, if_neg (by simp)]
      refine ⟨Ev.step (fun k => ?_) n1, Ev.step (fun k => ?_) n2⟩
      · rw [spec_l9Cuts.l0, if_pos (by omega), if_neg g1, w2, if_neg g2, if_neg g3, w1]
      · rw [impl_cutsOf.l0, if_pos (by omega), if_neg g1, w2, if_neg g2, if_neg g3, w1]
def cutsT (s : ByteArray) : List Int := cutF s s.size 0 1
theorem cutsT_ev (s : ByteArray) (hs : s.size ≤ 300) : Ev (fun k => spec_l9Cuts.f k s) (cutsT s) ∧ Ev (fun k => impl_cutsOf.f k s) (cutsT s) := by
  have h := cutF_ev s hs s.size [] 0 1 (by omega) (by omega) (by omega) (by simp) (by omega)
  simp only [List.nil_append] at h
  exact h
/-- cuts from b on: none too long, none too short but the last, the last at the end -/
def okc (N : Int) : Int → List Int → Prop
  | b, [] => b = N
  | b, x :: t => b < x ∧ x ≤ N ∧ x - b ≤ 20 ∧ (x - b < 4 → x = N) ∧ okc N x t
theorem cutF_ok (s : ByteArray) (d : Nat) : ∀ (b i : Int), 0 ≤ b → b < i → i - b ≤ 20 → (i ≤ s.size ∨ b = s.size) → (s.size : Int) + 1 - i = d → okc s.size b (cutF s d b i) := by
  induction d with
  | zero => intro b i h0 h1 h2 h3 hd; show b = s.size; omega
  | succ d ih =>
    intro b i h0 h1 h2 h3 hd
    unfold cutF
    by_cases c : cutB s b i = true
    · rw [if_pos c]
      refine ⟨h1, by omega, h2, ?_, ih i (i + 1) (by omega) (by omega) (by omega) (by omega) (by omega)⟩
      intro h4
      unfold cutB at c
      simp only [Bool.or_eq_true, Bool.and_eq_true, decide_eq_true_eq] at c
      omega
    · rw [if_neg c]
      unfold cutB at c
      simp only [Bool.or_eq_true, Bool.and_eq_true, decide_eq_true_eq, not_or] at c
      exact ih b (i + 1) h0 (by omega) (by omega) (by omega) (by omega)
theorem cutsT_ok (s : ByteArray) : okc s.size 0 (cutsT s) := by
  by_cases h : s.size = 0
  · unfold cutsT; rw [h]; rfl
  · exact cutF_ok s s.size 0 1 (by omega) (by omega) (by omega) (by omega) (by omega)
theorem okc_len {N : Int} : ∀ (l : List Int) (b : Int), okc N b l → 4 * (l.length : Int) ≤ N - b + 4 := by
  intro l
  induction l with
  | nil => intro b h; simp only [okc] at h; simp; omega
  | cons x t ih =>
    intro b h
    obtain ⟨h1, h2, h3, h4, h5⟩ := h
    have := ih x h5
    simp only [List.length_cons]
    by_cases q : x - b < 4
    · have hx := h4 q
      cases t with
      | nil => simp; omega
      | cons y u => obtain ⟨g1, g2, _⟩ := h5; omega
    · omega
/-- behind a cut the cuts go on as if the text began there -/
theorem cutF_behind (s : ByteArray) (d : Nat) : ∀ (b i : Int) (pre : List Int) (x : Int) (t : List Int), (s.size : Int) + 1 - i = d → cutF s d b i = pre ++ x :: t → t = cutF s (s.size - x).toNat x (x + 1) := by
  induction d with
  | zero => intro b i pre x t hd h; simp [cutF] at h
  | succ d ih =>
    intro b i pre x t hd h
    unfold cutF at h
    by_cases c : cutB s b i = true
    · rw [if_pos c] at h
      cases pre with
      | nil =>
        simp only [List.nil_append, List.cons.injEq] at h
        obtain ⟨rfl, rfl⟩ := h
        congr 1; omega
      | cons p pre =>
        simp only [List.cons_append, List.cons.injEq] at h
        exact ih i (i + 1) pre x t (by omega) h.2
    · rw [if_neg c] at h
      exact ih b (i + 1) pre x t (by omega) h
theorem cutF_shift (s : ByteArray) (c : Nat) (hc : c ≤ s.size) (d : Nat) : ∀ (b i : Int), (c : Int) ≤ b → b < i → (s.size : Int) + 1 - i = d → cutF (s.extract c s.size) d (b - c) (i - c) = (cutF s d b i).map (fun x : Int => x - (c : Int)) := by
  induction d with
  | zero => intro b i _ _ _; rfl
  | succ d ih =>
    intro b i h0 h1 hd
    have hz : (s.extract c s.size).size = s.size - c := by rw [ByteArray.size_extract]; omega
    have hcut : cutB (s.extract c s.size) (b - c) (i - c) = cutB s b i := by
      unfold cutB
      rw [hz]
      have e1 : (i - c = ((s.size - c : Nat) : Int)) ↔ (i = (s.size : Int)) := by omega
      have e2 : (i - c - (b - c) = 20) ↔ (i - b = 20) := by omega
      have e3 : (i - c - (b - c) ≥ 4) ↔ (i - b ≥ 4) := by omega
      simp only [e1, e2, e3]
      by_cases q : i - b ≥ 4
      · have ex : (s.extract c s.size).extract (i - c - 4).toNat (i - c).toNat = s.extract (i - 4).toNat i.toNat := by
          rw [ByteArray.extract_extract]
          have a1 : c + (i - c - 4).toNat = (i - 4).toNat := by omega
          have a2 : min (c + (i - c).toNat) s.size = i.toNat := by omega
          rw [a1, a2]
        rw [ex]
      · simp only [q, decide_false, Bool.false_and]
    unfold cutF
    rw [hcut]
    by_cases g : cutB s b i = true
    · rw [if_pos g, if_pos g, List.map_cons]
      have e := ih i (i + 1) (by omega) (by omega) (by omega)
      have a : i + 1 - (c : Int) = i - c + 1 := by omega
      rw [a] at e
      rw [e]
    · rw [if_neg g, if_neg g]
      have e := ih b (i + 1) h0 (by omega) (by omega)
      have a : i + 1 - (c : Int) = i - c + 1 := by omega
      rw [a] at e
      exact e
/-- the cuts of what is behind a cut -/
theorem cutsT_rest (s : ByteArray) (pre : List Int) (x : Int) (t : List Int) (h : cutsT s = pre ++ x :: t) (x0 : 0 ≤ x) (x1 : x ≤ s.size) : cutsT (s.extract x.toNat s.size) = t.map (fun y : Int => y - x) := by
  by_cases hz : s.size = 0
  · unfold cutsT at h; rw [hz] at h; simp [cutF] at h
  have e := cutF_behind s s.size 0 1 pre x t (by omega) h
  obtain ⟨c, rfl⟩ := Int.eq_ofNat_of_zero_le x0
  have e2 := cutF_shift s c (by omega) (s.size - c) c (c + 1) (by omega) (by omega) (by omega)
  have z : (s.extract c s.size).size = s.size - c := by rw [ByteArray.size_extract]; omega
  unfold cutsT
  rw [Int.toNat_natCast, z, e]
  have a1 : ((c : Int) - c) = 0 := by omega
  have a2 : ((c : Int) + 1 - c) = 1 := by omega
  have a3 : ((s.size : Int) - (c : Int)).toNat = s.size - c := by omega
  rw [a1, a2] at e2
  rw [a3]
  exact e2
/-- the chunks between cuts -/
def chF (s : ByteArray) : Int → List Int → List ByteArray
  | _, [] => []
  | b, x :: t => s.extract b.toNat x.toNat :: chF s x t
theorem chF_len (s : ByteArray) : ∀ (l : List Int) (b : Int), (chF s b l).length = l.length := by
  intro l
  induction l with
  | nil => intro b; rfl
  | cons x t ih => intro b; simp [chF, ih]
theorem chF_ev (s : ByteArray) (N : Int) (hN : N = s.size) (cuts : List Int) (hc : cuts.length ≤ 300) (rest : List Int) : ∀ (pre : List Int) (out : List ByteArray) (b : Int), cuts = pre ++ rest → 0 ≤ b → okc N b rest → out.length ≤ pre.length →
    Ev (fun k => spec_l9Chunks.l0 k s out b cuts cuts.length pre.length) (out ++ chF s b rest) ∧ Ev (fun k => impl_ChunksOf.l0 k s out b cuts cuts.length pre.length) (out ++ chF s b rest, true) := by
  induction rest with
  | nil =>
    intro pre out b he hb hr ho
    subst he
    refine ⟨Ev.end (fun k => ?_), Ev.end (fun k => ?_)⟩
    · rw [spec_l9Chunks.l0, if_neg (by simp)]; simp [chF]
    · rw [impl_ChunksOf.l0, if_neg (by simp)]; simp [chF]
  | cons x rest ih =>
    intro pre out b he hb hr ho
    obtain ⟨r1, r2, _, _, r3⟩ := hr
    have hl : cuts.length = pre.length + (rest.length + 1) := by rw [he]; simp
    obtain ⟨h1, h2⟩ := ih (pre ++ [x]) (out ++ [s.extract b.toNat x.toNat]) x (by simp [he]) (by omega) r3 (by simp; omega)
    have hx : rd cuts (pre.length : Int) = x := by rw [he]; simp [rd, List.getD_eq_getElem?_getD]
    have hw : wrap64 ((pre.length : Int) + 1) = ((pre.length + 1 : Nat) : Int) := by rw [wrap_id (by omega) (by omega)]; simp
    simp only [List.append_assoc, List.singleton_append, List.length_append, List.length_singleton] at h1 h2
    refine ⟨Ev.step (fun k => ?_) h1, Ev.step (fun k => ?_) h2⟩
    · rw [spec_l9Chunks.l0, if_pos (by omega), if_pos (by omega), if_pos (by omega), if_pos hb, hx, if_pos (by omega), if_pos (by omega), if_pos (by omega), hw]
    · rw [impl_ChunksOf.l0, if_pos (by omega), if_pos (by omega), if_pos (by omega), if_pos hb, hx, if_pos (by omega), if_pos (by omega), if_pos (by omega), hw]
theorem chunksT_ev (s : ByteArray) (hs : s.size ≤ 300) : Ev (fun k => spec_ChunksOf.f k s) (chF s 0 (cutsT s), true) ∧ Ev (fun k => impl_ChunksOf.f k s) (chF s 0 (cutsT s), true) := by
  obtain ⟨h1, h2⟩ := cutsT_ev s hs
  have ho := cutsT_ok s
  have hl := okc_len _ _ ho
  obtain ⟨c1, c2⟩ := chF_ev s s.size rfl (cutsT s) (by omega) (cutsT s) [] [] 0 rfl (by omega) ho (by simp)
  refine ⟨?_, ?_⟩
  · unfold spec_ChunksOf.f spec_l9Chunks.f; exact Ev.neg (by omega) (Ev.bind (Ev.bind h1 c1) (Ev.now _))
  · unfold impl_ChunksOf.f impl_isText.f; exact Ev.cbind rfl (Ev.pos (by simp; omega) (Ev.bind h2 c2))
theorem sumS_le (s : ByteArray) (N : Int) (hN : N = s.size) : ∀ (l : List Int) (b : Int), 0 ≤ b → okc N b l → (((chF s b l).map (fun t => t.data.toList)).flatten) = s.data.toList.drop b.toNat := by
  intro l
  induction l with
  | nil =>
    intro b hb h
    simp only [okc] at h
    simp only [chF, List.map_nil, List.flatten_nil]
    have hz : s.data.toList.length = s.size := by rw [Array.length_toList]; rfl
    exact (List.drop_eq_nil_iff.2 (by omega)).symm
  | cons x t ih =>
    intro b hb h
    obtain ⟨h1, h2, _, _, h5⟩ := h
    have e := ih x (by omega) h5
    simp only [chF, List.map_cons, List.flatten_cons, e]
    rw [ByteArray.data_extract, Array.toList_extract, List.extract_eq_take_drop]
    have hx : x.toNat = b.toNat + (x.toNat - b.toNat) := by omega
    rw [hx, ← List.drop_drop, Nat.add_sub_cancel_left, List.take_append_drop]

theorem join_flat (L : List (List UInt8)) : Lib.join L [] = L.flatten := by
  induction L with
  | nil => rfl
  | cons a t ih =>
    cases t with
    | nil => simp [Lib.join]
    | cons b u => simp [Lib.join] at ih ⊢; simpa [Lib.join] using ih

theorem joinT (s : ByteArray) (hs : s.size ≤ 300) : impl_JoinChunks.f (chF s 0 (cutsT s)) = some (s, true) := by
  have hl := okc_len _ _ (cutsT_ok s)
  have hn := chF_len s (cutsT s) 0
  have hc : strings_Join.cat (chF s 0 (cutsT s)) ⟨#[]⟩ = s.data.toList := by
    unfold strings_Join.cat
    rw [show ((⟨#[]⟩ : ByteArray).data.toList) = [] from rfl, join_flat, sumS_le s s.size rfl (cutsT s) 0 (by omega) (cutsT_ok s)]
    rfl
  have hz : s.data.toList.length = s.size := by rw [Array.length_toList]; rfl
  unfold impl_JoinChunks.f
  rw [if_neg (by omega)]
  unfold strings_Join.f
  rw [hc, if_pos (by omega), if_pos (by omega), Option.bind_some]
  have e : (⟨s.data.toList.toArray⟩ : ByteArray) = s := by simp
  rw [e]
  simp only [impl_isText.f, Option.bind_some]
  rw [if_pos (by simp; omega)]

theorem l9Top_ev : Ev (fun k => spec_l9Top.f k) 2841 :=
  Ev.of (fun k => spec_l9Top.mono k) (k := 5) (by decide +kernel)
theorem tmod_pos {x : Int} (h : 0 ≤ x) : Int.tmod x 8191 = x % 8191 := Int.tmod_eq_emod_of_nonneg h
theorem tmod_neg {x : Int} (h : x < 0) : Int.tmod x 8191 = - ((- x) % 8191) := by
  have := Int.neg_tmod (-x) 8191
  rw [Int.neg_neg] at this
  rw [this, Int.tmod_eq_emod_of_nonneg (by omega)]
theorem roll_rest (a0 a1 : Int) (h0 : 0 ≤ a0 ∧ a0 ≤ 8190) (h1 : 0 ≤ a1 ∧ a1 ≤ 255) :
    Int.tmod (wrap64 ((wrap64 (a0 + 2096896)) - (wrap64 (a1 * 2841)))) 8191 = (a0 + 2096896 - a1 * 2841) % 8191 ∧
    Int.tmod (wrap64 ((Int.tmod (wrap64 (a0 - (wrap64 (a1 * 2841)))) 8191) + 8191)) 8191 = (a0 + 2096896 - a1 * 2841) % 8191 := by
  have e1 : wrap64 (a0 + 2096896) = a0 + 2096896 := wrap_id (by omega) (by omega)
  have e2 : wrap64 (a1 * 2841) = a1 * 2841 := wrap_id (by omega) (by omega)
  rw [e1, e2, wrap_id (x := a0 + 2096896 - a1 * 2841) (by omega) (by omega), wrap_id (x := a0 - a1 * 2841) (by omega) (by omega)]
  refine ⟨tmod_pos (by omega), ?_⟩
  by_cases hn : a0 - a1 * 2841 < 0
  · rw [tmod_neg hn, wrap_id (x := -(-(a0 - a1 * 2841) % 8191) + 8191) (by omega) (by omega), tmod_pos (by omega)]
    omega
  · rw [tmod_pos (x := a0 - a1 * 2841) (by omega), wrap_id (x := (a0 - a1 * 2841) % 8191 + 8191) (by omega) (by omega), tmod_pos (by omega)]
    omega

theorem rollS (a0 a1 a2 : Int) : Ev (fun k => spec_RollOn.f k a0 a1 a2) (if (0 ≤ a0 ∧ a0 ≤ 8190) ∧ (0 ≤ a1 ∧ a1 ≤ 255) ∧ (0 ≤ a2 ∧ a2 ≤ 255) then (Int.tmod (wrap64 ((wrap64 (((a0 + 2096896 - a1 * 2841) % 8191) * 257)) + a2)) 8191, true) else (0, false)) := by
  simp only [spec_RollOn.f, l1In_eq, l1Gf_eq, Option.bind_some, decide_eq_true_eq]
  by_cases h0 : 0 ≤ a0 ∧ a0 ≤ 8190
  · by_cases h1 : 0 ≤ a1 ∧ a1 ≤ 255
    · by_cases h2 : 0 ≤ a2 ∧ a2 ≤ 255
      · rw [if_pos ⟨h0, h1, h2⟩]
        refine Ev.pos h0 (Ev.pos h1 (Ev.pos h2 (Ev.bind l9Top_ev ?_)))
        rw [(roll_rest a0 a1 h0 h1).1]; exact Ev.now _
      · rw [if_neg (fun h => h2 h.2.2)]; exact Ev.pos h0 (Ev.pos h1 (Ev.neg h2 (Ev.now _)))
    · rw [if_neg (fun h => h1 h.2.1)]; exact Ev.pos h0 (Ev.neg h1 (Ev.now _))
  · rw [if_neg (fun h => h0 h.1)]; exact Ev.neg h0 (Ev.now _)
theorem rollI (a0 a1 a2 : Int) : impl_RollOn.f a0 a1 a2 = some (if (0 ≤ a0 ∧ a0 ≤ 8190) ∧ (0 ≤ a1 ∧ a1 ≤ 255) ∧ (0 ≤ a2 ∧ a2 ≤ 255) then (Int.tmod (wrap64 ((wrap64 (((a0 + 2096896 - a1 * 2841) % 8191) * 257)) + a2)) 8191, true) else (0, false)) := by
  simp only [impl_RollOn.f, within_eq, isGf_eq, Option.bind_some, decide_eq_true_eq]
  by_cases h0 : 0 ≤ a0 ∧ a0 ≤ 8190
  · by_cases h1 : 0 ≤ a1 ∧ a1 ≤ 255
    · by_cases h2 : 0 ≤ a2 ∧ a2 ≤ 255
      · rw [if_pos h0, if_pos h1, if_pos h2, if_pos ⟨h0, h1, h2⟩, (roll_rest a0 a1 h0 h1).2]
      · rw [if_pos h0, if_pos h1, if_neg h2, if_neg (fun h => h2 h.2.2)]
    · rw [if_pos h0, if_neg h1, if_neg (fun h => h1 h.2.1)]
  · rw [if_neg h0, if_neg (fun h => h0 h.1)]

theorem stepT (x y : Int) (x0 : 0 ≤ x) (x1 : x ≤ 8190) (y0 : 0 ≤ y) (y1 : y ≤ 255) : Int.tmod (wrap64 ((wrap64 (x * 257)) + (wrap64 y))) 8191 = (x * 257 + y) % 8191 := by
  rw [wrap_id (x := x * 257) (by omega) (by omega), wrap_id (x := y) (by omega) (by omega), wrap_id (x := x * 257 + y) (by omega) (by omega)]
  exact Int.tmod_eq_emod_of_nonneg (by omega)
theorem fing4 (w : ByteArray) (hw : w.size = 4) : fing w = ((((bt w 0 % 8191) * 257 + bt w 1) % 8191 * 257 + bt w 2) % 8191 * 257 + bt w 3) % 8191 := by
  have r0 := bt_range w 0
  have r1 := bt_range w 1
  have r2 := bt_range w 2
  have r3 := bt_range w 3
  unfold fing
  rw [hw]
  simp only [fgo, Int.zero_add, Int.reduceAdd]
  rw [stepT 0 (bt w 0) (by omega) (by omega) r0.1 r0.2]
  rw [stepT _ (bt w 1) (by omega) (by omega) r1.1 r1.2]
  rw [stepT _ (bt w 2) (by omega) (by omega) r2.1 r2.2]
  rw [stepT _ (bt w 3) (by omega) (by omega) r3.1 r3.2]
  simp only [Int.zero_mul, Int.zero_add]
theorem bt_tail (w : ByteArray) (y : List Int) (i : Nat) (hi : i + 1 < w.size) : bt (w.extract 1 w.size ++ strOfNums y) (i : Int) = bt w ((i + 1 : Nat) : Int) := by
  have h1 : i < (w.extract 1 w.size).size := by rw [ByteArray.size_extract]; omega
  have h2 : i < (w.extract 1 w.size ++ strOfNums y).size := by rw [ByteArray.size_append]; omega
  unfold bt
  rw [dif_pos (by simpa using h2), dif_pos (by simpa using hi)]
  simp only [Int.toNat_natCast]
  rw [ByteArray.getElem_append_left h1, ByteArray.getElem_extract]
  congr 3; omega
theorem bt_last (w : ByteArray) (hw : w.size = 4) (x : Int) (x0 : 0 ≤ x) (x1 : x ≤ 255) : bt (w.extract 1 w.size ++ strOfNums [x % 256]) 3 = x := by
  have h1 : (w.extract 1 w.size).size = 3 := by rw [ByteArray.size_extract]; omega
  have h2 : (w.extract 1 w.size ++ strOfNums [x % 256]).size = 4 := by rw [ByteArray.size_append, strOfNums_size]; simp; omega
  have hx : x % 256 = x := by omega
  have h0 := bt_at (w.extract 1 w.size ++ strOfNums [x % 256]) 3 (by rw [h2]; decide)
  rw [← h0]
  have h3 : (3 : Int).toNat = (w.extract 1 w.size).size + 0 := by rw [h1]; rfl
  have e0 : ∀ (j : Nat) (hj : j < (strOfNums [x % 256]).size), j = 0 → (((strOfNums [x % 256])[j]'hj).toNat : Int) = x := by
    intro j hj h
    subst h
    show ((UInt8.ofNat (x % 256).toNat).toNat : Int) = x
    rw [hx, UInt8.toNat_ofNat']
    omega
  simp only [h3]
  rw [ByteArray.getElem_append_right (by omega)]
  exact e0 _ _ (by omega)
theorem roll4 (a b c d x : Int) (ha : 0 ≤ a ∧ a ≤ 255) (hb : 0 ≤ b ∧ b ≤ 255) (hc : 0 ≤ c ∧ c ≤ 255) (hd : 0 ≤ d ∧ d ≤ 255) :
    ((((((a % 8191) * 257 + b) % 8191 * 257 + c) % 8191 * 257 + d) % 8191) + 2096896 - a * 2841) % 8191 = (((b % 8191) * 257 + c) % 8191 * 257 + d) % 8191 := by
  have e1 : a % 8191 = a := by omega
  have e2 : b % 8191 = b := by omega
  rw [e1, e2]
  omega
theorem nextT (w : ByteArray) (hw : w.size = 4) (x : Int) (x0 : 0 ≤ x) (x1 : x ≤ 255) :
    (w.extract 1 w.size ++ strOfNums [x % 256]).size = 4 ∧ impl_RollOn.f (fing w) (wrap64 (bt w 0)) x = some (fing (w.extract 1 w.size ++ strOfNums [x % 256]), true) := by
  have h2 : (w.extract 1 w.size ++ strOfNums [x % 256]).size = 4 := by rw [ByteArray.size_append, strOfNums_size, ByteArray.size_extract]; simp; omega
  have r0 := bt_range w 0
  have r1 := bt_range w 1
  have r2 := bt_range w 2
  have r3 := bt_range w 3
  refine ⟨h2, ?_⟩
  rw [fing4 _ h2, wrap_id (x := bt w 0) (by omega) (by omega)]
  have b0 := bt_tail w [x % 256] 0 (by omega)
  have b1 := bt_tail w [x % 256] 1 (by omega)
  have b2 := bt_tail w [x % 256] 2 (by omega)
  have b3 := bt_last w hw x x0 x1
  simp only [Nat.reduceAdd, Int.ofNat_eq_natCast, Int.natCast_zero, Int.reduceNeg] at b0 b1 b2
  have c0 : bt (w.extract 1 w.size ++ strOfNums [x % 256]) 0 = bt w 1 := b0
  have c1 : bt (w.extract 1 w.size ++ strOfNums [x % 256]) 1 = bt w 2 := b1
  have c2 : bt (w.extract 1 w.size ++ strOfNums [x % 256]) 2 = bt w 3 := b2
  rw [c0, c1, c2, b3]
  have hf := fing4 w hw
  have hfr : 0 ≤ fing w ∧ fing w ≤ 8190 := by rw [hf]; omega
  rw [rollI, if_pos ⟨hfr, r0, ⟨x0, x1⟩⟩, hf, roll4 _ _ _ _ x r0 r1 r2 r3]
  rw [wrap_id (x := _ * 257) (by omega) (by omega), wrap_id (x := _ * 257 + x) (by omega) (by omega)]
  rw [Int.tmod_eq_emod_of_nonneg (by omega)]

theorem long9_loop {c : List Int} (h : Code c) (d : Nat) : ∀ (x : ByteArray) (n a s : Int), n = d → x.size + 20 * d ≤ 1000 → 0 ≤ a → a + 2 * d ≤ 100000 → ∃ t a' s', Ev (fun k => spec_l1Cur_long9.l0 k x n c a s) (t, a', s') := by
  induction d with
  | zero =>
    intro x n a s hn hx h0 h1
    obtain ⟨b, a2, s2, e, g1, g2⟩ := one_ok h a s 20 h0 (by omega)
    by_cases q : b = true
    · obtain ⟨y, a3, s3, e3, y0, y1, _, _⟩ := pick_ok h a2 s2 3 (by omega) (by omega)
      have hw : wrap64 (299 + y) = 299 + y := wrap_id (by omega) (by omega)
      refine ⟨strOfNums (List.replicate (299 + y).toNat 0), a3, s3, Ev.end (fun k => ?_)⟩
      rw [spec_l1Cur_long9.l0, if_neg (by omega), e, Option.bind_some]
      simp only [q, if_true, e3, Option.bind_some, hw]
      rw [if_pos (by omega), if_pos (by omega)]
    · refine ⟨x, a2, s2, Ev.end (fun k => ?_)⟩
      rw [spec_l1Cur_long9.l0, if_neg (by omega), e, Option.bind_some]
      exact if_neg q
  | succ d ih =>
    intro x n a s hn hx h0 h1
    have hw : wrap64 (n - 1) = n - 1 := wrap_id (by omega) (by omega)
    obtain ⟨t, a2, s2, e, hm, g1, g2⟩ := of_ok h a s [(⟨#[97, 32, 98, 108, 111, 99, 107, 32, 111, 102, 32, 98, 121, 116, 101, 115, 32]⟩ : ByteArray), (⟨#[120, 121, 122]⟩ : ByteArray), (⟨#[48, 49, 50, 51, 52, 53, 54, 55, 56, 57]⟩ : ByteArray), (⟨#[0, 0, 0, 0]⟩ : ByteArray), (⟨#[116, 104, 101, 32, 115, 97, 109, 101, 32, 119, 111, 114, 100, 115, 32]⟩ : ByteArray), (⟨#[113]⟩ : ByteArray)] (by simp) h0 (by omega)
    have hz : t.size ≤ 17 := by
      simp only [List.mem_cons, List.not_mem_nil, or_false] at hm
      rcases hm with rfl | rfl | rfl | rfl | rfl | rfl <;> decide
    obtain ⟨r, a3, s3, e3⟩ := ih (x ++ t) (n - 1) a2 s2 (by omega) (by rw [ByteArray.size_append]; omega) (by omega) (by omega)
    refine ⟨r, a3, s3, Ev.step (fun k => ?_) e3⟩
    rw [spec_l1Cur_long9.l0, if_pos (by omega), e, Option.bind_some]
    simp only [hw]
    rw [if_pos (by omega)]
theorem drawCuts_ev {c : List Int} (h : Code c) : ∃ t, Ev (fun k => spec_DrawCutsOf.f k c) t := by
  obtain ⟨x, a, s, e, x0, x1, g1, g2⟩ := pick_ok h 0 0 10 (by omega) (by omega)
  obtain ⟨d, rfl⟩ := Int.eq_ofNat_of_zero_le x0
  obtain ⟨t, a', s', e2⟩ := long9_loop h d ⟨#[]⟩ d a s rfl (by show 0 + 20 * d ≤ 1000; omega) (by omega) (by omega)
  refine ⟨t, ?_⟩
  unfold spec_DrawCutsOf.f spec_l1Cur_long9.f
  exact Ev.bind (Ev.cbind e e2) (Ev.now _)
theorem drawRoll_ok {c : List Int} (h : Code c) : ∃ x y z, spec_DrawRollOn.f c = some (x, y, z) := by
  obtain ⟨x, a, s, e, _, g1, g2⟩ := among_ok h 0 0 [(-1), 0, 1, 77, 8190, 8191, 4000] (by simp) (by omega) (by omega)
  obtain ⟨y, a2, s2, e2, g3, g4⟩ := gf_ok h a s (by omega) (by omega)
  obtain ⟨z, a3, s3, e3, g5, g6⟩ := gf_ok h a2 s2 (by omega) (by omega)
  unfold spec_DrawRollOn.f
  simp only [e, Option.bind_some, e2, e3]
  exact ⟨_, _, _, rfl⟩
theorem drawFinger_ok {c : List Int} (h : Code c) : ∃ w : ByteArray, spec_DrawFingerOf.f c = some w ∧ w.size ≤ 4 := by
  obtain ⟨t, a, s, e, hm, _, _⟩ := of_ok h 0 0 [(⟨#[97, 98, 99, 100]⟩ : ByteArray), (⟨#[255, 255, 255, 255]⟩ : ByteArray), (⟨#[0, 0, 0, 1]⟩ : ByteArray), (⟨#[97, 98, 99]⟩ : ByteArray), (⟨#[48, 49, 50, 51]⟩ : ByteArray)] (by simp) (by omega) (by omega)
  unfold spec_DrawFingerOf.f
  simp only [e, Option.bind_some]
  refine ⟨t, rfl, ?_⟩
  simp only [List.mem_cons, List.not_mem_nil, or_false] at hm
  rcases hm with rfl | rfl | rfl | rfl | rfl <;> decide
theorem fingerOf_ev (w : ByteArray) (hw : w.size ≤ 4) : Ev (fun k => spec_FingerOf.f k w) (if w.size = 4 then (fing w, true) else (0, false)) ∧ Ev (fun k => impl_FingerOf.f k w) (if w.size = 4 then (fing w, true) else (0, false)) := by
  obtain ⟨f1, f2⟩ := fing_ev w (by omega)
  unfold spec_FingerOf.f impl_FingerOf.f
  by_cases c : w.size = 4
  · rw [if_pos c]; exact ⟨Ev.pos (by omega) (Ev.bind f1 (Ev.now _)), Ev.pos (by omega) (Ev.bind f2 (Ev.now _))⟩
  · rw [if_neg c]; exact ⟨Ev.neg (by omega) (Ev.now _), Ev.neg (by omega) (Ev.now _)⟩
theorem tail_ev (l0 l1 : List Int) (h0 : Code l0) (h1 : Code l1) (hl : l0.length ≤ 1048576) : Ev (fun k => laws_FnChunks.j5 k l0 l1) true := by
  obtain ⟨x, y, z, e1⟩ := drawRoll_ok h1
  obtain ⟨w, e2, hw⟩ := drawFinger_ok h1
  obtain ⟨f1, f2⟩ := fingerOf_ev w hw
  refine Ev.succ ?_
  simp only [laws_FnChunks.j5]
  refine Ev.cbind e1 (Ev.cbind (rollI x y z) (Ev.bind (rollS x y z) (Ev.cbind e2 (Ev.bind f2 (Ev.bind f1 (Ev.neg (by simp) (Ev.pos rfl (Ev.neg (by simp) (Ev.succ ?_)))))))))
  simp only [laws_FnChunks.j6]
  refine Ev.neg (by simp) ?_
  by_cases c : w.size = 4
  · rw [if_pos c]
    obtain ⟨n, en, n0, n1⟩ := numberOf_ev l0 h0 (by omega)
    have t := tmod_range (x := n) (n := 256) n0 (by omega)
    obtain ⟨z1, z2⟩ := nextT w c (Int.tmod n 256) t.1 (by omega)
    obtain ⟨_, g2⟩ := fingerOf_ev (w.extract 1 w.size ++ strOfNums [Int.tmod n 256 % 256]) (by omega)
    rw [if_pos z1] at g2
    refine Ev.pos rfl (Ev.bind en (Ev.pos (by omega) (Ev.cbind rfl (Ev.pos ?_ (Ev.bind g2 (Ev.pos (by omega) (Ev.cbind z2 (Ev.pos rfl (Ev.pos rfl ?_)))))))))
    · rw [ByteArray.size_append] at z1; omega
    · simp only [beq_self_eq_true]; exact Ev.now _
  · rw [if_neg c]
    exact Ev.neg (by simp) (Ev.now _)
def chk : List ByteArray → Prop
  | [] => True
  | t :: u => t.size ≤ 20 ∧ (t.size < 4 → u = []) ∧ chk u
theorem chF_chk (s : ByteArray) (N : Int) (hN : N = s.size) : ∀ (l : List Int) (b : Int), 0 ≤ b → okc N b l → chk (chF s b l) := by
  intro l
  induction l with
  | nil => intro b _ _; trivial
  | cons x t ih =>
    intro b hb h
    obtain ⟨h1, h2, h3, h4, h5⟩ := h
    have hz : (s.extract b.toNat x.toNat).size = x.toNat - b.toNat := by rw [ByteArray.size_extract]; omega
    refine ⟨by rw [hz]; omega, fun q => ?_, ih x (by omega) h5⟩
    have hx := h4 (by omega)
    cases t with
    | nil => rfl
    | cons y u => obtain ⟨g1, g2, _⟩ := h5; omega
theorem okc_mem {N : Int} : ∀ (l : List Int) (b : Int), okc N b l → ∀ x ∈ l, b < x ∧ x ≤ N := by
  intro l
  induction l with
  | nil => intro b _ x hx; cases hx
  | cons y t ih =>
    intro b h x hx
    obtain ⟨h1, h2, _, _, h5⟩ := h
    rcases List.mem_cons.1 hx with rfl | hx
    · exact ⟨h1, h2⟩
    · have := ih y h5 x hx; omega
theorem rest_ev (l0 l1 : List Int) (h0 : Code l0) (h1 : Code l1) (hl : l0.length ≤ 1048576) (cuts : List Int) (hc : ∀ x ∈ cuts, 0 < x ∧ x ≤ 300) (n : Nat) (x : Int) (pre t : List Int) (hcut : cuts = pre ++ x :: t) (hn : pre.length = n) (hlen : cuts.length ≤ 300) (rest : List Int) :
    ∀ pre2 : List Int, t = pre2 ++ rest → Ev (fun k => laws_FnChunks.l1 k l0 l1 cuts n (t.map (fun y : Int => y - x)) (t.map (fun y : Int => y - x)).length (pre2.length : Int)) true := by
  induction rest with
  | nil => intro pre2 h; exact Ev.step (fun k => by rw [laws_FnChunks.l1, if_neg (by rw [h]; simp)]) (tail_ev l0 l1 h0 h1 hl)
  | cons y u ih =>
    intro pre2 h
    have e := ih (pre2 ++ [y]) (by rw [h]; simp)
    simp only [List.length_append, List.length_singleton] at e
    have hlt : t.length = pre2.length + (u.length + 1) := by rw [h]; simp
    have hlc : cuts.length = pre.length + (t.length + 1) := by rw [hcut]; simp
    have hw : wrap64 ((pre2.length : Int) + 1) = ((pre2.length + 1 : Nat) : Int) := by rw [wrap_id (by omega) (by omega)]; simp
    have w1 : wrap64 ((n : Int) + 1) = n + 1 := wrap_id (by omega) (by omega)
    have w2 : wrap64 ((n : Int) + 1 + pre2.length) = n + 1 + pre2.length := wrap_id (by omega) (by omega)
    have r1 : rd (t.map (fun y : Int => y - x)) (pre2.length : Int) = y - x := by rw [h]; simp [rd, List.getD_eq_getElem?_getD]
    have r2 : rd cuts (n : Int) = x := by rw [hcut, ← hn]; simp [rd, List.getD_eq_getElem?_getD]
    have r3 : rd cuts ((n : Int) + 1 + pre2.length) = y := by
      have ez : ((n : Int) + 1 + pre2.length).toNat = pre.length + (pre2.length + 1) := by omega
      unfold rd
      rw [ez, hcut, h, List.getD_eq_getElem?_getD, List.getElem?_append_right (by omega)]
      simp
    have my := hc y (by rw [hcut, h]; simp)
    have mx := hc x (by rw [hcut]; simp)
    refine Ev.step (fun k => ?_) e
    rw [laws_FnChunks.l1, if_pos (by rw [List.length_map]; omega), if_pos (by omega), if_pos (by rw [List.length_map]; omega), if_pos (by omega), if_pos (by omega), w1, w2, if_pos (by omega), if_pos (by omega), r1, r2, r3, wrap_id (by omega) (by omega), if_pos (by omega), hw]
theorem chunks_ev (l0 l1 : List Int) (h0 : Code l0) (h1 : Code l1) (hl : l0.length ≤ 1048576) (hl1 : l1.length ≤ 1048576) (s : ByteArray) (hs : s.size ≤ 300) (L : List ByteArray) (hL : L.length ≤ 300) (rest : List ByteArray) : ∀ pre : List ByteArray, L = pre ++ rest → chk rest →
    Ev (fun k => laws_FnChunks.l0 k l0 l1 s (cutsT s) L L L.length (pre.length : Int)) true := by
  induction rest with
  | nil =>
    intro pre h _
    have ok := cutsT_ok s
    have hm := okc_mem _ _ ok
    have hlen := okc_len _ _ ok
    by_cases c : 0 < (cutsT s).length
    · obtain ⟨n, en, n0, n1⟩ := numberOf_ev l1 h1 (by omega)
      have t := tmod_range (x := n) (n := ((cutsT s).length : Int)) n0 (by omega)
      obtain ⟨j, hj⟩ := Int.eq_ofNat_of_zero_le t.1
      have hjl : j < (cutsT s).length := by omega
      have hsplit : cutsT s = (cutsT s).take j ++ (cutsT s)[j] :: (cutsT s).drop (j + 1) := by
        rw [List.getElem_cons_drop, List.take_append_drop]
      have hpl : ((cutsT s).take j).length = j := by rw [List.length_take]; omega
      have mx := hm _ (List.getElem_mem hjl)
      have r2 : rd (cutsT s) (j : Int) = (cutsT s)[j] := by simp [rd, List.getD_eq_getElem?_getD, hjl]
      have hr := cutsT_rest s _ _ _ hsplit (by omega) mx.2
      have hz : (s.extract ((cutsT s)[j]).toNat s.size).size ≤ 300 := by rw [ByteArray.size_extract]; omega
      obtain ⟨_, c2⟩ := cutsT_ev (s.extract ((cutsT s)[j]).toNat s.size) hz
      have hI : Ev (fun k => impl_CutsOf.f k (s.extract ((cutsT s)[j]).toNat s.size)) (cutsT (s.extract ((cutsT s)[j]).toNat s.size), true) := by
        unfold impl_CutsOf.f impl_isText.f; exact Ev.cbind rfl (Ev.pos (by simp; omega) (Ev.bind c2 (Ev.now _)))
      rw [hr] at hI
      have e := rest_ev l0 l1 h0 h1 hl (cutsT s) (fun x hx => by have := hm x hx; omega) j _ _ _ hsplit hpl (by omega) _ [] rfl
      have hdl : ((cutsT s).drop (j + 1)).length = (cutsT s).length - (j + 1) := by rw [List.length_drop]
      have w1 : wrap64 (((cutsT s).length : Int) - j) = (cutsT s).length - j := wrap_id (by omega) (by omega)
      have w2 : wrap64 (((cutsT s).length : Int) - j - 1) = (cutsT s).length - j - 1 := wrap_id (by omega) (by omega)
      refine Ev.step (f := fun k => (laws_numberOf.f k l1).bind fun t264 => (if ((cutsT s).length : Int) = 0 then (none) else (if 0 ≤ (Int.tmod t264 ((cutsT s).length : Int)) then (if (Int.tmod t264 ((cutsT s).length : Int)) < ((cutsT s).length : Int) then (if 0 ≤ (rd (cutsT s) (Int.tmod t264 ((cutsT s).length : Int))) then (if (rd (cutsT s) (Int.tmod t264 ((cutsT s).length : Int))) ≤ (s.size : Int) then ((impl_CutsOf.f k (s.extract ((rd (cutsT s) (Int.tmod t264 ((cutsT s).length : Int))) : Int).toNat s.size)).bind fun bt266 => (if bt266.2 = true then (laws_FnChunks.j3 k l0 l1 (cutsT s) (Int.tmod t264 ((cutsT s).length : Int)) bt266.1 ((bt266.1.length : Int) != (wrap64 ((wrap64 (((cutsT s).length : Int) - (Int.tmod t264 ((cutsT s).length : Int)))) - 1)))) else (laws_FnChunks.j3 k l0 l1 (cutsT s) (Int.tmod t264 ((cutsT s).length : Int)) bt266.1 true))) else (none)) else (none)) else (none)) else (none)))) (fun k => ?_) (Ev.bind en ?_)
      · rw [laws_FnChunks.l0, if_neg (by rw [h]; simp), if_pos (by omega)]
      · rw [hj]
        refine Ev.neg (by omega) (Ev.pos (by omega) (Ev.pos (by omega) ?_))
        rw [r2]
        refine Ev.pos (by omega) (Ev.pos mx.2 (Ev.bind hI (Ev.pos rfl ?_)))
        rw [w1, w2]
        have eb : (((((cutsT s).drop (j + 1)).map (fun y : Int => y - (cutsT s)[j])).length : Int) != ((cutsT s).length : Int) - j - 1) = false := by rw [List.length_map, hdl]; simp; omega
        refine Ev.step (fun k => ?_) e
        rw [laws_FnChunks.j3]
        rw [if_neg (by simp only [Bool.not_eq_true]; exact eb)]
        rfl
    · exact Ev.step (fun k => by rw [laws_FnChunks.l0, if_neg (by rw [h]; simp), if_neg (by omega)]) (tail_ev l0 l1 h0 h1 hl)
  | cons a u ih =>
    intro pre h hk
    obtain ⟨k1, k2, k3⟩ := hk
    have e := ih (pre ++ [a]) (by rw [h]; simp) k3
    simp only [List.length_append, List.length_singleton] at e
    have hlen : L.length = pre.length + (u.length + 1) := by rw [h]; simp
    have hw : wrap64 ((pre.length : Int) + 1) = ((pre.length + 1 : Nat) : Int) := by rw [wrap_id (by omega) (by omega)]; simp
    have hx : rdOf ByteArray.empty L (pre.length : Int) = a := by rw [h]; simp [rdOf, List.getD_eq_getElem?_getD]
    by_cases c : (a.size : Int) < 4
    · have hu := k2 (by omega)
      have w1 : wrap64 ((L.length : Int) - 1) = L.length - 1 := wrap_id (by omega) (by omega)
      refine Ev.step (fun k => ?_) e
      rw [laws_FnChunks.l0, if_pos (by omega), if_pos (by omega), if_pos (by omega), hx, if_neg (by omega), if_pos c, w1, if_neg (by rw [hlen, hu]; simp), hw]
    · refine Ev.step (fun k => ?_) e
      rw [laws_FnChunks.l0, if_pos (by omega), if_pos (by omega), if_pos (by omega), hx, if_neg (by omega), if_neg c, hw]
theorem FnChunks : laws_FnChunks.Pure := by
  intro l0 l1 m0 _ q0 m1 _ q1
  refine Ev.rounds (g := fun k => laws_FnChunks.f k l0 l1) (r := true) ?_
  have h0 := code_of q0
  have h1 := code_of q1
  unfold laws_FnChunks.f
  have hw : wrap64 ((l0.length : Int) + (l1.length : Int)) = l0.length + l1.length := wrap_id (by omega) (by unfold maxLen at m0 m1; omega)
  rw [hw]
  by_cases hb : (l0.length : Int) + (l1.length : Int) > 1048576
  · exact Ev.pos hb (Ev.now _)
  refine Ev.neg hb ?_
  obtain ⟨s, es⟩ := drawCuts_ev h0
  refine Ev.bind es ?_
  by_cases hz : s.size ≤ 300
  · obtain ⟨c1, c2⟩ := cutsT_ev s hz
    have hS : Ev (fun k => spec_CutsOf.f k s) (cutsT s, true) := by unfold spec_CutsOf.f; exact Ev.neg (by omega) (Ev.bind c1 (Ev.now _))
    have hI : Ev (fun k => impl_CutsOf.f k s) (cutsT s, true) := by unfold impl_CutsOf.f impl_isText.f; exact Ev.cbind rfl (Ev.pos (by simp; omega) (Ev.bind c2 (Ev.now _)))
    obtain ⟨g1, g2⟩ := chunksT_ev s hz
    have hlen := okc_len _ _ (cutsT_ok s)
    have hcl := chF_len s (cutsT s) 0
    have i1 := sameInts_same (cutsT s) (by omega)
    have i2 := sameTexts_same (chF s 0 (cutsT s)) (by omega)
    have e := chunks_ev l0 l1 h0 h1 (by omega) (by omega) s hz (chF s 0 (cutsT s)) (by omega) (chF s 0 (cutsT s)) [] rfl (chF_chk s s.size rfl (cutsT s) 0 (by omega) (cutsT_ok s))
    refine Ev.bind hI (Ev.bind hS (Ev.bind g2 (Ev.bind g1 (Ev.neg (by simp) (Ev.bind i1 (Ev.pos rfl (Ev.neg (by simp) (Ev.bind i2 (Ev.pos rfl (Ev.succ ?_))))))))))
    simp only [laws_FnChunks.j0]
    refine Ev.neg (by simp) (Ev.pos (by trivial) (Ev.cbind (joinT s hz) (Ev.pos rfl (Ev.pos rfl (Ev.succ ?_)))))
    simp only [laws_FnChunks.j1]
    refine Ev.neg (by rw [hcl]; simp) ?_
    exact e
  · have hS : Ev (fun k => spec_CutsOf.f k s) ([], false) := by unfold spec_CutsOf.f; exact Ev.pos (by omega) (Ev.now _)
    have hI : Ev (fun k => impl_CutsOf.f k s) ([], false) := by unfold impl_CutsOf.f impl_isText.f; exact Ev.cbind rfl (Ev.neg (by simp; omega) (Ev.now _))
    have g1 : Ev (fun k => spec_ChunksOf.f k s) ([], false) := by unfold spec_ChunksOf.f; exact Ev.pos (by omega) (Ev.now _)
    have g2 : Ev (fun k => impl_ChunksOf.f k s) ([], false) := by unfold impl_ChunksOf.f impl_isText.f; exact Ev.cbind rfl (Ev.neg (by simp; omega) (Ev.now _))
    have i1 := sameInts_same [] (by simp)
    have i2 := sameTexts_same [] (by simp)
    refine Ev.bind hI (Ev.bind hS (Ev.bind g2 (Ev.bind g1 (Ev.neg (by simp) (Ev.bind i1 (Ev.pos rfl (Ev.neg (by simp) (Ev.bind i2 (Ev.pos rfl (Ev.succ ?_))))))))))
    simp only [laws_FnChunks.j0]
    exact Ev.neg (by simp) (Ev.neg (by simp) (tail_ev l0 l1 h0 h1 (by omega)))

end Go.Proofs.Ytlmnlmcahhegkaa.Pure
