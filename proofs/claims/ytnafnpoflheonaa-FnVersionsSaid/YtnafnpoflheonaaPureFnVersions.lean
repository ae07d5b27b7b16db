/- A version that is changed makes a new one in both pools alike, and all that were stay as they were: the law answers true for all bytes. -/
import Derived.Test.YtnafnpoflheonaaPFnVersionsx13
set_option maxRecDepth 100000
set_option linter.unusedVariables false
set_option linter.unusedSimpArgs false
namespace Go.Proofs.Ytnafnpoflheonaa.Pure
open Go.Proofs.Ytnafnpoflheonaa Go.RowKit Go.Proofs.Ytnafnpoflheonaa.PFnVersions Go.Proofs.YtnafnpoflheonaaW.PrintWords Go.Proofs.YtnafnpoflheonaaW.PrintLast

theorem wrap_id {x : Int} (h0 : -9223372036854775808 ≤ x) (h1 : x < 9223372036854775808) : wrap64 x = x := by
  unfold wrap64; omega
theorem Ev.pos {α : Type} {c : Prop} [Decidable c] {g f : Nat → Option α} {r : α} (h : c) (k : Ev g r) : Ev (fun n => if c then g n else f n) r := by
  simpa only [if_pos h] using k
theorem Ev.neg {α : Type} {c : Prop} [Decidable c] {g f : Nat → Option α} {r : α} (h : ¬ c) (k : Ev f r) : Ev (fun n => if c then g n else f n) r := by
  simpa only [if_neg h] using k
theorem Ev.val {α : Type} {x : Option α} {r : α} (h : x = some r) : Ev (fun _ => x) r := by
  rw [h]; exact Ev.now r
theorem Ev.end {α : Type} {g : Nat → Option α} {r : α} (h : ∀ k, g (k + 1) = some r) : Ev g r := Ev.step (f := fun _ => some r) h (Ev.now r)
theorem Ev.cbind {α β : Type} {x : Option α} {f : Nat → α → Option β} {a : α} {r : β} (h : x = some a) (k : Ev (fun n => f n a) r) : Ev (fun n => x.bind (f n)) r := by
  subst h; exact k
theorem Ev.uniq {α : Type} {g : Nat → Option α} {r q : α} (h : Ev g r) (k : Ev g q) : r = q := by
  obtain ⟨K, h⟩ := h
  obtain ⟨L, k⟩ := k
  have h1 := h (max K L) (by omega)
  have h2 := k (max K L) (by omega)
  rw [h1] at h2
  exact Option.some.inj h2
theorem Ev.succ {α : Type} {g : Nat → Option α} {r : α} (h : Ev (fun k => g (k + 1)) r) : Ev g r := Ev.step (fun _ => rfl) h

theorem within_eq (a b c : Int) : impl_within.f a b c = some (decide (b ≤ a ∧ a ≤ c)) := by
  by_cases h : b ≤ a <;> simp [impl_within.f, h]

theorem l1In_eq (a b c : Int) : spec_l1In.f a b c = some (decide (b ≤ a ∧ a ≤ c)) := by
  by_cases h : b ≤ a <;> simp [spec_l1In.f, h]

/-- the bytes that choices are read from -/
def Code (c : List Int) : Prop := ∀ x ∈ c, 0 ≤ x ∧ x ≤ 255
theorem code_of {c : List Int} (h : ∀ x ∈ c, (Lit.int .u8 x).wf = true) : Code c := fun x hx => Go.bounds_u8 (h x hx)
theorem wrap_u64_range (n : Int) : 0 ≤ IntKind.u64.wrap n ∧ IntKind.u64.wrap n < 18446744073709551616 := by
  have : IntKind.u64.wrap n = n % 18446744073709551616 := by simp [IntKind.wrap, IntKind.bits, IntKind.signed]
  rw [this]; omega
theorem and255 (x : Int) (h0 : 0 ≤ x) (h1 : x < 18446744073709551616) : 0 ≤ Go.bits .and .u64 x 255 ∧ Go.bits .and .u64 x 255 ≤ 255 := by
  have hw : ∀ n : Int, 0 ≤ n → n < 2 ^ 64 → IntKind.u64.wrap n = n := by
    intro n a b
    have : IntKind.u64.wrap n = n % 18446744073709551616 := by simp [IntKind.wrap, IntKind.bits, IntKind.signed]
    rw [this]; omega
  have e := Go.bits_mask .u64 64 (by decide) hw 8 (by decide) x h0 (by omega)
  have e2 : ((2 : Int) ^ 8 - 1) = 255 := by decide
  rw [e2] at e
  rw [e]; omega
theorem rd_code {c : List Int} (h : Code c) (i : Int) : 0 ≤ rd c i ∧ rd c i ≤ 255 := by
  unfold rd
  rw [List.getD_eq_getElem?_getD]
  by_cases q : i.toNat < c.length
  · rw [List.getElem?_eq_getElem q]; exact h _ (List.getElem_mem q)
  · rw [List.getElem?_eq_none (by omega)]; exact ⟨by decide, by decide⟩
theorem next_ok {c : List Int} (h : Code c) (a s : Int) (a0 : 0 ≤ a) (a1 : a ≤ 1000000000000000) : ∃ x s', spec_l1Cur_next.f c a s = some (x, a + 1, s') ∧ 0 ≤ x ∧ x ≤ 255 := by
  have hw : wrap64 (a + 1) = a + 1 := wrap_id (by omega) (by omega)
  have hb : ∀ n : Int, 0 ≤ wrap64 (Go.bits .and .u64 (IntKind.u64.wrap n / 1099511627776) 255) ∧ wrap64 (Go.bits .and .u64 (IntKind.u64.wrap n / 1099511627776) 255) ≤ 255 := by
    intro n
    have r := wrap_u64_range n
    have b := and255 (IntKind.u64.wrap n / 1099511627776) (by omega) (by omega)
    rw [wrap_id (by omega) (by omega)]; exact b
  have hr : 0 ≤ wrap64 (rd c a) ∧ wrap64 (rd c a) ≤ 255 := by
    have r := rd_code h a
    rw [wrap_id (by omega) (by omega)]; exact r
  unfold spec_l1Cur_next.f
  rw [hw]
  by_cases c1 : a < (c.length : Int)
  · rw [if_pos c1, if_pos a0]
    by_cases c2 : a + 1 ≤ (c.length : Int)
    · rw [if_pos c2]; exact ⟨_, _, rfl, hr.1, hr.2⟩
    · rw [if_neg c2]; exact ⟨_, _, rfl, (hb _).1, (hb _).2⟩
  · rw [if_neg c1]
    by_cases c2 : a + 1 ≤ (c.length : Int)
    · rw [if_pos c2]; exact ⟨_, _, rfl, by omega, by omega⟩
    · rw [if_neg c2]; exact ⟨_, _, rfl, (hb _).1, (hb _).2⟩
theorem tmod_range {x n : Int} (h : 0 ≤ x) (hn : 0 < n) : 0 ≤ Int.tmod x n ∧ Int.tmod x n < n := by
  rw [Int.tmod_eq_emod_of_nonneg h]
  exact ⟨Int.emod_nonneg _ (by omega), Int.emod_lt_of_pos _ hn⟩
theorem pick_ok {c : List Int} (h : Code c) (a s n : Int) (a0 : 0 ≤ a) (a1 : a ≤ 999999999999999) : ∃ x a' s', spec_l1Cur_pick.f c a s n = some (x, a', s') ∧ 0 ≤ x ∧ (x < n ∨ (n ≤ 1 ∧ x = 0)) ∧ a ≤ a' ∧ a' ≤ a + 2 := by
  unfold spec_l1Cur_pick.f
  by_cases c1 : n ≤ 1
  · rw [if_pos c1]; exact ⟨0, a, s, rfl, by omega, .inr ⟨c1, rfl⟩, by omega, by omega⟩
  · rw [if_neg c1]
    obtain ⟨x, s', e, x0, x1⟩ := next_ok h a s a0 (by omega)
    simp only [e, Option.bind_some]
    by_cases c2 : n > 200
    · rw [if_pos c2]
      obtain ⟨y, s2, e2, y0, y1⟩ := next_ok h (a + 1) s' (by omega) (by omega)
      simp only [e2, Option.bind_some]
      rw [if_neg (by omega)]
      have w1 : wrap64 (x * 256) = x * 256 := wrap_id (by omega) (by omega)
      have w2 : wrap64 (x * 256 + y) = x * 256 + y := wrap_id (by omega) (by omega)
      rw [w1, w2]
      have t := tmod_range (x := x * 256 + y) (n := n) (by omega) (by omega)
      exact ⟨_, _, _, rfl, t.1, .inl t.2, by omega, by omega⟩
    · rw [if_neg c2, if_neg (by omega)]
      have t := tmod_range (x := x) (n := n) (by omega) (by omega)
      exact ⟨_, _, _, rfl, t.1, .inl t.2, by omega, by omega⟩
theorem one_ok {c : List Int} (h : Code c) (a s n : Int) (a0 : 0 ≤ a) (a1 : a ≤ 999999999999999) : ∃ b a' s', spec_l1Cur_one.f c a s n = some (b, a', s') ∧ a ≤ a' ∧ a' ≤ a + 2 := by
  obtain ⟨x, a', s', e, _, _, h1, h2⟩ := pick_ok h a s n a0 a1
  unfold spec_l1Cur_one.f
  rw [e, Option.bind_some]
  exact ⟨_, _, _, rfl, h1, h2⟩
theorem among_ok {c : List Int} (h : Code c) (a s : Int) (l : List Int) (hl : l ≠ []) (a0 : 0 ≤ a) (a1 : a ≤ 999999999999999) : ∃ t a' s', spec_l1Cur_among.f c a s l = some (t, a', s') ∧ t ∈ l ∧ a ≤ a' ∧ a' ≤ a + 2 := by
  have hp : 0 < l.length := by cases l with
    | nil => exact absurd rfl hl
    | cons _ _ => simp
  obtain ⟨x, a', s', e, x0, x1, h1, h2⟩ := pick_ok h a s (l.length : Int) a0 a1
  have x2 : x < (l.length : Int) := by omega
  unfold spec_l1Cur_among.f
  rw [e, Option.bind_some]
  simp only
  rw [if_pos x0, if_pos x2]
  refine ⟨_, _, _, rfl, ?_, h1, h2⟩
  have q : x.toNat < l.length := by omega
  unfold rd
  rw [List.getD_eq_getElem?_getD, List.getElem?_eq_getElem q]
  exact List.getElem_mem q
theorem sameInts_loop (l : List Int) (hl : l.length ≤ 4611686018427387904) (d : Nat) : ∀ i : Int, 0 ≤ i → i ≤ l.length → (l.length : Int) - i = d → Ev (fun k => laws_sameInts.l0 k l l l.length i) true := by
  induction d with
  | zero => intro i h0 h1 hd; exact Ev.end (fun k => by rw [laws_sameInts.l0, if_neg (by omega)])
  | succ d ih =>
    intro i h0 h1 hd
    refine Ev.step (fun k => ?_) (ih (i + 1) (by omega) (by omega) (by omega))
    have hw := wrap_id (x := i + 1) (by omega) (by omega)
    rw [laws_sameInts.l0, if_pos (by omega), if_pos h0, if_pos (by omega), if_pos (by omega), if_pos rfl, hw]
theorem sameInts_same (l : List Int) (hl : l.length ≤ 4611686018427387904) : Ev (fun k => laws_sameInts.f k l l) true := by
  unfold laws_sameInts.f; exact Ev.pos (by trivial) (sameInts_loop l hl l.length 0 (by omega) (by omega) (by omega))

theorem rd65 (x : List S65) (i : Nat) (a : S65) (h : x[i]? = some a) : rd_T65 x (i : Int) = a := by
  simp [rd_T65, List.getD_eq_getElem?_getD, h]

def kidB (bs : List S65) (i : Int) (leaf : Bool) (kid : Int) : Bool :=
  if leaf then decide (0 ≤ kid ∧ kid ≤ 9999) else decide (kid = -1) || (decide (0 ≤ kid ∧ kid < i) && (rd_T65 bs kid).f1)
def brB (bs : List S65) : List S65 → Int → Bool
  | [], _ => true
  | b :: t, i => b.f0.all (kidB bs i b.f1) && decide (b.f0.length = 4) && brB bs t (i + 1)
def verB (bs : List S65) (v : Int) : Bool := decide (v = -1) || (decide (0 ≤ v ∧ v < bs.length) && !(rd_T65 bs v).f1)
def goodP (bs : List S65) (vs : List Int) : Bool := brB bs bs 0 && vs.all (verB bs) && decide (bs.length ≤ 200) && decide (vs.length ≤ 40)
theorem isKid_eq (bs : List S65) (vs : List Int) (i kid : Int) (h0 : 0 ≤ i) (h1 : i < bs.length) (hl : bs.length ≤ 1048576) : impl_isKid.f bs vs i kid = some (kidB bs i (rd_T65 bs i).f1 kid) := by
  have e : wrap64 (i - 1) = i - 1 := wrap_id (by omega) (by omega)
  unfold impl_isKid.f kidB
  rw [if_pos h0, if_pos h1]
  cases hf : (rd_T65 bs i).f1 with
  | true => simp [within_eq]
  | false =>
    simp only [Bool.false_eq_true, if_false]
    by_cases c : kid = -1
    · simp [c]
    · rw [if_neg c, e]
      simp only [within_eq, Option.bind_some, decide_eq_true_eq]
      by_cases d : 0 ≤ kid ∧ kid < i
      · rw [if_pos (by omega), if_pos d.1, if_pos (by omega)]
        simp [c, d]
      · rw [if_neg (by omega)]
        simp [c, d]
theorem ver_eq (bs : List S65) (v : Int) (hl : bs.length ≤ 1048576) : impl_GoodPool.ver bs v = some (!verB bs v) := by
  have e : wrap64 ((bs.length : Int) - 1) = bs.length - 1 := wrap_id (by omega) (by omega)
  unfold impl_GoodPool.ver verB
  by_cases c : v = -1
  · simp [c]
  · rw [if_neg c, e]
    simp only [within_eq, Option.bind_some, decide_eq_true_eq]
    by_cases d : 0 ≤ v ∧ v < bs.length
    · rw [if_pos (by omega), if_pos d.1, if_pos d.2]
      simp [c, d]
    · rw [if_neg (by omega)]
      simp [c, d]
theorem br_eq (bs : List S65) (vs : List Int) (hl : bs.length ≤ 1048576) (rest : List S65) : ∀ pre : List S65, bs = pre ++ rest → impl_GoodPool.br bs vs rest pre.length = some (brB bs rest pre.length) := by
  induction rest with
  | nil => intro pre h; rfl
  | cons b t ih =>
    intro pre h
    have hb : rd_T65 bs (pre.length : Int) = b := rd65 bs pre.length b (by rw [h]; simp)
    have ha : Op.anyO (fun kid => (impl_isKid.f bs vs pre.length kid).map (fun z => !z)) b.f0 = some (b.f0.any (fun kid => !kidB bs pre.length b.f1 kid)) := by
      refine Op.anyO_total (fun x _ => ?_)
      rw [isKid_eq bs vs _ _ (by omega) (by rw [h]; simp; omega) hl, hb]; rfl
    have hn := ih (pre ++ [b]) (by rw [h]; simp)
    simp only [List.length_append, List.length_singleton] at hn
    unfold impl_GoodPool.br brB
    rw [ha]
    by_cases c : b.f0.length = 4
    · rw [if_pos (by omega)]
      simp only [Option.bind_some]
      by_cases d : b.f0.all (kidB bs pre.length b.f1) = true
      · have : b.f0.any (fun kid => !kidB bs pre.length b.f1 kid) = false := by rw [← Bool.not_eq_true]; simpa using d
        rw [this, d]
        simpa [c] using hn
      · have : b.f0.any (fun kid => !kidB bs pre.length b.f1 kid) = true := by simpa using d
        rw [this]
        simp only [Bool.not_eq_true] at d
        simp [d]
    · rw [if_neg (by omega)]
      simp [c]
theorem goodPool_impl (bs : List S65) (vs : List Int) (hl : bs.length ≤ 1048576) : impl_GoodPool.f bs vs = some (goodP bs vs) := by
  unfold impl_GoodPool.f goodP
  by_cases c1 : bs.length ≤ 200
  · rw [if_neg (by omega)]
    by_cases c2 : vs.length ≤ 40
    · rw [if_neg (by omega)]
      have h := br_eq bs vs hl bs [] rfl
      simp only [List.length_nil, Int.natCast_zero] at h
      rw [h]
      simp only [Option.bind_some]
      cases hb : brB bs bs 0 with
      | false => simp
      | true =>
        simp only [if_true]
        rw [Op.anyO_total (q := fun v => !verB bs v) (fun x _ => ver_eq bs x hl)]
        simp [c1, c2, List.any_eq_not_all_not]
    · rw [if_pos (by omega)]; simp [c2]
  · rw [if_pos (by omega)]; simp [c1]
theorem sGP2 (bs : List S65) (vs : List Int) (hl : bs.length ≤ 1048576) (hv : vs.length ≤ 1048576) (rest : List Int) : ∀ pre : List Int, vs = pre ++ rest →
    Ev (fun k => spec_GoodPool.l2 k vs vs.length pre.length bs vs) (rest.all (verB bs) && decide (bs.length ≤ 200) && decide (vs.length ≤ 40)) := by
  induction rest with
  | nil =>
    intro pre h
    refine Ev.end (fun k => ?_)
    rw [spec_GoodPool.l2, if_neg (by rw [h]; simp)]
    by_cases c : bs.length ≤ 200
    · rw [if_pos (by omega)]; simp [c]; omega
    · rw [if_neg (by omega)]; simp [c]
  | cons v t ih =>
    intro pre h
    have hr : rd vs (pre.length : Int) = v := by rw [h]; simp [rd, List.getD_eq_getElem?_getD]
    have hlen : vs.length = pre.length + (t.length + 1) := by rw [h]; simp
    have hw : wrap64 ((pre.length : Int) + 1) = ((pre.length + 1 : Nat) : Int) := by rw [wrap_id (by omega) (by omega)]; simp
    have hn := ih (pre ++ [v]) (by rw [h]; simp)
    simp only [List.length_append, List.length_singleton] at hn
    simp only [List.all_cons]
    by_cases c : v = -1
    · have e : verB bs v = true := by simp [verB, c]
      rw [e, Bool.true_and]
      exact Ev.step (fun k => by rw [spec_GoodPool.l2, if_pos (by omega), if_pos (by omega), if_pos (by omega), hr, if_pos c, hw]) hn
    · by_cases d : 0 ≤ v ∧ v < bs.length
      · cases f : (rd_T65 bs v).f1 with
        | true =>
          have e : verB bs v = false := by simp [verB, c, f]
          rw [e, Bool.false_and, Bool.false_and, Bool.false_and]
          exact Ev.end (fun k => by rw [spec_GoodPool.l2, if_pos (by omega), if_pos (by omega), if_pos (by omega), hr, if_neg c, if_neg (by omega), if_neg (by omega), if_pos d.1, if_pos d.2, if_pos f])
        | false =>
          have e : verB bs v = true := by simp [verB, d, f]
          rw [e, Bool.true_and]
          exact Ev.step (fun k => by rw [spec_GoodPool.l2, if_pos (by omega), if_pos (by omega), if_pos (by omega), hr, if_neg c, if_neg (by omega), if_neg (by omega), if_pos d.1, if_pos d.2, if_neg (by simp [f]), hw]) hn
      · have e : verB bs v = false := by simp only [verB, c, d, decide_false, Bool.false_or, Bool.false_and]
        rw [e, Bool.false_and, Bool.false_and, Bool.false_and]
        by_cases g : v < 0
        · exact Ev.end (fun k => by rw [spec_GoodPool.l2, if_pos (by omega), if_pos (by omega), if_pos (by omega), hr, if_neg c, if_pos g])
        · exact Ev.end (fun k => by rw [spec_GoodPool.l2, if_pos (by omega), if_pos (by omega), if_pos (by omega), hr, if_neg c, if_neg g, if_pos (by omega)])
theorem sGP1 (bs : List S65) (vs : List Int) (hl : bs.length ≤ 1048576) (i : Int) (h0 : 0 ≤ i) (h1 : i < bs.length) (ks : List Int) (leaf : Bool) (hk : ks.length ≤ 1048576) (r : Bool) (hnext : Ev (fun k => spec_GoodPool.l0 k bs bs.length (i + 1) bs vs) r) (rest : List Int) :
    ∀ pre : List Int, ks = pre ++ rest → Ev (fun k => spec_GoodPool.l1 k i bs bs.length i ks ks.length pre.length bs vs ks leaf) (rest.all (kidB bs i leaf) && decide (ks.length = 4) && r) := by
  have hwi : wrap64 (i + 1) = i + 1 := wrap_id (by omega) (by omega)
  induction rest with
  | nil =>
    intro pre h
    by_cases c : ks.length = 4
    · simp only [c, List.all_nil, decide_true, Bool.true_and]
      exact Ev.step (fun k => by rw [spec_GoodPool.l1, if_neg (by rw [← c, h]; simp), if_pos (by omega), hwi]) hnext
    · have e : (List.all [] (kidB bs i leaf) && decide (ks.length = 4) && r) = false := by simp [c]
      rw [e]
      exact Ev.end (fun k => by rw [spec_GoodPool.l1, if_neg (by rw [h]; simp), if_neg (by omega)])
  | cons v t ih =>
    intro pre h
    have hr : rd ks (pre.length : Int) = v := by rw [h]; simp [rd, List.getD_eq_getElem?_getD]
    have hlen : ks.length = pre.length + (t.length + 1) := by rw [h]; simp
    have hw : wrap64 ((pre.length : Int) + 1) = ((pre.length + 1 : Nat) : Int) := by rw [wrap_id (by omega) (by omega)]; simp
    have hn := ih (pre ++ [v]) (by rw [h]; simp)
    simp only [List.length_append, List.length_singleton] at hn
    simp only [List.all_cons]
    have go : ∀ b : Bool, kidB bs i leaf v = b → (b = true → Ev (fun k => spec_GoodPool.l1 k i bs bs.length i ks ks.length pre.length bs vs ks leaf) (t.all (kidB bs i leaf) && decide (ks.length = 4) && r)) → (b = false → Ev (fun k => spec_GoodPool.l1 k i bs bs.length i ks ks.length pre.length bs vs ks leaf) false) →
        Ev (fun k => spec_GoodPool.l1 k i bs bs.length i ks ks.length pre.length bs vs ks leaf) (kidB bs i leaf v && t.all (kidB bs i leaf) && decide (ks.length = 4) && r) := by
      intro b hb ht hf
      rw [hb]
      cases b with
      | true => simpa using ht rfl
      | false => simpa using hf rfl
    refine go _ rfl (fun hb => ?_) (fun hb => ?_)
    · cases leaf with
      | true =>
        have hv : 0 ≤ v ∧ v ≤ 9999 := by simpa [kidB] using hb
        exact Ev.step (fun k => by rw [spec_GoodPool.l1, if_pos (by omega), if_pos (by omega), if_pos (by omega), if_pos rfl, hr, l1In_eq]; simp only [Option.bind_some]; rw [if_pos (by simpa using hv), hw]) hn
      | false =>
        by_cases c : v = -1
        · exact Ev.step (fun k => by rw [spec_GoodPool.l1, if_pos (by omega), if_pos (by omega), if_pos (by omega), if_neg (by simp), hr, if_pos c, hw]) hn
        · have hv : (0 ≤ v ∧ v < i) ∧ (rd_T65 bs v).f1 = true := by simpa [kidB, c] using hb
          exact Ev.step (fun k => by rw [spec_GoodPool.l1, if_pos (by omega), if_pos (by omega), if_pos (by omega), if_neg (by simp), hr, if_neg c, if_neg (by omega), if_neg (by omega), if_pos hv.1.1, if_pos (by omega), if_pos hv.2, hw]) hn
    · cases leaf with
      | true =>
        have hv : ¬ (0 ≤ v ∧ v ≤ 9999) := by simpa [kidB] using hb
        exact Ev.end (fun k => by rw [spec_GoodPool.l1, if_pos (by omega), if_pos (by omega), if_pos (by omega), if_pos rfl, hr, l1In_eq]; simp only [Option.bind_some]; rw [if_neg (by simpa using hv)])
      | false =>
        have hb' : v ≠ -1 ∧ ((0 ≤ v ∧ v < i) → (rd_T65 bs v).f1 = false) := by simpa [kidB] using hb
        by_cases g : v < 0
        · exact Ev.end (fun k => by rw [spec_GoodPool.l1, if_pos (by omega), if_pos (by omega), if_pos (by omega), if_neg (by simp), hr, if_neg hb'.1, if_pos g])
        · by_cases g2 : v ≥ i
          · exact Ev.end (fun k => by rw [spec_GoodPool.l1, if_pos (by omega), if_pos (by omega), if_pos (by omega), if_neg (by simp), hr, if_neg hb'.1, if_neg g, if_pos g2])
          · have hf := hb'.2 ⟨by omega, by omega⟩
            exact Ev.end (fun k => by rw [spec_GoodPool.l1, if_pos (by omega), if_pos (by omega), if_pos (by omega), if_neg (by simp), hr, if_neg hb'.1, if_neg g, if_neg g2, if_pos (by omega), if_pos (by omega), if_neg (by simp [hf])])
theorem sGP0 (bs : List S65) (vs : List Int) (hl : bs.length ≤ 1048576) (hv : vs.length ≤ 1048576) (hk : ∀ a ∈ bs, a.f0.length ≤ 1048576) (rest : List S65) : ∀ pre : List S65, bs = pre ++ rest →
    Ev (fun k => spec_GoodPool.l0 k bs bs.length pre.length bs vs) (brB bs rest pre.length && (vs.all (verB bs) && decide (bs.length ≤ 200) && decide (vs.length ≤ 40))) := by
  induction rest with
  | nil =>
    intro pre h
    have h2 := sGP2 bs vs hl hv vs [] rfl
    simp only [brB, Bool.true_and]
    exact Ev.step (fun k => by rw [spec_GoodPool.l0, if_neg (by rw [h]; simp)]; rfl) h2
  | cons b t ih =>
    intro pre h
    have hlen : bs.length = pre.length + (t.length + 1) := by rw [h]; simp
    have hb : rd_T65 bs (pre.length : Int) = b := rd65 bs pre.length b (by rw [h]; simp)
    have hn := ih (pre ++ [b]) (by rw [h]; simp)
    simp only [List.length_append, List.length_singleton] at hn
    have h1 := sGP1 bs vs hl pre.length (by omega) (by omega) b.f0 b.f1 (hk b (by rw [h]; simp)) _ (by simpa using hn) b.f0 [] rfl
    have h3 := Ev.step (g := fun k => spec_GoodPool.l0 k bs bs.length pre.length bs vs) (fun k => by rw [spec_GoodPool.l0, if_pos (by omega), if_pos (by omega), if_pos (by omega), hb]; rfl) h1
    simpa [brB, Bool.and_assoc] using h3
theorem goodPool_spec (bs : List S65) (vs : List Int) (hl : bs.length ≤ 1048576) (hv : vs.length ≤ 1048576) (hk : ∀ a ∈ bs, a.f0.length ≤ 1048576) : Ev (fun k => spec_GoodPool.f k bs vs) (goodP bs vs) := by
  have h := sGP0 bs vs hl hv hk bs [] rfl
  unfold spec_GoodPool.f goodP
  simpa [Bool.and_assoc] using h

theorem brB_at (bs : List S65) (rest : List S65) : ∀ pre : List S65, bs = pre ++ rest → brB bs rest pre.length = true → ∀ i : Int, pre.length ≤ i → i < bs.length →
    (rd_T65 bs i).f0.length = 4 ∧ ∀ j : Int, 0 ≤ j → j < 4 → kidB bs i (rd_T65 bs i).f1 (rd (rd_T65 bs i).f0 j) = true := by
  induction rest with
  | nil => intro pre h hb i h0 h1; rw [h] at h1; simp at h1; omega
  | cons b t ih =>
    intro pre h hb i h0 h1
    have hr : rd_T65 bs (pre.length : Int) = b := rd65 bs pre.length b (by rw [h]; simp)
    simp only [brB, Bool.and_eq_true, decide_eq_true_eq] at hb
    obtain ⟨⟨hb1, hb2⟩, hb3⟩ := hb
    by_cases e : i = pre.length
    · subst e
      rw [hr]
      refine ⟨hb2, fun j j0 j1 => List.all_eq_true.1 hb1 _ ?_⟩
      have hj : j.toNat < b.f0.length := by omega
      simp [rd, List.getD_eq_getElem?_getD, hj]
    · exact ih (pre ++ [b]) (by rw [h]; simp) (by simpa using hb3) i (by simp; omega) h1
structure GP (bs : List S65) (vs : List Int) : Prop where
  nb : bs.length ≤ 200
  nv : vs.length ≤ 40
  four : ∀ i : Int, 0 ≤ i → i < bs.length → (rd_T65 bs i).f0.length = 4
  kid : ∀ i : Int, 0 ≤ i → i < bs.length → ∀ j : Int, 0 ≤ j → j < 4 → kidB bs i (rd_T65 bs i).f1 (rd (rd_T65 bs i).f0 j) = true
  ver : ∀ i : Int, 0 ≤ i → i < vs.length → verB bs (rd vs i) = true
theorem goodP_GP {bs : List S65} {vs : List Int} (h : goodP bs vs = true) : GP bs vs := by
  simp only [goodP, Bool.and_eq_true, decide_eq_true_eq] at h
  obtain ⟨⟨⟨h1, h2⟩, h3⟩, h4⟩ := h
  refine ⟨h3, h4, fun i i0 i1 => (brB_at bs bs [] rfl h1 i (by simpa using i0) i1).1, fun i i0 i1 => (brB_at bs bs [] rfl h1 i (by simpa using i0) i1).2, fun i i0 i1 => List.all_eq_true.1 h2 _ ?_⟩
  have hi : i.toNat < vs.length := by omega
  simp [rd, List.getD_eq_getElem?_getD, hi]
/-- a version's leaf for a key, and its value -/
def leafP (bs : List S65) (vs : List Int) (v key : Int) : Int := if rd vs v < 0 then -1 else rd (rd_T65 bs (rd vs v)).f0 (key / 4)
def getP (bs : List S65) (vs : List Int) (v key : Int) : Int := if leafP bs vs v key < 0 then 0 else rd (rd_T65 bs (leafP bs vs v key)).f0 (key % 4)
theorem key_div (key : Int) (h0 : 0 ≤ key) (h1 : key ≤ 15) : wrap64 (Int.tdiv key 4) = key / 4 ∧ Int.tmod key 4 = key % 4 := by
  rw [Int.tdiv_eq_ediv_of_nonneg h0, Int.tmod_eq_emod_of_nonneg h0]
  exact ⟨wrap_id (by omega) (by omega), rfl⟩
theorem leaf_ok {bs : List S65} {vs : List Int} (G : GP bs vs) (v key : Int) (v0 : 0 ≤ v) (v1 : v < vs.length) (k0 : 0 ≤ key) (k1 : key ≤ 15) :
    (0 ≤ rd vs v → rd vs v < bs.length ∧ (rd_T65 bs (rd vs v)).f0.length = 4) ∧ (0 ≤ leafP bs vs v key → leafP bs vs v key < bs.length ∧ (rd_T65 bs (leafP bs vs v key)).f0.length = 4) := by
  have hv := G.ver v v0 v1
  have a : 0 ≤ rd vs v → rd vs v < bs.length ∧ (rd_T65 bs (rd vs v)).f1 = false := by
    intro h
    have : rd vs v ≠ -1 := by omega
    simp only [verB, this, decide_false, Bool.false_or, Bool.and_eq_true, decide_eq_true_eq, Bool.not_eq_true'] at hv
    exact ⟨hv.1.2, hv.2⟩
  refine ⟨fun h => ⟨(a h).1, G.four _ h (a h).1⟩, fun h => ?_⟩
  unfold leafP at h ⊢
  by_cases c : rd vs v < 0
  · rw [if_pos c] at h; omega
  · rw [if_neg c] at h ⊢
    have ha := a (by omega)
    have hk := G.kid (rd vs v) (by omega) ha.1 (key / 4) (by omega) (by omega)
    have hne : rd (rd_T65 bs (rd vs v)).f0 (key / 4) ≠ -1 := by omega
    simp only [kidB, ha.2, Bool.false_eq_true, if_false, hne, decide_false, Bool.false_or, Bool.and_eq_true, decide_eq_true_eq] at hk
    have hlt : rd (rd_T65 bs (rd vs v)).f0 (key / 4) < bs.length := by omega
    exact ⟨hlt, G.four _ h hlt⟩
theorem l11Leaf_eq {bs : List S65} {vs : List Int} (G : GP bs vs) (v key : Int) (v0 : 0 ≤ v) (v1 : v < vs.length) (k0 : 0 ≤ key) (k1 : key ≤ 15) : spec_l11Leaf.f bs vs v key = some (leafP bs vs v key) := by
  obtain ⟨a, b⟩ := leaf_ok G v key v0 v1 k0 k1
  obtain ⟨e1, e2⟩ := key_div key k0 k1
  unfold spec_l11Leaf.f leafP
  rw [if_pos v0, if_pos v1, e1]
  by_cases c : rd vs v < 0
  · rw [if_pos c, if_pos c]
  · obtain ⟨a1, a2⟩ := a (by omega)
    rw [if_neg c, if_neg c, if_pos (by omega), if_pos a1, if_pos (by omega), if_pos (by omega)]
theorem l11Get_eq {bs : List S65} {vs : List Int} (G : GP bs vs) (v key : Int) (v0 : 0 ≤ v) (v1 : v < vs.length) (k0 : 0 ≤ key) (k1 : key ≤ 15) : spec_l11Get.f bs vs v key = some (getP bs vs v key) := by
  obtain ⟨a, b⟩ := leaf_ok G v key v0 v1 k0 k1
  obtain ⟨e1, e2⟩ := key_div key k0 k1
  unfold spec_l11Get.f getP
  rw [l11Leaf_eq G v key v0 v1 k0 k1]
  simp only [Option.bind_some]
  by_cases c : leafP bs vs v key < 0
  · rw [if_pos c, if_pos c]
  · obtain ⟨b1, b2⟩ := b (by omega)
    rw [if_neg c, if_neg c, if_pos (by omega), if_pos b1, e2, if_pos (by omega), if_pos (by omega)]
theorem implGet_eq {bs : List S65} {vs : List Int} (G : GP bs vs) (v key : Int) (v0 : 0 ≤ v) (v1 : v < vs.length) (k0 : 0 ≤ key) (k1 : key ≤ 15) : impl_get.f bs vs v key = some (getP bs vs v key) := by
  obtain ⟨a, b⟩ := leaf_ok G v key v0 v1 k0 k1
  obtain ⟨e1, e2⟩ := key_div key k0 k1
  unfold impl_get.f getP
  rw [if_pos v0, if_pos v1, e1, e2]
  by_cases c : rd vs v < 0
  · have hl : leafP bs vs v key = -1 := by unfold leafP; rw [if_pos c]
    rw [if_pos c, hl, if_pos (by omega)]
  · obtain ⟨a1, a2⟩ := a (by omega)
    have hl : leafP bs vs v key = rd (rd_T65 bs (rd vs v)).f0 (key / 4) := by unfold leafP; rw [if_neg c]
    rw [if_neg c, if_pos (by omega), if_pos a1, if_pos (by omega), if_pos (by omega), ← hl]
    by_cases d : leafP bs vs v key < 0
    · rw [if_pos d, if_pos d]
    · obtain ⟨b1, b2⟩ := b (by omega)
      rw [if_neg d, if_neg d, if_pos (by omega), if_pos b1, if_pos (by omega), if_pos (by omega)]
theorem isVersion_eq (bs : List S65) (vs l : List Int) (hb : bs.length ≤ 1048576) (hv : vs.length ≤ 1048576) : impl_isVersion.f bs vs l = some (goodP bs vs && l.all (fun v => decide (0 ≤ v ∧ v < vs.length))) := by
  have e : wrap64 ((vs.length : Int) - 1) = vs.length - 1 := wrap_id (by omega) (by omega)
  unfold impl_isVersion.f
  rw [goodPool_impl bs vs hb]
  simp only [Option.bind_some]
  cases goodP bs vs with
  | false => simp
  | true =>
    have h : Op.anyO (impl_isVersion.ver vs.length) l = some (l.any (fun v => !decide (0 ≤ v ∧ v < vs.length))) := by
      refine Op.anyO_total (fun x _ => ?_)
      simp only [impl_isVersion.ver, within_eq, e, Option.bind_some]
      congr 2
      by_cases c : 0 ≤ x ∧ x < vs.length
      · rw [decide_eq_true c, decide_eq_true (by omega)]
      · rw [decide_eq_false c, decide_eq_false (by omega)]
    simp only [if_true, h, Option.map_some, Bool.true_and]
    congr 1
    rw [List.any_eq_not_all_not]
    simp
theorem l11There_eq (bs : List S65) (vs : List Int) (v : Int) (hl : bs.length ≤ 1048576) (hv : vs.length ≤ 1048576) (hk : ∀ a ∈ bs, a.f0.length ≤ 1048576) :
    Ev (fun k => spec_l11There.f k bs vs v) (goodP bs vs && decide (0 ≤ v ∧ v < vs.length)) := by
  unfold spec_l11There.f
  refine Ev.bind (goodPool_spec bs vs hl hv hk) ?_
  cases goodP bs vs with
  | false => exact Ev.neg (by simp) (Ev.now _)
  | true =>
    refine Ev.pos rfl ?_
    by_cases c : 0 ≤ v
    · simpa [c] using Ev.pos (g := fun _ => some (decide (v < (vs.length : Int)))) (f := fun _ => some false) (c := v ≥ 0) c (Ev.now _)
    · simpa [c] using Ev.neg (g := fun _ => some (decide (v < (vs.length : Int)))) (f := fun _ => some false) (c := v ≥ 0) c (Ev.now _)

theorem clone_eq (l : List Int) (h : l.length ≤ 1048576) : slices_Clone_int_int.f l = some l := by
  unfold slices_Clone_int_int.f
  rw [if_pos (by omega)]
theorem ownPool_loop (bs : List S65) (vs : List Int) (hl : bs.length ≤ 1048576) (hk : ∀ a ∈ bs, a.f0.length ≤ 1048576) (rest : List S65) : ∀ pre : List S65, bs = pre ++ rest → Ev (fun k => impl_ownPool.l0 k bs bs.length pre.length pre vs) (bs, vs) := by
  induction rest with
  | nil => intro pre h; exact Ev.end (fun k => by rw [impl_ownPool.l0, if_neg (by rw [h]; simp)]; rw [h]; simp)
  | cons b t ih =>
    intro pre h
    have hlen : bs.length = pre.length + (t.length + 1) := by rw [h]; simp
    have hb : rd_T65 bs (pre.length : Int) = b := rd65 bs pre.length b (by rw [h]; simp)
    have hw : wrap64 ((pre.length : Int) + 1) = ((pre.length + 1 : Nat) : Int) := by rw [wrap_id (by omega) (by omega)]; simp
    have e := ih (pre ++ [b]) (by rw [h]; simp)
    simp only [List.length_append, List.length_singleton] at e
    have hc := clone_eq b.f0 (hk b (by rw [h]; simp))
    exact Ev.step (fun k => by rw [impl_ownPool.l0, if_pos (by omega), if_pos (by omega), if_pos (by omega), hb, hc, Option.bind_some, if_pos (by omega), hw]) e
theorem ownPool_ev (bs : List S65) (vs : List Int) (hl : bs.length ≤ 1048576) (hk : ∀ a ∈ bs, a.f0.length ≤ 1048576) (h1 : vs.length ≤ 1048576) : Ev (fun k => impl_ownPool.f k bs vs) (bs, vs) := by
  unfold impl_ownPool.f
  have e := ownPool_loop bs vs hl hk bs [] rfl
  exact Ev.cbind (clone_eq vs h1) (by simpa using e)
theorem l11Own_loop (bs : List S65) (vs : List Int) (hl : bs.length ≤ 1048576) (hk : ∀ a ∈ bs, a.f0.length ≤ 1048576) (rest : List S65) : ∀ pre : List S65, bs = pre ++ rest → Ev (fun k => spec_l11Own.l0 k bs bs.length pre.length pre vs) (bs, vs) := by
  induction rest with
  | nil => intro pre h; exact Ev.end (fun k => by rw [spec_l11Own.l0, if_neg (by rw [h]; simp)]; rw [h]; simp)
  | cons b t ih =>
    intro pre h
    have hlen : bs.length = pre.length + (t.length + 1) := by rw [h]; simp
    have hb : rd_T65 bs (pre.length : Int) = b := rd65 bs pre.length b (by rw [h]; simp)
    have hw : wrap64 ((pre.length : Int) + 1) = ((pre.length + 1 : Nat) : Int) := by rw [wrap_id (by omega) (by omega)]; simp
    have e := ih (pre ++ [b]) (by rw [h]; simp)
    simp only [List.length_append, List.length_singleton] at e
    have hc := hk b (by rw [h]; simp)
    refine Ev.step (fun k => ?_) e
    rw [spec_l11Own.l0, if_pos (by omega), if_pos (by omega), if_pos (by omega), hb, Option.bind_some, if_pos (by simp; omega), if_pos (by omega), hw]
    rfl
theorem l11Own_ev (bs : List S65) (vs : List Int) (hl : bs.length ≤ 1048576) (hk : ∀ a ∈ bs, a.f0.length ≤ 1048576) (h1 : vs.length ≤ 1048576) : Ev (fun k => spec_l11Own.f k bs vs) (bs, vs) := by
  unfold spec_l11Own.f
  have e := l11Own_loop bs vs hl hk bs [] rfl
  refine Ev.cbind rfl (Ev.pos (by simp; omega) ?_)
  simpa using e

theorem putF_spec (bs : List S65) (vs : List Int) (a b c : Int) : Ev (fun k => spec_PutIn.j0 k a b c true bs vs) (([] : List S65), ([] : List Int), false) := Ev.end (fun k => by rw [spec_PutIn.j0, if_pos rfl])
theorem putF_impl (bs : List S65) (vs : List Int) (a b c : Int) : Ev (fun k => impl_PutIn.j0 k a b c true bs vs) (([] : List S65), ([] : List Int), false) := Ev.end (fun k => by rw [impl_PutIn.j0, if_pos rfl])
theorem rd4 (x y z u : Int) (i : Int) (h0 : 0 ≤ i) (h1 : i < 4) (e : x = y) (e2 : y = z) (e3 : z = u) : rd [x, y, z, u] i = x := by
  subst e e2 e3
  have : i = 0 ∨ i = 1 ∨ i = 2 ∨ i = 3 := by omega
  rcases this with rfl | rfl | rfl | rfl <;> rfl
/-- a version's top, as kids -/
def topP (bs : List S65) (vs : List Int) (v : Int) : List Int := if rd vs v ≥ 0 then (rd_T65 bs (rd vs v)).f0 else [-1, -1, -1, -1]
def valP (bs : List S65) (vs : List Int) (v key : Int) : List Int := if leafP bs vs v key ≥ 0 then (rd_T65 bs (leafP bs vs v key)).f0 else [0, 0, 0, 0]
def putB (bs : List S65) (vs : List Int) (v key x : Int) : List S65 := bs ++ [(⟨(valP bs vs v key).set (key % 4).toNat x, true⟩ : S65), (⟨(topP bs vs v).set (key / 4).toNat bs.length, false⟩ : S65)]
theorem topP_ok {bs : List S65} {vs : List Int} (G : GP bs vs) (v key : Int) (v0 : 0 ≤ v) (v1 : v < vs.length) (k0 : 0 ≤ key) (k1 : key ≤ 15) : (topP bs vs v).length = 4 ∧ rd (topP bs vs v) (key / 4) = leafP bs vs v key ∧ (valP bs vs v key).length = 4 := by
  obtain ⟨a, b⟩ := leaf_ok G v key v0 v1 k0 k1
  refine ⟨?_, ?_, ?_⟩
  · unfold topP; split
    · exact (a (by omega)).2
    · rfl
  · unfold topP leafP
    by_cases c : rd vs v < 0
    · rw [if_pos c, if_neg (by omega), rd4 _ _ _ _ _ (by omega) (by omega) rfl rfl rfl]
    · rw [if_neg c, if_pos (by omega)]
  · unfold valP; split
    · exact (b (by omega)).2
    · rfl
theorem put_spec {bs : List S65} {vs : List Int} (G : GP bs vs) (v key x : Int) (v0 : 0 ≤ v) (v1 : v < vs.length) (k0 : 0 ≤ key) (k1 : key ≤ 15) (hk : ∀ a ∈ bs, a.f0.length ≤ 1048576) : Ev (fun k => spec_PutIn.j0 k v key x false bs vs) (putB bs vs v key x, vs ++ [wrap64 (((putB bs vs v key x).length : Int) - 1)], true) := by
  have hnb := G.nb
  have hnv := G.nv
  obtain ⟨a, b⟩ := leaf_ok G v key v0 v1 k0 k1
  obtain ⟨t1, t2, t3⟩ := topP_ok G v key v0 v1 k0 k1
  obtain ⟨e1, e2⟩ := key_div key k0 k1
  have hj1 : Ev (fun k => spec_PutIn.j1 k v key x bs vs bs vs (valP bs vs v key) true) (putB bs vs v key x, vs ++ [wrap64 (((putB bs vs v key x).length : Int) - 1)], true) := by
    refine Ev.end (fun k => ?_)
    rw [spec_PutIn.j1, e1, e2, if_pos (by omega), if_pos (by omega)]
    simp only [Option.bind_some]
    rw [if_pos v0, if_pos v1]
    by_cases c : rd vs v ≥ 0
    · have ha := a c
      have ht : topP bs vs v = (rd_T65 bs (rd vs v)).f0 := by unfold topP; rw [if_pos c]
      rw [if_pos c, if_pos (by omega), if_pos ha.1, if_pos (by simp; omega), if_pos (by omega)]
      simp only [List.nil_append]
      rw [← ht, if_pos (by omega), if_pos (by omega), if_pos (by omega)]
      rfl
    · have ht : topP bs vs v = [-1, -1, -1, -1] := by unfold topP; rw [if_neg c]
      rw [if_neg c, if_pos (by omega), if_pos (by simp; omega), if_pos (by omega), if_pos (by omega), ← ht]
      rfl
  refine Ev.succ ?_
  simp only [spec_PutIn.j0]
  refine Ev.neg (by simp) (Ev.bind (l11Own_ev bs vs (by omega) hk (by omega)) (Ev.cbind (l11Leaf_eq G v key v0 v1 k0 k1) ?_))
  by_cases c : leafP bs vs v key ≥ 0
  · have hb := b c
    have hv : valP bs vs v key = (rd_T65 bs (leafP bs vs v key)).f0 := by unfold valP; rw [if_pos c]
    rw [hv] at hj1
    exact Ev.pos c (Ev.cbind rfl (Ev.pos (by omega) (Ev.pos hb.1 (Ev.pos (by simp; omega) (by simpa using hj1)))))
  · have hv : valP bs vs v key = [0, 0, 0, 0] := by unfold valP; rw [if_neg c]
    rw [hv] at hj1
    exact Ev.neg c hj1
theorem put_impl {bs : List S65} {vs : List Int} (G : GP bs vs) (v key x : Int) (v0 : 0 ≤ v) (v1 : v < vs.length) (k0 : 0 ≤ key) (k1 : key ≤ 15) (hk : ∀ a ∈ bs, a.f0.length ≤ 1048576) : Ev (fun k => impl_PutIn.j0 k v key x false bs vs) (putB bs vs v key x, vs ++ [wrap64 (((putB bs vs v key x).length : Int) - 1)], true) := by
  have hnb := G.nb
  have hnv := G.nv
  obtain ⟨a, b⟩ := leaf_ok G v key v0 v1 k0 k1
  obtain ⟨t1, t2, t3⟩ := topP_ok G v key v0 v1 k0 k1
  obtain ⟨e1, e2⟩ := key_div key k0 k1
  have hj1 : Ev (fun k => impl_PutIn.j1 k key x (topP bs vs v) [0, 0, 0, 0] bs vs bs vs) (putB bs vs v key x, vs ++ [wrap64 (((putB bs vs v key x).length : Int) - 1)], true) := by
    refine Ev.end (fun k => ?_)
    rw [impl_PutIn.j1, e1, e2, if_pos (by omega), if_pos (by omega), t2]
    by_cases c : leafP bs vs v key ≥ 0
    · have hb := b c
      have hv : valP bs vs v key = (rd_T65 bs (leafP bs vs v key)).f0 := by unfold valP; rw [if_pos c]
      rw [if_pos c, if_pos (by omega), if_pos hb.1, clone_eq _ (by omega)]
      simp only [Option.bind_some]
      rw [← hv, if_pos (by omega), if_pos (by omega), if_pos (by omega), if_pos (by omega)]
      rfl
    · have hv : valP bs vs v key = [0, 0, 0, 0] := by unfold valP; rw [if_neg c]
      rw [if_neg c, if_pos (by omega), if_pos (by simp; omega), if_pos (by omega)]
      simp only [Option.bind_some]
      rw [if_pos (by omega), ← hv]
      rfl
  refine Ev.succ ?_
  simp only [impl_PutIn.j0]
  refine Ev.neg (by simp) (Ev.bind (ownPool_ev bs vs (by omega) hk (by omega)) (Ev.pos (by omega) (Ev.cbind rfl (Ev.pos v0 (Ev.pos v1 ?_)))))
  have hrep : List.replicate 4 (0 : Int) = [0, 0, 0, 0] := rfl
  rw [hrep]
  by_cases c : rd vs v ≥ 0
  · have ha := a c
    have ht : topP bs vs v = (rd_T65 bs (rd vs v)).f0 := by unfold topP; rw [if_pos c]
    rw [ht] at hj1
    exact Ev.pos c (Ev.pos (by omega) (Ev.pos ha.1 (Ev.cbind (clone_eq _ (by omega)) hj1)))
  · have ht : topP bs vs v = [-1, -1, -1, -1] := by unfold topP; rw [if_neg c]
    rw [ht] at hj1
    exact Ev.neg c hj1
theorem op_eq (bs : List S65) (vs : List Int) (v key x : Int) (hl : bs.length ≤ 1048576) (hv : vs.length ≤ 1048576) (hk : ∀ a ∈ bs, a.f0.length ≤ 1048576) :
    ∃ (b' : List S65) (v' : List Int) (b : Bool), b'.length ≤ 1048576 ∧ (∀ a ∈ b', a.f0.length ≤ 1048576) ∧ v'.length ≤ 1048576 ∧ Ev (fun k => spec_PutIn.f k bs vs v key x) (b', v', b) ∧ Ev (fun k => impl_PutIn.f k bs vs v key x) (b', v', b) := by
  unfold spec_PutIn.f impl_PutIn.f
  have hi := isVersion_eq bs vs [v] hl hv
  have ht := l11There_eq bs vs v hl hv hk
  have e : [v].all (fun v => decide (0 ≤ v ∧ v < vs.length)) = decide (0 ≤ v ∧ v < vs.length) := by simp
  rw [e] at hi
  have k1 : spec_l11Key.f key = some (decide (0 ≤ key ∧ key ≤ 15)) := by simp only [spec_l11Key.f, l1In_eq, Option.bind_some]
  have k2 : impl_isPoolKey.f key = some (decide (0 ≤ key ∧ key ≤ 15)) := by simp only [impl_isPoolKey.f, within_eq, Option.bind_some]
  have fS := putF_spec bs vs v key x
  have fI := putF_impl bs vs v key x
  have no : ∀ (p : Ev (fun k => spec_PutIn.f k bs vs v key x) (([] : List S65), ([] : List Int), false)) (q : Ev (fun k => impl_PutIn.f k bs vs v key x) (([] : List S65), ([] : List Int), false)), ∃ (b' : List S65) (v' : List Int) (b : Bool), b'.length ≤ 1048576 ∧ (∀ a ∈ b', a.f0.length ≤ 1048576) ∧ v'.length ≤ 1048576 ∧ Ev (fun k => spec_PutIn.f k bs vs v key x) (b', v', b) ∧ Ev (fun k => impl_PutIn.f k bs vs v key x) (b', v', b) := fun p q => ⟨[], [], false, by simp, by simp, by simp, p, q⟩
  unfold spec_PutIn.f impl_PutIn.f at no
  cases g : (goodP bs vs && decide (0 ≤ v ∧ v < vs.length)) with
  | false =>
    rw [g] at ht hi
    exact no (Ev.bind ht (Ev.neg (by simp) fS)) (Ev.cbind hi (Ev.neg (by simp) fI))
  | true =>
    rw [g] at ht hi
    simp only [Bool.and_eq_true, decide_eq_true_eq] at g
    have G := goodP_GP g.1
    have hnb := G.nb
    have hnv := G.nv
    by_cases c1 : 0 ≤ key ∧ key ≤ 15
    case neg => exact no (Ev.bind ht (Ev.pos rfl (Ev.cbind k1 (Ev.neg (by simpa using c1) fS)))) (Ev.cbind hi (Ev.pos rfl (Ev.cbind k2 (Ev.neg (by simpa using c1) fI))))
    by_cases c2 : 0 ≤ x ∧ x ≤ 9999
    case neg => exact no (Ev.bind ht (Ev.pos rfl (Ev.cbind k1 (Ev.pos (by simpa using c1) (Ev.cbind (l1In_eq _ _ _) (Ev.neg (by simpa using c2) fS)))))) (Ev.cbind hi (Ev.pos rfl (Ev.cbind k2 (Ev.pos (by simpa using c1) (Ev.cbind (within_eq _ _ _) (Ev.neg (by simpa using c2) fI))))))
    have hw : wrap64 ((bs.length : Int) + 2) = bs.length + 2 := wrap_id (by omega) (by omega)
    rw [hw] at no ⊢
    by_cases c3 : (bs.length : Int) + 2 > 200
    · exact no (Ev.bind ht (Ev.pos rfl (Ev.cbind k1 (Ev.pos (by simpa using c1) (Ev.cbind (l1In_eq _ _ _) (Ev.pos (by simpa using c2) (Ev.pos c3 fS))))))) (Ev.cbind hi (Ev.pos rfl (Ev.cbind k2 (Ev.pos (by simpa using c1) (Ev.cbind (within_eq _ _ _) (Ev.pos (by simpa using c2) (Ev.pos c3 fI)))))))
    by_cases c4 : (vs.length : Int) = 40
    · have h40 : ((vs.length : Int) == 40) = true := by simpa using c4
      exact no (Ev.bind ht (Ev.pos rfl (Ev.cbind k1 (Ev.pos (by simpa using c1) (Ev.cbind (l1In_eq _ _ _) (Ev.pos (by simpa using c2) (Ev.neg c3 (by rw [h40]; exact fS)))))))) (Ev.cbind hi (Ev.pos rfl (Ev.cbind k2 (Ev.pos (by simpa using c1) (Ev.cbind (within_eq _ _ _) (Ev.pos (by simpa using c2) (Ev.neg c3 (by rw [h40]; exact fI))))))))
    · have h40 : ((vs.length : Int) == 40) = false := by simpa using c4
      obtain ⟨t1, t2, t3⟩ := topP_ok G v key g.2.1 g.2.2 c1.1 c1.2
      refine ⟨putB bs vs v key x, vs ++ [wrap64 (((putB bs vs v key x).length : Int) - 1)], true, by simp [putB]; omega, ?_, by simp; omega, Ev.bind ht (Ev.pos rfl (Ev.cbind k1 (Ev.pos (by simpa using c1) (Ev.cbind (l1In_eq _ _ _) (Ev.pos (by simpa using c2) (Ev.neg c3 (by rw [h40]; exact put_spec G v key x g.2.1 g.2.2 c1.1 c1.2 hk))))))), Ev.cbind hi (Ev.pos rfl (Ev.cbind k2 (Ev.pos (by simpa using c1) (Ev.cbind (within_eq _ _ _) (Ev.pos (by simpa using c2) (Ev.neg c3 (by rw [h40]; exact put_impl G v key x g.2.1 g.2.2 c1.1 c1.2 hk)))))))⟩
      intro a ha
      rcases List.mem_append.1 ha with ha | ha
      · exact hk a ha
      · simp only [List.mem_cons, List.not_mem_nil, or_false] at ha
        rcases ha with rfl | rfl
        · simp; omega
        · simp; omega

/-- all values of a version, from a key on -/
def allP (bs : List S65) (vs : List Int) (v : Int) : Nat → List Int
  | 0 => []
  | n + 1 => getP bs vs v (15 - n) :: allP bs vs v n
theorem allP_length (bs : List S65) (vs : List Int) (v : Int) (n : Nat) : (allP bs vs v n).length = n := by
  induction n with
  | zero => rfl
  | succ n ih => simp [allP, ih]
theorem implAll_loop {bs : List S65} {vs : List Int} (G : GP bs vs) (v : Int) (v0 : 0 ≤ v) (v1 : v < vs.length) (n : Nat) : ∀ pre : List Int, n ≤ 16 → pre.length = 16 - n → Ev (fun k => impl_AllIn.l0 k v pre (16 - n) bs vs) (pre ++ allP bs vs v n, true) := by
  induction n with
  | zero => intro pre _ hp; exact Ev.end (fun k => by simp [impl_AllIn.l0, allP])
  | succ n ih =>
    intro pre hn hp
    have e := ih (pre ++ [getP bs vs v (15 - n)]) (by omega) (by simp; omega)
    refine Ev.step (fun k => ?_) (show Ev (fun k => impl_AllIn.l0 k v (pre ++ [getP bs vs v (15 - n)]) (16 - n) bs vs) _ from by simpa [allP] using e)
    rw [impl_AllIn.l0, if_pos (by push_cast; omega), show (16 - ((n + 1 : Nat) : Int)) = 15 - n by push_cast; omega, implGet_eq G v _ v0 v1 (by omega) (by omega), Option.bind_some, if_pos (by omega), wrap_id (by omega) (by omega), show (15 - (n : Int) + 1) = 16 - n by omega]
/-- the keys, from one on, at which two versions differ -/
def diffP (bs : List S65) (vs : List Int) (v u : Int) : Nat → List Int
  | 0 => []
  | n + 1 => if getP bs vs v (15 - n) = getP bs vs u (15 - n) then diffP bs vs v u n else (15 - (n : Int)) :: diffP bs vs v u n
theorem diffP_length (bs : List S65) (vs : List Int) (v u : Int) (n : Nat) : (diffP bs vs v u n).length ≤ n := by
  induction n with
  | zero => simp [diffP]
  | succ n ih =>
    simp only [diffP]
    split
    · omega
    · simp; omega
theorem specDiff_loop {bs : List S65} {vs : List Int} (G : GP bs vs) (v u : Int) (v0 : 0 ≤ v) (v1 : v < vs.length) (u0 : 0 ≤ u) (u1 : u < vs.length) (n : Nat) : ∀ pre : List Int, n ≤ 16 → pre.length ≤ 16 - n → Ev (fun k => spec_DiffIn.l0 k v u pre (16 - n) bs vs) (pre ++ diffP bs vs v u n, true) := by
  induction n with
  | zero => intro pre _ hp; exact Ev.end (fun k => by simp [spec_DiffIn.l0, diffP])
  | succ n ih =>
    intro pre hn hp
    by_cases c : getP bs vs v (15 - n) = getP bs vs u (15 - n)
    · have e := ih pre (by omega) (by omega)
      refine Ev.step (fun k => ?_) (show Ev (fun k => spec_DiffIn.l0 k v u pre (16 - n) bs vs) _ from by simpa [diffP, c] using e)
      rw [spec_DiffIn.l0, if_pos (by push_cast; omega), show (16 - ((n + 1 : Nat) : Int)) = 15 - n by push_cast; omega, l11Get_eq G v _ v0 v1 (by omega) (by omega), Option.bind_some, l11Get_eq G u _ u0 u1 (by omega) (by omega), Option.bind_some, if_pos c, wrap_id (by omega) (by omega), show (15 - (n : Int) + 1) = 16 - n by omega]
    · have e := ih (pre ++ [15 - (n : Int)]) (by omega) (by simp; omega)
      refine Ev.step (fun k => ?_) (show Ev (fun k => spec_DiffIn.l0 k v u (pre ++ [15 - (n : Int)]) (16 - n) bs vs) _ from by simpa [diffP, c] using e)
      rw [spec_DiffIn.l0, if_pos (by push_cast; omega), show (16 - ((n + 1 : Nat) : Int)) = 15 - n by push_cast; omega, l11Get_eq G v _ v0 v1 (by omega) (by omega), Option.bind_some, l11Get_eq G u _ u0 u1 (by omega) (by omega), Option.bind_some, if_neg c, if_pos (by omega), wrap_id (by omega) (by omega), show (15 - (n : Int) + 1) = 16 - n by omega]
theorem implDiff_loop {bs : List S65} {vs : List Int} (G : GP bs vs) (v u : Int) (v0 : 0 ≤ v) (v1 : v < vs.length) (u0 : 0 ≤ u) (u1 : u < vs.length) (n : Nat) : ∀ pre : List Int, n ≤ 16 → pre.length ≤ 16 - n → Ev (fun k => impl_DiffIn.l0 k v u pre (16 - n) bs vs) (pre ++ diffP bs vs v u n, true) := by
  induction n with
  | zero => intro pre _ hp; exact Ev.end (fun k => by simp [impl_DiffIn.l0, diffP])
  | succ n ih =>
    intro pre hn hp
    by_cases c : getP bs vs v (15 - n) = getP bs vs u (15 - n)
    · have e := ih pre (by omega) (by omega)
      refine Ev.step (fun k => ?_) (show Ev (fun k => impl_DiffIn.l0 k v u pre (16 - n) bs vs) _ from by simpa [diffP, c] using e)
      rw [impl_DiffIn.l0, if_pos (by push_cast; omega), show (16 - ((n + 1 : Nat) : Int)) = 15 - n by push_cast; omega, implGet_eq G v _ v0 v1 (by omega) (by omega), Option.bind_some, implGet_eq G u _ u0 u1 (by omega) (by omega), Option.bind_some, if_pos c, wrap_id (by omega) (by omega), show (15 - (n : Int) + 1) = 16 - n by omega]
    · have e := ih (pre ++ [15 - (n : Int)]) (by omega) (by simp; omega)
      refine Ev.step (fun k => ?_) (show Ev (fun k => impl_DiffIn.l0 k v u (pre ++ [15 - (n : Int)]) (16 - n) bs vs) _ from by simpa [diffP, c] using e)
      rw [impl_DiffIn.l0, if_pos (by push_cast; omega), show (16 - ((n + 1 : Nat) : Int)) = 15 - n by push_cast; omega, implGet_eq G v _ v0 v1 (by omega) (by omega), Option.bind_some, implGet_eq G u _ u0 u1 (by omega) (by omega), Option.bind_some, if_neg c, if_pos (by omega), wrap_id (by omega) (by omega), show (15 - (n : Int) + 1) = 16 - n by omega]
theorem diffIn_eq (bs : List S65) (vs : List Int) (v u : Int) (hl : bs.length ≤ 1048576) (hv : vs.length ≤ 1048576) (hk : ∀ a ∈ bs, a.f0.length ≤ 1048576) : ∃ (l : List Int) (b : Bool), l.length ≤ 16 ∧ Ev (fun k => spec_DiffIn.f k bs vs v u) (l, b) ∧ Ev (fun k => impl_DiffIn.f k bs vs v u) (l, b) := by
  unfold spec_DiffIn.f impl_DiffIn.f
  have hi := isVersion_eq bs vs [v, u] hl hv
  have ht := l11There_eq bs vs v hl hv hk
  have hu := l11There_eq bs vs u hl hv hk
  have e : [v, u].all (fun v => decide (0 ≤ v ∧ v < vs.length)) = (decide (0 ≤ v ∧ v < vs.length) && decide (0 ≤ u ∧ u < vs.length)) := by simp
  rw [e] at hi
  cases g : goodP bs vs with
  | false =>
    rw [g] at hi ht
    refine ⟨[], false, by simp, Ev.bind ht (Ev.neg (by simp) (Ev.succ ?_)), Ev.cbind hi (Ev.neg (by simp) (Ev.now _))⟩
    simp only [spec_DiffIn.j0]
    exact Ev.pos (by trivial) (Ev.now _)
  | true =>
    rw [g] at hi ht hu
    by_cases c : 0 ≤ v ∧ v < vs.length
    · rw [decide_eq_true c] at hi ht
      by_cases d : 0 ≤ u ∧ u < vs.length
      · rw [decide_eq_true d] at hi hu
        have G := goodP_GP g
        refine ⟨diffP bs vs v u 16, true, diffP_length _ _ _ _ _, Ev.bind ht (Ev.pos rfl (Ev.bind hu (Ev.succ ?_))), Ev.cbind hi (Ev.pos rfl ?_)⟩
        · simp only [spec_DiffIn.j0]
          have := specDiff_loop G v u c.1 c.2 d.1 d.2 16 [] (by omega) (by simp)
          exact Ev.neg (by simp) (by simpa using this)
        · have := implDiff_loop G v u c.1 c.2 d.1 d.2 16 [] (by omega) (by simp)
          simpa using this
      · rw [decide_eq_false d] at hi hu
        refine ⟨[], false, by simp, Ev.bind ht (Ev.pos rfl (Ev.bind hu (Ev.succ ?_))), Ev.cbind hi (Ev.neg (by simp) (Ev.now _))⟩
        simp only [spec_DiffIn.j0]
        exact Ev.pos (by trivial) (Ev.now _)
    · rw [decide_eq_false c] at hi ht
      refine ⟨[], false, by simp, Ev.bind ht (Ev.neg (by simp) (Ev.succ ?_)), Ev.cbind hi (Ev.neg (by simp) (Ev.now _))⟩
      simp only [spec_DiffIn.j0]
      exact Ev.pos (by trivial) (Ev.now _)
theorem cloneOf_eq (bs : List S65) (vs : List Int) (v : Int) (hl : bs.length ≤ 1048576) (hv : vs.length ≤ 1048576) (hk : ∀ a ∈ bs, a.f0.length ≤ 1048576) :
    ∃ (b' : List S65) (v' : List Int) (b : Bool), b'.length ≤ 1048576 ∧ (∀ a ∈ b', a.f0.length ≤ 1048576) ∧ v'.length ≤ 1048576 ∧ Ev (fun k => spec_CloneOf.f k bs vs v) (b', v', b) ∧ Ev (fun k => impl_CloneOf.f k bs vs v) (b', v', b) := by
  unfold spec_CloneOf.f impl_CloneOf.f
  have hi := isVersion_eq bs vs [v] hl hv
  have ht := l11There_eq bs vs v hl hv hk
  have e : [v].all (fun v => decide (0 ≤ v ∧ v < vs.length)) = decide (0 ≤ v ∧ v < vs.length) := by simp
  rw [e] at hi
  cases g : (goodP bs vs && decide (0 ≤ v ∧ v < vs.length)) with
  | false =>
    rw [g] at ht hi
    exact ⟨[], [], false, by simp, by simp, by simp, Ev.bind ht (Ev.neg (by simp) (Ev.now _)), Ev.cbind hi (Ev.neg (by simp) (Ev.now _))⟩
  | true =>
    rw [g] at ht hi
    simp only [Bool.and_eq_true, decide_eq_true_eq] at g
    have G := goodP_GP g.1
    have n40 := G.nv
    by_cases z : vs.length = 40
    · exact ⟨[], [], false, by simp, by simp, by simp, Ev.bind ht (Ev.pos rfl (Ev.pos (by omega) (Ev.now _))), Ev.cbind hi (Ev.pos rfl (Ev.pos (by omega) (Ev.now _)))⟩
    · exact ⟨bs, vs ++ [rd vs v], true, hl, hk, by simp; omega, Ev.bind ht (Ev.pos rfl (Ev.neg (by omega) (Ev.bind (l11Own_ev bs vs hl hk hv) (Ev.pos g.2.1 (Ev.pos g.2.2 (Ev.pos (by simp only; omega) (Ev.now _))))))), Ev.cbind hi (Ev.pos rfl (Ev.neg (by omega) (Ev.bind (ownPool_ev bs vs hl hk hv) (Ev.pos g.2.1 (Ev.pos g.2.2 (Ev.pos (by simp only; omega) (Ev.now _)))))))⟩
theorem putIn_two (bs : List S65) (vs : List Int) (v key x : Int) (hl : bs.length ≤ 1048576) (hv : vs.length ≤ 1048576) (hk : ∀ a ∈ bs, a.f0.length ≤ 1048576) :
    (Ev (fun k => spec_PutIn.f k bs vs v key x) (([] : List S65), ([] : List Int), false) ∧ Ev (fun k => impl_PutIn.f k bs vs v key x) (([] : List S65), ([] : List Int), false)) ∨
    (goodP bs vs = true ∧ (0 ≤ v ∧ v < vs.length) ∧ (0 ≤ key ∧ key ≤ 15) ∧ (0 ≤ x ∧ x ≤ 9999) ∧ bs.length + 2 ≤ 200 ∧ vs.length < 40 ∧
      Ev (fun k => spec_PutIn.f k bs vs v key x) (putB bs vs v key x, vs ++ [(bs.length : Int) + 1], true) ∧ Ev (fun k => impl_PutIn.f k bs vs v key x) (putB bs vs v key x, vs ++ [(bs.length : Int) + 1], true)) := by
  unfold spec_PutIn.f impl_PutIn.f
  have hi := isVersion_eq bs vs [v] hl hv
  have ht := l11There_eq bs vs v hl hv hk
  have e : [v].all (fun v => decide (0 ≤ v ∧ v < vs.length)) = decide (0 ≤ v ∧ v < vs.length) := by simp
  rw [e] at hi
  have k1 : spec_l11Key.f key = some (decide (0 ≤ key ∧ key ≤ 15)) := by simp only [spec_l11Key.f, l1In_eq, Option.bind_some]
  have k2 : impl_isPoolKey.f key = some (decide (0 ≤ key ∧ key ≤ 15)) := by simp only [impl_isPoolKey.f, within_eq, Option.bind_some]
  have fS := putF_spec bs vs v key x
  have fI := putF_impl bs vs v key x
  cases g : (goodP bs vs && decide (0 ≤ v ∧ v < vs.length)) with
  | false =>
    rw [g] at ht hi
    exact .inl ⟨Ev.bind ht (Ev.neg (by simp) fS), Ev.cbind hi (Ev.neg (by simp) fI)⟩
  | true =>
    rw [g] at ht hi
    simp only [Bool.and_eq_true, decide_eq_true_eq] at g
    have G := goodP_GP g.1
    have hnb := G.nb
    have hnv := G.nv
    by_cases c1 : 0 ≤ key ∧ key ≤ 15
    case neg => exact .inl ⟨Ev.bind ht (Ev.pos rfl (Ev.cbind k1 (Ev.neg (by simpa using c1) fS))), Ev.cbind hi (Ev.pos rfl (Ev.cbind k2 (Ev.neg (by simpa using c1) fI)))⟩
    by_cases c2 : 0 ≤ x ∧ x ≤ 9999
    case neg => exact .inl ⟨Ev.bind ht (Ev.pos rfl (Ev.cbind k1 (Ev.pos (by simpa using c1) (Ev.cbind (l1In_eq _ _ _) (Ev.neg (by simpa using c2) fS))))), Ev.cbind hi (Ev.pos rfl (Ev.cbind k2 (Ev.pos (by simpa using c1) (Ev.cbind (within_eq _ _ _) (Ev.neg (by simpa using c2) fI)))))⟩
    have hw : wrap64 ((bs.length : Int) + 2) = bs.length + 2 := wrap_id (by omega) (by omega)
    rw [hw]
    by_cases c3 : (bs.length : Int) + 2 > 200
    · exact .inl ⟨Ev.bind ht (Ev.pos rfl (Ev.cbind k1 (Ev.pos (by simpa using c1) (Ev.cbind (l1In_eq _ _ _) (Ev.pos (by simpa using c2) (Ev.pos c3 fS)))))), Ev.cbind hi (Ev.pos rfl (Ev.cbind k2 (Ev.pos (by simpa using c1) (Ev.cbind (within_eq _ _ _) (Ev.pos (by simpa using c2) (Ev.pos c3 fI))))))⟩
    by_cases c4 : (vs.length : Int) = 40
    · have h40 : ((vs.length : Int) == 40) = true := by simpa using c4
      exact .inl ⟨Ev.bind ht (Ev.pos rfl (Ev.cbind k1 (Ev.pos (by simpa using c1) (Ev.cbind (l1In_eq _ _ _) (Ev.pos (by simpa using c2) (Ev.neg c3 (by rw [h40]; exact fS))))))), Ev.cbind hi (Ev.pos rfl (Ev.cbind k2 (Ev.pos (by simpa using c1) (Ev.cbind (within_eq _ _ _) (Ev.pos (by simpa using c2) (Ev.neg c3 (by rw [h40]; exact fI)))))))⟩
    · have h40 : ((vs.length : Int) == 40) = false := by simpa using c4
      have hw2 : wrap64 (((putB bs vs v key x).length : Int) - 1) = (bs.length : Int) + 1 := by
        have : (putB bs vs v key x).length = bs.length + 2 := by simp [putB]
        rw [wrap_id (by omega) (by omega)]; omega
      have e1 := put_spec G v key x g.2.1 g.2.2 c1.1 c1.2 hk
      have e2 := put_impl G v key x g.2.1 g.2.2 c1.1 c1.2 hk
      rw [hw2] at e1 e2
      exact .inr ⟨g.1, g.2, c1, c2, by omega, by omega, Ev.bind ht (Ev.pos rfl (Ev.cbind k1 (Ev.pos (by simpa using c1) (Ev.cbind (l1In_eq _ _ _) (Ev.pos (by simpa using c2) (Ev.neg c3 (by rw [h40]; exact e1))))))), Ev.cbind hi (Ev.pos rfl (Ev.cbind k2 (Ev.pos (by simpa using c1) (Ev.cbind (within_eq _ _ _) (Ev.pos (by simpa using c2) (Ev.neg c3 (by rw [h40]; exact e2)))))))⟩
theorem clone_two (bs : List S65) (vs : List Int) (v : Int) (hl : bs.length ≤ 1048576) (hv : vs.length ≤ 1048576) (hk : ∀ a ∈ bs, a.f0.length ≤ 1048576) :
    (Ev (fun k => spec_CloneOf.f k bs vs v) (([] : List S65), ([] : List Int), false) ∧ Ev (fun k => impl_CloneOf.f k bs vs v) (([] : List S65), ([] : List Int), false)) ∨
    (goodP bs vs = true ∧ (0 ≤ v ∧ v < vs.length) ∧ vs.length < 40 ∧ Ev (fun k => spec_CloneOf.f k bs vs v) (bs, vs ++ [rd vs v], true) ∧ Ev (fun k => impl_CloneOf.f k bs vs v) (bs, vs ++ [rd vs v], true)) := by
  unfold spec_CloneOf.f impl_CloneOf.f
  have hi := isVersion_eq bs vs [v] hl hv
  have ht := l11There_eq bs vs v hl hv hk
  have e : [v].all (fun v => decide (0 ≤ v ∧ v < vs.length)) = decide (0 ≤ v ∧ v < vs.length) := by simp
  rw [e] at hi
  cases g : (goodP bs vs && decide (0 ≤ v ∧ v < vs.length)) with
  | false =>
    rw [g] at ht hi
    exact .inl ⟨Ev.bind ht (Ev.neg (by simp) (Ev.now _)), Ev.cbind hi (Ev.neg (by simp) (Ev.now _))⟩
  | true =>
    rw [g] at ht hi
    simp only [Bool.and_eq_true, decide_eq_true_eq] at g
    have G := goodP_GP g.1
    have n40 := G.nv
    by_cases z : vs.length = 40
    · exact .inl ⟨Ev.bind ht (Ev.pos rfl (Ev.pos (by omega) (Ev.now _))), Ev.cbind hi (Ev.pos rfl (Ev.pos (by omega) (Ev.now _)))⟩
    · exact .inr ⟨g.1, g.2, by omega, Ev.bind ht (Ev.pos rfl (Ev.neg (by omega) (Ev.bind (l11Own_ev bs vs hl hk hv) (Ev.pos g.2.1 (Ev.pos g.2.2 (Ev.pos (by simp only; omega) (Ev.now _))))))), Ev.cbind hi (Ev.pos rfl (Ev.neg (by omega) (Ev.bind (ownPool_ev bs vs hl hk hv) (Ev.pos g.2.1 (Ev.pos g.2.2 (Ev.pos (by simp only; omega) (Ev.now _)))))))⟩
theorem allIn_good (bs : List S65) (vs : List Int) (v : Int) (g : goodP bs vs = true) (c : 0 ≤ v ∧ v < vs.length) : Ev (fun k => impl_AllIn.f k bs vs v) (allP bs vs v 16, true) := by
  have G := goodP_GP g
  have hi := isVersion_eq bs vs [v] (by have := G.nb; omega) (by have := G.nv; omega)
  have e : [v].all (fun v => decide (0 ≤ v ∧ v < vs.length)) = true := by simpa using c
  rw [e, g] at hi
  unfold impl_AllIn.f
  refine Ev.cbind hi (Ev.pos rfl ?_)
  have := implAll_loop G v c.1 c.2 16 [] (by omega) rfl
  simpa using this
theorem diffIn_good (bs : List S65) (vs : List Int) (v u : Int) (g : goodP bs vs = true) (c : 0 ≤ v ∧ v < vs.length) (d : 0 ≤ u ∧ u < vs.length) : Ev (fun k => impl_DiffIn.f k bs vs v u) (diffP bs vs v u 16, true) := by
  have G := goodP_GP g
  have hi := isVersion_eq bs vs [v, u] (by have := G.nb; omega) (by have := G.nv; omega)
  have e : [v, u].all (fun v => decide (0 ≤ v ∧ v < vs.length)) = true := by simp [c, d]
  rw [e, g] at hi
  unfold impl_DiffIn.f
  refine Ev.cbind hi (Ev.pos rfl ?_)
  have := implDiff_loop G v u c.1 c.2 d.1 d.2 16 [] (by omega) (by simp)
  simpa using this
theorem getIn_good (bs : List S65) (vs : List Int) (v key : Int) (g : goodP bs vs = true) (c : 0 ≤ v ∧ v < vs.length) (d : 0 ≤ key ∧ key ≤ 15) : impl_GetIn.f bs vs v key = some (getP bs vs v key, true) := by
  have G := goodP_GP g
  have hi := isVersion_eq bs vs [v] (by have := G.nb; omega) (by have := G.nv; omega)
  have e : [v].all (fun v => decide (0 ≤ v ∧ v < vs.length)) = true := by simpa using c
  rw [e, g] at hi
  unfold impl_GetIn.f
  simp only [hi, Option.bind_some, impl_isPoolKey.f, within_eq, decide_eq_true_eq]
  rw [if_pos (by trivial), if_pos d, implGet_eq G v key c.1 c.2 d.1 d.2]; rfl

theorem rd_app {l m : List Int} {i : Int} (h0 : 0 ≤ i) (h1 : i < l.length) : rd (l ++ m) i = rd l i := by
  unfold rd; rw [List.getD_eq_getElem?_getD, List.getD_eq_getElem?_getD, List.getElem?_append_left (by omega)]
theorem rd_last (l : List Int) (x : Int) : rd (l ++ [x]) (l.length : Int) = x := by
  unfold rd; rw [List.getD_eq_getElem?_getD]; simp
theorem rd65_app {l m : List S65} {i : Int} (h0 : 0 ≤ i) (h1 : i < l.length) : rd_T65 (l ++ m) i = rd_T65 l i := by
  unfold rd_T65; rw [List.getD_eq_getElem?_getD, List.getD_eq_getElem?_getD, List.getElem?_append_left (by omega)]
theorem rd_setAt {l : List Int} {i j x : Int} (i0 : 0 ≤ i) (i1 : i < l.length) (j0 : 0 ≤ j) : rd (l.set i.toNat x) j = if j = i then x else rd l j := by
  unfold rd
  rw [List.getD_eq_getElem?_getD, List.getD_eq_getElem?_getD, List.getElem?_set]
  by_cases c : j = i
  · subst c
    rw [if_pos rfl, if_pos (by omega), if_pos rfl]; rfl
  · rw [if_neg (by omega), if_neg c]
theorem brB_of (bs : List S65) (rest : List S65) : ∀ pre : List S65, bs = pre ++ rest → (∀ i : Int, pre.length ≤ i → i < bs.length → (rd_T65 bs i).f0.length = 4 ∧ ∀ j : Int, 0 ≤ j → j < 4 → kidB bs i (rd_T65 bs i).f1 (rd (rd_T65 bs i).f0 j) = true) → brB bs rest pre.length = true := by
  induction rest with
  | nil => intro pre h hb; rfl
  | cons b t ih =>
    intro pre h hb
    have hlen : bs.length = pre.length + (t.length + 1) := by rw [h]; simp
    have hr : rd_T65 bs (pre.length : Int) = b := rd65 bs pre.length b (by rw [h]; simp)
    have h0 := hb pre.length (Int.le_refl _) (by omega)
    rw [hr] at h0
    have h1 := ih (pre ++ [b]) (by rw [h]; simp) (fun i i0 i1 => hb i (by simp at i0; omega) i1)
    simp only [List.length_append, List.length_singleton] at h1
    have h2 : b.f0.all (kidB bs (pre.length : Int) b.f1) = true := by
      rw [List.all_eq_true]
      intro x hx
      obtain ⟨n, hn, rfl⟩ := List.mem_iff_getElem.1 hx
      have := h0.2 (n : Int) (by omega) (by omega)
      simpa [rd, List.getD_eq_getElem?_getD, hn] using this
    simp only [brB, h2, h0.1, decide_true, Bool.true_and]
    exact h1
theorem GP_goodP {bs : List S65} {vs : List Int} (G : GP bs vs) : goodP bs vs = true := by
  simp only [goodP, Bool.and_eq_true, decide_eq_true_eq]
  refine ⟨⟨⟨?_, ?_⟩, G.nb⟩, G.nv⟩
  · have := brB_of bs bs [] rfl (fun i i0 i1 => ⟨G.four i (by simpa using i0) i1, fun j j0 j1 => G.kid i (by simpa using i0) i1 j j0 j1⟩)
    simpa using this
  · rw [List.all_eq_true]
    intro x hx
    obtain ⟨n, hn, rfl⟩ := List.mem_iff_getElem.1 hx
    have := G.ver (n : Int) (by omega) (by omega)
    simpa [rd, List.getD_eq_getElem?_getD, hn] using this
/-- what the new pool has: the old branches, the new leaf, the new top -/
theorem putB_at (bs : List S65) (vs : List Int) (v key x : Int) : (putB bs vs v key x).length = bs.length + 2 ∧ (∀ i : Int, 0 ≤ i → i < bs.length → rd_T65 (putB bs vs v key x) i = rd_T65 bs i) ∧
    rd_T65 (putB bs vs v key x) (bs.length : Int) = ⟨(valP bs vs v key).set (key % 4).toNat x, true⟩ ∧ rd_T65 (putB bs vs v key x) ((bs.length : Int) + 1) = ⟨(topP bs vs v).set (key / 4).toNat bs.length, false⟩ := by
  refine ⟨by simp [putB], fun i i0 i1 => rd65_app i0 i1, ?_, ?_⟩
  · exact rd65 _ bs.length _ (by simp [putB])
  · have := rd65 (putB bs vs v key x) (bs.length + 1) ⟨(topP bs vs v).set (key / 4).toNat bs.length, false⟩ (by simp [putB])
    simpa using this
theorem kidB_put {bs : List S65} {vs : List Int} {v key x : Int} {i kid : Int} {leaf : Bool} (i1 : i ≤ bs.length) (h : kidB bs i leaf kid = true) : kidB (putB bs vs v key x) i leaf kid = true := by
  cases leaf with
  | true => exact h
  | false =>
    simp only [kidB, Bool.false_eq_true, if_false, Bool.or_eq_true, Bool.and_eq_true, decide_eq_true_eq] at h ⊢
    rcases h with h | ⟨h, h2⟩
    · exact .inl h
    · right
      refine ⟨h, ?_⟩
      rw [(putB_at bs vs v key x).2.1 kid h.1 (by omega)]; exact h2
theorem top_kid {bs : List S65} {vs : List Int} (G : GP bs vs) (v : Int) (v0 : 0 ≤ v) (v1 : v < vs.length) (j : Int) (j0 : 0 ≤ j) (j1 : j < 4) : rd (topP bs vs v) j = -1 ∨ ((0 ≤ rd (topP bs vs v) j ∧ rd (topP bs vs v) j < bs.length) ∧ (rd_T65 bs (rd (topP bs vs v) j)).f1 = true) := by
  have hv := G.ver v v0 v1
  unfold topP
  by_cases c : rd vs v ≥ 0
  · have : rd vs v ≠ -1 := by omega
    simp only [verB, this, decide_false, Bool.false_or, Bool.and_eq_true, decide_eq_true_eq, Bool.not_eq_true'] at hv
    rw [if_pos c]
    have hk := G.kid (rd vs v) c hv.1.2 j j0 j1
    simp only [kidB, hv.2, Bool.false_eq_true, if_false, Bool.or_eq_true, Bool.and_eq_true, decide_eq_true_eq] at hk
    rcases hk with hk | ⟨hk, h2⟩
    · exact .inl hk
    · exact .inr ⟨⟨hk.1, by omega⟩, h2⟩
  · rw [if_neg c]
    left
    exact rd4 (-1) (-1) (-1) (-1) j j0 j1 rfl rfl rfl
theorem val_kid {bs : List S65} {vs : List Int} (G : GP bs vs) (v key : Int) (v0 : 0 ≤ v) (v1 : v < vs.length) (k0 : 0 ≤ key) (k1 : key ≤ 15) (j : Int) (j0 : 0 ≤ j) (j1 : j < 4) : 0 ≤ rd (valP bs vs v key) j ∧ rd (valP bs vs v key) j ≤ 9999 := by
  obtain ⟨t1, t2, t3⟩ := topP_ok G v key v0 v1 k0 k1
  have tk := top_kid G v v0 v1 (key / 4) (by omega) (by omega)
  rw [t2] at tk
  unfold valP
  by_cases c : leafP bs vs v key ≥ 0
  · rw [if_pos c]
    rcases tk with tk | ⟨tk, h2⟩
    · omega
    · have hk := G.kid _ tk.1 tk.2 j j0 j1
      simpa [kidB, h2] using hk
  · rw [if_neg c, rd4 0 0 0 0 j j0 j1 rfl rfl rfl]; omega
theorem put_GP {bs : List S65} {vs : List Int} (G : GP bs vs) (v key x : Int) (c0 : 0 ≤ v ∧ v < vs.length) (c1 : 0 ≤ key ∧ key ≤ 15) (c2 : 0 ≤ x ∧ x ≤ 9999) (c3 : bs.length + 2 ≤ 200) (c4 : vs.length < 40) : GP (putB bs vs v key x) (vs ++ [(bs.length : Int) + 1]) := by
  obtain ⟨b1, b2, b3, b4⟩ := putB_at bs vs v key x
  obtain ⟨t1, t2, t3⟩ := topP_ok G v key c0.1 c0.2 c1.1 c1.2
  refine ⟨by omega, by simp; omega, fun i i0 i1 => ?_, fun i i0 i1 j j0 j1 => ?_, fun i i0 i1 => ?_⟩
  · by_cases d : i < bs.length
    · rw [b2 i i0 d]; exact G.four i i0 d
    · by_cases d2 : i = bs.length
      · subst d2; rw [b3]; simpa using t3
      · have : i = (bs.length : Int) + 1 := by omega
        subst this; rw [b4]; simpa using t1
  · by_cases d : i < bs.length
    · rw [b2 i i0 d]; exact kidB_put (by omega) (G.kid i i0 d j j0 j1)
    · by_cases d2 : i = bs.length
      · subst d2; rw [b3]
        have := val_kid G v key c0.1 c0.2 c1.1 c1.2 j j0 j1
        simp only [kidB, if_true, decide_eq_true_eq]
        rw [rd_setAt (by omega) (by omega) j0]
        split
        · exact c2
        · exact this
      · have : i = (bs.length : Int) + 1 := by omega
        subst this; rw [b4]
        have tk := top_kid G v c0.1 c0.2 j j0 j1
        simp only [kidB, Bool.false_eq_true, if_false, Bool.or_eq_true, Bool.and_eq_true, decide_eq_true_eq]
        rw [rd_setAt (by omega) (by omega) j0]
        split
        · right
          refine ⟨⟨by omega, by omega⟩, ?_⟩
          rw [b3]
        · rcases tk with tk | ⟨tk, h2⟩
          · exact .inl tk
          · right
            refine ⟨⟨tk.1, by omega⟩, ?_⟩
            rw [b2 _ tk.1 tk.2]; exact h2
  · simp only [List.length_append, List.length_singleton] at i1
    by_cases d : i < vs.length
    · rw [rd_app i0 d]
      have := G.ver i i0 d
      simp only [verB, Bool.or_eq_true, Bool.and_eq_true, decide_eq_true_eq, Bool.not_eq_true'] at this ⊢
      rcases this with this | ⟨this, h2⟩
      · exact .inl this
      · right
        refine ⟨⟨this.1, by omega⟩, ?_⟩
        rw [b2 _ this.1 this.2]; exact h2
    · have : i = vs.length := by omega
      subst this
      rw [rd_last]
      simp only [verB, Bool.or_eq_true, Bool.and_eq_true, decide_eq_true_eq, Bool.not_eq_true']
      right
      refine ⟨⟨by omega, by omega⟩, ?_⟩
      rw [b4]
/-- what old versions tell is told in the new pool -/
theorem put_old {bs : List S65} {vs : List Int} (G : GP bs vs) (v key x : Int) (u k : Int) (u0 : 0 ≤ u) (u1 : u < vs.length) (k0 : 0 ≤ k) (k1 : k ≤ 15) :
    getP (putB bs vs v key x) (vs ++ [(bs.length : Int) + 1]) u k = getP bs vs u k := by
  obtain ⟨b1, b2, b3, b4⟩ := putB_at bs vs v key x
  obtain ⟨l1, l2⟩ := leaf_ok G u k u0 u1 k0 k1
  have e : leafP (putB bs vs v key x) (vs ++ [(bs.length : Int) + 1]) u k = leafP bs vs u k := by
    unfold leafP
    rw [rd_app u0 u1]
    by_cases c : rd vs u < 0
    · rw [if_pos c, if_pos c]
    · rw [if_neg c, if_neg c, b2 _ (by omega) (l1 (by omega)).1]
  unfold getP
  rw [e]
  by_cases c : leafP bs vs u k < 0
  · rw [if_pos c, if_pos c]
  · rw [if_neg c, if_neg c, b2 _ (by omega) (l2 (by omega)).1]
/-- and the new version tells the new value at the key -/
theorem put_new {bs : List S65} {vs : List Int} (G : GP bs vs) (v key x : Int) (c0 : 0 ≤ v ∧ v < vs.length) (c1 : 0 ≤ key ∧ key ≤ 15) (k : Int) (k0 : 0 ≤ k) (k1 : k ≤ 15) :
    getP (putB bs vs v key x) (vs ++ [(bs.length : Int) + 1]) (vs.length : Int) k = if k = key then x else getP bs vs v k := by
  obtain ⟨b1, b2, b3, b4⟩ := putB_at bs vs v key x
  obtain ⟨l1, l2⟩ := leaf_ok G v k c0.1 c0.2 k0 k1
  obtain ⟨t1, t2, t3⟩ := topP_ok G v key c0.1 c0.2 c1.1 c1.2
  obtain ⟨s1, s2, s3⟩ := topP_ok G v k c0.1 c0.2 k0 k1
  have e : leafP (putB bs vs v key x) (vs ++ [(bs.length : Int) + 1]) (vs.length : Int) k = if k / 4 = key / 4 then (bs.length : Int) else leafP bs vs v k := by
    unfold leafP
    rw [rd_last, if_neg (by omega), b4]
    simp only
    rw [rd_setAt (by omega) (by omega) (by omega), s2]
    rfl
  unfold getP
  rw [e]
  by_cases d : k / 4 = key / 4
  · rw [if_pos d, if_neg (by omega), b3]
    simp only
    rw [rd_setAt (by omega) (by omega) (by omega)]
    by_cases d2 : k % 4 = key % 4
    · rw [if_pos d2, if_pos (by omega)]
    · rw [if_neg d2, if_neg (by omega)]
      have el : leafP bs vs v k = leafP bs vs v key := by unfold leafP; rw [d]
      rw [el]
      unfold valP
      by_cases c : leafP bs vs v key < 0
      · rw [if_pos c, if_neg (by omega)]
        exact rd4 0 0 0 0 (k % 4) (by omega) (by omega) rfl rfl rfl
      · rw [if_neg c, if_pos (by omega)]
  · have hne : ¬ k = key := fun h => d (by rw [h])
    rw [if_neg d, if_neg hne]
    by_cases c : leafP bs vs v k < 0
    · rw [if_pos c, if_pos c]
    · rw [if_neg c, if_neg c, b2 _ (by omega) (l2 (by omega)).1]
theorem allP_put {bs : List S65} {vs : List Int} (G : GP bs vs) (v key x : Int) (u : Int) (u0 : 0 ≤ u) (u1 : u < vs.length) (n : Nat) : n ≤ 16 → allP (putB bs vs v key x) (vs ++ [(bs.length : Int) + 1]) u n = allP bs vs u n := by
  induction n with
  | zero => intro _; rfl
  | succ n ih => intro hn; simp only [allP]; rw [put_old G v key x u _ u0 u1 (by omega) (by omega), ih (by omega)]
theorem diffP_put {bs : List S65} {vs : List Int} (G : GP bs vs) (v key x : Int) (c0 : 0 ≤ v ∧ v < vs.length) (c1 : 0 ≤ key ∧ key ≤ 15) (n : Nat) : n ≤ 16 →
    diffP (putB bs vs v key x) (vs ++ [(bs.length : Int) + 1]) v (vs.length : Int) n = if 16 - (n : Int) ≤ key ∧ getP bs vs v key ≠ x then [key] else [] := by
  induction n with
  | zero => intro _; simp only [diffP]; rw [if_neg (by omega)]
  | succ n ih =>
    intro hn
    simp only [diffP]
    rw [put_old G v key x v _ c0.1 c0.2 (by omega) (by omega), put_new G v key x c0 c1 _ (by omega) (by omega), ih (by omega)]
    by_cases d : (15 - (n : Int)) = key
    · rw [if_pos d, d]
      by_cases q : getP bs vs v key = x
      · rw [if_pos q, if_neg (fun h => h.2 q), if_neg (fun h => h.2 q)]
      · rw [if_neg q, if_neg (by omega), if_pos ⟨by push_cast; omega, q⟩]
    · rw [if_neg d, if_pos rfl]
      by_cases q : 16 - (n : Int) ≤ key ∧ getP bs vs v key ≠ x
      · rw [if_pos q, if_pos ⟨by push_cast; omega, q.2⟩]
      · rw [if_neg q, if_neg (fun h => q ⟨by have := h.1; push_cast at this; omega, h.2⟩)]
theorem clone_GP {bs : List S65} {vs : List Int} (G : GP bs vs) (v : Int) (c0 : 0 ≤ v ∧ v < vs.length) (c4 : vs.length < 40) : GP bs (vs ++ [rd vs v]) := by
  refine ⟨G.nb, by simp; omega, G.four, G.kid, fun i i0 i1 => ?_⟩
  simp only [List.length_append, List.length_singleton] at i1
  by_cases d : i < vs.length
  · rw [rd_app i0 d]; exact G.ver i i0 d
  · have : i = vs.length := by omega
    subst this
    rw [rd_last]; exact G.ver v c0.1 c0.2
theorem diffP_clone {bs : List S65} {vs : List Int} (v : Int) (c0 : 0 ≤ v ∧ v < vs.length) (n : Nat) : diffP bs (vs ++ [rd vs v]) v (vs.length : Int) n = [] := by
  induction n with
  | zero => rfl
  | succ n ih =>
    simp only [diffP]
    rw [ih, if_pos]
    unfold getP leafP
    rw [rd_app c0.1 c0.2, rd_last]

/-- what a drawn pool is like -/
structure DP (bs : List S65) (vs : List Int) : Prop where
  nb : bs.length ≤ 200
  nv : vs.length ≤ 40
  one : 0 < vs.length
  four : ∀ b ∈ bs, b.f0.length = 4
theorem DP.put {bs : List S65} {vs : List Int} (D : DP bs vs) (v key x : Int) (g : goodP bs vs = true) (c0 : 0 ≤ v ∧ v < vs.length) (c1 : 0 ≤ key ∧ key ≤ 15) (c3 : bs.length + 2 ≤ 200) (c4 : vs.length < 40) : DP (putB bs vs v key x) (vs ++ [(bs.length : Int) + 1]) := by
  have G := goodP_GP g
  obtain ⟨t1, t2, t3⟩ := topP_ok G v key c0.1 c0.2 c1.1 c1.2
  refine ⟨by simp [putB]; omega, by simp; omega, by simp, ?_⟩
  intro a ha
  rcases List.mem_append.1 ha with ha | ha
  · exact D.four a ha
  · simp only [List.mem_cons, List.not_mem_nil, or_false] at ha
    rcases ha with rfl | rfl
    · simpa using t3
    · simpa using t1
theorem without_ok (l : List Int) (a : Int) (a0 : 0 ≤ a) (a1 : a < l.length) (hl : l.length ≤ 40) : ∃ m, spec_l10Without.f l a = some m ∧ m.length + 1 = l.length := by
  have hw : wrap64 (a + 1) = a + 1 := wrap_id (by omega) (by omega)
  unfold spec_l10Without.f
  simp only [Option.bind_some, hw]
  rw [if_pos a0, if_pos (by omega), if_pos (by simp; omega), if_pos (by omega), if_pos (by omega), if_pos (by simp; omega)]
  refine ⟨_, rfl, ?_⟩
  simp; omega
theorem pool_j3 {c : List Int} (h : Code c) (bs : List S65) (vs : List Int) (D : DP bs vs) (a s : Int) (a0 : 0 ≤ a) (a1 : a ≤ 1000000) : ∃ bs' vs' a' s', Ev (fun k => spec_l1Cur_pool.j3 k c a s bs vs) (bs', vs', a', s') ∧ DP bs' vs' ∧ 0 ≤ a' ∧ a' ≤ a + 4 := by
  obtain ⟨x, a2, s2, e, x0, x1, h1, h2⟩ := pick_ok h a s 30 a0 (by omega)
  by_cases c1 : x = 0
  · obtain ⟨y, a3, s3, e3, y0, y1, h3, h4⟩ := pick_ok h a2 s2 9 (by omega) (by omega)
    have o := D.one
    refine ⟨bs, vs.set (0 : Int).toNat (wrap64 (y - 1)), a3, s3, Ev.end (fun k => ?_), ⟨D.nb, by simpa using D.nv, by simpa using D.one, D.four⟩, by omega, by omega⟩
    rw [spec_l1Cur_pool.j3, e, Option.bind_some]
    simp only
    rw [if_pos c1, e3, Option.bind_some, if_pos (by omega)]
  · by_cases c2 : x = 1 ∧ 0 < bs.length
    · obtain ⟨y, a3, s3, e3, _, h3, h4⟩ := among_ok h a2 s2 [(-1), 9999, 10000] (by simp) (by omega) (by omega)
      have hb : rd_T65 bs 0 ∈ bs := by
        have : (0 : Nat) < bs.length := c2.2
        unfold rd_T65
        rw [List.getD_eq_getElem?_getD, show (0 : Int).toNat = 0 from rfl, List.getElem?_eq_getElem this]
        exact List.getElem_mem this
      have h4' := D.four _ hb
      refine ⟨bs.set (0 : Int).toNat ⟨(rd_T65 bs 0).f0.set (0 : Int).toNat y, (rd_T65 bs 0).f1⟩, vs, a3, s3, Ev.end (fun k => ?_), ⟨by simpa using D.nb, D.nv, D.one, ?_⟩, by omega, by omega⟩
      · rw [spec_l1Cur_pool.j3, e, Option.bind_some]
        simp only
        rw [if_neg c1, if_pos c2.1, if_pos (by omega), if_pos (by omega), e3, Option.bind_some, if_pos (by omega)]
      · intro b hb2
        rcases List.mem_or_eq_of_mem_set hb2 with hb2 | hb2
        · exact D.four b hb2
        · rw [hb2]; simpa using h4'
    · refine ⟨bs, vs, a2, s2, Ev.end (fun k => ?_), D, by omega, by omega⟩
      rw [spec_l1Cur_pool.j3, e, Option.bind_some]
      simp only
      rw [if_neg c1]
      by_cases c3 : x = 1
      · rw [if_pos c3, if_neg (by omega)]
      · rw [if_neg c3]
theorem pool_j2 {c : List Int} (h : Code c) (bs : List S65) (vs : List Int) (D : DP bs vs) (b : Bool) (hb : b = true → 1 < vs.length) (a s : Int) (a0 : 0 ≤ a) (a1 : a ≤ 900000) : ∃ bs' vs' a' s', Ev (fun k => spec_l1Cur_pool.j2 k b c a s bs vs) (bs', vs', a', s') ∧ DP bs' vs' ∧ 0 ≤ a' ∧ a' ≤ a + 6 := by
  cases b with
  | false =>
    obtain ⟨bs', vs', a', s', e, D', h1, h2⟩ := pool_j3 h bs vs D a s a0 (by omega)
    refine ⟨bs', vs', a', s', Ev.step (fun k => ?_) e, D', h1, by omega⟩
    rw [spec_l1Cur_pool.j2, if_neg (by simp)]
  | true =>
    have hn := D.nv
    have hb' := hb rfl
    obtain ⟨x, a2, s2, e, x0, x1, h1, h2⟩ := pick_ok h a s (vs.length : Int) a0 (by omega)
    obtain ⟨m, e2, hm⟩ := without_ok vs x x0 (by omega) hn
    obtain ⟨bs', vs', a', s', e3, D', h3, h4⟩ := pool_j3 h bs m ⟨D.nb, by omega, by omega, D.four⟩ a2 s2 (by omega) (by omega)
    refine ⟨bs', vs', a', s', Ev.step (fun k => ?_) e3, D', h3, by omega⟩
    rw [spec_l1Cur_pool.j2, if_pos rfl, e, Option.bind_some]
    simp only
    rw [e2, Option.bind_some]
theorem pool_l0 {c : List Int} (h : Code c) (n : Nat) : ∀ (bs : List S65) (vs : List Int) (a s : Int), n ≤ 42 → DP bs vs → 0 ≤ a → a + 8 * n ≤ 500000 → ∃ bs' vs' a' s', Ev (fun k => spec_l1Cur_pool.l0 k (n : Int) c a s bs vs) (bs', vs', a', s') ∧ DP bs' vs' ∧ 0 ≤ a' ∧ a' ≤ 600000 := by
  induction n with
  | zero =>
    intro bs vs a s _ D a0 a1
    obtain ⟨b, a2, s2, e, h1, h2⟩ := one_ok h a s 4 a0 (by omega)
    cases b with
    | true =>
      obtain ⟨bs', vs', a', s', e3, D', h3, h4⟩ := pool_j2 h bs vs D (decide ((vs.length : Int) > 1)) (by intro q; have := of_decide_eq_true q; omega) a2 s2 (by omega) (by omega)
      refine ⟨bs', vs', a', s', Ev.step (fun k => ?_) e3, D', h3, by omega⟩
      rw [spec_l1Cur_pool.l0, if_neg (by simp), e, Option.bind_some]
      simp
    | false =>
      obtain ⟨bs', vs', a', s', e3, D', h3, h4⟩ := pool_j2 h bs vs D false (by simp) a2 s2 (by omega) (by omega)
      refine ⟨bs', vs', a', s', Ev.step (fun k => ?_) e3, D', h3, by omega⟩
      rw [spec_l1Cur_pool.l0, if_neg (by simp), e, Option.bind_some]
      simp
  | succ n ih =>
    intro bs vs a s hn D a0 a1
    have hw : wrap64 (((n + 1 : Nat) : Int) - 1) = (n : Int) := by rw [wrap_id (by omega) (by omega)]; omega
    have m0 : bs.length ≤ 1048576 := by have := D.nb; omega
    have m1 : vs.length ≤ 1048576 := by have := D.nv; omega
    have mb : ∀ a ∈ bs, a.f0.length ≤ 1048576 := fun a ha => by have := D.four a ha; omega
    obtain ⟨v, a2, s2, e, v0, v1, h1, h2⟩ := pick_ok h a s (vs.length : Int) a0 (by omega)
    obtain ⟨b, a3, s3, e2, h3, h4⟩ := one_ok h a2 s2 5 (by omega) (by omega)
    cases b with
    | true =>
      rcases clone_two bs vs v m0 m1 mb with ⟨e3, _⟩ | ⟨g, c0, c4, e3, _⟩
      · obtain ⟨bs', vs', a', s', e4, D', h5, h6⟩ := ih bs vs a3 s3 (by omega) D (by omega) (by omega)
        refine ⟨bs', vs', a', s', Ev.succ ?_, D', h5, h6⟩
        simp only [spec_l1Cur_pool.l0]
        rw [hw]
        exact Ev.pos (by omega) (Ev.cbind e (Ev.cbind e2 (Ev.pos rfl (Ev.bind e3 (Ev.neg (by simp) e4)))))
      · obtain ⟨bs', vs', a', s', e4, D', h5, h6⟩ := ih bs (vs ++ [rd vs v]) a3 s3 (by omega) ⟨D.nb, by simp; omega, by simp, D.four⟩ (by omega) (by omega)
        refine ⟨bs', vs', a', s', Ev.succ ?_, D', h5, h6⟩
        simp only [spec_l1Cur_pool.l0]
        rw [hw]
        exact Ev.pos (by omega) (Ev.cbind e (Ev.cbind e2 (Ev.pos rfl (Ev.bind e3 (Ev.pos rfl e4)))))
    | false =>
      obtain ⟨key, a4, s4, e5, k0, k1, h5, h6⟩ := pick_ok h a3 s3 16 (by omega) (by omega)
      obtain ⟨x, a5, s5, e6, x0, x1, h7, h8⟩ := pick_ok h a4 s4 9 (by omega) (by omega)
      rcases putIn_two bs vs v key x m0 m1 mb with ⟨e3, _⟩ | ⟨g, c0, c1, c2, c3, c4, e3, _⟩
      · obtain ⟨bs', vs', a', s', e4, D', h9, h10⟩ := ih bs vs a5 s5 (by omega) D (by omega) (by omega)
        refine ⟨bs', vs', a', s', Ev.succ ?_, D', h9, h10⟩
        simp only [spec_l1Cur_pool.l0]
        rw [hw]
        exact Ev.pos (by omega) (Ev.cbind e (Ev.cbind e2 (Ev.neg (by simp) (Ev.cbind e5 (Ev.cbind e6 (Ev.bind e3 (Ev.neg (by simp) e4)))))))
      · obtain ⟨bs', vs', a', s', e4, D', h9, h10⟩ := ih _ _ a5 s5 (by omega) (D.put v key x g c0 c1 c3 c4) (by omega) (by omega)
        refine ⟨bs', vs', a', s', Ev.succ ?_, D', h9, h10⟩
        simp only [spec_l1Cur_pool.l0]
        rw [hw]
        exact Ev.pos (by omega) (Ev.cbind e (Ev.cbind e2 (Ev.neg (by simp) (Ev.cbind e5 (Ev.cbind e6 (Ev.bind e3 (Ev.pos rfl e4)))))))
theorem pool_ok {c : List Int} (h : Code c) : ∃ bs vs a s, Ev (fun k => spec_l1Cur_pool.f k c 0 0) (bs, vs, a, s) ∧ DP bs vs ∧ 0 ≤ a ∧ a ≤ 600000 := by
  obtain ⟨n, a2, s2, e, n0, n1, h1, h2⟩ := pick_ok h 0 0 9 (by omega) (by omega)
  obtain ⟨b, a3, s3, e2, h3, h4⟩ := one_ok h a2 s2 20 (by omega) (by omega)
  have D0 : DP ([] : List S65) ([-1] : List Int) := ⟨by simp, by simp, by simp, by simp⟩
  have e0 : spec_NewPool.f = some (([] : List S65), ([-1] : List Int)) := rfl
  cases b with
  | true =>
    obtain ⟨bs, vs, a, s, e4, D, h5, h6⟩ := pool_l0 h 42 [] [-1] a3 s3 (by omega) D0 (by omega) (by omega)
    refine ⟨bs, vs, a, s, ?_, D, h5, h6⟩
    unfold spec_l1Cur_pool.f
    refine Ev.cbind e0 (Ev.cbind e (Ev.cbind e2 (Ev.pos rfl (Ev.succ ?_))))
    simp only [spec_l1Cur_pool.j0]
    exact e4
  | false =>
    obtain ⟨m, rfl⟩ := Int.eq_ofNat_of_zero_le n0
    obtain ⟨bs, vs, a, s, e4, D, h5, h6⟩ := pool_l0 h m [] [-1] a3 s3 (by omega) D0 (by omega) (by omega)
    refine ⟨bs, vs, a, s, ?_, D, h5, h6⟩
    unfold spec_l1Cur_pool.f
    refine Ev.cbind e0 (Ev.cbind e (Ev.cbind e2 (Ev.neg (by simp) (Ev.succ ?_))))
    simp only [spec_l1Cur_pool.j0]
    exact e4
theorem drawPutIn_ok {c : List Int} (h : Code c) : ∃ bs vs v key x, Ev (fun k => spec_DrawPutIn.f k c) (bs, vs, v, key, x) ∧ DP bs vs := by
  obtain ⟨bs, vs, a, s, e, D, a0, a1⟩ := pool_ok h
  obtain ⟨v, a2, s2, e2, v0, v1, h1, h2⟩ := pick_ok h a s (wrap64 ((vs.length : Int) + 1)) a0 (by omega)
  obtain ⟨q, a3, s3, e3, q0, q1, h3, h4⟩ := pick_ok h a2 s2 18 (by omega) (by omega)
  obtain ⟨x, a4, s4, e4, _, h5, h6⟩ := among_ok h a3 s3 [0, 5, 9999, 10000] (by simp) (by omega) (by omega)
  refine ⟨bs, vs, v, wrap64 (q - 1), x, ?_, D⟩
  unfold spec_DrawPutIn.f
  exact Ev.bind e (Ev.cbind e2 (Ev.cbind e3 (Ev.cbind e4 (Ev.now _))))
theorem drawDiffIn_ok {c : List Int} (h : Code c) : ∃ bs vs v u, Ev (fun k => spec_DrawDiffIn.f k c) (bs, vs, v, u) ∧ DP bs vs := by
  obtain ⟨bs, vs, a, s, e, D, a0, a1⟩ := pool_ok h
  obtain ⟨v, a2, s2, e2, v0, v1, h1, h2⟩ := pick_ok h a s (vs.length : Int) a0 (by omega)
  obtain ⟨q, a3, s3, e3, q0, q1, h3, h4⟩ := pick_ok h a2 s2 (wrap64 ((vs.length : Int) + 1)) (by omega) (by omega)
  refine ⟨bs, vs, v, q, ?_, D⟩
  unfold spec_DrawDiffIn.f
  exact Ev.bind e (Ev.cbind e2 (Ev.cbind e3 (Ev.now _)))
theorem drawCloneOf_ok {c : List Int} (h : Code c) : ∃ bs vs v, Ev (fun k => spec_DrawCloneOf.f k c) (bs, vs, v) ∧ DP bs vs := by
  obtain ⟨bs, vs, a, s, e, D, a0, a1⟩ := pool_ok h
  obtain ⟨v, a2, s2, e2, v0, v1, h1, h2⟩ := pick_ok h a s (wrap64 ((vs.length : Int) + 1)) a0 (by omega)
  refine ⟨bs, vs, v, ?_, D⟩
  unfold spec_DrawCloneOf.f
  exact Ev.bind e (Ev.cbind e2 (Ev.now _))

theorem samePools_loop (bs : List S65) (vs : List Int) (hl : bs.length ≤ 1048576) (hk : ∀ a ∈ bs, a.f0.length ≤ 1048576) (rest : List S65) : ∀ pre : List S65, bs = pre ++ rest → Ev (fun k => laws_samePools.l0 k bs.length pre.length bs vs bs vs) true := by
  induction rest with
  | nil => intro pre h; exact Ev.end (fun k => by rw [laws_samePools.l0, if_neg (by rw [h]; simp)])
  | cons b t ih =>
    intro pre h
    have hlen : bs.length = pre.length + (t.length + 1) := by rw [h]; simp
    have hb : rd_T65 bs (pre.length : Int) = b := rd65 bs pre.length b (by rw [h]; simp)
    have hw : wrap64 ((pre.length : Int) + 1) = ((pre.length + 1 : Nat) : Int) := by rw [wrap_id (by omega) (by omega)]; simp
    have e := ih (pre ++ [b]) (by rw [h]; simp)
    simp only [List.length_append, List.length_singleton] at e
    have hs := sameInts_same b.f0 (by have := hk b (by rw [h]; simp); omega)
    refine Ev.succ ?_
    simp only [laws_samePools.l0]
    rw [hb, hw]
    exact Ev.pos (by omega) (Ev.pos (by omega) (Ev.pos (by omega) (Ev.pos (by omega) (Ev.neg (by simp) (Ev.bind hs (Ev.pos rfl e))))))
theorem samePools_same (bs : List S65) (vs : List Int) (hl : bs.length ≤ 1048576) (hv : vs.length ≤ 1048576) (hk : ∀ a ∈ bs, a.f0.length ≤ 1048576) : Ev (fun k => laws_samePools.f k bs vs bs vs) true := by
  unfold laws_samePools.f
  refine Ev.bind (sameInts_same vs (by omega)) (Ev.pos rfl (Ev.succ ?_))
  simp only [laws_samePools.j0]
  exact Ev.neg (by simp) (samePools_loop bs vs hl hk bs [] rfl)

theorem fv_j4 (v : Int) (bs : List S65) (vs : List Int) (b : Bool) (h : b = true → ∃ us, vs = us ++ [rd us v] ∧ (0 ≤ v ∧ v < us.length) ∧ goodP bs vs = true) : Ev (fun k => laws_FnVersions.j4 k v b false bs vs) true := by
  refine Ev.succ ?_
  simp only [laws_FnVersions.j4]
  refine Ev.neg (by simp) ?_
  cases b with
  | false => exact Ev.neg (by simp) (Ev.now _)
  | true =>
    obtain ⟨us, rfl, c, g⟩ := h rfl
    have hn := (goodP_GP g).nv
    have hw : wrap64 (((us ++ [rd us v]).length : Int) - 1) = (us.length : Int) := by
      rw [wrap_id (by omega) (by omega)]; simp
    have e := diffIn_good bs (us ++ [rd us v]) v (us.length : Int) g (by simp; omega) (by simp; omega)
    rw [diffP_clone v c] at e
    rw [hw]
    exact Ev.pos rfl (Ev.bind e (Ev.pos rfl (Ev.now _)))
theorem fv_j3 {c : List Int} (h : Code c) : Ev (fun k => laws_FnVersions.j3 k c) true := by
  refine Ev.succ ?_
  simp only [laws_FnVersions.j3]
  obtain ⟨bs, vs, v, u, e, D⟩ := drawDiffIn_ok h
  have m0 : bs.length ≤ 1048576 := by have := D.nb; omega
  have m1 : vs.length ≤ 1048576 := by have := D.nv; omega
  have mb : ∀ a ∈ bs, a.f0.length ≤ 1048576 := fun a ha => by have := D.four a ha; omega
  obtain ⟨l, b, hl, e1, e2⟩ := diffIn_eq bs vs v u m0 m1 mb
  obtain ⟨cs, us, w, e3, D2⟩ := drawCloneOf_ok h
  have n0 : cs.length ≤ 1048576 := by have := D2.nb; omega
  have n1 : us.length ≤ 1048576 := by have := D2.nv; omega
  have nb : ∀ a ∈ cs, a.f0.length ≤ 1048576 := fun a ha => by have := D2.four a ha; omega
  have hs := sameInts_same l (by omega)
  rcases clone_two cs us w n0 n1 nb with ⟨e4, e5⟩ | ⟨g, c0, c4, e4, e5⟩
  · have hp := samePools_same [] [] (by simp) (by simp) (by simp)
    exact Ev.bind e (Ev.bind e2 (Ev.bind e1 (Ev.bind e3 (Ev.bind e5 (Ev.bind e4 (Ev.neg (by simp) (Ev.bind hs (Ev.pos rfl (Ev.neg (by simp) (Ev.bind hp (fv_j4 w [] [] false (by simp))))))))))))
  · have hp := samePools_same cs (us ++ [rd us w]) n0 (by simp; omega) nb
    exact Ev.bind e (Ev.bind e2 (Ev.bind e1 (Ev.bind e3 (Ev.bind e5 (Ev.bind e4 (Ev.neg (by simp) (Ev.bind hs (Ev.pos rfl (Ev.neg (by simp) (Ev.bind hp (fv_j4 w cs (us ++ [rd us w]) true (fun _ => ⟨us, rfl, c0, GP_goodP (clone_GP (goodP_GP g) w c0 c4)⟩)))))))))))) 
theorem fv_l0 {c : List Int} (h : Code c) (bs : List S65) (vs : List Int) (v key x : Int) (g : goodP bs vs = true) (c0 : 0 ≤ v ∧ v < vs.length) (c1 : 0 ≤ key ∧ key ≤ 15) (c2 : 0 ≤ x ∧ x ≤ 9999) (c3 : bs.length + 2 ≤ 200) (c4 : vs.length < 40) (d : Nat) : ∀ i : Int, 0 ≤ i → i ≤ vs.length → (vs.length : Int) - i = d →
    Ev (fun k => laws_FnVersions.l0 k c v key x (vs.length : Int) i bs vs (putB bs vs v key x) (vs ++ [(bs.length : Int) + 1])) true := by
  have G := goodP_GP g
  have g2 := GP_goodP (put_GP G v key x c0 c1 c2 c3 c4)
  induction d with
  | zero =>
    intro i i0 i1 hd
    refine Ev.succ ?_
    simp only [laws_FnVersions.l0]
    have e1 := diffIn_good _ _ v (vs.length : Int) g2 (by simp; omega) (by simp only [List.length_append, List.length_singleton]; omega)
    rw [diffP_put G v key x c0 c1 16 (Nat.le_refl _)] at e1
    have e2 := getIn_good bs vs v key g c0 c1
    have e3 := getIn_good _ _ (vs.length : Int) key g2 (by simp only [List.length_append, List.length_singleton]; omega) c1
    rw [put_new G v key x c0 c1 key c1.1 c1.2, if_pos rfl] at e3
    refine Ev.neg (by omega) ?_
    by_cases q : getP bs vs v key = x
    · rw [if_neg (fun h => h.2 q)] at e1
      exact Ev.bind e1 (Ev.cbind e2 (Ev.cbind e3 (Ev.pos rfl (Ev.pos rfl (Ev.pos rfl (Ev.pos rfl (Ev.neg (by simp) (Ev.neg (by simp) (Ev.neg (by simp [q]) (fv_j3 h))))))))))
    · rw [if_pos ⟨by omega, q⟩] at e1
      exact Ev.bind e1 (Ev.cbind e2 (Ev.cbind e3 (Ev.pos rfl (Ev.pos rfl (Ev.pos rfl (Ev.pos rfl (Ev.neg (by simp) (Ev.pos (by simp) (Ev.pos (by simp) (Ev.pos rfl (Ev.neg (by simp [q]) (fv_j3 h))))))))))))
  | succ d ih =>
    intro i i0 i1 hd
    refine Ev.succ ?_
    simp only [laws_FnVersions.l0]
    have hw : wrap64 (i + 1) = i + 1 := wrap_id (by omega) (by omega)
    rw [hw]
    have e1 := allIn_good bs vs i g ⟨i0, by omega⟩
    have e2 := allIn_good _ _ i g2 (by simp; omega)
    rw [allP_put G v key x i i0 (by omega) 16 (Nat.le_refl _)] at e2
    have hs := sameInts_same (allP bs vs i 16) (by rw [allP_length]; omega)
    exact Ev.pos (by omega) (Ev.bind e1 (Ev.bind e2 (Ev.pos rfl (Ev.pos rfl (Ev.bind hs (Ev.pos rfl (ih (i + 1) (by omega) (by omega) (by omega))))))))
theorem FnVersions : laws_FnVersions.Pure := by
  intro l0 l1 p0 p1 p2 q0 q1 q2
  refine Ev.rounds (g := fun k => laws_FnVersions.f k l0 l1) (r := true) ?_
  unfold laws_FnVersions.f
  by_cases c : (wrap64 ((l0.length : Int) + (l1.length : Int))) > 1048576
  · exact Ev.pos c (Ev.now _)
  refine Ev.neg c ?_
  obtain ⟨bs, vs, v, key, x, e, D⟩ := drawPutIn_ok (code_of p2)
  have m0 : bs.length ≤ 1048576 := by have := D.nb; omega
  have m1 : vs.length ≤ 1048576 := by have := D.nv; omega
  have mb : ∀ a ∈ bs, a.f0.length ≤ 1048576 := fun a ha => by have := D.four a ha; omega
  have gi := goodPool_impl bs vs m0
  have gs := goodPool_spec bs vs m0 m1 mb
  have j3 := fv_j3 (code_of q2)
  rcases putIn_two bs vs v key x m0 m1 mb with ⟨e1, e2⟩ | ⟨g, c0, c1, c2, c3, c4, e1, e2⟩
  · have hp := samePools_same [] [] (by simp) (by simp) (by simp)
    refine Ev.bind e (Ev.bind e2 (Ev.bind e1 (Ev.neg (by simp) (Ev.bind hp (Ev.pos rfl (Ev.cbind gi (Ev.bind gs (Ev.succ ?_))))))))
    simp only [laws_FnVersions.j0]
    exact Ev.neg (by simp) (Ev.neg (by simp) j3)
  · have G := goodP_GP g
    have g2 := GP_goodP (put_GP G v key x c0 c1 c2 c3 c4)
    have D2 := D.put v key x g c0 c1 c3 c4
    have hp := samePools_same (putB bs vs v key x) (vs ++ [(bs.length : Int) + 1]) (by have := D2.nb; omega) (by have := D2.nv; omega) (fun a ha => by have := D2.four a ha; omega)
    have gi2 := goodPool_impl (putB bs vs v key x) (vs ++ [(bs.length : Int) + 1]) (by have := D2.nb; omega)
    rw [g2] at gi2
    refine Ev.bind e (Ev.bind e2 (Ev.bind e1 (Ev.neg (by simp) (Ev.bind hp (Ev.pos rfl (Ev.cbind gi (Ev.bind gs (Ev.succ ?_))))))))
    simp only [laws_FnVersions.j0]
    have hw1 : wrap64 ((vs.length : Int) + 1) = (vs.length : Int) + 1 := wrap_id (by omega) (by omega)
    have hw2 : wrap64 ((bs.length : Int) + 2) = (bs.length : Int) + 2 := wrap_id (by omega) (by omega)
    rw [hw1, hw2]
    refine Ev.neg (by simp) (Ev.pos (by trivial) (Ev.cbind gi2 (Ev.pos (by trivial) (Ev.pos (by simp) (Ev.succ ?_)))))
    simp only [laws_FnVersions.j1]
    exact Ev.neg (by simp [putB]) (fv_l0 (code_of q2) bs vs v key x g c0 c1 c2 c3 c4 vs.length 0 (by omega) (by omega) (by omega))

end Go.Proofs.Ytnafnpoflheonaa.Pure
