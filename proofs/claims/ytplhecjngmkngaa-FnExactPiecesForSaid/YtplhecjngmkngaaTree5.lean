/- A program's values as trees, and its code as steps on them. No condition. -/
import Derived.Test.YtplhecjngmkngaaTree4
import Derived.IntWalk
set_option linter.all false
set_option linter.unusedVariables false
set_option linter.unusedSimpArgs false
set_option linter.unusedSectionVars false
set_option linter.unnecessarySimpa false
set_option linter.deprecated false
/- Trees: the operations on states as conditions, which simp reckons: quiet ones and those that make memory. No condition. -/
set_option linter.unusedVariables false
set_option linter.unusedSimpArgs false
set_option linter.unusedSectionVars false
namespace Go.Proofs.YtplhecjngmkngaaT
open Go

/-- what simp does not look into -/
inductive Fx (A : Prop) : Type
  | hold
inductive FxA {α : Sort _} (A : α) : Type
  | hold
def hd {α : Sort _} (K : α) : FxA K := .hold
def need (c K : Prop) : Prop := c ∧ K
def need' (c : Prop) {K : Prop} (_ : Fx K) : Prop := c ∧ K
theorem need_eq {c K : Prop} : need c K = need' c (.hold : Fx K) := rfl
theorem need_of {c K : Prop} (h : c) : need' c (.hold : Fx K) = K := by simp [need', h]
theorem need_t {K : Prop} : need' True (.hold : Fx K) = K := by simp [need']
theorem need_i {c K : Prop} (h1 : c) (h2 : K) : need' c (.hold : Fx K) := ⟨h1, h2⟩
def br (b : Bool) (A B : Prop) : Prop := (b = true → A) ∧ (b = false → B)
def br' (b : Bool) {A B : Prop} (_ : Fx A) (_ : Fx B) : Prop := (b = true → A) ∧ (b = false → B)
def brP (p : Prop) {A B : Prop} (_ : Fx A) (_ : Fx B) : Prop := (p → A) ∧ (¬ p → B)
theorem br_eq {b : Bool} {A B : Prop} : br b A B = br' b (.hold : Fx A) (.hold : Fx B) := rfl
theorem br_true {A B : Prop} : br' true (.hold : Fx A) (.hold : Fx B) = A := by simp [br']
theorem br_false {A B : Prop} : br' false (.hold : Fx A) (.hold : Fx B) = B := by simp [br']
theorem br_not {b : Bool} {A B : Prop} : br' (!b) (.hold : Fx A) (.hold : Fx B) = br' b (.hold : Fx B) (.hold : Fx A) := by cases b <;> simp [br']
theorem br_dec {p : Prop} [Decidable p] {A B : Prop} : br' (decide p) (.hold : Fx A) (.hold : Fx B) = brP p (.hold : Fx A) (.hold : Fx B) := by by_cases h : p <;> simp [br', brP, h]
theorem brP_true {A B : Prop} : brP True (.hold : Fx A) (.hold : Fx B) = A := by simp [brP]
theorem brP_false {A B : Prop} : brP False (.hold : Fx A) (.hold : Fx B) = B := by simp [brP]
theorem brP_not {p : Prop} {A B : Prop} : brP (¬ p) (.hold : Fx A) (.hold : Fx B) = brP p (.hold : Fx B) (.hold : Fx A) := by by_cases h : p <;> simp [brP, h]
theorem brP_i {p : Prop} {A B : Prop} (h1 : p → A) (h2 : ¬ p → B) : brP p (.hold : Fx A) (.hold : Fx B) := ⟨h1, h2⟩
def pO {α : Type} : Option α → (α → Prop) → Prop
  | some a, K => K a
  | none, _ => False
theorem pO_ok {α : Type} {o : Option α} {K : α → Prop} (h : pO o K) : ∃ a, o = some a ∧ K a := by
  cases o with
  | none => exact h.elim
  | some a => exact ⟨a, rfl, h⟩
def pInt : Option V → (IntKind → Int → Prop) → Prop
  | some (.w (.one (.int k a))), K => K k a
  | _, _ => False
theorem pInt_ok {o : Option V} {K} (h : pInt o K) : ∃ k a, o = some (.w (.one (.int k a))) ∧ K k a := by
  unfold pInt at h; split at h
  · exact ⟨_, _, rfl, h⟩
  · exact h.elim
def pBool : Option V → (Bool → Prop) → Prop
  | some (.w (.one (.bool b))), K => K b
  | _, _ => False
theorem pBool_ok {o : Option V} {K} (h : pBool o K) : ∃ b, o = some (.w (.one (.bool b))) ∧ K b := by
  unfold pBool at h; split at h
  · exact ⟨_, rfl, h⟩
  · exact h.elim
def pStr : Option V → (ByteArray → Prop) → Prop
  | some (.w (.one (.str b))), K => K b
  | _, _ => False
theorem pStr_ok {o : Option V} {K} (h : pStr o K) : ∃ b, o = some (.w (.one (.str b))) ∧ K b := by
  unfold pStr at h; split at h
  · exact ⟨_, rfl, h⟩
  · exact h.elim
def pHs : Option V → (Nat → List Nat → Nat → Nat → Nat → Prop) → Prop
  | some (.w (.one (.hs r p off st n))), K => K r p off st n
  | _, _ => False
theorem pHs_ok {o : Option V} {K} (h : pHs o K) : ∃ r p off st n, o = some (.w (.one (.hs r p off st n))) ∧ K r p off st n := by
  unfold pHs at h; split at h
  · exact ⟨_, _, _, _, _, rfl, h⟩
  · exact h.elim
def pHp : Option V → (Nat → List Nat → Nat → Prop) → Prop
  | some (.w (.one (.hp r p off))), K => K r p off
  | _, _ => False
theorem pHp_ok {o : Option V} {K} (h : pHp o K) : ∃ r p off, o = some (.w (.one (.hp r p off))) ∧ K r p off := by
  unfold pHp at h; split at h
  · exact ⟨_, _, _, rfl, h⟩
  · exact h.elim
/-- a slice or nil -/
def pSl : Option V → (Nat → List Nat → Nat → Nat → Nat → Prop) → Prop → Prop
  | some (.w (.one (.hs r p off st n))), K, _ => K r p off st n
  | some (.w (.one .nil)), _, K => K
  | _, _, _ => False
theorem pSl_ok {o : Option V} {K L} (h : pSl o K L) : (∃ r p off st n, o = some (.w (.one (.hs r p off st n))) ∧ K r p off st n) ∨ (o = some (.w (.one .nil)) ∧ L) := by
  unfold pSl at h; split at h
  · exact .inl ⟨_, _, _, _, _, rfl, h⟩
  · exact .inr ⟨rfl, h⟩
  · exact h.elim
def pAgg : Option V → (List H → Prop) → Prop
  | some (.w (.agg hs)), K => K hs
  | _, _ => False
theorem pAgg_ok {o : Option V} {K} (h : pAgg o K) : ∃ hs, o = some (.w (.agg hs)) ∧ K hs := by
  unfold pAgg at h; split at h
  · exact ⟨_, rfl, h⟩
  · exact h.elim
def pW : Option V → (W → Prop) → Prop
  | some (.w w), K => K w
  | _, _ => False
theorem pW_ok {o : Option V} {K} (h : pW o K) : ∃ w, o = some (.w w) ∧ K w := by
  unfold pW at h; split at h
  · exact ⟨_, rfl, h⟩
  · exact h.elim
def pTup : Option V → (List W → Prop) → Prop
  | some (.tup xs), K => K xs
  | _, _ => False
theorem pTup_ok {o : Option V} {K} (h : pTup o K) : ∃ xs, o = some (.tup xs) ∧ K xs := by
  unfold pTup at h; split at h
  · exact ⟨_, rfl, h⟩
  · exact h.elim
/-- two numbers, or two texts -/
def p2 : Option V → Option V → (IntKind → Int → IntKind → Int → Prop) → (ByteArray → ByteArray → Prop) → Prop
  | some (.w (.one (.int k a))), some (.w (.one (.int k' b))), K, _ => K k a k' b
  | some (.w (.one (.str a))), some (.w (.one (.str b))), _, K => K a b
  | _, _, _, _ => False
theorem p2_ok {o q : Option V} {K L} (h : p2 o q K L) : (∃ k a k' b, o = some (.w (.one (.int k a))) ∧ q = some (.w (.one (.int k' b))) ∧ K k a k' b) ∨ (∃ a b, o = some (.w (.one (.str a))) ∧ q = some (.w (.one (.str b))) ∧ L a b) := by
  unfold p2 at h; split at h
  · exact .inl ⟨_, _, _, _, rfl, rfl, h⟩
  · exact .inr ⟨_, _, rfl, rfl, h⟩
  · exact h.elim
-- heads
def pO' {α : Type} (o : Option α) {K : α → Prop} (_ : FxA K) : Prop := pO o K
theorem pO_hd {α : Type} {o : Option α} {K : α → Prop} : pO o K = pO' o (hd K) := rfl
theorem pO'_0 {α : Type} {a : α} {K : α → Prop} : pO' (some a) (hd K) = K a := rfl
def pInt' (o : Option V) {K : IntKind → Int → Prop} (_ : FxA K) : Prop := pInt o K
theorem pInt_hd {o : Option V} {K : IntKind → Int → Prop} : pInt o K = pInt' o (hd K) := rfl
theorem pInt'_0 {k : IntKind} {a : Int} {K : IntKind → Int → Prop} : pInt' (some (.w (.one (.int k a)))) (hd K) = K k a := rfl
def pBool' (o : Option V) {K : Bool → Prop} (_ : FxA K) : Prop := pBool o K
theorem pBool_hd {o : Option V} {K : Bool → Prop} : pBool o K = pBool' o (hd K) := rfl
theorem pBool'_0 {b : Bool} {K : Bool → Prop} : pBool' (some (.w (.one (.bool b)))) (hd K) = K b := rfl
def pStr' (o : Option V) {K : ByteArray → Prop} (_ : FxA K) : Prop := pStr o K
theorem pStr_hd {o : Option V} {K : ByteArray → Prop} : pStr o K = pStr' o (hd K) := rfl
theorem pStr'_0 {b : ByteArray} {K : ByteArray → Prop} : pStr' (some (.w (.one (.str b)))) (hd K) = K b := rfl
def pHs' (o : Option V) {K : Nat → List Nat → Nat → Nat → Nat → Prop} (_ : FxA K) : Prop := pHs o K
theorem pHs_hd {o : Option V} {K : Nat → List Nat → Nat → Nat → Nat → Prop} : pHs o K = pHs' o (hd K) := rfl
theorem pHs'_0 {r : Nat} {p : List Nat} {off st n : Nat} {K : Nat → List Nat → Nat → Nat → Nat → Prop} : pHs' (some (.w (.one (.hs r p off st n)))) (hd K) = K r p off st n := rfl
def pHp' (o : Option V) {K : Nat → List Nat → Nat → Prop} (_ : FxA K) : Prop := pHp o K
theorem pHp_hd {o : Option V} {K : Nat → List Nat → Nat → Prop} : pHp o K = pHp' o (hd K) := rfl
theorem pHp'_0 {r : Nat} {p : List Nat} {off : Nat} {K : Nat → List Nat → Nat → Prop} : pHp' (some (.w (.one (.hp r p off)))) (hd K) = K r p off := rfl
def pSl' (o : Option V) {K : Nat → List Nat → Nat → Nat → Nat → Prop} {L : Prop} (_ : FxA K) (_ : FxA L) : Prop := pSl o K L
theorem pSl_hd {o : Option V} {K : Nat → List Nat → Nat → Nat → Nat → Prop} {L : Prop} : pSl o K L = pSl' o (hd K) (hd L) := rfl
theorem pSl'_0 {r : Nat} {p : List Nat} {off st n : Nat} {K : Nat → List Nat → Nat → Nat → Nat → Prop} {L : Prop} : pSl' (some (.w (.one (.hs r p off st n)))) (hd K) (hd L) = K r p off st n := rfl
theorem pSl'_1  {K : Nat → List Nat → Nat → Nat → Nat → Prop} {L : Prop} : pSl' (some (.w (.one .nil))) (hd K) (hd L) = L := rfl
def pAgg' (o : Option V) {K : List H → Prop} (_ : FxA K) : Prop := pAgg o K
theorem pAgg_hd {o : Option V} {K : List H → Prop} : pAgg o K = pAgg' o (hd K) := rfl
theorem pAgg'_0 {hs : List H} {K : List H → Prop} : pAgg' (some (.w (.agg hs))) (hd K) = K hs := rfl
def pW' (o : Option V) {K : W → Prop} (_ : FxA K) : Prop := pW o K
theorem pW_hd {o : Option V} {K : W → Prop} : pW o K = pW' o (hd K) := rfl
theorem pW'_0 {x : W} {K : W → Prop} : pW' (some (.w x)) (hd K) = K x := rfl
def pTup' (o : Option V) {K : List W → Prop} (_ : FxA K) : Prop := pTup o K
theorem pTup_hd {o : Option V} {K : List W → Prop} : pTup o K = pTup' o (hd K) := rfl
theorem pTup'_0 {xs : List W} {K : List W → Prop} : pTup' (some (.tup xs)) (hd K) = K xs := rfl
def p2' (o q : Option V) {K : IntKind → Int → IntKind → Int → Prop} {L : ByteArray → ByteArray → Prop} (_ : FxA K) (_ : FxA L) : Prop := p2 o q K L
theorem p2_hd {o q : Option V} {K : IntKind → Int → IntKind → Int → Prop} {L : ByteArray → ByteArray → Prop} : p2 o q K L = p2' o q (hd K) (hd L) := rfl
theorem p2'_0 {k k2 : IntKind} {a b : Int} {K : IntKind → Int → IntKind → Int → Prop} {L : ByteArray → ByteArray → Prop} : p2' (some (.w (.one (.int k a)))) (some (.w (.one (.int k2 b)))) (hd K) (hd L) = K k a k2 b := rfl
theorem p2'_1 {a b : ByteArray} {K : IntKind → Int → IntKind → Int → Prop} {L : ByteArray → ByteArray → Prop} : p2' (some (.w (.one (.str a)))) (some (.w (.one (.str b)))) (hd K) (hd L) = L a b := rfl
-- heads end

/-- a bound, or what stands for it -/
def pB (s : St) (dflt : Nat) : Option X → (Nat → Prop) → Prop
  | none, K => K dflt
  | some x, K => pInt (ev s x) fun _ a => need (0 ≤ a) (K a.toNat)
theorem pB_ok {s : St} {dflt : Nat} {o : Option X} {K : Nat → Prop} (h : pB s dflt o K) : ∃ n, (match o with | none => n = dflt | some y => ∃ k, ev s y = some (.w (.one (.int k (n : Nat))))) ∧ K n := by
  cases o with
  | none => exact ⟨dflt, rfl, h⟩
  | some x =>
    obtain ⟨k, a, h1, h2, h3⟩ := pInt_ok h
    exact ⟨a.toNat, ⟨k, by rw [Int.toNat_of_nonneg h2]; exact h1⟩, h3⟩

/-- parts, told -/
def evp (s : St) : List (Nat × Nat × X) → Option (List (Nat × Nat × W))
  | [] => some []
  | (o, z, x) :: l => match ev s x with
    | some (.w w) => (evp s l).map ((o, z, w) :: ·)
    | _ => none
def evp1 (s : St) : List (Nat × X) → Option (List (Nat × W))
  | [] => some []
  | (o, x) :: l => match ev s x with
    | some (.w w) => (evp1 s l).map ((o, w) :: ·)
    | _ => none
theorem evp_ok {s : St} : ∀ {l : List (Nat × Nat × X)} {vs}, evp s l = some vs → (l.map fun (o, z, x) => (o, z, ev s x)) = (vs.map fun (o, z, v) => (o, z, some (V.w v)))
  | [], vs, h => by simp only [evp, Option.some.injEq] at h; subst h; rfl
  | (o, z, x) :: l, vs, h => by
    simp only [evp] at h
    split at h
    · rename_i w hw
      simp only [Option.map_eq_some_iff] at h
      obtain ⟨vs', h1, rfl⟩ := h
      simp [hw, evp_ok h1]
    · simp at h
theorem evp1_ok {s : St} : ∀ {l : List (Nat × X)} {vs}, evp1 s l = some vs → (l.map fun (i, x) => (i, ev s x)) = (vs.map fun (i, v) => (i, some (V.w v)))
  | [], vs, h => by simp only [evp1, Option.some.injEq] at h; subst h; rfl
  | (o, x) :: l, vs, h => by
    simp only [evp1] at h
    split at h
    · rename_i w hw
      simp only [Option.map_eq_some_iff] at h
      obtain ⟨vs', h1, rfl⟩ := h
      simp [hw, evp1_ok h1]
    · simp at h

/-- bytes of a row of cells -/
def bytesT : List T → Option (List UInt8)
  | [] => some []
  | .int .u8 n :: l => if 0 ≤ n ∧ n < 256 then (bytesT l).map (UInt8.ofNat n.toNat :: ·) else none
  | _ => none
theorem bytesT_ok : ∀ {l : List T} {bs}, bytesT l = some bs → l = bs.map fun b : UInt8 => T.int .u8 b.toNat
  | [], bs, h => by simp only [bytesT, Option.some.injEq] at h; subst h; rfl
  | t :: l, bs, h => by
    unfold bytesT at h
    split at h
    · simp at h; subst h; simp_all
    · rename_i n l' heq
      cases heq
      split at h
      · rename_i hn
        simp only [Option.map_eq_some_iff] at h
        obtain ⟨bs', h1, rfl⟩ := h
        have e : ((UInt8.ofNat n.toNat).toNat : Int) = n := by
          rw [UInt8.toNat_ofNat']; omega
        rw [List.map_cons, e, ← bytesT_ok h1]
      · simp at h
    · simp at h

/-- what a quiet operation yields -/
def qi : I → St → (V → Prop) → Prop
  | .mov x, s, K => pO (ev s x) K
  | .pick c a b, s, K => pBool (ev s c) fun β => br β (pO (ev s a) K) (pO (ev s b) K)
  | .build z ps, s, K => pO (evp s ps) fun vs => need (vs.all (fun q => liveW s.roots q.2.2) = true) (pO (fillH z vs) fun cs => K (.w (.agg cs)))
  | .load none a, s, K => pHp (ev s a) fun r p off => pO (get s.roots r) fun t => pO (sub t (p ++ [off])) fun c => pO (hOf r (p ++ [off]) c) fun h => K (.w (.one h))
  | .load (some k) a, s, K => pHp (ev s a) fun r p off => pO (get s.roots r) fun t => pO (sub t p) fun o => pO (hsOf r p (cells o) off k) fun hs => K (.w (.agg hs))
  | .nilc x, s, K => pHp (ev s x) fun r p off => need ((get s.roots r).isSome) (K (.w (.one (.hp r p off))))
  | .bin .shl x y, s, K => pInt (ev s x) fun k a => pInt (ev s y) fun _ b => need (0 ≤ b) (pO (binShift .shl k a b) fun h => K (.w (.one h)))
  | .bin .shr x y, s, K => pInt (ev s x) fun k a => pInt (ev s y) fun _ b => need (0 ≤ b) (pO (binShift .shr k a b) fun h => K (.w (.one h)))
  | .bin .add x y, s, K => p2 (ev s x) (ev s y) (fun k a k' b => need (k = k') (K (.w (.one (.int k (k.wrap (a + b))))))) (fun a b => need (a.size + b.size ≤ 9223372036854775807) (K (.w (.one (.str (a ++ b))))))
  | .bin op x y, s, K => p2 (ev s x) (ev s y) (fun k a k' b => need (k = k') (pO (binInt op k a b) fun h => K (.w (.one h)))) (fun a b => pO (binStr op a b) fun h => K (.w (.one h)))
  | .beq ne x y, s, K => pBool (ev s x) fun a => pBool (ev s y) fun b => K (.w (.one (.bool (if ne then !(a == b) else a == b))))
  | .un .not x, s, K => pBool (ev s x) fun b => K (.w (.one (.bool (!b))))
  | .un .neg x, s, K => pInt (ev s x) fun k a => K (.w (.one (.int k (k.wrap (0 - a)))))
  | .cvi k x, s, K => pInt (ev s x) fun _ a => K (.w (.one (.int k (k.wrap a))))
  | .cvs x, s, K => pSl (ev s x) (fun r p off st n => need (st = 1) (pO (get s.roots r) fun t => pO (sub t p) fun o => pO (bytesT (((cells o).drop off).take n)) fun bs => need (bs.length = n ∧ ∃ own n0, o = .sl own 1 n0 (cells o)) (K (.w (.one (.str ⟨bs.toArray⟩)))))) (K (.w (.one (.str ByteArray.empty))))
  | .substr x lo hi, s, K => pStr (ev s x) fun b => pB s 0 lo fun l => pB s b.size hi fun h => need (l ≤ h ∧ h ≤ b.size) (K (.w (.one (.str (b.extract l h)))))
  | .slice st x lo hi none, s, K => pHs (ev s x) fun r p off st' n => need (st' = st ∧ (get s.roots r).isSome) (pB s 0 lo fun l => pB s n hi fun h => need (l ≤ h ∧ h ≤ n) (K (.w (.one (.hs r p (off + l * st) st (h - l))))))
  | .slice st x none (some hi) (some mx), s, K => pHs (ev s x) fun r p off st' n => need (st' = st ∧ (get s.roots r).isSome) (pInt (ev s hi) fun _ a => pInt (ev s mx) fun _ b => need (a = 0 ∧ b = 0) (K (.w (.one .nil))))
  | .faddr x off, s, K => pHp (ev s x) fun r p o => need ((get s.roots r).isSome) (K (.w (.one (.hp r p (o + off)))))
  | .field x off none, s, K => pAgg (ev s x) fun hs => pO (hs[off]?) fun h => K (.w (.one h))
  | .field x off (some k), s, K => pAgg (ev s x) fun hs => need (off + k ≤ hs.length) (K (.w (.agg ((hs.drop off).take k))))
  | .iaddr st x i, s, K => pHs (ev s x) fun r p off st' n => need (st' = st ∧ (get s.roots r).isSome) (pInt (ev s i) fun _ j => need (0 ≤ j ∧ j < n) (K (.w (.one (.hp r p (off + j.toNat * st))))))
  | .at x i, s, K => pStr (ev s x) fun b => pInt (ev s i) fun _ j => need (0 ≤ j) (pO (b[j.toNat]?) fun c => K (.w (.one (.int .u8 c.toNat))))
  | .ext x i, s, K => pTup (ev s x) fun xs => pO (xs[i]?) fun v => K (.w v)
  | .len x, s, K => pSl (ev s x) (fun r _ _ _ n => need ((get s.roots r).isSome) (K (.w (.one (.int .i64 n))))) (K (.w (.one (.int .i64 0))))
  | .lent x, s, K => pStr (ev s x) fun b => K (.w (.one (.int .i64 b.size)))
  | .mm mx [x, y], s, K => pInt (ev s x) fun k a => pInt (ev s y) fun k' b => need (k = k') (K (.w (.one (.int k (if mx then (if b > a then b else a) else (if b < a then b else a))))))
  | .mkf f caps, s, K => pO (caps.mapM fun x => match ev s x with | some (.w (.one h)) => some h | _ => none) fun hs => K (.w (.one (.fn f hs)))
  | _, _, _ => False

theorem mapM_caps {s : St} : ∀ {caps : List X} {hs : List H}, (caps.mapM fun x => match ev s x with | some (.w (.one h)) => some h | _ => none) = some hs → (caps.map (ev s)) = (hs.map fun h => some (V.w (.one h)))
  | [], hs, h => by simp at h; subst h; rfl
  | x :: caps, hs, h => by
    rw [List.mapM_cons] at h
    split at h
    · rename_i g hg
      simp only [Option.pure_def, Option.bind_eq_bind, Option.bind_some, Option.bind_eq_some_iff, Option.some.injEq] at h
      obtain ⟨hs', h1, rfl⟩ := h
      simp [hg, mapM_caps h1]
    · simp at h

theorem qi_ok {i : I} {s : St} {K : V → Prop} (h : qi i s K) : ∃ v, Yld i s v ∧ K v := by
  unfold qi at h
  split at h
  · obtain ⟨v, h1, h2⟩ := pO_ok h; exact ⟨v, .mov h1, h2⟩
  · obtain ⟨β, h1, h2, h3⟩ := pBool_ok h
    cases β with
    | true => obtain ⟨v, h4, h5⟩ := pO_ok (h2 rfl); exact ⟨v, .pickT h1 h4, h5⟩
    | false => obtain ⟨v, h4, h5⟩ := pO_ok (h3 rfl); exact ⟨v, .pickF h1 h4, h5⟩
  · obtain ⟨vs, h1, h2, h3⟩ := pO_ok h
    obtain ⟨cs, h4, h5⟩ := pO_ok h3
    exact ⟨_, .build (evp_ok h1) h2 h4, h5⟩
  · obtain ⟨r, p, off, h1, h2⟩ := pHp_ok h
    obtain ⟨t, h3, h4⟩ := pO_ok h2
    obtain ⟨c, h5, h6⟩ := pO_ok h4
    obtain ⟨g, h7, h8⟩ := pO_ok h6
    exact ⟨_, .load1 h1 h3 h5 h7, h8⟩
  · obtain ⟨r, p, off, h1, h2⟩ := pHp_ok h
    obtain ⟨t, h3, h4⟩ := pO_ok h2
    obtain ⟨c, h5, h6⟩ := pO_ok h4
    obtain ⟨g, h7, h8⟩ := pO_ok h6
    exact ⟨_, .loadK h1 h3 h5 h7, h8⟩
  · obtain ⟨r, p, off, h1, h2, h3⟩ := pHp_ok h
    exact ⟨_, .nilc h1 h2, h3⟩
  · obtain ⟨k, a, h1, h2⟩ := pInt_ok h
    obtain ⟨k', b, h3, h4, h5⟩ := pInt_ok h2
    obtain ⟨g, h6, h7⟩ := pO_ok h5
    exact ⟨_, .binSh h1 h3 h4 h6, h7⟩
  · obtain ⟨k, a, h1, h2⟩ := pInt_ok h
    obtain ⟨k', b, h3, h4, h5⟩ := pInt_ok h2
    obtain ⟨g, h6, h7⟩ := pO_ok h5
    exact ⟨_, .binSh h1 h3 h4 h6, h7⟩
  · rcases p2_ok h with ⟨k, a, k', b, h1, h2, rfl, h4⟩ | ⟨a, b, h1, h2, h3, h4⟩
    · exact ⟨_, .binI h1 h2 rfl, h4⟩
    · exact ⟨_, .cat h1 h2 h3, h4⟩
  · rcases p2_ok h with ⟨k, a, k', b, h1, h2, rfl, h4⟩ | ⟨a, b, h1, h2, h3⟩
    · obtain ⟨g, h6, h7⟩ := pO_ok h4
      exact ⟨_, .binI h1 h2 h6, h7⟩
    · obtain ⟨g, h6, h7⟩ := pO_ok h3
      exact ⟨_, .binS h1 h2 h6, h7⟩
  · obtain ⟨a, h1, h2⟩ := pBool_ok h
    obtain ⟨b, h3, h4⟩ := pBool_ok h2
    exact ⟨_, .beq h1 h3, h4⟩
  · obtain ⟨a, h1, h2⟩ := pBool_ok h
    exact ⟨_, .not h1, h2⟩
  · obtain ⟨k, a, h1, h2⟩ := pInt_ok h
    exact ⟨_, .neg h1, h2⟩
  · obtain ⟨k, a, h1, h2⟩ := pInt_ok h
    exact ⟨_, .cvi h1, h2⟩
  · rcases pSl_ok h with ⟨r, p, off, st, n, h1, rfl, h2⟩ | ⟨h1, h2⟩
    · obtain ⟨t, h3, h4⟩ := pO_ok h2
      obtain ⟨o, h5, h6⟩ := pO_ok h4
      obtain ⟨bs, h7, ⟨h8, own, n0, h9⟩, h10⟩ := pO_ok h6
      exact ⟨_, .cvs h1 h3 (h5.trans (by rw [← h9])) (bytesT_ok h7) h8, h10⟩
    · exact ⟨_, .cvs0 h1, h2⟩
  · obtain ⟨b, h1, h2⟩ := pStr_ok h
    obtain ⟨l, h3, h4⟩ := pB_ok h2
    obtain ⟨u, h5, ⟨h6, h7⟩, h8⟩ := pB_ok h4
    exact ⟨_, .substr h1 h3 h5 h6 h7, h8⟩
  · obtain ⟨r, p, off, st', n, h1, ⟨rfl, h0⟩, h2⟩ := pHs_ok h
    obtain ⟨l, h3, h4⟩ := pB_ok h2
    obtain ⟨u, h5, ⟨h6, h7⟩, h8⟩ := pB_ok h4
    exact ⟨_, .slice h1 h0 h3 h5 h6 h7, h8⟩
  · obtain ⟨r, p, off, st', n, h1, ⟨rfl, h0⟩, h2⟩ := pHs_ok h
    obtain ⟨k, a, h3, h4⟩ := pInt_ok h2
    obtain ⟨k', b, h5, ⟨rfl, rfl⟩, h6⟩ := pInt_ok h4
    exact ⟨_, .slice0 h1 h0 rfl h3 h5, h6⟩
  · obtain ⟨r, p, off, h1, h2, h3⟩ := pHp_ok h
    exact ⟨_, .faddr h1 h2, h3⟩
  · obtain ⟨hs, h1, h2⟩ := pAgg_ok h
    obtain ⟨g, h6, h7⟩ := pO_ok h2
    exact ⟨_, .field1 h1 h6, h7⟩
  · obtain ⟨hs, h1, h2, h3⟩ := pAgg_ok h
    exact ⟨_, .fieldK h1 h2, h3⟩
  · obtain ⟨r, p, off, st', n, h1, ⟨rfl, h0⟩, h2⟩ := pHs_ok h
    obtain ⟨k, a, h3, ⟨h4, h5⟩, h6⟩ := pInt_ok h2
    exact ⟨_, .iaddr h1 h0 h3 h4 h5, h6⟩
  · obtain ⟨b, h1, h2⟩ := pStr_ok h
    obtain ⟨k, a, h3, h4, h5⟩ := pInt_ok h2
    obtain ⟨c, h6, h7⟩ := pO_ok h5
    exact ⟨_, .at h1 h3 h4 h6, h7⟩
  · obtain ⟨xs, h1, h2⟩ := pTup_ok h
    obtain ⟨c, h6, h7⟩ := pO_ok h2
    exact ⟨_, .ext h1 h6, h7⟩
  · rcases pSl_ok h with ⟨r, p, off, st, n, h1, h2, h3⟩ | ⟨h1, h2⟩
    · exact ⟨_, .lenS h1 h2, h3⟩
    · exact ⟨_, .len0 h1, h2⟩
  · obtain ⟨b, h1, h2⟩ := pStr_ok h
    exact ⟨_, .lenT h1, h2⟩
  · obtain ⟨k, a, h1, h2⟩ := pInt_ok h
    obtain ⟨k', b, h3, rfl, h4⟩ := pInt_ok h2
    exact ⟨_, .mm2 h1 h3, h4⟩
  · obtain ⟨hs, h1, h2⟩ := pO_ok h
    exact ⟨_, .mkf (mapM_caps h1), h2⟩
  · exact h.elim
-- congr
end Go.Proofs.YtplhecjngmkngaaT

/- Trees: taking, storing, making, as conditions, which simp reckons. No condition. -/
set_option linter.unusedVariables false
set_option linter.unusedSimpArgs false
set_option linter.unusedSectionVars false
namespace Go.Proofs.YtplhecjngmkngaaT
open Go

def cut (cs : List T) (off m : Nat) : List T := (cs.drop off).take m
theorem cut_all {cs : List T} {m : Nat} (h : cs.length ≤ m) : cut cs 0 m = cs := by simp [cut, List.take_of_length_le h]
theorem cut_nil {off m : Nat} : cut [] off m = [] := by simp [cut]

/-- a Bool that parts -/
def pI : Bool → Prop → Prop → Prop
  | true, K, _ => K
  | false, _, K => K
theorem pI_true {K L : Prop} : pI true K L = K := rfl
theorem pI_false {K L : Prop} : pI false K L = L := rfl
/-- a number reckoned first -/
def pN (n : Nat) (K : Nat → Prop) : Prop := K n
/-- a list reckoned first -/
def pL {α : Type} (l : List α) (K : List α → Prop) : Prop := K l
def pSlT : T → (Bool → Nat → Nat → List T → Prop) → Prop
  | .sl own st n cs, K => K own st n cs
  | _, _ => False
theorem pSlT_ok {o : T} {K} (h : pSlT o K) : ∃ own st n cs, o = .sl own st n cs ∧ K own st n cs := by
  unfold pSlT at h; split at h
  · exact ⟨_, _, _, _, rfl, h⟩
  · exact h.elim
def pBxT : T → (Bool → List T → Prop) → Prop
  | .bx own cs, K => K own cs
  | _, _ => False
theorem pBxT_ok {o : T} {K} (h : pBxT o K) : ∃ own cs, o = .bx own cs ∧ K own cs := by
  unfold pBxT at h; split at h
  · exact ⟨_, _, rfl, h⟩
  · exact h.elim

-- heads
def pI' (b : Bool) {K : Prop} {L : Prop} (_ : FxA K) (_ : FxA L) : Prop := pI b K L
theorem pI_hd {b : Bool} {K : Prop} {L : Prop} : pI b K L = pI' b (hd K) (hd L) := rfl
theorem pI'_0  {K : Prop} {L : Prop} : pI' true (hd K) (hd L) = K := rfl
theorem pI'_1  {K : Prop} {L : Prop} : pI' false (hd K) (hd L) = L := rfl
def pN' (n : Nat) {K : Nat → Prop} (_ : FxA K) : Prop := pN n K
theorem pN_hd {n : Nat} {K : Nat → Prop} : pN n K = pN' n (hd K) := rfl
theorem pN'_0 {n : Nat} {K : Nat → Prop} : pN' n (hd K) = K n := rfl
def pL' {α : Type} (l : List α) {K : List α → Prop} (_ : FxA K) : Prop := pL l K
theorem pL_hd {α : Type} {l : List α} {K : List α → Prop} : pL l K = pL' l (hd K) := rfl
theorem pL'_0 {α : Type} {l : List α} {K : List α → Prop} : pL' l (hd K) = K l := rfl
def pSlT' (o : T) {K : Bool → Nat → Nat → List T → Prop} (_ : FxA K) : Prop := pSlT o K
theorem pSlT_hd {o : T} {K : Bool → Nat → Nat → List T → Prop} : pSlT o K = pSlT' o (hd K) := rfl
theorem pSlT'_0 {own : Bool} {st n : Nat} {cs : List T} {K : Bool → Nat → Nat → List T → Prop} : pSlT' (.sl own st n cs) (hd K) = K own st n cs := rfl
def pBxT' (o : T) {K : Bool → List T → Prop} (_ : FxA K) : Prop := pBxT o K
theorem pBxT_hd {o : T} {K : Bool → List T → Prop} : pBxT o K = pBxT' o (hd K) := rfl
theorem pBxT'_0 {own : Bool} {cs : List T} {K : Bool → List T → Prop} : pBxT' (.bx own cs) (hd K) = K own cs := rfl
-- heads end

mutual
/-- a number above all roots that are named -/
def upH : H → Nat
  | .hs r _ _ _ _ => r + 1
  | .hp r _ _ => r + 1
  | .fn _ caps => upHL caps
  | _ => 0
def upHL : List H → Nat
  | [] => 0
  | g :: gs => max (upH g) (upHL gs)
end
def upW : W → Nat
  | .one g => upH g
  | .agg gs => upHL gs
def upWL : List W → Nat
  | [] => 0
  | x :: xs => max (upW x) (upWL xs)
def upV : V → Nat
  | .w x => upW x
  | .tup xs => upWL xs
def upE : List (Nat × V) → Nat
  | [] => 0
  | (_, v) :: l => max (upV v) (upE l)
def upR : List (Nat × T) → Nat
  | [] => 0
  | (r, _) :: l => max (r + 1) (upR l)
def newR (s : St) : Nat := max (upE s.env) (max (upR s.roots) (upWL s.par))

mutual
theorem upH_ok {r : Nat} : ∀ g : H, upH g ≤ r → noRefH r g = true
  | .hs r' .., h => by simp only [upH] at h; simp only [noRefH, bne_iff_ne]; omega
  | .hp r' .., h => by simp only [upH] at h; simp only [noRefH, bne_iff_ne]; omega
  | .fn _ caps, h => by simp only [upH] at h; simp only [noRefH]; exact upHL_ok caps h
  | .int .., _ | .bool .., _ | .str .., _ | .nil, _ | .nptr, _ | .un, _ => by simp [noRefH]
theorem upHL_ok {r : Nat} : ∀ gs : List H, upHL gs ≤ r → noRefHL r gs = true
  | [], _ => rfl
  | g :: gs, h => by simp only [upHL, Nat.max_le] at h; simp only [noRefHL, upH_ok g h.1, upHL_ok gs h.2, Bool.and_self]
end
theorem upW_ok {r : Nat} (x : W) (h : upW x ≤ r) : noRefW r x = true := by
  cases x with
  | one g => exact upH_ok g h
  | agg gs => exact upHL_ok gs h
theorem upWL_ok {r : Nat} : ∀ xs : List W, upWL xs ≤ r → xs.all (noRefW r) = true
  | [], _ => rfl
  | x :: xs, h => by simp only [upWL, Nat.max_le] at h; simp only [List.all_cons, upW_ok x h.1, upWL_ok xs h.2, Bool.and_self]
theorem upV_ok {r : Nat} (x : V) (h : upV x ≤ r) : noRefV r x = true := by
  cases x with
  | w x => exact upW_ok x h
  | tup xs => exact upWL_ok xs h
theorem upE_ok {r : Nat} : ∀ l : List (Nat × V), upE l ≤ r → noRefE r l = true
  | [], _ => rfl
  | (_, v) :: l, h => by simp only [upE, Nat.max_le] at h; simp only [noRefE, upV_ok v h.1, upE_ok l h.2, Bool.and_self]
theorem upR_ok {r : Nat} : ∀ l : List (Nat × T), upR l ≤ r → get l r = none
  | [], _ => rfl
  | (k, _) :: l, h => by simp only [upR, Nat.max_le] at h; simp only [get]; rw [if_neg (by omega)]; exact upR_ok l h.2
theorem fresh_newR (s : St) : fresh s (newR s) = true := by
  simp only [fresh, Bool.and_eq_true, Option.isNone_iff_eq_none]
  exact ⟨⟨upR_ok _ (by simp only [newR]; omega), upE_ok _ (by simp only [newR]; omega)⟩, upWL_ok _ (by simp only [newR]; omega)⟩

/-- taken out -/
def takeX (s : St) : H → (T → St → Ren → Prop) → Prop
  | .hs r [] off st n, K => pO (get s.roots r) fun t => pSlT t fun own st' n0 cs => need (own = true ∧ st' = st) (K (.sl true st n (cut cs off (n * st))) { s with roots := del s.roots r } idRen)
  | .hs r (i :: p) off st n, K => pO (get s.roots r) fun t => pO (sub t (i :: p)) fun o => pSlT o fun own st' n0 cs => need (own = true ∧ st' = st) (pO (upd .hole t (i :: p)) fun t2 => K (.sl true st n (cut cs off (n * st))) (s.kill r (i :: p) (set s.roots r t2)) (killR r (i :: p)))
  | .hp r [] off, K => need (off = 0) (pO (get s.roots r) fun t => pBxT t fun own cs => need (own = true) (K (.bx true cs) { s with roots := del s.roots r } idRen))
  | _, _ => False
theorem takeX_ok {s : St} {g : H} {K} (h : takeX s g K) : ∃ t s1 f, Take s g t s1 f ∧ K t s1 f := by
  unfold takeX at h
  split at h
  · obtain ⟨t, h1, h2⟩ := pO_ok h
    obtain ⟨own, st', n0, cs, rfl, ⟨rfl, rfl⟩, h3⟩ := pSlT_ok h2
    exact ⟨_, _, _, .root h1, h3⟩
  · rename_i r i p off st n
    obtain ⟨t, h1, h2⟩ := pO_ok h
    obtain ⟨o, h3, h4⟩ := pO_ok h2
    obtain ⟨own, st', n0, cs, rfl, ⟨rfl, rfl⟩, h5⟩ := pSlT_ok h4
    obtain ⟨t2, h6, h7⟩ := pO_ok h5
    obtain ⟨q, j, hq⟩ : ∃ q j, i :: p = q ++ [j] := ⟨(i :: p).dropLast, (i :: p).getLast (by simp), (List.dropLast_concat_getLast (by simp)).symm⟩
    rw [hq] at h3 h6 h7 ⊢
    exact ⟨_, _, _, .path h1 h3 h6, h7⟩
  · obtain ⟨rfl, h⟩ := h
    obtain ⟨t, h1, h2⟩ := pO_ok h
    obtain ⟨own, cs, rfl, rfl, h3⟩ := pBxT_ok h2
    exact ⟨_, _, _, .rootBx h1, h3⟩
  · exact h.elim

mutual
/-- a cell told without moving anything of one's own -/
def cellX (roots : List (Nat × T)) : H → Option T
  | .int k n => some (.int k n)
  | .bool b => some (.bool b)
  | .str b => some (.str b)
  | .nptr => some .nptr
  | .nil => some (.sl true 0 0 [])
  | .fn f caps => match cellXL roots caps with | some ts => some (.fn f ts) | none => none
  | _ => none
def cellXL (roots : List (Nat × T)) : List H → Option (List T)
  | [] => some []
  | g :: gs => match cellX roots g, cellXL roots gs with | some t, some ts => some (t :: ts) | _, _ => none
end
mutual
theorem cellX_ok {roots : List (Nat × T)} : ∀ (g : H) (t : T), cellX roots g = some t → CellT roots g t
  | .int .., t, h => by simp only [cellX, Option.some.injEq] at h; subst h; exact .int
  | .bool .., t, h => by simp only [cellX, Option.some.injEq] at h; subst h; exact .bool
  | .str .., t, h => by simp only [cellX, Option.some.injEq] at h; subst h; exact .str
  | .nptr, t, h => by simp only [cellX, Option.some.injEq] at h; subst h; exact .nptr
  | .nil, t, h => by simp only [cellX, Option.some.injEq] at h; subst h; exact .nil
  | .un, t, h => by simp [cellX] at h
  | .hs .., t, h => by simp [cellX] at h
  | .hp .., t, h => by simp [cellX] at h
  | .fn f caps, t, h => by
    simp only [cellX] at h
    cases h1 : cellXL roots caps with
    | none => simp [h1] at h
    | some ts => simp only [h1, Option.some.injEq] at h; subst h; exact .fn (cellXL_ok caps ts h1)
theorem cellXL_ok {roots : List (Nat × T)} : ∀ (gs : List H) (ts : List T), cellXL roots gs = some ts → CellTL roots gs ts
  | [], ts, h => by simp only [cellXL, Option.some.injEq] at h; subst h; exact .nil
  | g :: gs, ts, h => by
    simp only [cellXL] at h
    cases h1 : cellX roots g with
    | none => simp [h1] at h
    | some t =>
      cases h2 : cellXL roots gs with
      | none => simp [h1, h2] at h
      | some ts' => simp only [h1, h2, Option.some.injEq] at h; subst h; exact .cons (cellX_ok g t h1) (cellXL_ok gs ts' h2)
end

/-- a cell put somewhere: told, or taken -/
def grab1 (s : St) : H → (T → St → Ren → Prop) → Prop
  | .hs r p off st n, K => pO (get s.roots r) fun t => pO (sub t p) fun o => pSlT o fun own st' n0 cs => pI own (takeX s (.hs r p off st n) K) (need (st' = st) (K (.sl false st n (cut cs off (n * st))) s idRen))
  | .hp r p off, K => pO (get s.roots r) fun t => pO (sub t p) fun o => pBxT o fun own cs => pI own (takeX s (.hp r p off) K) (need (off = 0) (K (.bx false cs) s idRen))
  | g, K => pO (cellX s.roots g) fun t => K t s idRen
def grabX : St → List H → (List T → St → Prop) → Prop
  | s, [], K => K [] s
  | s, g :: gs, K => grab1 s g fun t s1 f => grabX s1 (renHL f gs) fun ts s2 => K (t :: ts) s2
termination_by _ gs => gs.length
decreasing_by simp only [List.length_cons]; rw [show (renHL f gs).length = gs.length from (by induction gs with | nil => rfl | cons g gs ih => simp [renHL, ih])]; omega
theorem grab1_ok {s : St} {g : H} {K} (h : grab1 s g K) : ∃ t s1 f, K t s1 f ∧ ((CellT s.roots g t ∧ s1 = s ∧ f = idRen) ∨ Take s g t s1 f) := by
  unfold grab1 at h
  split at h
  · obtain ⟨t, h1, h2⟩ := pO_ok h
    obtain ⟨o, h3, h4⟩ := pO_ok h2
    obtain ⟨own, st', n0, cs, rfl, h5⟩ := pSlT_ok h4
    cases own with
    | true => obtain ⟨t', s1, f, h6, h7⟩ := takeX_ok h5; exact ⟨_, _, _, h7, .inr h6⟩
    | false => obtain ⟨rfl, h6⟩ := h5; exact ⟨_, _, _, h6, .inl ⟨.ro h1 h3, rfl, rfl⟩⟩
  · obtain ⟨t, h1, h2⟩ := pO_ok h
    obtain ⟨o, h3, h4⟩ := pO_ok h2
    obtain ⟨own, cs, rfl, h5⟩ := pBxT_ok h4
    cases own with
    | true => obtain ⟨t', s1, f, h6, h7⟩ := takeX_ok h5; exact ⟨_, _, _, h7, .inr h6⟩
    | false => obtain ⟨rfl, h6⟩ := h5; exact ⟨_, _, _, h6, .inl ⟨.roBx h1 h3, rfl, rfl⟩⟩
  · obtain ⟨t, h1, h2⟩ := pO_ok h
    exact ⟨_, _, _, h2, .inl ⟨cellX_ok _ _ h1, rfl, rfl⟩⟩
theorem grabX_ok : ∀ (n : Nat) (s : St) (gs : List H) (K), gs.length = n → grabX s gs K → ∃ ts s1, Grab s gs ts s1 ∧ K ts s1
  | 0, s, [], K, _, h => by rw [grabX] at h; exact ⟨[], s, .nil s, h⟩
  | n + 1, s, g :: gs, K, hl, h => by
    rw [grabX] at h
    obtain ⟨t, s1, f, h1, h2⟩ := grab1_ok h
    have hl' : (renHL f gs).length = n := by
      have : ∀ gs : List H, (renHL f gs).length = gs.length := fun gs => by induction gs with | nil => rfl | cons g gs ih => simp [renHL, ih]
      rw [this]; simpa using hl
    obtain ⟨ts, s2, h3, h4⟩ := grabX_ok n s1 (renHL f gs) _ hl' h1
    rcases h2 with ⟨h2, rfl, rfl⟩ | h2
    · rw [renHL_id] at h3; exact ⟨_, _, .cell h2 h3, h4⟩
    · exact ⟨_, _, .take h2 h3, h4⟩
theorem grab_go {s : St} {gs : List H} {K} (h : grabX s gs K) : ∃ ts s1, Grab s gs ts s1 ∧ K ts s1 := grabX_ok _ _ _ _ rfl h

def noPathL : List H → Bool
  | [] => true
  | g :: gs => noPathH g && noPathL gs
theorem noPathL_ok : ∀ {gs : List H}, noPathL gs = true → gs.all noPathH = true
  | [], _ => rfl
  | g :: gs, h => by simp only [noPathL, Bool.and_eq_true] at h; simp [h.1, noPathL_ok h.2]
/-- which roots go whole into which cells -/
def boxX (s : St) : Nat → List H → List T → List (Nat × Nat) → (List (Nat × Nat) → Prop) → Prop
  | j, g :: gs, t :: ts, l, K => match g with
    | .hs x [] 0 st n => pO (get s.roots x) fun t0 => pSlT t0 fun own st' n0 cs => pI own (pI (decide (n = n0)) (need (st = st' ∧ t = .sl true st' n0 cs) (boxX s (j + 1) gs ts ((x, j) :: l) K)) (boxX s (j + 1) gs ts l K)) (boxX s (j + 1) gs ts l K)
    | _ => boxX s (j + 1) gs ts l K
  | _, _, _, l, K => K l
theorem boxX_ok {s : St} {K : List (Nat × Nat) → Prop} : ∀ (gs : List H) (ts : List T) (j : Nat) (l : List (Nat × Nat)) (gs0 : List H) (ts0 : List T), (∀ i, gs[i]? = gs0[j + i]?) → (∀ i, ts[i]? = ts0[j + i]?) → (∀ x i, get l x = some i → ∃ st n cs, gs0[i]? = some (.hs x [] 0 st n) ∧ get s.roots x = some (.sl true st n cs) ∧ ts0[i]? = some (.sl true st n cs)) →
    boxX s j gs ts l K → ∃ l', (∀ x i, get l' x = some i → ∃ st n cs, gs0[i]? = some (.hs x [] 0 st n) ∧ get s.roots x = some (.sl true st n cs) ∧ ts0[i]? = some (.sl true st n cs)) ∧ K l'
  | [], ts, j, l, gs0, ts0, e1, e2, hl, h => ⟨l, hl, by unfold boxX at h; exact h⟩
  | g :: gs, [], j, l, gs0, ts0, e1, e2, hl, h => ⟨l, hl, by unfold boxX at h; exact h⟩
  | g :: gs, t :: ts, j, l, gs0, ts0, e1, e2, hl, h => by
    have e1' : ∀ i, gs[i]? = gs0[j + 1 + i]? := fun i => by have := e1 (i + 1); rw [show j + (i + 1) = j + 1 + i by omega] at this; simpa using this
    have e2' : ∀ i, ts[i]? = ts0[j + 1 + i]? := fun i => by have := e2 (i + 1); rw [show j + (i + 1) = j + 1 + i by omega] at this; simpa using this
    have next : ∀ l, (∀ x i, get l x = some i → ∃ st n cs, gs0[i]? = some (.hs x [] 0 st n) ∧ get s.roots x = some (.sl true st n cs) ∧ ts0[i]? = some (.sl true st n cs)) → boxX s (j + 1) gs ts l K → _ := fun l hl h => boxX_ok gs ts (j + 1) l gs0 ts0 e1' e2' hl h
    unfold boxX at h
    split at h
    · rename_i x st n
      obtain ⟨t0, h1, h2⟩ := pO_ok h
      obtain ⟨own, st', n0, cs, rfl, h3⟩ := pSlT_ok h2
      cases own with
      | false => exact next l hl h3
      | true =>
        simp only [pI] at h3
        by_cases hn : n = n0
        · subst hn
          simp only [decide_true] at h3
          obtain ⟨⟨rfl, rfl⟩, h4⟩ := h3
          refine next _ (fun y i hy => ?_) h4
          simp only [get] at hy
          split at hy
          · rename_i e; subst e
            simp only [Option.some.injEq] at hy
            subst hy
            exact ⟨st, n, cs, (e1 0).symm, h1, (e2 0).symm⟩
          · exact hl y i hy
        · simp only [hn, decide_false] at h3
          exact next l hl h3
    · exact next l hl h

/-- put in -/
def putX (s : St) (r : Nat) (q : List Nat) (c : T) (K : St → Prop) : Prop :=
  pO (get s.roots r) fun t => pO (sub t q) fun old => pO (upd c t q) fun t2 => pI (isOb old) (K (s.kill r q (set s.roots r t2))) (K { s with roots := set s.roots r t2 })
theorem putX_ok {s : St} {r : Nat} {q : List Nat} {c : T} {K} (h : putX s r q c K) : ∃ s1, PutC s r q c s1 ∧ K s1 := by
  obtain ⟨t, h1, h2⟩ := pO_ok h
  obtain ⟨old, h3, h4⟩ := pO_ok h2
  obtain ⟨t2, h5, h6⟩ := pO_ok h4
  cases ho : isOb old with
  | true => rw [ho] at h6; exact ⟨_, .kill h1 h5, h6⟩
  | false => rw [ho] at h6; exact ⟨_, .flat h1 h3 ho h5, h6⟩
def putsX : St → Nat → List Nat → Nat → List T → (St → Prop) → Prop
  | s, r, p, off, [], K => K s
  | s, r, p, off, c :: cs, K => putX s r (p ++ [off]) c fun s1 => putsX s1 r p (off + 1) cs K
theorem putsX_ok : ∀ (cs : List T) (s : St) (r : Nat) (p : List Nat) (off : Nat) (K), putsX s r p off cs K → ∃ s1, PutL s r p off cs s1 ∧ K s1
  | [], s, r, p, off, K, h => ⟨s, .nil s, h⟩
  | c :: cs, s, r, p, off, K, h => by
    obtain ⟨s1, h1, h2⟩ := putX_ok h
    obtain ⟨s2, h3, h4⟩ := putsX_ok cs s1 r p (off + 1) K h2
    exact ⟨s2, .cons h1 h3, h4⟩

/-- what is appended -/
def srcX (st : Nat) (s : St) : V → (Nat → List T → St → Prop) → Prop
  | .w (.one (.str b)), K => need (st = 1) (K b.size (b.data.toList.map fun c : UInt8 => T.int .u8 c.toNat) s)
  | .w (.one .nil), K => K 0 [] s
  | .w (.one (.hs r p off st' m)), K => need (st' = st) (pO (get s.roots r) fun t => pO (sub t p) fun o => pSlT o fun own st2 n0 cs => need (st2 = st)
      (pI (own && !((cut cs off (m * st)).all flatT)) (takeX s (.hs r p off st' m) fun t1 s1 _ => pSlT t1 fun own1 st1 m1 ts => need (own1 = true ∧ st1 = st ∧ m1 = m ∧ ts.all noHole = true) (K m ts s1))
        (need ((cut cs off (m * st)).all flatT = true ∨ (own = false ∧ (cut cs off (m * st)).all noHole = true)) (K m (cut cs off (m * st)) s))))
  | _, _ => False
theorem srcX_ok {st : Nat} {s : St} {v : V} {K} (h : srcX st s v K) : ∃ m ts s1, SrcT st s v m ts s1 ∧ K m ts s1 := by
  unfold srcX at h
  split at h
  · exact ⟨_, _, _, .text h.1, h.2⟩
  · exact ⟨_, _, _, .nil, h⟩
  · rename_i r p off st' m
    obtain ⟨rfl, h⟩ := h
    obtain ⟨t, h1, h2⟩ := pO_ok h
    obtain ⟨o, h3, h4⟩ := pO_ok h2
    obtain ⟨own, st2, n0, cs, rfl, rfl, h4⟩ := pSlT_ok h4
    cases hf : (own && !((cut cs off (m * st2)).all flatT)) with
    | true =>
      rw [hf] at h4
      obtain ⟨t1, s1, f, h5, h6⟩ := takeX_ok h4
      obtain ⟨own1, st1, m1, ts, rfl, ⟨rfl, rfl, rfl, h7⟩, h8⟩ := pSlT_ok h6
      exact ⟨_, _, _, .take h5 h7, h8⟩
    | false =>
      rw [hf] at h4
      obtain ⟨h5, h6⟩ := h4
      rcases h5 with h5 | ⟨rfl, h5⟩
      · exact ⟨_, _, _, .flat h1 h3 h5, h6⟩
      · exact ⟨_, _, _, .ro h1 h3 h5, h6⟩
  · exact h.elim
-- congr
end Go.Proofs.YtplhecjngmkngaaT

/- Trees: code as conditions, which simp reckons. No condition. -/
set_option linter.unusedVariables false
set_option linter.unusedSimpArgs false
set_option linter.unusedSectionVars false
namespace Go.Proofs.YtplhecjngmkngaaT
open Go

def callG (P : Program) (i : I) (d : Option Nat) (s : St) (K : St → Prop) : Prop := ∃ s', OpR P i d s s' ∧ K s'

def callG' (P : Program) (i : I) (d : Option Nat) (s : St) {K : St → Prop} (_ : FxA K) : Prop := callG P i d s K
theorem callG_hd {P : Program} {i : I} {d : Option Nat} {s : St} {K : St → Prop} : callG P i d s K = callG' P i d s (hd K) := rfl

/-- put where it is already -/
def sameP (r : Nat) (q : List Nat) : W → Bool
  | .one (.hs r' (i :: p) off _ _) => (r' == r) && ((off == 0) && decide (i :: p = q))
  | _ => false
theorem sameP_nil {r : Nat} {q : List Nat} {r' off st n : Nat} : sameP r q (.one (.hs r' [] off st n)) = false := rfl
theorem sameP_cons {r : Nat} {q : List Nat} {r' i off st n : Nat} {p : List Nat} : sameP r q (.one (.hs r' (i :: p) off st n)) = ((r' == r) && ((off == 0) && decide (i :: p = q))) := rfl
theorem sameP_int {r : Nat} {q : List Nat} {k : IntKind} {n : Int} : sameP r q (.one (.int k n)) = false := rfl
theorem sameP_bool {r : Nat} {q : List Nat} {b : Bool} : sameP r q (.one (.bool b)) = false := rfl
theorem sameP_str {r : Nat} {q : List Nat} {b : ByteArray} : sameP r q (.one (.str b)) = false := rfl
theorem sameP_0 {r : Nat} {q : List Nat} : sameP r q (.one .nil) = false := rfl
theorem sameP_nptr {r : Nat} {q : List Nat} : sameP r q (.one .nptr) = false := rfl
theorem sameP_fn {r : Nat} {q : List Nat} {f : FuncId} {l : List H} : sameP r q (.one (.fn f l)) = false := rfl
theorem sameP_hp {r : Nat} {q : List Nat} {r' off : Nat} {p : List Nat} : sameP r q (.one (.hp r' p off)) = false := rfl
theorem sameP_agg {r : Nat} {q : List Nat} {l : List H} : sameP r q (.agg l) = false := rfl
def putSame (s : St) (r : Nat) (q : List Nat) (v : W) (K : Prop) : Prop := match v with
  | .one (.hs _ _ _ st n) => pO (get s.roots r) fun t => pO (sub t q) fun o => pSlT o fun own st' n' cs => need (own = true ∧ st' = st ∧ n' = n) (pO (upd .hole t q) fun _ => K)
  | _ => False
theorem putSame_eq {s : St} {r : Nat} {q : List Nat} {K : Prop} {r' off st n : Nat} {p : List Nat} : putSame s r q (.one (.hs r' p off st n)) K = pO (get s.roots r) fun t => pO (sub t q) fun o => pSlT o fun own st' n' cs => need (own = true ∧ st' = st ∧ n' = n) (pO (upd .hole t q) fun _ => K) := rfl
theorem sameP_ok {P : Program} {a x : X} {s : St} {r off k : Nat} {p : List Nat} {v : W} {K : Prop} (h1 : ev s a = some (.w (.one (.hp r p off)))) (h2 : ev s x = some (.w v)) (hk : v.cells.length = k) (h : sameP r (p ++ [off]) v = true) (h3 : putSame s r (p ++ [off]) v K) : OpR P (.store k a x) none s s ∧ K := by
  unfold sameP at h
  split at h
  · rename_i r' i p' off' st n
    simp only [Bool.and_eq_true, beq_iff_eq, decide_eq_true_eq] at h
    obtain ⟨rfl, rfl, h⟩ := h
    unfold putSame at h3
    obtain ⟨t, g1, g2⟩ := pO_ok h3
    obtain ⟨o, g3, g4⟩ := pO_ok g2
    obtain ⟨own, st', n', cs, rfl, ⟨rfl, rfl, rfl⟩, g5⟩ := pSlT_ok g4
    obtain ⟨t2, g6, g7⟩ := pO_ok g5
    rw [h] at h2
    simp only [W.cells, List.length_cons, List.length_nil] at hk
    subst hk
    exact ⟨.same h1 h2 g1 g3 (by rw [g6]; rfl), g7⟩
  · simp at h
def si (P : Program) : I → Option Nat → St → (St → Prop) → Prop
  | .alloc zs, some d, s, K => pO (cellXL s.roots zs) fun ts => pN (newR s) fun r => K ((s.new r (.bx true ts)).put d (.w (.one (.hp r [] 0))))
  | .box x, some d, s, K => pW (ev s x) fun v => need (liveW s.roots v = true) (pL v.cells fun gs => grabX s gs fun ts s1 => pN (newR s1) fun r => pI (noPathL gs)
      (boxX s 0 gs ts [] fun l => pI l.isEmpty (K ((s1.new r (.bx true ts)).put d (.w (.one (.hp r [] 0))))) (K ((boxSt s s1 l r ts).put d (.w (.one (.hp r [] 0)))))) (K ((s1.new r (.bx true ts)).put d (.w (.one (.hp r [] 0))))))
  | .lit st 0 z [], some d, s, K => K (s.put d (.w (.one .nil)))
  | .lit st (len + 1) z ps, some d, s, K => need (z.length = st ∧ 0 < st) (pO (evp1 s ps) fun vs => need (vs.all (fun q => liveW s.roots q.2) = true) (pO (litH st (len + 1) z vs) fun gs => need (gs.length = (len + 1) * st)
      (grabX s gs fun ts s1 => pN (newR s1) fun r => K ((s1.new r (.sl true st (len + 1) ts)).put d (.w (.one (.hs r [] 0 st (len + 1))))))))
  | .make st z bytes l c, some d, s, K => pInt (ev s l) fun _ a => pInt (ev s c) fun _ b => need (z.length = st ∧ 0 < st) (need (0 ≤ a ∧ a = b ∧ bytes * a.toNat ≤ 281474976710656 ∧ a.toNat ≤ 9223372036854775807)
      (pO (cellXL s.roots z) fun ts => pN (newR s) fun r => K ((s.new r (.sl true st a.toNat (List.replicate a.toNat ts).flatten)).put d (.w (.one (.hs r [] 0 st a.toNat))))))
  | .cvb x, some d, s, K => pStr (ev s x) fun b => pN (newR s) fun r => K ((s.new r (.sl true 1 b.size (b.data.toList.map fun c : UInt8 => T.int .u8 c.toNat))).put d (.w (.one (.hs r [] 0 1 b.size))))
  | .app st bytes z x y, some d, s, K => need (z.length = st ∧ 0 < st) (pO (ev s y) fun v => pSl (ev s x)
      (fun r p off st' n => takeX s (.hs r p off st' n) fun t s1 f => pSlT t fun own st2 n2 cs => need (own = true ∧ st2 = st ∧ n2 = n ∧ st' = st) (srcX st s1 (renV f v) fun m ts s2 => need (n + m ≤ 9223372036854775807 ∧ (n + m) * bytes ≤ 140737488355328)
        (pN (newR s2) fun r2 => K ((s2.new r2 (.sl true st (n + m) (cs ++ ts))).put d (.w (.one (.hs r2 [] 0 st (n + m))))))))
      (srcX st s v fun m ts s1 => need (m ≤ 9223372036854775807 ∧ m * bytes ≤ 140737488355328) (pN (newR s1) fun r2 => K ((s1.new r2 (.sl true st m ts)).put d (.w (.one (.hs r2 [] 0 st m)))))))
  | .store k a x, none, s, K => pHp (ev s a) fun r p off => pW (ev s x) fun v => need ((get s.roots r).isSome) (need (v.cells.all (live s.roots) = true) (need (v.cells.length = k) (pI (sameP r (p ++ [off]) v) (putSame s r (p ++ [off]) v (K s)) (pL v.cells fun gs => grabX s gs fun ts s1 => putsX s1 r p off ts K))))
  | .call f xs, d, s, K => callG P (.call f xs) d s K
  | .callv x xs, d, s, K => callG P (.callv x xs) d s K
  | i, some d, s, K => qi i s fun v => K (s.put d v)
  | _, _, _, _ => False

theorem si_ok {P : Program} {i : I} {d : Option Nat} {s : St} {K : St → Prop} (h : si P i d s K) : ∃ s', OpR P i d s s' ∧ K s' := by
  unfold si at h
  split at h
  · obtain ⟨ts, h1, h2⟩ := pO_ok h
    exact ⟨_, .alloc (cellXL_ok _ _ h1) (fresh_newR s), h2⟩
  · obtain ⟨v, h1, h2, h3⟩ := pW_ok h
    obtain ⟨ts, s1, h4, h5⟩ := grab_go h3
    simp only [pN] at h5
    cases hn : noPathL v.cells with
    | false => rw [hn] at h5; exact ⟨_, .box h1 h2 h4 (fresh_newR s1), h5⟩
    | true =>
      rw [hn] at h5
      obtain ⟨l, h6, h7⟩ := boxX_ok v.cells ts 0 [] v.cells ts (fun i => by simp) (fun i => by simp) (fun x i hx => by simp [get] at hx) h5
      cases he : l.isEmpty with
      | true => rw [he] at h7; exact ⟨_, .box h1 h2 h4 (fresh_newR s1), h7⟩
      | false => rw [he] at h7; exact ⟨_, .boxR h1 h2 h4 (fresh_newR s1) ⟨noPathL_ok hn, h6⟩, h7⟩
  · exact ⟨_, .lit0, h⟩
  · obtain ⟨⟨h0, h0'⟩, h⟩ := h
    obtain ⟨vs, h1, h2, h3⟩ := pO_ok h
    obtain ⟨gs, h4, h5, h6⟩ := pO_ok h3
    obtain ⟨ts, s1, h7, h8⟩ := grab_go h6
    exact ⟨_, .lit (by omega) ⟨h0, h0'⟩ (evp1_ok h1) h2 h4 h5 h7 (fresh_newR s1), h8⟩
  · obtain ⟨kl, a, h1, h2⟩ := pInt_ok h
    obtain ⟨kc, b, h3, ⟨h4, h4'⟩, ⟨h5, rfl, h6, h7⟩, h8⟩ := pInt_ok h2
    obtain ⟨ts, h9, h10⟩ := pO_ok h8
    exact ⟨_, .make (by rw [Int.toNat_of_nonneg h5]; exact h1) (by rw [Int.toNat_of_nonneg h5]; exact h3) ⟨h4, h4'⟩ h6 h7 (cellXL_ok _ _ h9) (fresh_newR s), h10⟩
  · obtain ⟨b, h1, h2⟩ := pStr_ok h
    exact ⟨_, .cvb h1 (fresh_newR s), h2⟩
  · obtain ⟨h0, h⟩ := h
    obtain ⟨v, h1, h2⟩ := pO_ok h
    rcases pSl_ok h2 with ⟨r, p, off, st', n, h3, h4⟩ | ⟨h3, h4⟩
    · obtain ⟨t, s1, f, h5, h6⟩ := takeX_ok h4
      obtain ⟨own, st2, n2, cs, rfl, ⟨rfl, rfl, rfl, rfl⟩, h7⟩ := pSlT_ok h6
      obtain ⟨m, ts, s2, h8, ⟨h9, h10⟩, h11⟩ := srcX_ok h7
      exact ⟨_, .app h0 h3 h1 h5 h8 h9 h10 (fresh_newR s2), h11⟩
    · obtain ⟨m, ts, s2, h8, ⟨h9, h10⟩, h11⟩ := srcX_ok h4
      exact ⟨_, .app0 h0 h3 h1 h8 h9 h10 (fresh_newR s2), h11⟩
  · obtain ⟨r, p, off, h1, h2⟩ := pHp_ok h
    obtain ⟨v, h3, h4, h5, h6, h7⟩ := pW_ok h2
    cases hs : sameP r (p ++ [off]) v with
    | true => rw [hs] at h7; obtain ⟨h8, h9⟩ := sameP_ok (P := P) h1 h3 h6 hs h7; exact ⟨_, h8, h9⟩
    | false =>
      rw [hs] at h7
      obtain ⟨ts, s1, h8, h9⟩ := grab_go h7
      obtain ⟨s2, h10, h11⟩ := putsX_ok _ _ _ _ _ _ h9
      obtain ⟨t0, h12⟩ := Option.isSome_iff_exists.1 h4
      exact ⟨_, .store h1 h3 h12 h5 h6 h8 h10, h11⟩
  · exact h
  · exact h
  · obtain ⟨v, h1, h2⟩ := qi_ok h
    exact ⟨_, .yld h1, h2⟩
  · exact h.elim

/-- a guard -/
def pG : Option V → Bool → Prop → Prop → Prop
  | some (.w (.one (.bool b))), want, A, B => br (b == want) A B
  | some (.tup []), _, _, B => B
  | _, _, _, _ => False
theorem pG_ok : ∀ {o : Option V} {want : Bool} {A B : Prop}, pG o want A B → ∃ v, o = some v ∧ ((v = .w (.one (.bool want)) ∧ A) ∨ (Unw want v ∧ B))
  | some (.w (.one (.bool b))), want, A, B, h => by
    refine ⟨_, rfl, ?_⟩
    have h : br (b == want) A B := h
    by_cases hb : b = want
    · subst hb; exact .inl ⟨rfl, h.1 (by simp)⟩
    · refine .inr ⟨.inl ?_, h.2 (by simpa using hb)⟩
      cases b <;> cases want <;> simp_all
  | some (.tup []), want, A, B, h => ⟨_, rfl, .inr ⟨.inr rfl, h⟩⟩
  | none, _, _, _, h => h.elim
  | some (.tup (_ :: _)), _, _, _, h => h.elim
  | some (.w (.agg _)), _, _, _, h => h.elim
  | some (.w (.one (.int _ _))), _, _, _, h => h.elim
  | some (.w (.one (.str _))), _, _, _, h => h.elim
  | some (.w (.one .nil)), _, _, _, h => h.elim
  | some (.w (.one .nptr)), _, _, _, h => h.elim
  | some (.w (.one (.hs ..))), _, _, _, h => h.elim
  | some (.w (.one (.hp ..))), _, _, _, h => h.elim
  | some (.w (.one (.fn ..))), _, _, _, h => h.elim
  | some (.w (.one .un)), _, _, _, h => h.elim
def pG' (o : Option V) (want : Bool) {A B : Prop} (_ : FxA A) (_ : FxA B) : Prop := pG o want A B
theorem pG_hd {o : Option V} {want : Bool} {A B : Prop} : pG o want A B = pG' o want (hd A) (hd B) := rfl
theorem pG'_0 {b want : Bool} {A B : Prop} : pG' (some (.w (.one (.bool b)))) want (hd A) (hd B) = br (b == want) A B := rfl
theorem pG'_1 {want : Bool} {A B : Prop} : pG' (some (.tup [])) want (hd A) (hd B) = B := rfl
/-- operations one behind the other -/
def sx (P : Program) : List Gop → (St → Prop) → St → Prop
  | [], K, s => K s
  | ⟨none, d, i⟩ :: gs, K, s => si P i d s (sx P gs K)
  | ⟨some (t, want), d, i⟩ :: gs, K, s => pG (get s.env t) want (si P i d s (sx P gs K)) (sx P gs K (putO s d (.tup [])))
theorem sx_ok {P : Program} : ∀ (gs : List Gop) (K : St → Prop) (s : St), sx P gs K s → ∃ s', Ops P gs s s' ∧ K s'
  | [], K, s, h => ⟨s, .nil s, h⟩
  | ⟨none, d, i⟩ :: gs, K, s, h => by
    obtain ⟨s1, h1, h2⟩ := si_ok h
    obtain ⟨s2, h3, h4⟩ := sx_ok gs K s1 h2
    exact ⟨s2, .cons trivial h1 h3, h4⟩
  | ⟨some (t, want), d, i⟩ :: gs, K, s, h => by
    obtain ⟨v, h1, ⟨rfl, h2⟩ | ⟨hu, h2⟩⟩ := pG_ok h
    · obtain ⟨s1, h4, h5⟩ := si_ok h2
      obtain ⟨s2, h6, h7⟩ := sx_ok gs K s1 h5
      exact ⟨s2, .cons h1 h4 h6, h7⟩
    · obtain ⟨s2, h6, h7⟩ := sx_ok gs K _ h2
      exact ⟨s2, .pass (t := t) (want := want) rfl h1 hu h6, h7⟩

def seqK {A : St → Prop} {Q : Ex' → St → Prop} (_ : FxA A) (_ : FxA Q) : Ex' → St → Prop
  | .normal, s => A s
  | e, s => Q e s
def blkK (id : Nat) {Q : Ex' → St → Prop} (_ : FxA Q) : Ex' → St → Prop
  | .exit i, s => if i = id then Q .normal s else Q (.exit i) s
  | e, s => Q e s
theorem seqK_n {A Q s} : seqK (.hold : FxA A) (.hold : FxA Q) .normal s = A s := rfl
theorem seqK_r {A Q s} : seqK (.hold : FxA A) (.hold : FxA Q) .ret s = Q .ret s := rfl
theorem seqK_e {A Q s i} : seqK (.hold : FxA A) (.hold : FxA Q) (.exit i) s = Q (.exit i) s := rfl
theorem blkK_n {i Q s} : blkK i (.hold : FxA Q) .normal s = Q .normal s := rfl
theorem blkK_r {i Q s} : blkK i (.hold : FxA Q) .ret s = Q .ret s := rfl
theorem blkK_e {i j Q s} : blkK i (.hold : FxA Q) (.exit j) s = if j = i then Q .normal s else Q (.exit j) s := rfl

/-- without marks -/
def erase : Ir → Ir
  | .seq a b => .seq (erase a) (erase b)
  | .cond x a b => .cond x (erase a) (erase b)
  | .block id b => .block id (erase b)
  | .loop b => .loop (erase b)
  | .mark a => erase a
  | a => a
def loopG (P : Program) (b : Ir) (Q : Ex' → St → Prop) (s : St) : Prop := ∃ e s', Big P (.loop (erase b)) s e s' ∧ Q e s'
def markG (P : Program) (b : Ir) (Q : Ex' → St → Prop) (s : St) : Prop := ∃ e s', Big P (erase b) s e s' ∧ Q e s'
/-- in all orders -/
def drawG (P : Program) (es : List (List Nat)) (gs : List Gop) (K : St → Prop) (s : St) : Prop := ∃ s1, AnyT P es gs (fun s' => Imp s' s1) es.length (Array.replicate es.length false) s ∧ K s1
def drawG' (P : Program) (es : List (List Nat)) (gs : List Gop) (s : St) {K : St → Prop} (_ : FxA K) : Prop := drawG P es gs K s
theorem drawG_hd {P : Program} {es : List (List Nat)} {gs : List Gop} {s : St} {K : St → Prop} : drawG P es gs K s = drawG' P es gs s (hd K) := rfl
/-- what code must meet for Q to stand behind it -/
def wx (P : Program) : Ir → (Ex' → St → Prop) → St → Prop
  | .skip, Q, s => Q .normal s
  | .seq a b, Q, s => wx P a (seqK (.hold : FxA (wx P b Q)) (.hold : FxA Q)) s
  | .region ops, Q, s => sx P ops (Q .normal) s
  | .cond x a b, Q, s => pBool (ev s x) fun β => br β (wx P a Q s) (wx P b Q s)
  | .block id b, Q, s => wx P b (blkK id (.hold : FxA Q)) s
  | .loop b, Q, s => loopG P b Q s
  | .exit id, Q, s => Q (.exit id) s
  | .ret, Q, s => Q .ret s
  | .mark a, Q, s => markG P a Q s
  | .draw es gs, Q, s => drawG P es gs (Q .normal) s

theorem wx_ok {P : Program} : ∀ (ir : Ir) (Q : Ex' → St → Prop) (s : St), wx P ir Q s → ∃ e s', Big P (erase ir) s e s' ∧ Q e s'
  | .skip, Q, s, h => ⟨_, _, .skip s, h⟩
  | .seq a b, Q, s, h => by
    obtain ⟨e, s1, h1, h2⟩ := wx_ok a _ s h
    cases e with
    | normal =>
      obtain ⟨e, s2, h3, h4⟩ := wx_ok b Q s1 h2
      exact ⟨e, s2, .seq h1 h3, h4⟩
    | exit id => exact ⟨_, s1, .seqX (by simp) h1, h2⟩
    | ret => exact ⟨_, s1, .seqX (by simp) h1, h2⟩
  | .region ops, Q, s, h => by
    obtain ⟨s1, h1, h2⟩ := sx_ok ops _ s h
    exact ⟨_, s1, .region h1, h2⟩
  | .cond x a b, Q, s, h => by
    obtain ⟨β, h1, h2, h3⟩ := pBool_ok h
    cases β with
    | true => obtain ⟨e, s1, h4, h5⟩ := wx_ok a Q s (h2 rfl); exact ⟨e, s1, .condT h1 h4, h5⟩
    | false => obtain ⟨e, s1, h4, h5⟩ := wx_ok b Q s (h3 rfl); exact ⟨e, s1, .condF h1 h4, h5⟩
  | .block id b, Q, s, h => by
    obtain ⟨e, s1, h1, h2⟩ := wx_ok b _ s h
    cases e with
    | normal => exact ⟨_, s1, .block h1, h2⟩
    | ret => exact ⟨_, s1, .blockR h1, h2⟩
    | exit i =>
      simp only [blkK] at h2
      by_cases hi : i = id
      · subst hi; simp at h2; exact ⟨_, s1, .blockX h1, h2⟩
      · simp [hi] at h2; exact ⟨_, s1, .blockO hi h1, h2⟩
  | .loop b, Q, s, h => h
  | .exit id, Q, s, h => ⟨_, _, .exit s, h⟩
  | .ret, Q, s, h => ⟨_, _, .ret s, h⟩
  | .mark a, Q, s, h => h
  | .draw es gs, Q, s, h => let ⟨s1, h1, h2⟩ := h; ⟨_, s1, .draw h1, h2⟩

/-- a loop whose states are numbered -/
theorem loop_n {P : Program} {b : Ir} {Q : Ex' → St → Prop} {s : St} (n : Nat) (S : Nat → St) (J : Nat → Prop) (h0 : Imp s (S 0)) (hJ : J 0) (h : ∀ i, i ≤ n → J i → wx P b (seqK (.hold : FxA fun s1 => (i < n ∧ J (i + 1)) ∧ Imp s1 (S (i + 1))) (.hold : FxA Q)) (S i)) : loopG P b Q s := by
  have : ∀ k i, i ≤ n → J i → n - i < k → loopG P b Q (S i) := by
    intro k
    induction k with
    | zero => intro i _ _ hk; omega
    | succ k ih =>
      intro i hi hj hk
      obtain ⟨e, s1, h1, h2⟩ := wx_ok _ _ _ (h i hi hj)
      cases e with
      | normal =>
        obtain ⟨⟨h3, h3'⟩, h4⟩ := h2
        obtain ⟨e, s2, h5, h6⟩ := ih (i + 1) h3 h3' (by omega)
        exact ⟨e, s2, .loop h1 (.imp h4 h5), h6⟩
      | exit id => exact ⟨_, s1, .loopX (by simp) h1, h2⟩
      | ret => exact ⟨_, s1, .loopX (by simp) h1, h2⟩
  obtain ⟨e, s', h1, h2⟩ := this (n + 1) 0 (by omega) hJ (by omega)
  exact ⟨e, s', .imp h0 h1, h2⟩
end Go.Proofs.YtplhecjngmkngaaT

/- Trees: calls, a function's beginning and end, as conditions, which simp reckons. No condition. -/
set_option linter.unusedVariables false
set_option linter.unusedSimpArgs false
set_option linter.unusedSectionVars false
namespace Go.Proofs.YtplhecjngmkngaaT
open Go

mutual
/-- read -/
def lookX (A : Bool) (roots : List (Nat × T)) : H → (T → Prop) → Prop
  | .int k n, K => K (.int k n)
  | .bool b, K => K (.bool b)
  | .str b, K => K (.str b)
  | .nptr, K => K .nptr
  | .nil, K => K (.sl false 0 0 [])
  | .hs r p off st n, K => pO (get roots r) fun t => pO (sub t p) fun o => pSlT o fun own st' n0 cs => need (st' = st) (pI own (need (A = true) (K (.sl false st n ((cut cs off (n * st)).map toRo)))) (K (.sl false st n (cut cs off (n * st)))))
  | .hp r p off, K => need (off = 0) (pO (get roots r) fun t => pO (sub t p) fun o => pBxT o fun own cs => pI own (need (A = true) (K (.bx false (cs.map toRo)))) (K (.bx false cs)))
  | .fn f caps, K => lookXL A roots caps fun ts => K (.fn f ts)
  | .un, _ => False
def lookXL (A : Bool) (roots : List (Nat × T)) : List H → (List T → Prop) → Prop
  | [], K => K []
  | g :: gs, K => lookX A roots g fun t => lookXL A roots gs fun ts => K (t :: ts)
end
mutual
theorem lookX_ok {A : Bool} {roots : List (Nat × T)} : ∀ (g : H) (K : T → Prop), lookX A roots g K → ∃ t, LookT A roots g t ∧ K t
  | .int .., K, h => ⟨_, .int, h⟩
  | .bool .., K, h => ⟨_, .bool, h⟩
  | .str .., K, h => ⟨_, .str, h⟩
  | .nptr, K, h => ⟨_, .nptr, h⟩
  | .nil, K, h => ⟨_, .nil, h⟩
  | .un, K, h => h.elim
  | .hs r p off st n, K, h => by
    simp only [lookX] at h
    obtain ⟨t, h1, h2⟩ := pO_ok h
    obtain ⟨o, h3, h4⟩ := pO_ok h2
    obtain ⟨own, st', n0, cs, rfl, rfl, h5⟩ := pSlT_ok h4
    cases own with
    | true => obtain ⟨hA, h6⟩ := h5; exact ⟨_, .own hA h1 h3, h6⟩
    | false => exact ⟨_, .ro h1 h3, h5⟩
  | .hp r p off, K, h => by
    simp only [lookX] at h
    obtain ⟨rfl, h⟩ := h
    obtain ⟨t, h1, h2⟩ := pO_ok h
    obtain ⟨o, h3, h4⟩ := pO_ok h2
    obtain ⟨own, cs, rfl, h5⟩ := pBxT_ok h4
    cases own with
    | true => obtain ⟨hA, h6⟩ := h5; exact ⟨_, .ownBx hA h1 h3, h6⟩
    | false => exact ⟨_, .roBx h1 h3, h5⟩
  | .fn f caps, K, h => by
    simp only [lookX] at h
    obtain ⟨ts, h1, h2⟩ := lookXL_ok caps _ h
    exact ⟨_, .fn h1, h2⟩
theorem lookXL_ok {A : Bool} {roots : List (Nat × T)} : ∀ (gs : List H) (K : List T → Prop), lookXL A roots gs K → ∃ ts, LookTL A roots gs ts ∧ K ts
  | [], K, h => ⟨[], .nil, h⟩
  | g :: gs, K, h => by
    simp only [lookXL] at h
    obtain ⟨t, h1, h2⟩ := lookX_ok g _ h
    obtain ⟨ts, h3, h4⟩ := lookXL_ok gs _ h2
    exact ⟨_, .cons h1 h3, h4⟩
end

/-- lent -/
def lendX (s : St) : H → (T → St → Ren → Prop) → Prop
  | .hs r [] off st n, K => need (off = 0) (pO (get s.roots r) fun t => pSlT t fun own st' n0 cs => need (own = true ∧ st' = st ∧ n0 = n) (K (.sl true st n cs) { s with roots := del s.roots r } idRen))
  | .hs r (i :: p) off st n, K => need (off = 0) (pO (get s.roots r) fun t => pO (sub t (i :: p)) fun o => pSlT o fun own st' n0 cs => need (own = true ∧ st' = st ∧ n0 = n) (pO (upd .hole t (i :: p)) fun t2 => K (.sl true st n cs) (s.kill r (i :: p) (set s.roots r t2)) (killR r (i :: p))))
  | .hp r [] off, K => need (off = 0) (pO (get s.roots r) fun t => pBxT t fun own cs => need (own = true) (K (.bx true cs) { s with roots := del s.roots r } idRen))
  | _, _ => False
theorem lendX_ok {s : St} {g : H} {K} (h : lendX s g K) : ∃ t s1 f, Lend s g t s1 f ∧ K t s1 f := by
  unfold lendX at h
  split at h
  · obtain ⟨rfl, h⟩ := h
    obtain ⟨t, h1, h2⟩ := pO_ok h
    obtain ⟨own, st', n0, cs, rfl, ⟨rfl, rfl, rfl⟩, h3⟩ := pSlT_ok h2
    exact ⟨_, _, _, .root h1, h3⟩
  · rename_i r i p off st n
    obtain ⟨rfl, h⟩ := h
    obtain ⟨t, h1, h2⟩ := pO_ok h
    obtain ⟨o, h3, h4⟩ := pO_ok h2
    obtain ⟨own, st', n0, cs, rfl, ⟨rfl, rfl, rfl⟩, h5⟩ := pSlT_ok h4
    obtain ⟨t2, h6, h7⟩ := pO_ok h5
    obtain ⟨q, j, hq⟩ : ∃ q j, i :: p = q ++ [j] := ⟨(i :: p).dropLast, (i :: p).getLast (by simp), (List.dropLast_concat_getLast (by simp)).symm⟩
    rw [hq] at h3 h6 h7 ⊢
    exact ⟨_, _, _, .path h1 h3 h6, h7⟩
  · obtain ⟨rfl, h⟩ := h
    obtain ⟨t, h1, h2⟩ := pO_ok h
    obtain ⟨own, cs, rfl, rfl, h3⟩ := pBxT_ok h2
    exact ⟨_, _, _, .rootBx h1, h3⟩
  · exact h.elim

def isNilH : H → Bool
  | .nil => true
  | _ => false
def isOwnT : T → Bool
  | .sl own _ _ _ => own
  | .bx own _ => own
  | _ => false
def isHole : T → Bool
  | .hole => true
  | _ => false
/-- arguments: ts: what is wanted; os: what comes back -/
def argX (A : Bool) : List T → List T → St → List H → (List (Option H) → St → Prop) → Prop
  | [], _, s, [], K => K [] s
  | t :: ts, o :: os, s, g :: gs, K => pI (isNilH g)
      (pSlT t fun _ _ n cs => need (n = 0 ∧ cs = []) (argX A ts os s gs fun ls z => K (none :: ls) z))
      (pI (isOwnT t)
        (pI (isHole o) (takeX s g fun t' s1 f => need (t' = t) (argX A ts os s1 (renHL f gs) fun ls z => K (none :: ls) z))
          (lendX s g fun t' s1 f => need (t' = t) (argX A ts os s1 (renHL f gs) fun ls z => K (some g :: ls) z)))
        (argX A ts os s gs fun ls z => lookX A z.roots g fun t' => need (t' = t) (K (none :: ls) z)))
  | _, _, _, _, _ => False
theorem argX_ok {A : Bool} : ∀ (ts os : List T) (s : St) (gs : List H) (K), argX A ts os s gs K → ∃ ls z, Args A s gs ts ls z ∧ K ls z
  | [], _, s, [], K, h => ⟨[], s, .nil s, by simpa only [argX] using h⟩
  | [], _, s, _ :: _, K, h => by simp [argX] at h
  | _ :: _, [], s, gs, K, h => by cases gs <;> simp [argX] at h
  | _ :: _, _ :: _, s, [], K, h => by simp [argX] at h
  | t :: ts, o :: os, s, g :: gs, K, h => by
    simp only [argX] at h
    cases hg : isNilH g with
    | true =>
      rw [hg] at h
      obtain ⟨own, st, n, cs, rfl, ⟨rfl, rfl⟩, h1⟩ := pSlT_ok h
      obtain ⟨ls, z, h2, h3⟩ := argX_ok ts os s gs _ h1
      have : g = .nil := by cases g <;> simp [isNilH] at hg; rfl
      subst this
      exact ⟨_, z, .late h2 .nil, h3⟩
    | false =>
      rw [hg] at h
      simp only [pI_false] at h
      cases ht : isOwnT t with
      | false =>
        rw [ht] at h
        obtain ⟨ls, z, h2, h3⟩ := argX_ok ts os s gs _ h
        obtain ⟨t', h4, rfl, h5⟩ := lookX_ok _ _ h3
        exact ⟨_, z, .late h2 h4, h5⟩
      | true =>
        rw [ht] at h
        simp only [pI_true] at h
        cases ho : isHole o with
        | true =>
          rw [ho] at h
          obtain ⟨t', s1, f, h1, rfl, h2⟩ := takeX_ok h
          obtain ⟨ls, z, h3, h4⟩ := argX_ok ts os s1 _ _ h2
          exact ⟨_, z, .take h1 h3, h4⟩
        | false =>
          rw [ho] at h
          obtain ⟨t', s1, f, h1, rfl, h2⟩ := lendX_ok h
          obtain ⟨ls, z, h3, h4⟩ := argX_ok ts os s1 _ _ h2
          exact ⟨_, z, .lend h1 h3, h4⟩

/-- loans come back -/
def giveX (z0 : St) : List (Option H) → List T → St → (St → Prop) → Prop
  | [], _, z, K => K z
  | none :: ls, _ :: os, z, K => giveX z0 ls os z K
  | some (.hs r [] off st n) :: ls, o :: os, z, K => pSlT o fun own st' n' cs => need (off = 0 ∧ own = true ∧ st' = st ∧ n' = n) (need (tops z r (some st) = true) (giveX z0 ls os (z.new r (.sl true st n cs)) K))
  | some (.hs r (i :: p) off st n) :: ls, o :: os, z, K => pSlT o fun own st' n' cs => need (off = 0 ∧ own = true ∧ st' = st ∧ n' = n) (pO (get z0.roots r) fun t0 => need (sub t0 (i :: p) = some .hole) (pO (get z.roots r) fun t => need (sub t (i :: p) = some .hole) (pO (upd (.sl true st n cs) t (i :: p)) fun t2 => giveX z0 ls os { z with roots := set z.roots r t2 } K)))
  | some (.hp r [] off) :: ls, o :: os, z, K => pBxT o fun own cs => need (off = 0 ∧ own = true) (need (tops z r none = true) (giveX z0 ls os (z.new r (.bx true cs)) K))
  | _, _, _, _ => False
theorem giveX_ok {z0 : St} : ∀ (ls : List (Option H)) (os : List T) (z : St) (K), ls.length = os.length → giveX z0 ls os z K → ∃ z', Gives z0 z ls os z' ∧ K z'
  | [], os, z, K, hl, h => by
    cases os with
    | nil => exact ⟨z, .nil z, by simpa only [giveX] using h⟩
    | cons => simp at hl
  | l :: ls, [], z, K, hl, h => by simp at hl
  | l :: ls, o :: os, z, K, hl, h => by
    simp only [List.length_cons, Nat.add_right_cancel_iff] at hl
    unfold giveX at h
    split at h
    · simp_all
    · rename_i e1 e2; cases e1; cases e2
      obtain ⟨z', h1, h2⟩ := giveX_ok _ _ _ _ hl h
      exact ⟨z', .skip h1, h2⟩
    · rename_i e1 e2; cases e1; cases e2
      obtain ⟨own, st', n', cs, rfl, ⟨rfl, rfl, rfl, rfl⟩, h1, h2⟩ := pSlT_ok h
      obtain ⟨z', h3, h4⟩ := giveX_ok _ _ _ _ hl h2
      exact ⟨z', .root h1 h3, h4⟩
    · rename_i r i p off st n ls' o' os' e1 e2; cases e1; cases e2
      obtain ⟨own, st', n', cs, rfl, ⟨rfl, rfl, rfl, rfl⟩, h1⟩ := pSlT_ok h
      obtain ⟨t0, h2, h3, h4⟩ := pO_ok h1
      obtain ⟨t, h5, h6, h7⟩ := pO_ok h4
      obtain ⟨t2, h8, h9⟩ := pO_ok h7
      obtain ⟨z', h10, h11⟩ := giveX_ok _ _ _ _ hl h9
      obtain ⟨q, j, hq⟩ : ∃ q j, i :: p = q ++ [j] := ⟨(i :: p).dropLast, (i :: p).getLast (by simp), (List.dropLast_concat_getLast (by simp)).symm⟩
      rw [hq] at h3 h6 h8 ⊢
      exact ⟨z', .path h2 h3 h5 h6 h8 h10, h11⟩
    · rename_i e1 e2; cases e1; cases e2
      obtain ⟨own, cs, rfl, ⟨rfl, rfl⟩, h1, h2⟩ := pBxT_ok h
      obtain ⟨z', h3, h4⟩ := giveX_ok _ _ _ _ hl h2
      exact ⟨z', .rootBx h1 h3, h4⟩
    · exact h.elim
theorem args_len {A : Bool} {z z' : St} {gs ts ls} (h : Args A z gs ts ls z') : ls.length = ts.length := by
  induction h <;> simp_all

/-- results told -/
def bringX : List T → St → (List H → St → Prop) → Prop
  | [], z, K => K [] z
  | .int k n :: ts, z, K => bringX ts z fun gs z' => K (.int k n :: gs) z'
  | .bool b :: ts, z, K => bringX ts z fun gs z' => K (.bool b :: gs) z'
  | .str b :: ts, z, K => bringX ts z fun gs z' => K (.str b :: gs) z'
  | .nptr :: ts, z, K => bringX ts z fun gs z' => K (.nptr :: gs) z'
  | .sl own 0 n cs :: ts, z, K => need (n = 0 ∧ cs = []) (bringX ts z fun gs z' => K (.nil :: gs) z')
  | .sl own (st + 1) n cs :: ts, z, K => pN (newR z) fun r => bringX ts (z.new r (.sl own (st + 1) n cs)) fun gs z' => K (.hs r [] 0 (st + 1) n :: gs) z'
  | .bx own cs :: ts, z, K => pN (newR z) fun r => bringX ts (z.new r (.bx own cs)) fun gs z' => K (.hp r [] 0 :: gs) z'
  | .fn f [] :: ts, z, K => bringX ts z fun gs z' => K (.fn f [] :: gs) z'
  | .fn f [.bx own cs] :: ts, z, K => pN (newR z) fun r => bringX ts (z.new r (.bx own cs)) fun gs z' => K (.fn f [.hp r [] 0] :: gs) z'
  | .fn f [.bx own cs, .bx own' ds] :: ts, z, K => pN (newR z) fun r => pN (newR (z.new r (.bx own cs))) fun r' => bringX ts ((z.new r (.bx own cs)).new r' (.bx own' ds)) fun gs z' => K (.fn f [.hp r [] 0, .hp r' [] 0] :: gs) z'
  | _, _, _ => False

theorem bringX_ok : ∀ (ts : List T) (z : St) (K), bringX ts z K → ∃ gs z', Bring z ts gs z' ∧ K gs z'
  | [], z, K, h => ⟨[], z, .nil z, by simpa only [bringX] using h⟩
  | t :: ts, z, K, h => by
    unfold bringX at h
    split at h
    · simp_all
    · rename_i e; cases e
      obtain ⟨gs, z', h1, h2⟩ := bringX_ok _ _ _ h
      exact ⟨_, z', .int h1, h2⟩
    · rename_i e; cases e
      obtain ⟨gs, z', h1, h2⟩ := bringX_ok _ _ _ h
      exact ⟨_, z', .bool h1, h2⟩
    · rename_i e; cases e
      obtain ⟨gs, z', h1, h2⟩ := bringX_ok _ _ _ h
      exact ⟨_, z', .str h1, h2⟩
    · rename_i e; cases e
      obtain ⟨gs, z', h1, h2⟩ := bringX_ok _ _ _ h
      exact ⟨_, z', .nptr h1, h2⟩
    · rename_i e; cases e
      obtain ⟨⟨rfl, rfl⟩, h⟩ := h
      obtain ⟨gs, z', h1, h2⟩ := bringX_ok _ _ _ h
      exact ⟨_, z', .nil0 h1, h2⟩
    · rename_i e; cases e
      obtain ⟨gs, z', h1, h2⟩ := bringX_ok _ _ _ h
      exact ⟨_, z', .sl (fresh_newR _) h1, h2⟩
    · rename_i e; cases e
      obtain ⟨gs, z', h1, h2⟩ := bringX_ok _ _ _ h
      exact ⟨_, z', .bx (fresh_newR _) h1, h2⟩
    · rename_i e; cases e
      obtain ⟨gs, z', h1, h2⟩ := bringX_ok _ _ _ h
      exact ⟨_, z', .fn (cgs := []) rfl h1, h2⟩
    · rename_i e; cases e
      obtain ⟨gs, z', h1, h2⟩ := bringX_ok _ _ _ h
      exact ⟨_, z', .fn (cgs := [_]) rfl (.bx (fresh_newR _) h1), h2⟩
    · rename_i e; cases e
      obtain ⟨gs, z', h1, h2⟩ := bringX_ok _ _ _ h
      exact ⟨_, z', .fn (cgs := [_, _]) rfl (.bx (fresh_newR _) (.bx (fresh_newR _) h1)), h2⟩
    · exact h.elim

def evws (s : St) : List X → Option (List W)
  | [] => some []
  | x :: xs => match ev s x with
    | some (.w w) => (evws s xs).map (w :: ·)
    | _ => none
theorem evws_ok {s : St} : ∀ (xs : List X) (ws : List W), evws s xs = some ws → evs s xs = some (ws.map V.w)
  | [], ws, h => by simp only [evws, Option.some.injEq] at h; subst h; rfl
  | x :: xs, ws, h => by
    simp only [evws] at h
    split at h
    · rename_i w hw
      simp only [Option.map_eq_some_iff] at h
      obtain ⟨ws', h', rfl⟩ := h
      simp only [evs, hw, evws_ok xs ws' h', List.map_cons]
    · simp at h

/-- a call, the contract given -/
def callX (A : Bool) (targs : List TW) (res : TV) (outs : List TW) (xs : List X) (d : Option Nat) (s : St) (K : St → Prop) : Prop :=
  pO (evws s xs) fun ws => need (tws ws (targs.flatMap TW.cells) = targs) (need (shp outs = shp targs ∧ (targs.flatMap TW.cells).length = (outs.flatMap TW.cells).length) (need (A = true → noRoL res.cells = true ∧ noRoL (outs.flatMap TW.cells) = true)
    (pL (targs.flatMap TW.cells) fun ts => pL (outs.flatMap TW.cells) fun os => pL (ws.flatMap W.cells) fun gs => pL res.cells fun rs => argX A ts os s gs fun ls z1 => giveX z1 ls os z1 fun z2 => bringX rs z2 fun gs z3 => K (putO z3 d (vOf res gs)))))
theorem call_go {P : Program} {f : FuncId} {targs : List TW} {res : TV} {outs : List TW} {xs : List X} {d : Option Nat} {s : St} {K : St → Prop} (A : Bool) (M : Meets P f targs res outs) (h : callX A targs res outs xs d s K) : callG P (.call f xs) d s K := by
  obtain ⟨ws, h1, h2, ⟨h3, h3'⟩, h4, h5⟩ := pO_ok h
  obtain ⟨ls, z1, h6, h7⟩ := argX_ok _ _ _ _ _ h5
  obtain ⟨z2, h8, h9⟩ := giveX_ok _ _ _ _ ((args_len h6).trans h3') h7
  obtain ⟨gs, z3, h10, h11⟩ := bringX_ok _ _ _ h9
  exact ⟨_, .call (evws_ok _ _ h1) h6 (by rw [h2]; exact M) h4 (by rw [h2]; exact h3) h8 h10, h11⟩
def keepX (s z1 z2 z3 : St) : List (Nat × List Nat) → Prop → Prop
  | [], K => K
  | (r, p) :: ks, K => pO (get s.roots r) fun t => pO (sub t p) fun x => pSlT x fun _ st n cs => pO (get z1.roots r) fun t1 => need ((sub t1 p).isSome = true) (pO (get z2.roots r) fun _ => pO (get z3.roots r) fun t3 => pO (sub t3 p) fun x3 => pSlT x3 fun _ st' n' cs' => need (st' = st ∧ n' = n ∧ cs'.length = cs.length) (keepX s z1 z2 z3 ks K))
/-- temporaries that are told again -/
def kvX (s z3 : St) : List Nat → (List (Nat × V) → Prop) → Prop
  | [], K => K []
  | k :: ks, K => pO (get s.env k) fun v => pO (get z3.env k) fun _ => kvX s z3 ks fun l => K ((k, v) :: l)
/-- a call behind which the ways ks of what came in, and of the temporaries kt, are kept -/
def callKX (ks : List (Nat × List Nat)) (kt : List Nat) (A : Bool) (targs : List TW) (res : TV) (outs : List TW) (xs : List X) (d : Option Nat) (s : St) (K : St → Prop) : Prop :=
  pO (evws s xs) fun ws => need (tws ws (targs.flatMap TW.cells) = targs) (need (shp outs = shp targs ∧ (targs.flatMap TW.cells).length = (outs.flatMap TW.cells).length) (need (A = true → noRoL res.cells = true ∧ noRoL (outs.flatMap TW.cells) = true)
    (pL (targs.flatMap TW.cells) fun ts => pL (outs.flatMap TW.cells) fun os => pL (ws.flatMap W.cells) fun gs => pL res.cells fun rs => argX A ts os s gs fun ls z1 => giveX z1 ls os z1 fun z2 => bringX rs z2 fun gs z3 => keepX s z1 z2 z3 ks (kvX s z3 kt fun kv => pL (keepE ks kv z3.env) fun env => K (putO ((z3.ke env).kp (s.par.map (renW (keepF ks)))) d (vOf res gs))))))
/-- a call of a function value -/
def callvX (P : Program) (A : Bool) (f : FuncId) (targs : List TW) (res : TV) (outs : List TW) (x : X) (xs : List X) (d : Option Nat) (s : St) (K : St → Prop) : Prop :=
  pW (ev s x) fun v => ∃ caps, need (v = .one (.fn f caps)) (pO (evws s xs) fun ws => need (tws (ws ++ caps.map W.one) (targs.flatMap TW.cells) = targs) (need (shp outs = shp targs ∧ (targs.flatMap TW.cells).length = (outs.flatMap TW.cells).length) (need (A = true → noRoL res.cells = true ∧ noRoL (outs.flatMap TW.cells) = true)
    (pL (targs.flatMap TW.cells) fun ts => pL (outs.flatMap TW.cells) fun os => pL ((ws ++ caps.map W.one).flatMap W.cells) fun gs => pL res.cells fun rs => argX A ts os s gs fun ls z1 => giveX z1 ls os z1 fun z2 => bringX rs z2 fun gs z3 => K (putO z3 d (vOf res gs))))))
/-- results -/
def resX (s : St) : List Rx → (List W → Prop) → Prop
  | [], K => K []
  | .tmp t :: rs, K => pW (get s.env t) fun x => resX s rs fun xs => K (x :: xs)
  | .cell t none :: rs, K => pHp (get s.env t) fun r p off => pO (get s.roots r) fun t => pO (sub t (p ++ [off])) fun c => pO (hOf r (p ++ [off]) c) fun g => resX s rs fun xs => K (.one g :: xs)
  | .cell t (some k) :: rs, K => pHp (get s.env t) fun r p off => pO (get s.roots r) fun t => pO (sub t p) fun o => pO (hsOf r p (cells o) off k) fun gs => resX s rs fun xs => K (.agg gs :: xs)
theorem resX_ok {s : St} : ∀ (rx : List Rx) (K), resX s rx K → ∃ ws, ResWs s rx ws ∧ K ws
  | [], K, h => ⟨[], .nil, h⟩
  | .tmp t :: rs, K, h => by
    obtain ⟨x, h1, h2⟩ := pW_ok h
    obtain ⟨xs, h3, h4⟩ := resX_ok rs _ h2
    exact ⟨_, .cons (.tmp h1) h3, h4⟩
  | .cell t none :: rs, K, h => by
    obtain ⟨r, p, off, h1, h2⟩ := pHp_ok h
    obtain ⟨tr, h3, h4⟩ := pO_ok h2
    obtain ⟨c, h5, h6⟩ := pO_ok h4
    obtain ⟨g, h7, h8⟩ := pO_ok h6
    obtain ⟨xs, h9, h10⟩ := resX_ok rs _ h8
    exact ⟨_, .cons (.cell1 h1 h3 h5 h7) h9, h10⟩
  | .cell t (some k) :: rs, K, h => by
    obtain ⟨r, p, off, h1, h2⟩ := pHp_ok h
    obtain ⟨tr, h3, h4⟩ := pO_ok h2
    obtain ⟨c, h5, h6⟩ := pO_ok h4
    obtain ⟨g, h7, h8⟩ := pO_ok h6
    obtain ⟨xs, h9, h10⟩ := resX_ok rs _ h8
    exact ⟨_, .cons (.cellK h1 h3 h5 h7) h9, h10⟩
def outsX : St → List H → List T → (St → Prop) → Prop
  | s, _, [], K => K s
  | s, g :: gs, o :: os, K => pI (isHole o) (outsX s gs os K) (takeX s g fun t s1 f => need (t = o) (outsX s1 (renHL f gs) os K))
  | _, _, _, _ => False
theorem outsX_ok : ∀ (os : List T) (s : St) (gs : List H) (K), gs.length = os.length → outsX s gs os K → ∃ s', Outs s gs os s' ∧ K s'
  | [], s, gs, K, hl, h => by
    cases gs with
    | nil => exact ⟨s, .nil s, by simpa only [outsX] using h⟩
    | cons => simp at hl
  | o :: os, s, [], K, hl, h => by simp at hl
  | o :: os, s, g :: gs, K, hl, h => by
    simp only [outsX] at h
    simp only [List.length_cons, Nat.add_right_cancel_iff] at hl
    cases ho : isHole o with
    | true =>
      rw [ho] at h
      have : o = .hole := by cases o <;> simp [isHole] at ho; rfl
      subst this
      obtain ⟨s', h1, h2⟩ := outsX_ok os s gs K hl h
      exact ⟨s', .hole h1, h2⟩
    | false =>
      rw [ho] at h
      obtain ⟨t, s1, f, h1, rfl, h2⟩ := takeX_ok h
      have hr : ∀ gs : List H, (renHL f gs).length = gs.length := fun gs => by induction gs with | nil => rfl | cons g gs ih => simp [renHL, ih]
      obtain ⟨s', h3, h4⟩ := outsX_ok os s1 _ K ((hr gs).trans hl) h2
      exact ⟨s', .take h1 h3, h4⟩
def liveO (roots : List (Nat × T)) : W → Bool
  | .one g => live roots g
  | .agg _ => true
/-- at a function's end -/
def leaveX (rx : List Rx) (res : TV) (outs : List TW) (s : St) : Prop :=
  resX s rx fun ws => need (ws.all (liveO s.roots) = true) (pL (ws.flatMap W.cells) fun gs => grabX s gs fun ts s1 => need (res = tvOf ws ts) (need ((s1.par.flatMap W.cells).length = (outs.flatMap TW.cells).length) (need (outs = tws s1.par (outs.flatMap TW.cells)) (pL (s1.par.flatMap W.cells) fun gs => pL (outs.flatMap TW.cells) fun os => outsX s1 gs os fun _ => True))))
theorem leaveX_ok {rx : List Rx} {res : TV} {outs : List TW} {s : St} (h : leaveX rx res outs s) : Leave rx s res outs := by
  obtain ⟨ws, h1, h2, h3⟩ := resX_ok _ _ h
  obtain ⟨ts, s1, h4, h5, h6, h7, h8⟩ := grab_go h3
  obtain ⟨s2, h9, _⟩ := outsX_ok _ _ _ _ h6 h8
  refine ⟨ws, ts, s1, _, s2, h1, fun w hw g hg => ?_, h4, h5, h9, h7⟩
  have := List.all_eq_true.1 h2 w hw
  subst hg; exact this
def finQ (rx : List Rx) (res : TV) (outs : List TW) : Ex' → St → Prop
  | .normal, s => leaveX rx res outs s
  | .ret, s => leaveX rx res outs s
  | _, _ => False
theorem finQ_n {rx res outs s} : finQ rx res outs .normal s = leaveX rx res outs s := rfl
theorem finQ_r {rx res outs s} : finQ rx res outs .ret s = leaveX rx res outs s := rfl
/-- at a function's beginning -/
def enterX (targs : List TW) (K : St → Prop) : Prop := pL (targs.flatMap TW.cells) fun ts => bringX ts ⟨[], [], []⟩ fun gs z => K ⟨envOf 0 (wsOf targs gs), z.roots, wsOf targs gs⟩

theorem meets_go {P : Program} {f : FuncId} {fn : Func} {c : Code} {ir : Ir} {rx : List Rx} {targs : List TW} {res : TV} {outs : List TW} (hf : P.funcs[f]? = some fn) (hb : fn.body = some c) (hc : comp P fn.ntmps c = some (erase ir)) (hrx : compR P fn.results.toList = some rx) (hn : targs.length ≤ fn.ntmps)
    (h : enterX targs (wx P ir (finQ rx res outs))) : Meets P f targs res outs := by
  obtain ⟨gs, z, h1, h2⟩ := bringX_ok _ _ _ h
  obtain ⟨e, s1, h3, h4⟩ := wx_ok _ _ _ h2
  refine meets hf hb hc hn hrx ⟨gs, z, h1, rfl⟩ h3 (e := e) ?_ ?_
  · cases e with
    | normal => exact .inl rfl
    | ret => exact .inr rfl
    | exit => exact h4.elim
  · cases e with
    | normal => exact leaveX_ok h4
    | ret => exact leaveX_ok h4
    | exit => exact h4.elim

/-- entries that are there, too -/
def subE {α : Type} : List (Nat × α) → List (Nat × α) → Prop
  | [], _ => True
  | (k, v) :: l, e => get e k = some v ∧ subE l e
theorem subE_get {α : Type} : ∀ {l e : List (Nat × α)}, subE l e → ∀ i v, get l i = some v → get e i = some v
  | [], e, _, i, v, h => by simp [get] at h
  | (k, u) :: l, e, ⟨h1, h2⟩, i, v, h => by
    simp only [get] at h
    split at h
    · rename_i hk; subst hk; simp only [Option.some.injEq] at h; subst h; exact h1
    · exact subE_get h2 i v h
theorem imp_get {s s' : St} (h1 : ∀ i v, get s'.env i = some v → get s.env i = some v) (h2 : ∀ r t, get s'.roots r = some t → get s.roots r = some t) (h3 : s'.par = s.par) : Imp s s' := by
  refine Imp.of0 ?_
  intro nt w ro tm args hv F h
  have L : Leads idRen w s.roots hv w s'.roots hv := by
    intro r p r' p' hf
    simp only [idRen, Option.some.injEq, Prod.mk.injEq] at hf
    obtain ⟨rfl, rfl⟩ := hf
    refine ⟨fun hp => ⟨hp, rfl⟩, fun t' ht' => ⟨t', h2 _ _ ht', fun x hx _ => ⟨x, hx, ?_, fun h hw => hw⟩⟩⟩
    cases x with
    | sl own st n cs => exact ⟨_, _, rfl, rfl⟩
    | _ => exact fun h => h
  refine ⟨hv, F, ⟨?_, ?_, ?_, ?_, h.gnd, ?_, h.gnro, h.glt, h.rolt, h.sz, ?_, ?_⟩, fun b ⟨r, t, ht, hb⟩ => ⟨r, t, h2 _ _ ht, hb⟩⟩
  · exact fun r t ht => h.rep r t (h2 _ _ ht)
  · exact fun r t ht => h.nd r t (h2 _ _ ht)
  · exact fun r t r' t' ht ht' => h.dis r t r' t' (h2 _ _ ht) (h2 _ _ ht')
  · exact fun r t ht => h.nro r t (h2 _ _ ht)
  · exact fun r t ht => h.gdis r t (h2 _ _ ht)
  · intro i v hi
    obtain ⟨x, k1, k2⟩ := h.env i v (h1 _ _ hi)
    have := VRep_ren L v x k2
    rw [renV_id] at this
    exact ⟨x, k1, this⟩
  · rw [h3]
    have := WRepL_ren L _ _ h.par
    rwa [show s.par.map (renW idRen) = s.par from by rw [List.map_congr_left (fun x _ => renW_id x)]; simp] at this
theorem imp_sub {s s' : St} (h1 : subE s'.env s.env) (h2 : subE s'.roots s.roots) (h3 : s'.par = s.par) : Imp s s' := imp_get (subE_get h1) (subE_get h2) h3
end Go.Proofs.YtplhecjngmkngaaT

/- Trees: what simp reckons with. No condition. -/
set_option linter.unusedVariables false
set_option linter.unusedSimpArgs false
namespace Go.Proofs.YtplhecjngmkngaaT
open Go

theorem ev_t {e : List (Nat × V)} {r : List (Nat × T)} {p : List W} {n : Nat} : ev ⟨e, r, p⟩ (.t n) = get e n := rfl
theorem ev_k {s : St} {v : W} : ev s (.k v) = some (.w v) := rfl
theorem put_st {e : List (Nat × V)} {r : List (Nat × T)} {p : List W} {d : Nat} {v : V} : St.put ⟨e, r, p⟩ d v = ⟨(d, v) :: e, r, p⟩ := rfl
theorem new_st {e : List (Nat × V)} {r : List (Nat × T)} {p : List W} {d : Nat} {v : T} : St.new ⟨e, r, p⟩ d v = ⟨e, (d, v) :: r, p⟩ := rfl
theorem get_cons {α : Type} {k i : Nat} {a : α} {l : List (Nat × α)} : get ((k, a) :: l) i = if k = i then some a else get l i := rfl
theorem get_same {α : Type} {k : Nat} {a : α} {l : List (Nat × α)} : get ((k, a) :: l) k = some a := by simp [get]
theorem get_nil {α : Type} {k : Nat} : get ([] : List (Nat × α)) k = none := rfl
theorem eql_dec {a b : Int} : (a == b) = decide (a = b) := by rw [Bool.eq_iff_iff]; simp
theorem neq_dec {a b : Int} : (a != b) = decide (¬ a = b) := by rw [Bool.eq_iff_iff]; simp
theorem str_dec {a b : ByteArray} : (a.toList == b.toList) = decide (a = b) := by
  rw [Bool.eq_iff_iff]
  simp only [beq_iff_eq, decide_eq_true_eq, ByteArray.toList_eq]
  exact ⟨fun h => by cases a; cases b; simp only [Array.toList_inj] at h; rw [h], fun h => by rw [h]⟩
theorem beq_t {b : Bool} : (b == true) = b := by cases b <;> rfl
theorem beq_f {b : Bool} : (b == false) = !b := by cases b <;> rfl
theorem max_r {a b : Nat} : max a b = if a ≤ b then b else a := Nat.max_def
theorem wrap_in {x : Int} (h : -9223372036854775808 ≤ x ∧ x ≤ 9223372036854775807) : IntKind.i64.wrap x = x := IntWalk.i64_in x h
theorem cut_cons {t : T} {cs : List T} {n : Nat} : cut (t :: cs) 0 (n + 1) = t :: cut cs 0 n := rfl
theorem cut_zero {cs : List T} {o : Nat} : cut cs o 0 = [] := by simp [cut]
theorem flat_int {k : IntKind} {l : List Int} : (l.map (T.int k)).all flatT = true := by simp [flatT]
theorem flat_str {l : List ByteArray} : (l.map T.str).all flatT = true := by simp [flatT]
theorem flat_bool {l : List Bool} : (l.map T.bool).all flatT = true := by simp [flatT]
theorem cut_map {α : Type} {f : α → T} {l : List α} : cut (l.map f) 0 l.length = l.map f := cut_all (by simp)
theorem cast_succ {n : Nat} : ((n + 1 : Nat) : Int) = (n : Int) + 1 := rfl
theorem toNat_nat {n : Nat} : Int.toNat (n : Int) = n := rfl
theorem get_map {α : Type} [Inhabited α] {f : α → T} {l : List α} {i : Nat} (h : i < l.length) : (l.map f)[i]? = some (f (l.getD i default)) := by
  simp [List.getElem?_eq_getElem h]

theorem grabX_nil {s : St} {K : List T → St → Prop} : grabX s [] K = K [] s := by rw [grabX]
theorem grabX_cons {s : St} {g : H} {gs : List H} {K : List T → St → Prop} : grabX s (g :: gs) K = grab1 s g fun t s1 f => pL (renHL f gs) fun gs' => grabX s1 gs' fun ts s2 => K (t :: ts) s2 := by rw [grabX]; rfl
theorem argX_nil {A : Bool} {os : List T} {s : St} {K : List (Option H) → St → Prop} : argX A [] os s [] K = K [] s := by rw [argX]
theorem argX_cons {A : Bool} {t o : T} {ts os : List T} {s : St} {g : H} {gs : List H} {K : List (Option H) → St → Prop} : argX A (t :: ts) (o :: os) s (g :: gs) K = pI (isNilH g)
      (pSlT t fun _ _ n cs => need (n = 0 ∧ cs = []) (argX A ts os s gs fun ls z => K (none :: ls) z))
      (pI (isOwnT t)
        (pI (isHole o) (takeX s g fun t' s1 f => need (t' = t) (pL (renHL f gs) fun gs' => argX A ts os s1 gs' fun ls z => K (none :: ls) z))
          (lendX s g fun t' s1 f => need (t' = t) (pL (renHL f gs) fun gs' => argX A ts os s1 gs' fun ls z => K (some g :: ls) z)))
        (argX A ts os s gs fun ls z => lookX A z.roots g fun t' => need (t' = t) (K (none :: ls) z))) := by rw [argX]; rfl
theorem outsX_nil {s : St} {gs : List H} {K : St → Prop} : outsX s gs [] K = K s := by unfold outsX; rfl
theorem outsX_cons {s : St} {g : H} {gs : List H} {o : T} {os : List T} {K : St → Prop} : outsX s (g :: gs) (o :: os) K = pI (isHole o) (outsX s gs os K) (takeX s g fun t s1 f => need (t = o) (pL (renHL f gs) fun gs' => outsX s1 gs' os K)) := by rw [outsX]; rfl
theorem renHL_nil {f : Ren} : renHL f [] = [] := rfl
theorem renHL_cons {f : Ren} {g : H} {gs : List H} : renHL f (g :: gs) = renH f g :: renHL f gs := rfl
theorem renH_int {f : Ren} {k : IntKind} {n : Int} : renH f (.int k n) = .int k n := rfl
theorem renH_bool {f : Ren} {b : Bool} : renH f (.bool b) = .bool b := rfl
theorem renH_str {f : Ren} {b : ByteArray} : renH f (.str b) = .str b := rfl
theorem renH_nil {f : Ren} : renH f .nil = .nil := rfl
theorem renH_nptr {f : Ren} : renH f .nptr = .nptr := rfl
theorem renH_un {f : Ren} : renH f .un = .un := rfl
theorem renH_fn {f : Ren} {g : FuncId} {caps : List H} : renH f (.fn g caps) = .fn g (renHL f caps) := rfl
theorem renW_one {f : Ren} {h : H} : renW f (.one h) = .one (renH f h) := rfl
theorem renW_agg {f : Ren} {hs : List H} : renW f (.agg hs) = .agg (renHL f hs) := rfl
theorem renV_w {f : Ren} {x : W} : renV f (.w x) = .w (renW f x) := rfl
theorem renV_tup {f : Ren} {xs : List W} : renV f (.tup xs) = .tup (xs.map (renW f)) := rfl
theorem kill_hs {a r off st n : Nat} {q p : List Nat} : renH (killR a q) (.hs r p off st n) = if r = a ∧ q.isPrefixOf p = true then .un else .hs r p off st n := by
  simp only [renH, killR]; by_cases h : r = a ∧ q.isPrefixOf p = true <;> simp only [h, if_true, if_false] <;> simp
theorem kill_hp {a r off : Nat} {q p : List Nat} : renH (killR a q) (.hp r p off) = if r = a ∧ q.isPrefixOf p = true then .un else .hp r p off := by
  simp only [renH, killR]; by_cases h : r = a ∧ q.isPrefixOf p = true <;> simp only [h, if_true, if_false] <;> simp
theorem mapv_nil {α β : Type} {f : α → β} : mapv f [] = [] := rfl
def bHs : Option Nat → Nat → Nat → List Nat → Nat → Nat → Nat → H
  | some j, q, _, p, off, st, n => .hs q (j :: p) off st n
  | none, q, r, p, off, st, n => if r = q then .un else .hs r p off st n
def bHp : Option Nat → Nat → Nat → List Nat → Nat → H
  | some j, q, _, p, off => .hp q (j :: p) off
  | none, q, r, p, off => if r = q then .un else .hp r p off
theorem box_hs {l : List (Nat × Nat)} {q r off st n : Nat} {p : List Nat} : renH (boxF l q) (.hs r p off st n) = bHs (get l r) q r p off st n := by
  simp only [renH, boxF]
  cases get l r with
  | some j => simp [bHs]
  | none => by_cases h : r = q <;> simp [bHs, h]
theorem box_hp {l : List (Nat × Nat)} {q r off : Nat} {p : List Nat} : renH (boxF l q) (.hp r p off) = bHp (get l r) q r p off := by
  simp only [renH, boxF]
  cases get l r with
  | some j => simp [bHp]
  | none => by_cases h : r = q <;> simp [bHp, h]
theorem boxSt_eq {s s1 : St} {l : List (Nat × Nat)} {q : Nat} {ts : List T} : boxSt s s1 l q ts = ⟨mapv (renV (boxF l q)) s.env, (q, .bx true ts) :: s1.roots, s.par.map (renW (boxF l q))⟩ := rfl
section
variable {s : St} {j : Nat} {gs : List H} {t : T} {ts : List T} {l : List (Nat × Nat)} {K : List (Nat × Nat) → Prop}
theorem boxX_nil : boxX s j [] ts l K = K l := by unfold boxX; rfl
theorem boxX_nil' : boxX s j gs [] l K = K l := by cases gs <;> (unfold boxX; rfl)
theorem boxX_hs {x st n : Nat} : boxX s j (.hs x [] 0 st n :: gs) (t :: ts) l K = pO (get s.roots x) fun t0 => pSlT t0 fun own st' n0 cs => pI own (pI (decide (n = n0)) (need (st = st' ∧ t = .sl true st' n0 cs) (boxX s (j + 1) gs ts ((x, j) :: l) K)) (boxX s (j + 1) gs ts l K)) (boxX s (j + 1) gs ts l K) := rfl
theorem boxX_int {k n} : boxX s j (.int k n :: gs) (t :: ts) l K = boxX s (j + 1) gs ts l K := rfl
theorem boxX_bool {b} : boxX s j (.bool b :: gs) (t :: ts) l K = boxX s (j + 1) gs ts l K := rfl
theorem boxX_str {b} : boxX s j (.str b :: gs) (t :: ts) l K = boxX s (j + 1) gs ts l K := rfl
theorem boxX_niH : boxX s j (.nil :: gs) (t :: ts) l K = boxX s (j + 1) gs ts l K := rfl
theorem boxX_np : boxX s j (.nptr :: gs) (t :: ts) l K = boxX s (j + 1) gs ts l K := rfl
theorem boxX_fn {f c} : boxX s j (.fn f c :: gs) (t :: ts) l K = boxX s (j + 1) gs ts l K := rfl
theorem boxX_hp {r p off} : boxX s j (.hp r p off :: gs) (t :: ts) l K = boxX s (j + 1) gs ts l K := rfl
theorem boxX_hsp {x i p off st n : Nat} {p : List Nat} : boxX s j (.hs x (i :: p) off st n :: gs) (t :: ts) l K = boxX s (j + 1) gs ts l K := rfl
theorem boxX_hso {x off st n : Nat} {p : List Nat} : boxX s j (.hs x p (off + 1) st n :: gs) (t :: ts) l K = boxX s (j + 1) gs ts l K := by cases p <;> rfl
end

def kHs : Bool → Nat → List Nat → Nat → Nat → Nat → H
  | true, r, p, off, st, n => .hs r p off st n
  | false, _, _, _, _, _ => .un
def kHp : Bool → Nat → List Nat → Nat → H
  | true, r, p, off => .hp r p off
  | false, _, _, _ => .un
theorem keep_hs {ks : List (Nat × List Nat)} {r off st n : Nat} {p : List Nat} : renH (keepF ks) (.hs r p off st n) = kHs (inK ks r p) r p off st n := by
  simp only [renH, keepF]; cases inK ks r p <;> simp [kHs]
theorem keep_hp {ks : List (Nat × List Nat)} {r off : Nat} {p : List Nat} : renH (keepF ks) (.hp r p off) = kHp (inK ks r p) r p off := by
  simp only [renH, keepF]; cases inK ks r p <;> simp [kHp]
theorem ke_st {e e' : List (Nat × V)} {r : List (Nat × T)} {p : List W} : St.ke ⟨e, r, p⟩ e' = ⟨e', r, p⟩ := rfl
theorem keepE_nil {ks : List (Nat × List Nat)} {l : List (Nat × V)} : keepE ks [] l = l := keepE_no fun _ => rfl
theorem keepE_end {ks : List (Nat × List Nat)} {kv : List (Nat × V)} : keepE ks kv [] = [] := by cases kv <;> rfl
def keepE1 (ks : List (Nat × List Nat)) (k : Nat) (v : V) (kv l : List (Nat × V)) : Option V → List (Nat × V)
  | some v0 => (k, renV (keepF ks) v0) :: keepE ks (del kv k) l
  | none => (k, v) :: keepE ks kv l
theorem keepE_cons {ks : List (Nat × List Nat)} {kv l : List (Nat × V)} {k : Nat} {v : V} : keepE ks kv ((k, v) :: l) = keepE1 ks k v kv l (get kv k) := by
  simp only [keepE]; cases get kv k <;> rfl
theorem keepE1_s {ks : List (Nat × List Nat)} {kv l : List (Nat × V)} {k : Nat} {v v0 : V} : keepE1 ks k v kv l (some v0) = (k, renV (keepF ks) v0) :: keepE ks (del kv k) l := rfl
theorem keepE1_n {ks : List (Nat × List Nat)} {kv l : List (Nat × V)} {k : Nat} {v : V} : keepE1 ks k v kv l none = (k, v) :: keepE ks kv l := rfl
theorem kp_st {e : List (Nat × V)} {r : List (Nat × T)} {p q : List W} : St.kp ⟨e, r, p⟩ q = ⟨e, r, q⟩ := rfl
theorem mapv_cons {α β : Type} {f : α → β} {k : Nat} {a : α} {l : List (Nat × α)} : mapv f ((k, a) :: l) = (k, f a) :: mapv f l := rfl

theorem live_int {l : List (Nat × T)} {k n} : live l (.int k n) = true := rfl
theorem live_bool {l : List (Nat × T)} {b} : live l (.bool b) = true := rfl
theorem live_str {l : List (Nat × T)} {b} : live l (.str b) = true := rfl
theorem live_nil {l : List (Nat × T)} : live l .nil = true := rfl
theorem live_nptr {l : List (Nat × T)} : live l .nptr = true := rfl
theorem live_hs {l : List (Nat × T)} {r p off st n} : live l (.hs r p off st n) = (get l r).isSome := rfl
theorem live_hp {l : List (Nat × T)} {r p off} : live l (.hp r p off) = (get l r).isSome := rfl
theorem live_fn {l : List (Nat × T)} {f c} : live l (.fn f c) = true := rfl
theorem live_un {l : List (Nat × T)} : live l .un = false := rfl
theorem liveW_one {l : List (Nat × T)} {h} : liveW l (.one h) = live l h := rfl
theorem liveW_agg {l : List (Nat × T)} {h} : liveW l (.agg h) = true := rfl
theorem liveO_one {l : List (Nat × T)} {h} : liveO l (.one h) = live l h := rfl
theorem liveO_agg {l : List (Nat × T)} {h} : liveO l (.agg h) = true := rfl
attribute [go_sem ↓] callG_hd drawG_hd pG_hd pG'_0 pG'_1 pO_hd pInt_hd pBool_hd pStr_hd pHs_hd pHp_hd pSl_hd pAgg_hd pW_hd pTup_hd p2_hd pI_hd pN_hd pL_hd pSlT_hd pBxT_hd need_eq br_eq
attribute [go_sem ↓] pO'_0 pInt'_0 pBool'_0 pStr'_0 pHs'_0 pHp'_0 pSl'_0 pSl'_1 pAgg'_0 pW'_0 pTup'_0 p2'_0 p2'_1 pI'_0 pI'_1 pSlT'_0 pBxT'_0 seqK_n seqK_r seqK_e blkK_n blkK_r blkK_e ev_t ev_k put_st new_st get_same get_cons get_nil finQ_n finQ_r need_t br_true br_false brP_true brP_false renHL_id renH_id renW_id renV_id
attribute [go_sem] pG'_0 pG'_1 pO'_0 pInt'_0 pBool'_0 pStr'_0 pHs'_0 pHp'_0 pSl'_0 pSl'_1 pAgg'_0 pW'_0 pTup'_0 p2'_0 p2'_1 pI'_0 pI'_1 pSlT'_0 pBxT'_0 pN'_0 pL'_0 seqK_n seqK_r seqK_e blkK_n blkK_r blkK_e ev_t ev_k put_st new_st get_same get_cons get_nil finQ_n finQ_r need_of need_t br_true br_false br_not br_dec brP_true brP_false brP_not
attribute [go_sem ↓] callKX keepX kvX kp_st ke_st keepE_nil keepE_end
attribute [go_sem] callKX keepX kvX kp_st ke_st keepE_nil keepE_end keepE_cons keepE1_s keepE1_n keep_hs keep_hp kHs kHp inK eqN Bool.or_true Bool.true_or Bool.or_false Bool.false_or List.length_range
attribute [go_sem ↓] boxX_nil boxX_nil' boxX_hs boxX_int boxX_bool boxX_str boxX_niH boxX_np boxX_fn boxX_hp boxX_hsp boxX_hso boxSt_eq
attribute [go_sem] sameP_nil sameP_cons sameP_int sameP_bool sameP_str sameP_0 sameP_nptr sameP_fn sameP_hp sameP_agg putSame_eq boxX_nil boxX_nil' boxX_hs boxX_int boxX_bool boxX_str boxX_niH boxX_np boxX_fn boxX_hp boxX_hsp boxX_hso
attribute [go_sem ↓] wx sx si qi bringX giveX lookX lookXL lendX takeX grab1 grabX_nil grabX_cons argX_nil argX_cons outsX_nil outsX_cons putX putsX srcX resX pB enterX leaveX callX callvX
attribute [go_sem] wx sx si qi bringX giveX lookX lookXL lendX takeX grab1 grabX_nil grabX_cons argX_nil argX_cons outsX_nil outsX_cons putX putsX srcX resX pB enterX leaveX callX callvX
attribute [go_sem] evp evp1 evws del mapv_nil mapv_cons renHL_nil renHL_cons renH_int renH_bool renH_str renH_nil renH_nptr renH_un renH_fn renW_one renW_agg renV_w renV_tup kill_hs kill_hp box_hs box_hp bHs bHp boxSt_eq noPathL noPathH List.isEmpty_nil List.isEmpty_cons sub upd hOf hsOf fillH binInt binShift binStr live_int live_bool live_str live_nil live_nptr live_hs live_hp live_fn live_un liveW_one liveW_agg liveO_one liveO_agg cellX cellXL upH upHL upW upWL upV upE upR newR tops topE topV topW topH topHL tws shp wsOf vOf tvOf noRo noRoL envOf TW.cells TV.cells W.cells cells isNilH isOwnT isHole isOb putO flatT noHole St.kill litH subE set cut_nil
attribute [go_sem] eql_dec neq_dec str_dec beq_t beq_f max_r wrap_in toNat_nat List.flatMap_cons List.flatMap_nil List.nil_append List.cons_append List.append_nil List.all_cons List.all_nil List.map_cons List.map_nil List.length_cons List.length_nil List.take_succ_cons List.take_zero List.drop_succ_cons List.drop_zero List.take_nil List.drop_nil Bool.and_true Bool.true_and Bool.and_false Bool.false_and Bool.not_true Bool.not_false Option.map_some Option.map_none Option.bind_some Option.bind_none Option.isSome_some Option.isNone_some Option.isSome_none Option.isNone_none and_true true_and if_true if_false ge_iff_le gt_iff_lt Nat.zero_add Nat.add_zero Nat.zero_mul Nat.mul_one Nat.one_mul and_self List.headD_cons
attribute [go_sem] List.length_append List.map_append cut_cons cut_zero flat_int flat_str flat_bool true_or List.replicate_zero List.replicate_succ List.flatten_cons List.flatten_nil Nat.le_refl cut_map cast_succ Int.cast_ofNat_Int get_map decide_true decide_false List.length_map List.getElem?_cons_zero List.getElem?_cons_succ List.isPrefixOf Int.ofNat_zero_le Int.zero_add List.set_cons_zero List.set_cons_succ eq_self
end Go.Proofs.YtplhecjngmkngaaT

/- Trees: states told anew: a root renamed; nil told as a slice of one's own. No condition. -/
set_option linter.unusedVariables false
set_option linter.unusedSimpArgs false
namespace Go.Proofs.YtplhecjngmkngaaT
open Go

theorem Imp.refl (s : St) : Imp s s := fun _ _ ro _ _ hv F h => ⟨ro, hv, F, h, fun _ h => h, fun _ h => h, fun _ h => .inl h⟩
theorem Imp.trans {a b c : St} (h : Imp a b) (k : Imp b c) : Imp a c := by
  intro nt w ro tm args hv F hi
  obtain ⟨ro1, hv1, F1, h1, h2, h5, h6⟩ := h _ _ _ _ _ _ _ hi
  obtain ⟨ro2, hv2, F2, h3, h4, h7, h8⟩ := k _ _ _ _ _ _ _ h1
  exact ⟨ro2, hv2, F2, h3, fun b hb => h2 b (h4 b hb), fun b hb => h7 b (h5 b hb), fun b hb => (h8 b hb).elim (h6 b) (fun hr => .inr (h2 b hr))⟩

def renR (a b : Nat) : Ren := fun q p => if q = a then some (b, p) else if q = b then none else some (q, p)
/-- the root a is called b -/
theorem imp_ren {s : St} (a b : Nat) {t : T} (ha : get s.roots a = some t) (hb : get s.roots b = none) : Imp s ⟨mapv (renV (renR a b)) s.env, (b, t) :: del s.roots a, s.par.map (renW (renR a b))⟩ := by
  refine Imp.of0 ?_
  intro nt w ro tm args hv F h
  have hab : b ≠ a := fun e => by subst e; rw [ha] at hb; simp at hb
  have hget : ∀ x u, get ((b, t) :: Go.Proofs.YtplhecjngmkngaaT.del s.roots a) x = some u → (x = b ∧ u = t) ∨ (x ≠ b ∧ x ≠ a ∧ get s.roots x = some u) := by
    intro x u hx
    simp only [get] at hx
    split at hx
    · rename_i e; exact .inl ⟨e.symm, (Option.some.inj hx).symm⟩
    · rename_i e
      rw [get_del] at hx
      split at hx
      · simp at hx
      · rename_i e2; exact .inr ⟨fun h => e h.symm, fun h => e2 h.symm, hx⟩
  have L : Leads (renR a b) w s.roots hv w ((b, t) :: Go.Proofs.YtplhecjngmkngaaT.del s.roots a) (fun x => if x = b then hv a else hv x) := by
    intro q p q' p' hf
    simp only [renR] at hf
    split at hf
    · rename_i e; subst e
      simp only [Option.some.injEq, Prod.mk.injEq] at hf
      obtain ⟨rfl, rfl⟩ := hf
      refine ⟨fun hp => ⟨hp, by simp⟩, fun u hu => ?_⟩
      rcases hget _ _ hu with ⟨_, rfl⟩ | ⟨e, _⟩
      · exact ⟨u, ha, fun x hx _ => ⟨x, hx, Alike.refl x, fun g hg => by simpa using hg⟩⟩
      · exact (e rfl).elim
    · split at hf
      · simp at hf
      · rename_i e1 e2
        simp only [Option.some.injEq, Prod.mk.injEq] at hf
        obtain ⟨rfl, rfl⟩ := hf
        refine ⟨fun hp => ⟨hp, by simp [e2]⟩, fun u hu => ?_⟩
        rcases hget _ _ hu with ⟨e, _⟩ | ⟨_, _, hu⟩
        · exact (e2 e).elim
        · exact ⟨u, hu, fun x hx _ => ⟨x, hx, Alike.refl x, fun g hg => by simpa [e2] using hg⟩⟩
  refine ⟨_, fun x => if x = b then F a else F x, Inv.move h L ?_ ?_ ?_ ?_ h.gnd ?_ h.gnro h.glt h.rolt, ?_⟩
  · intro x u hx
    rcases hget _ _ hx with ⟨rfl, rfl⟩ | ⟨e, _, hu⟩
    · simpa using h.rep a _ ha
    · simpa [e] using h.rep x _ hu
  · intro x u hx
    rcases hget _ _ hx with ⟨rfl, rfl⟩ | ⟨e, _, hu⟩
    · simpa using h.nd a _ ha
    · simpa [e] using h.nd x _ hu
  · intro x u y v hx hy hne
    rcases hget _ _ hx with ⟨rfl, rfl⟩ | ⟨e, e', hu⟩ <;> rcases hget _ _ hy with ⟨rfl, rfl⟩ | ⟨f, f', hv'⟩
    · exact (hne rfl).elim
    · simpa [f] using h.dis a _ y _ ha hv' (Ne.symm f')
    · simpa [e] using h.dis x _ a _ hu ha e'
    · simpa [e, f] using h.dis x _ y _ hu hv' hne
  · intro x u hx
    rcases hget _ _ hx with ⟨rfl, rfl⟩ | ⟨e, _, hu⟩
    · simpa using h.nro a _ ha
    · simpa [e] using h.nro x _ hu
  · intro x u hx
    rcases hget _ _ hx with ⟨rfl, rfl⟩ | ⟨e, _, hu⟩
    · simpa using h.gdis a _ ha
    · simpa [e] using h.gdis x _ hu
  · intro y ⟨x, u, hx, hy⟩
    rcases hget _ _ hx with ⟨rfl, rfl⟩ | ⟨e, _, hu⟩
    · exact ⟨a, _, ha, by simpa using hy⟩
    · exact ⟨x, _, hu, by simpa [e] using hy⟩

/-- nil is a slice of one's own, of no elements -/
theorem imp_adopt {s : St} (t r st : Nat) (ht : get s.env t = some (.w (.one .nil))) (hf : fresh s r = true) : Imp s ((s.new r (.sl true st 0 [])).put t (.w (.one (.hs r [] 0 st 0)))) := by
  refine Imp.of0 ?_
  intro nt w ro tm args hv F h
  obtain ⟨x, hx1, hx2⟩ := h.env t _ ht
  simp only [VRep, WRep, HRep] at hx2
  have hR : Rep w ro (.sl true st 0 []) x [] := by simp only [Rep]; exact .inl ⟨trivial, trivial, trivial, hx2⟩
  have h1 := h.new (r := r) (Ft := []) (G' := []) (fun x hx => by simpa using hx) (by simp) hf hR
  have hlt : t < nt := by
    rw [← h.sz]
    exact (Array.getElem?_eq_some_iff.1 hx1).1
  obtain ⟨n1, n2⟩ := newH' hR
  have h2 := h1.put hlt (v := .w (.one (.hs r [] 0 st 0))) (x := x) (by
    simp only [VRep, WRep, HRep]
    refine ⟨fun _ => by simpa using n1, fun t' ht' => ?_⟩
    simp only [get_set, if_true, Option.some.injEq] at ht'
    subst ht'
    exact ⟨true, 0, [], x, by simp [sub], by simp [walk], ⟨by simp, by simpa using n1.2.2⟩, n1.1⟩)
  have e : tm.setIfInBounds t x = tm := by
    apply Array.ext_getElem?
    intro i
    rw [Array.getElem?_setIfInBounds]
    split
    · rename_i hi; subst hi
      rw [hx1]; simp [(Array.getElem?_eq_some_iff.1 hx1).1]
    · rfl
  rw [e] at h2
  refine ⟨_, _, h2, fun b ⟨q, u, hq, hb⟩ => ?_⟩
  simp only [St.put, St.new, get_set] at hq
  split at hq
  · rename_i e; subst e; simp at hb
  · rename_i e
    exact ⟨q, u, hq, by simpa [Ne.symm e] using hb⟩
theorem ren_hs {a b r off st n : Nat} {p : List Nat} : renH (renR a b) (.hs r p off st n) = if r = a then .hs b p off st n else if r = b then .un else .hs r p off st n := by
  by_cases h : r = a
  · subst h; simp [renH, renR]
  · by_cases h2 : r = b
    · subst h2; simp [renH, renR, h]
    · simp [renH, renR, h, h2]
theorem ren_hp {a b r off : Nat} {p : List Nat} : renH (renR a b) (.hp r p off) = if r = a then .hp b p off else if r = b then .un else .hp r p off := by
  by_cases h : r = a
  · subst h; simp [renH, renR]
  · by_cases h2 : r = b
    · subst h2; simp [renH, renR, h]
    · simp [renH, renR, h, h2]
attribute [go_sem] ren_hs ren_hp fresh noRefE noRefV noRefW noRefH noRefHL bne_iff_ne
end Go.Proofs.YtplhecjngmkngaaT

/- Trees: quiet operations in a state that holds more. No condition. -/
set_option linter.unusedVariables false
set_option linter.unusedSimpArgs false
namespace Go.Proofs.YtplhecjngmkngaaT
open Go

structure Sub (s s' : St) : Prop where
  env : ∀ i v, get s.env i = some v → get s'.env i = some v
  roots : ∀ r t, get s.roots r = some t → get s'.roots r = some t
section
variable {s s' : St} (hs : Sub s s')
include hs
theorem ev_mono {x : X} {v : V} (h : ev s x = some v) : ev s' x = some v := by
  cases x with
  | t n => exact hs.env n v h
  | k w => exact h
theorem root_mono {r : Nat} (h : (get s.roots r).isSome = true) : (get s'.roots r).isSome = true := by
  obtain ⟨t, ht⟩ := Option.isSome_iff_exists.1 h
  rw [hs.roots r t ht]; rfl
theorem live_mono {h : H} (hl : live s.roots h = true) : live s'.roots h = true := by
  cases h with
  | hs r p off st n => exact root_mono hs hl
  | hp r p off => exact root_mono hs hl
  | _ => exact hl
theorem liveW_mono {x : W} (hl : liveW s.roots x = true) : liveW s'.roots x = true := by
  cases x with
  | one h => exact live_mono hs hl
  | agg gs => rfl
theorem parts_mono : ∀ {ps : List (Nat × Nat × X)} {vs : List (Nat × Nat × W)}, (ps.map fun (o, z, x) => (o, z, ev s x)) = (vs.map fun (o, z, v) => (o, z, some (V.w v))) → (ps.map fun (o, z, x) => (o, z, ev s' x)) = (vs.map fun (o, z, v) => (o, z, some (V.w v)))
  | [], [], _ => rfl
  | [], _ :: _, h => by simp at h
  | _ :: _, [], h => by simp at h
  | (o, z, x) :: ps, (o', z', v) :: vs, h => by
    simp only [List.map_cons, List.cons.injEq, Prod.mk.injEq] at h ⊢
    exact ⟨⟨h.1.1, h.1.2.1, ev_mono hs h.1.2.2⟩, parts_mono h.2⟩
theorem parts1_mono : ∀ {ps : List (Nat × X)} {vs : List (Nat × W)}, (ps.map fun (i, x) => (i, ev s x)) = (vs.map fun (i, v) => (i, some (V.w v))) → (ps.map fun (i, x) => (i, ev s' x)) = (vs.map fun (i, v) => (i, some (V.w v)))
  | [], [], _ => rfl
  | [], _ :: _, h => by simp at h
  | _ :: _, [], h => by simp at h
  | (o, x) :: ps, (o', v) :: vs, h => by
    simp only [List.map_cons, List.cons.injEq, Prod.mk.injEq] at h ⊢
    exact ⟨⟨h.1.1, ev_mono hs h.1.2⟩, parts1_mono h.2⟩
theorem caps_mono : ∀ {ps : List X} {vs : List H}, (ps.map (ev s)) = (vs.map fun h => some (V.w (.one h))) → (ps.map (ev s')) = (vs.map fun h => some (V.w (.one h)))
  | [], [], _ => rfl
  | [], _ :: _, h => by simp at h
  | _ :: _, [], h => by simp at h
  | x :: ps, v :: vs, h => by
    simp only [List.map_cons, List.cons.injEq] at h ⊢
    exact ⟨ev_mono hs h.1, caps_mono h.2⟩
theorem bnd_mono {lo : Option X} {d l : Nat} : (match lo with | none => l = d | some y => ∃ k, ev s y = some (.w (.one (.int k (l : Nat))))) → (match lo with | none => l = d | some y => ∃ k, ev s' y = some (.w (.one (.int k (l : Nat))))) := by
  cases lo with
  | none => exact fun h => h
  | some y => exact fun ⟨k, h⟩ => ⟨k, ev_mono hs h⟩
theorem yld_mono {i : I} {v : V} (h : Yld i s v) : Yld i s' v := by
  cases h with
  | mov h1 => exact .mov (ev_mono hs h1)
  | pickT h1 h2 => exact .pickT (ev_mono hs h1) (ev_mono hs h2)
  | pickF h1 h2 => exact .pickF (ev_mono hs h1) (ev_mono hs h2)
  | build h1 h2 h3 => exact .build (parts_mono hs h1) (by rw [List.all_eq_true] at h2 ⊢; exact fun x hx => liveW_mono hs (h2 x hx)) h3
  | load1 h1 h2 h3 h4 => exact .load1 (ev_mono hs h1) (hs.roots _ _ h2) h3 h4
  | loadK h1 h2 h3 h4 => exact .loadK (ev_mono hs h1) (hs.roots _ _ h2) h3 h4
  | nilc h1 h2 => exact .nilc (ev_mono hs h1) (root_mono hs h2)
  | binI h1 h2 h3 => exact .binI (ev_mono hs h1) (ev_mono hs h2) h3
  | binSh h1 h2 h3 h4 => exact .binSh (ev_mono hs h1) (ev_mono hs h2) h3 h4
  | binS h1 h2 h3 => exact .binS (ev_mono hs h1) (ev_mono hs h2) h3
  | cat h1 h2 h3 => exact .cat (ev_mono hs h1) (ev_mono hs h2) h3
  | beq h1 h2 => exact .beq (ev_mono hs h1) (ev_mono hs h2)
  | not h1 => exact .not (ev_mono hs h1)
  | neg h1 => exact .neg (ev_mono hs h1)
  | cvi h1 => exact .cvi (ev_mono hs h1)
  | cvs h1 h2 h3 h4 h5 => exact .cvs (ev_mono hs h1) (hs.roots _ _ h2) h3 h4 h5
  | cvs0 h1 => exact .cvs0 (ev_mono hs h1)
  | substr h1 h2 h3 h4 h5 => exact .substr (ev_mono hs h1) (bnd_mono hs h2) (bnd_mono hs h3) h4 h5
  | slice h1 h2 h3 h4 h5 h6 => exact .slice (ev_mono hs h1) (root_mono hs h2) (bnd_mono hs h3) (bnd_mono hs h4) h5 h6
  | slice0 h1 h2 h3 h4 h5 => exact .slice0 (ev_mono hs h1) (root_mono hs h2) h3 (ev_mono hs h4) (ev_mono hs h5)
  | faddr h1 h2 => exact .faddr (ev_mono hs h1) (root_mono hs h2)
  | field1 h1 h2 => exact .field1 (ev_mono hs h1) h2
  | fieldK h1 h2 => exact .fieldK (ev_mono hs h1) h2
  | iaddr h1 h2 h3 h4 h5 => exact .iaddr (ev_mono hs h1) (root_mono hs h2) (ev_mono hs h3) h4 h5
  | «at» h1 h2 h3 h4 => exact .at (ev_mono hs h1) (ev_mono hs h2) h3 h4
  | ext h1 h2 => exact .ext (ev_mono hs h1) h2
  | lenS h1 h2 => exact .lenS (ev_mono hs h1) (root_mono hs h2)
  | lenT h1 => exact .lenT (ev_mono hs h1)
  | len0 h1 => exact .len0 (ev_mono hs h1)
  | mm2 h1 h2 => exact .mm2 (ev_mono hs h1) (ev_mono hs h2)
  | mkf h1 => exact .mkf (caps_mono hs h1)
end
end Go.Proofs.YtplhecjngmkngaaT
