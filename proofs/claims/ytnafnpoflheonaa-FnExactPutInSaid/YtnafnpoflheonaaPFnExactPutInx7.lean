/- Contracts of functions of the translation, written by a program of this repo (a changed copy of the printer). Not trusted: Lean checks it. -/
-- squeezed
import Derived.Test.YtnafnpoflheonaaPFnExactPutInx0
import Derived.Test.YtnafnpoflheonaaPFnExactPutInx6
namespace Go.Proofs.Ytnafnpoflheonaa.PFnExactPutIn
open Go.RowKit Go.Proofs.YtnafnpoflheonaaW.PrintWords Go.Proofs.YtnafnpoflheonaaW.PrintLast Go.Proofs.YtnafnpoflheonaaW.PrintMore
attribute [local go_sem] max2_int min2_int max_two min_two max_three min_three max_four min_four   -- for this text's walks alone
set_option linter.unusedVariables false
set_option linter.unusedSimpArgs false

/-! ### impl_GoodPool: function 21 -/
/-- does the branch's list hold what it may -/
def impl_GoodPool.br (bs : List S65) (vs : List Int) : List S65 → Int → Option Bool
 | [], _ => some true
 | b :: t, i => if (b.f0.length : Int) = 4 then (Op.anyO (fun kid => (impl_isKid.f bs vs i kid).map (fun z => !z)) b.f0).bind fun x => if x then some false else impl_GoodPool.br bs vs t (i + 1) else some false
def impl_GoodPool.ver (bs : List S65) (k : Int) : Option Bool :=
 if k = -1 then some false else (impl_within.f k 0 (wrap64 ((bs.length : Int) - 1))).bind fun z => if z then (if 0 ≤ k then if k < bs.length then some (rd_T65 bs k).f1 else none else none) else some true
def impl_GoodPool.f (l0_0 : List S65) (l0_1 : List Int) : Option Bool :=
 if (l0_0.length : Int) > 200 then some false else if (l0_1.length : Int) > 40 then some false else (impl_GoodPool.br l0_0 l0_1 l0_0 0).bind fun x => if x then (Op.anyO (impl_GoodPool.ver l0_0) l0_1).map (fun z => !z) else some false
theorem impl_GoodPool.one (bs : List S65) (vs : List Int) (A0 A1 : Option Addr) (c0 c1 : Nat) (gp gi : Nat) (i x : Int) (b : Bool) (w : World)
  (hb : w.heap[gp]? = some (.cells #[.slice A0 bs.length c0, .slice A1 vs.length c1] 25 (0, 0))) (hi : w.heap[gi]? = some (.cells #[.int .i64 i] 3 (0, 0)))
  (hr0 : Kd.C k65 w A0 bs.length bs) (hc0 : bs.length ≤ c0) (hr1 : Kd.C (Kd.int .i64) w A1 vs.length vs) (hc1 : vs.length ≤ c1) (h : (impl_isKid.f bs vs i x).map (fun z => !z) = some b) :
  Calls Try.prog 54 #[.int .i64 x, .pointer (some ⟨gp, 0, none⟩), .pointer (some ⟨gi, 0, none⟩)] w fun e w' => e = .returned (.bool b) ∧ Below w.heap.size w w' := by
 obtain ⟨z, hz, rfl⟩ := Option.map_eq_some_iff.1 h
 have h0 := (blk_cell hb 0).trans rfl
 have h1 := (blk_cell hb 1).trans rfl
 have h2 := (blk_cell hi 0).trans rfl
 have H := Aside0.mk (impl_isKid.calls A0 c0 bs A1 c1 vs i x z w hr0 hc0 hr1 hc1 hz)
 clear hb hi hr0 hr1 hz h
 go_enter Try.func54, Try.ntmps54
 go_wp2_with (go_at_call 55; refine H.out.mono ?_; rintro e w' ⟨rfl, hb2⟩)
 go_ret
 exact ⟨rfl, hb2⟩
theorem impl_GoodPool.two (bs : List S65) (vs : List Int) (A0 A1 : Option Addr) (c0 c1 : Nat) (gp : Nat) (x : Int) (b : Bool) (w : World)
  (hb : w.heap[gp]? = some (.cells #[.slice A0 bs.length c0, .slice A1 vs.length c1] 25 (0, 0)))
  (hr0 : Kd.C k65 w A0 bs.length bs) (h : impl_GoodPool.ver bs x = some b) :
  Calls Try.prog 56 #[.int .i64 x, .pointer (some ⟨gp, 0, none⟩)] w fun e w' => e = .returned (.bool b) ∧ Below w.heap.size w w' := by
 have h0 : w.cell? ⟨gp, 0, none⟩ = some (.slice A0 bs.length c0) := (blk_cell hb 0).trans rfl
 have h1 : w.cell? ⟨gp, 1, none⟩ = some (.slice A1 vs.length c1) := (blk_cell hb 1).trans rfl
 clear hb
 unfold impl_GoodPool.ver at h
 by_cases e1 : x = -1
 ·rw [if_pos e1] at h
  obtain rfl := Option.some.inj h
  subst e1
  clear h hr0
  go_enter Try.func56, Try.ntmps56
  go_wp2
  go_ret
  exact ⟨rfl, Below.refl _ _⟩
 rw [if_neg e1] at h
 obtain ⟨z, hz, h⟩ := Option.bind_eq_some_iff.1 h
 have HZ := Aside0.mk hz
 have e1b : (x != -1) = true := bne_iff_ne.2 e1
 clear hz e1
 cases z with
 | false =>
  have hb : b = true := by simpa using h.symm
  subst hb
  clear h hr0
  go_enter Try.func56, Try.ntmps56
  go_wp2_with (go_at_call 57; refine (impl_within.calls _ _ _ false _ HZ.out).mono ?_; rintro e w' ⟨rfl, ⟨nd, rfl⟩⟩)
  go_ret
  exact ⟨rfl, pw_below_drewN (Below.refl _ _) _⟩
 | true =>
  simp only [if_true] at h
  by_cases h2 : 0 ≤ x
  ·rw [if_pos h2] at h
   by_cases h3 : x < bs.length
   ·rw [if_pos h3] at h
    obtain ⟨ad, A', c', rfl, hx0, hx1, _, _⟩ := at_T65 hr0 x h2 h3
    have hb := Option.some.inj h
    have HBB := Aside0.mk hb
    have h2b : decide (0 ≤ x) = true := decide_eq_true h2
    have h3b : decide (x < (bs.length : Int)) = true := decide_eq_true h3
    clear h hr0 hb
    go_enter Try.func56, Try.ntmps56
    go_wp2_with (go_at_call 57; refine (impl_within.calls _ _ _ true _ HZ.out).mono ?_; rintro e w' ⟨rfl, ⟨nd, rfl⟩⟩)
    go_ret
    exact ⟨by rw [← HBB.out]; rfl, pw_below_drewN (Below.refl _ _) _⟩
   ·rw [if_neg h3] at h; exact absurd h (by simp)
  ·rw [if_neg h2] at h; exact absurd h (by simp)
theorem impl_GoodPool.calls (A0_0 : Option Addr) (c0_0 : Nat) (l0_0 : List S65) (A0_1 : Option Addr) (c0_1 : Nat) (l0_1 : List Int) (r : Bool) (w : World)
  (hr0_0 : Kd.C k65 w A0_0 l0_0.length l0_0) (hc0_0 : l0_0.length ≤ c0_0) (hr0_1 : Kd.C (Kd.int .i64) w A0_1 l0_1.length l0_1) (hc0_1 : l0_1.length ≤ c0_1) (h : impl_GoodPool.f l0_0 l0_1 = some r) :
  Calls Try.prog 21 #[.agg #[.slice A0_0 l0_0.length c0_0, .slice A0_1 l0_1.length c0_1]] w fun e w' => e = .returned (.bool r) ∧ Below w.heap.size w w' := by
 unfold impl_GoodPool.f at h
 by_cases g1 : (l0_0.length : Int) > 200
 ·rw [if_pos g1] at h
  obtain rfl := Option.some.inj h
  have g1b : decide ((200 : Int) < l0_0.length) = true := decide_eq_true g1
  clear g1 h hr0_0 hr0_1
  go_enter Try.func21, Try.ntmps21
  go_wp2
  go_ret
  exact ⟨rfl, (Below.refl _ _).alloc (Nat.le_refl _) _⟩
 rw [if_neg g1] at h
 by_cases g2 : (l0_1.length : Int) > 40
 ·rw [if_pos g2] at h
  obtain rfl := Option.some.inj h
  have g1b : decide ((200 : Int) < l0_0.length) = false := decide_eq_false g1
  have g2b : decide ((40 : Int) < l0_1.length) = true := decide_eq_true g2
  clear g1 g2 h hr0_0 hr0_1
  go_enter Try.func21, Try.ntmps21
  go_wp2
  go_ret
  exact ⟨rfl, (Below.refl _ _).alloc (Nat.le_refl _) _⟩
 rw [if_neg g2] at h
 have g1b : decide ((200 : Int) < l0_0.length) = false := decide_eq_false g1
 have g2b : decide ((40 : Int) < l0_1.length) = false := decide_eq_false g2
 have H' := Aside0.mk h
 have HR0 := Aside0.mk hr0_0
 have HR1 := Aside0.mk hr0_1
 have HL : (l0_0.length : Int) ≤ 9223372036854775807 := by have := hr0_0.2.1; omega
 have e54 : ∀ args W, (callFunc 54 args).run Try.prog W = .ok (.enter 54 args) W := enters_of Try.func54 (by kernel_rfl) rfl
 have e56 : ∀ args W, (callFunc 56 args).run Try.prog W = .ok (.enter 56 args) W := enters_of Try.func56 (by kernel_rfl) rfl
 clear g1 g2 h hr0_0 hr0_1
 go_enter Try.func21, Try.ntmps21
 go_wp2_with fail
 have HB0 := Aside0.mk ((Below.refl w.heap.size w).alloc (Nat.le_refl _) (.cells #[.slice A0_0 l0_0.length c0_0, .slice A0_1 l0_1.length c0_1] 25))
 have HG0 := Aside0.mk (heap_alloc_new w (.cells #[.slice A0_0 l0_0.length c0_0, .slice A0_1 l0_1.length c0_1] 25))
 go_loopg [18] l0_0.length (fun gg v18 wr => ∃ n : Nat, n ≤ l0_0.length ∧ l0_0.length - n ≤ gg ∧ v18 = .int .i64 n ∧ Aside0 (((impl_GoodPool.br l0_0 l0_1 (l0_0.drop n) n).bind fun x => if x then (Op.anyO (impl_GoodPool.ver l0_0) l0_1).map (fun z => !z) else some false) = some r) ∧ Aside0 (Below w.heap.size w wr) ∧ Aside0 (wr.heap[w.heap.size]? = some (.cells #[.slice A0_0 l0_0.length c0_0, .slice A0_1 l0_1.length c0_1] 25 (0, 0))))
 case atStart => exact ⟨0, Nat.zero_le _, by omega, rfl, ⟨by simpa using H'.out⟩, HB0, HG0⟩
 case round =>
  clear H' HB0 HG0
  obtain ⟨n, hn, hg, rfl, HA, HB, HG⟩ := hrel
  by_cases hlt : n < l0_0.length
  ·have hltz : (n : Int) < (l0_0.length : Int) := by omega
   obtain ⟨ad, A', c', rfl, hx0, hx1, hxl, hxr⟩ := at_T65 (Kd.C_below HR0.out HB.out) (n : Int) (by omega) hltz
   rw [Int.toNat_natCast] at hx0 hx1
   have hdr : Aside0 (l0_0.drop n = rd_T65 l0_0 n :: l0_0.drop (n + 1)) := ⟨by rw [List.drop_eq_getElem_cons hlt]; simp [rd_T65, List.getD_eq_getElem?_getD, hlt]⟩
   generalize rd_T65 l0_0 n = x at *
   have HX := Aside0.mk hxr
   have HBA := Aside0.mk ((HB.out.alloc HB.out.size (.cells #[.int .i64 (n : Int)] 3)).alloc (by simp; have := HB.out.size; omega) (.cells #[.slice A' x.f0.length c', .bool x.f1] 65))
   have HBW := Aside0.mk (((Below.refl wr.heap.size wr).alloc (Nat.le_refl _) (.cells #[.int .i64 (n : Int)] 3)).alloc (by simp) (.cells #[.slice A' x.f0.length c', .bool x.f1] 65))
   have hA := HA.out
   rw [hdr.out] at hA
   unfold impl_GoodPool.br at hA
   clear hxr HA hdr
   by_cases k4 : (x.f0.length : Int) = 4
   ·rw [if_pos k4, Option.bind_assoc] at hA
    obtain ⟨y, hy, hA⟩ := Option.bind_eq_some_iff.1 hA
    have hcon := slices_ContainsFunc_int_int.calls A' c' x.f0 54 #[.pointer (some ⟨w.heap.size, 0, none⟩), .pointer (some ⟨wr.heap.size, 0, none⟩)] (fun kid => (impl_isKid.f l0_0 l0_1 n kid).map (fun z => !z)) y
     ((wr.alloc (.cells #[.int .i64 (n : Int)] 3)).alloc (.cells #[.slice A' x.f0.length c', .bool x.f1] 65)) e54
     (fun W kid b _ hB hk => impl_GoodPool.one l0_0 l0_1 (some ad) A0_1 c0_0 c0_1 w.heap.size wr.heap.size n kid b W
      (Op.b4 (Op.b3 (Op.b3 HG.out _) _) hB)
      (Op.b4 (Op.b3 (blk_new wr _) _) hB)
      (Kd.C_below HR0.out (Op.a5 HBA.out hB)) hc0_0 (Kd.C_below HR1.out (Op.a5 HBA.out hB)) hc0_1 hk)
     (Kd.C_below HX.out HBW.out) hy
    have HC := Aside0.mk hcon
    have HA := Aside0.mk hA
    have k4b : ((x.f0.length : Int) != 4) = false := bne_eq_false_iff_eq.2 k4
    clear hcon hA hy k4
    cases y with
    | true =>
     go_wp2_with (go_at_call 53; refine HC.out.mono ?_; rintro e w' ⟨rfl, hb2⟩)
     go_ret
     exact ⟨by have h1 := HA.out; simp only [if_true, Option.bind_some, Bool.false_eq_true, if_false, Option.some.injEq] at h1; rw [← h1]; rfl, below_step HBA.out hb2⟩
    | false =>
     go_wp2_with (go_at_call 53; refine HC.out.mono ?_; rintro e w' ⟨rfl, hb2⟩)
     go_roundg (l0_0.length - (n + 1))
     case measure => omega
     case rel => exact ⟨n + 1, by omega, by omega, by go_num, ⟨by have h1 := HA.out; simpa using h1⟩, ⟨below_step HBA.out hb2⟩, ⟨blk_below (Op.b3 (Op.b3 HG.out _) _) hb2⟩⟩
   ·rw [if_neg k4] at hA
    have HA := Aside0.mk hA
    have k4b : ((x.f0.length : Int) != 4) = true := bne_iff_ne.2 k4
    clear hA k4
    go_wp2
    go_ret
    exact ⟨by have h1 := HA.out; simp only [Option.bind_some, Bool.false_eq_true, if_false, Option.some.injEq] at h1; rw [← h1]; rfl, HBA.out⟩
  ·have hltz : ¬ (n : Int) < (l0_0.length : Int) := by omega
   have e : n = l0_0.length := by omega
   have hA := HA.out
   rw [e, List.drop_length] at hA
   simp only [impl_GoodPool.br, Option.bind_some, if_true] at hA
   obtain ⟨y, hy, hA⟩ := Option.map_eq_some_iff.1 hA
   have h0 : wr.cell? ⟨w.heap.size, 0, none⟩ = some (.slice A0_0 l0_0.length c0_0) := (blk_cell HG.out 0).trans rfl
   have h1 : wr.cell? ⟨w.heap.size, 1, none⟩ = some (.slice A0_1 l0_1.length c0_1) := (blk_cell HG.out 1).trans rfl
   have HC := Aside0.mk (slices_ContainsFunc_int_int.calls A0_1 c0_1 l0_1 56 #[.pointer (some ⟨w.heap.size, 0, none⟩)] (impl_GoodPool.ver l0_0) y wr e56
    (fun W k b _ hB hk => impl_GoodPool.two l0_0 l0_1 A0_0 A0_1 c0_0 c0_1 w.heap.size k b W ((hB.block _ (blk_lt HG.out)).trans HG.out) (Kd.C_below HR0.out (Op.a5 HB.out hB)) hk)
    (Kd.C_below HR1.out HB.out) hy)
   have HA' := Aside0.mk hA
   clear HA hA hy e
   go_wp2_with (go_at_call 53; refine HC.out.mono ?_; rintro e w' ⟨rfl, hb2⟩)
   go_ret
   exact ⟨by rw [← HA'.out]; rfl, below_step HB.out hb2⟩


/-! ### impl_isVersion: function 61 -/
def impl_isVersion.ver (n : Int) (v : Int) : Option Bool := (impl_within.f v 0 (wrap64 (n - 1))).bind fun z => some (!z)
def impl_isVersion.f (l0_0 : List S65) (l0_1 : List Int) (l1 : List Int) : Option Bool :=
 (impl_GoodPool.f l0_0 l0_1).bind fun g => if g then (Op.anyO (impl_isVersion.ver l0_1.length) l1).map (fun z => !z) else some false
theorem impl_isVersion.one (n0 : Nat) (vs : List Int) (A0 A1 : Option Addr) (c0 c1 : Nat) (gp : Nat) (x : Int) (b : Bool) (w : World)
  (hb : w.heap[gp]? = some (.cells #[.slice A0 n0 c0, .slice A1 vs.length c1] 25 (0, 0))) (h : impl_isVersion.ver vs.length x = some b) :
  Calls Try.prog 79 #[.int .i64 x, .pointer (some ⟨gp, 0, none⟩)] w fun e w' => e = .returned (.bool b) ∧ Below w.heap.size w w' := by
 have h1 : w.cell? ⟨gp, 1, none⟩ = some (.slice A1 vs.length c1) := (blk_cell hb 1).trans rfl
 unfold impl_isVersion.ver at h
 obtain ⟨z, hz, h⟩ := Option.bind_eq_some_iff.1 h
 have HZ := Aside0.mk hz
 have HBB := Aside0.mk (Option.some.inj h)
 clear hb hz h
 go_enter Try.func79, Try.ntmps79
 go_wp2_with (go_at_call 57; refine (impl_within.calls _ _ _ z _ HZ.out).mono ?_; rintro e w' ⟨rfl, ⟨nd, rfl⟩⟩)
 go_ret
 exact ⟨by rw [← HBB.out]; rfl, pw_below_drewN (Below.refl _ _) _⟩
theorem impl_isVersion.calls (A0_0 : Option Addr) (c0_0 : Nat) (l0_0 : List S65) (A0_1 : Option Addr) (c0_1 : Nat) (l0_1 : List Int) (A1 : Option Addr) (c1 : Nat) (l1 : List Int) (r : Bool) (w : World)
  (hr0_0 : Kd.C k65 w A0_0 l0_0.length l0_0) (hc0_0 : l0_0.length ≤ c0_0) (hr0_1 : Kd.C (Kd.int .i64) w A0_1 l0_1.length l0_1) (hc0_1 : l0_1.length ≤ c0_1) (hr1 : Kd.C (Kd.int .i64) w A1 l1.length l1) (hc1 : l1.length ≤ c1) (h : impl_isVersion.f l0_0 l0_1 l1 = some r) :
  Calls Try.prog 61 #[.agg #[.slice A0_0 l0_0.length c0_0, .slice A0_1 l0_1.length c0_1], .slice A1 l1.length c1] w fun e w' => e = .returned (.bool r) ∧ Below w.heap.size w w' := by
 have e1 : ∀ args W, (callFunc 79 args).run Try.prog W = .ok (.enter 79 args) W := enters_of Try.func79 (by kernel_rfl) rfl
 unfold impl_isVersion.f at h
 obtain ⟨g, hg, h⟩ := Option.bind_eq_some_iff.1 h
 have HB0 := Aside0.mk ((Below.refl w.heap.size w).alloc (Nat.le_refl _) (.cells #[.slice A0_0 l0_0.length c0_0, .slice A0_1 l0_1.length c0_1] 25))
 have HG0 := Aside0.mk (heap_alloc_new w (.cells #[.slice A0_0 l0_0.length c0_0, .slice A0_1 l0_1.length c0_1] 25))
 have HC := Aside0.mk (impl_GoodPool.calls A0_0 c0_0 l0_0 A0_1 c0_1 l0_1 g (w.alloc (.cells #[.slice A0_0 l0_0.length c0_0, .slice A0_1 l0_1.length c0_1] 25)) (Kd.C_below hr0_0 ((Below.refl w.heap.size w).alloc (Nat.le_refl _) _)) hc0_0 (Kd.C_below hr0_1 ((Below.refl w.heap.size w).alloc (Nat.le_refl _) _)) hc0_1 hg)
 have HR1 := Aside0.mk hr1
 clear hg hr0_0 hr0_1 hr1
 cases g with
 | false =>
  have HH := Aside0.mk h
  clear h
  go_enter Try.func61, Try.ntmps61
  go_wp2_with (go_at_call 21; refine HC.out.mono ?_; rintro e w' ⟨rfl, hb2⟩)
  go_ret
  exact ⟨by have h1 := HH.out; simp only [Bool.false_eq_true, if_false, Option.some.injEq] at h1; rw [← h1]; rfl, below_step HB0.out hb2⟩
 | true =>
  simp only [if_true] at h
  obtain ⟨y, hy, h⟩ := Option.map_eq_some_iff.1 h
  have HH := Aside0.mk h
  have HY := Aside0.mk hy
  clear h hy
  go_enter Try.func61, Try.ntmps61
  go_wp2_with (go_at_call 21; refine HC.out.mono ?_; rintro e w' ⟨rfl, hb2⟩)
  have HG := Aside0.mk (Op.b4 HG0.out hb2)
  have HB := Aside0.mk (Op.a5 HB0.out hb2)
  refine (slices_ContainsFunc_int_int.calls A1 c1 l1 79 #[.pointer (some ⟨w.heap.size, 0, none⟩)] (impl_isVersion.ver l0_1.length) y w' e1
   (fun W k b _ hB hk => impl_isVersion.one l0_0.length l0_1 A0_0 A0_1 c0_0 c0_1 w.heap.size k b W (Op.b4 HG.out hB) hk) (Kd.C_below HR1.out HB.out) HY.out).mono ?_
  rintro e w2 ⟨rfl, hb3⟩
  go_wp2
  go_ret
  exact ⟨by rw [← HH.out]; rfl, below_step HB.out hb3⟩


/-! ### impl_isPoolKey: function 62 -/
def impl_isPoolKey.f (a0 : Int) : Option (Bool) := (impl_within.f a0 0 15).bind fun t240 => (some t240)
set_option maxHeartbeats 8000000 in
set_option maxRecDepth 100000 in
theorem impl_isPoolKey.calls (a0 : Int) (r : Bool) (w : World) (h : impl_isPoolKey.f a0 = some r) :
  Calls Try.prog 62 #[.int .i64 a0] w fun e w' => e = .returned (.bool r) ∧ Drawn0 w w' := by
 have H : ((impl_within.f a0 0 15).bind fun t240 => (some t240)) = some r := h
 clear h
 replace H := Option.bind_eq_some_iff.mp H
 obtain ⟨t240, A20, H⟩ := H
 replace H : (some t240) = some r := H
 have A2 := Aside0.mk A20
 clear A20
 obtain rfl := Option.some.inj H
 go_enter Try.func62, Try.ntmps62
 go_wp2_with (first | ((with_reducible refine gate_callee (f := 57) rfl ?_); refine goesL_ (some 4) rfl rfl Try.func57 (by kernel_rfl) rfl #[.int .i64 a0, .int .i64 0, .int .i64 15] rfl (by (try simp only [List.map_toArray, List.map_cons, List.map_nil]); first | done | rfl | (simp only [List.length_drop, List.length_take]; rfl)) ?_; (with_reducible refine (impl_within.calls a0 0 15 t240 _ A2.out).mono ?_); rintro e w' ⟨rfl, ⟨nd, rfl⟩⟩; refine ⟨_, rfl, ?_⟩))
 go_ret
 exact ⟨by first | rfl | (simp; done) | (simp [*]; done), by repeat (first | exact Drawn0.refl _ | apply Drawn0.step)⟩

/-! ### slices_Clone_int_int: function 68 -/
/-- a copy, where it has room -/
def slices_Clone_int_int.f (l0 : List Int) : Option (List Int) := if l0.length ≤ 17592186044416 then some l0 else none
theorem slices_Clone_int_int.calls (A0 : Option Addr) (c0 : Nat) (l0 : List Int) (r : List Int) (w : World) (hr0 : Kd.C (Kd.int .i64) w A0 l0.length l0) (hc0 : l0.length ≤ c0) (h : slices_Clone_int_int.f l0 = some r) :
  Calls Try.prog 68 #[.slice A0 l0.length c0] w fun e w' => ∃ v0_ : Value, e = .returned (v0_) ∧ Kd.R (Kd.int .i64) 3 w' w.heap.size (fun _ => True) v0_ r ∧ Below w.heap.size w w' := by
 unfold slices_Clone_int_int.f at h
 by_cases hl : l0.length ≤ 17592186044416
 ·rw [if_pos hl] at h
  obtain rfl := Option.some.inj h
  by_cases hz : 0 < l0.length
  ·obtain ⟨ad, rfl, hc⟩ := hr0.2.2 hz
   obtain ⟨b, off, spot⟩ := ad
   have hs : spot = none := by
    obtain ⟨c, _, hk, hu⟩ := hc 0 _ (List.getElem?_eq_getElem hz)
    have h1 := hu 0 (.int .i64 l0[0]) (by rw [show c = [.int .i64 l0[0]] from hk]; rfl)
    cases spot with
    | none => rfl
    | some z =>
     exfalso
     have h2 : w.cell? (⟨b, off, some z⟩ : Addr) = some (.int .i64 l0[0]) := h1
     unfold World.cell? at h2
     split at h2 <;> simp at h2
   subst hs
   refine (Try.slices_Clone_int b off l0.length c0 l0 w (Nat.le_refl _) (by omega) (fun j hj => ?_)).mono ?_
   ·obtain ⟨c, _, hk, hu⟩ := hc j _ (List.getElem?_eq_getElem hj)
    have h1 := hu 0 (.int .i64 l0[j]) (by rw [show c = [.int .i64 l0[j]] from hk]; rfl)
    rw [add_at] at h1
    simpa [Kd.int, Kd.scalar, List.getD_eq_getElem?_getD, hj] using h1
   ·rintro e w' ⟨v, rfl, ho, _, hb⟩
    exact ⟨v, rfl, Kd.R_of_own (by simpa [encs] using ho) (fun _ _ => trivial), hb⟩
  ·have e : l0 = [] := List.eq_nil_of_length_eq_zero (by omega)
   subst e
   cases A0 with
   | none =>
    refine (Try.slices_Clone_int_nil _ _ _).mono ?_
    rintro e w' ⟨rfl, rfl⟩
    exact ⟨_, rfl, Kd.R_nil _ _ _ _ _, Below.refl _ _⟩
   | some ad =>
    refine (Try.slices_Clone_int_zero ad c0 w).mono ?_
    rintro e w' ⟨v, rfl, ho, _, hb⟩
    exact ⟨v, rfl, Kd.R_of_own (by simpa [encs] using ho) (fun _ _ => trivial), hb⟩
 ·rw [if_neg hl] at h
  exact absurd h (by simp)


/-! ### impl_ownPool: function 66 -/
def impl_ownPool.l0 : Nat → List (S65) → Int → Int → List (S65) → List Int → Option ((List (S65)) × List Int)
 | 0, _, _, _, _, _ => none
 | k + 1, x11, x12, x13, x247000, x247001 => if x13 < x12 then (if 0 ≤ x13 then (if x13 < (x11.length : Int) then ((slices_Clone_int_int.f ((rd_T65 x11 x13).f0)).bind fun t249 => (if x247000.length < 4398046511104 then (impl_ownPool.l0 k x11 x12 (wrap64 (x13 + 1)) (x247000 ++ [(⟨t249, (rd_T65 x11 x13).f1⟩ : S65)]) x247001) else (none))) else (none)) else (none)) else (some (x247000, x247001))
def impl_ownPool.f (k : Nat) (l0_0 : List (S65)) (l0_1 : List Int) : Option ((List (S65)) × List Int) := (slices_Clone_int_int.f l0_1).bind fun t243 => (impl_ownPool.l0 k l0_0 (l0_0.length : Int) 0 ([] : List (S65)) t243)
theorem impl_ownPool.mono_l : ∀ k, (∀ y0 y1 y2 y3 y4, LeO (impl_ownPool.l0 k y0 y1 y2 y3 y4) (impl_ownPool.l0 (k + 1) y0 y1 y2 y3 y4))
 | 0 => fun _ _ _ _ _ r h => by simp [impl_ownPool.l0] at h
 | k + 1 => by
  have ih0 := impl_ownPool.mono_l k
  ·intro y0 y1 y2 y3 y4
   unfold impl_ownPool.l0
   repeat' first
   | (with_reducible exact ih0 _ _ _ _ _)
   | (with_reducible exact LeO.refl _)
   | (with_reducible exact LeO.none _)
   | (with_reducible refine LeO.ite ?_ ?_)
   | (with_reducible refine LeO.bind ?_ (fun _ => ?_))
   | exact ih0 _ _ _ _ _
   | exact LeO.none _
   | refine LeO.ite ?_ ?_
   | refine LeO.bind ?_ (fun _ => ?_)
theorem impl_ownPool.mono : ∀ a0 a1 k, LeO (impl_ownPool.f k a0 a1) (impl_ownPool.f (k + 1) a0 a1) := by
 intro a0 a1 k
 have ih0 := impl_ownPool.mono_l k
 unfold impl_ownPool.f
 repeat' first
   | (with_reducible exact ih0 _ _ _ _ _)
   | (with_reducible exact LeO.refl _)
   | (with_reducible exact LeO.none _)
   | (with_reducible refine LeO.ite ?_ ?_)
   | (with_reducible refine LeO.bind ?_ (fun _ => ?_))
   | exact ih0 _ _ _ _ _
   | exact LeO.none _
   | refine LeO.ite ?_ ?_
   | refine LeO.bind ?_ (fun _ => ?_)
def impl_ownPool.T5 : Bool × List (List Nat × List Nat) := (true, [([], []), ([0], [0]), ([], []), ([2], [2]), ([3], [3]), ([], []), ([5], [5]), ([4, 6], [4, 6]), ([7], [7]), ([1, 8, 4], [1, 8]), ([0, 1, 2, 3, 4, 5, 6, 7, 8, 9], []), ([10, 9, 9, 0, 1, 2, 3, 4, 5, 6, 7, 8, 9], [9, 10])])
def impl_ownPool.B5 : List Nat := [0, 1, 0, 4, 12, 0, 32, 124, 252, 511, 1023, 2047]
theorem impl_ownPool.tab5 : rtab .any (opsOf Try.f66 5) = impl_ownPool.T5 := by kernel_rfl
theorem impl_ownPool.bits5 : waitsOk impl_ownPool.T5.2 impl_ownPool.B5 = true := by kernel_rfl
set_option maxHeartbeats 8000000 in
set_option maxRecDepth 100000 in
theorem impl_ownPool.calls (k : Nat) (A0_0 : Option Addr) (c0_0 : Nat) (l0_0 : List (S65)) (A0_1 : Option Addr) (c0_1 : Nat) (l0_1 : List Int) (r1 : List (S65)) (r2 : List Int) (w : World) (hr0_0 : Kd.C k65 w A0_0 l0_0.length l0_0) (hc0_0 : l0_0.length ≤ c0_0) (hr0_1 : Kd.C (Kd.int .i64) w A0_1 l0_1.length l0_1) (hc0_1 : l0_1.length ≤ c0_1) (h : impl_ownPool.f k l0_0 l0_1 = some (r1, r2)) :
  Calls Try.prog 66 #[.agg #[.slice A0_0 l0_0.length c0_0, .slice A0_1 l0_1.length c0_1]] w fun e w' => ∃ v0_ v1_ : Value, e = .returned (.agg #[v0_, v1_]) ∧ Kd.S k65 65 w' w.heap.size (fun k_ => some k_ ≠ (v1_ : Value).ownBlock) v0_ r1 ∧ Kd.R (Kd.int .i64) 3 w' w.heap.size (fun _ => True) v1_ r2 ∧ Below w.heap.size w w' := by
 have hu25 := Try.underlying25
 have hu65 := Try.underlying65
 have HR0_0 := Aside0.mk hr0_0
 have HC0_0 := Aside0.mk hc0_0
 clear hr0_0 hc0_0
 have HR0_1 := Aside0.mk hr0_1
 have HC0_1 := Aside0.mk hc0_1
 clear hr0_1 hc0_1
 have HB := Aside0.mk (Below.refl w.heap.size w)
 have H : ((slices_Clone_int_int.f l0_1).bind fun t243 => (impl_ownPool.l0 k l0_0 (l0_0.length : Int) 0 ([] : List (S65)) t243)) = some (r1, r2) := h
 clear h
 replace H := Option.bind_eq_some_iff.mp H
 obtain ⟨t243, A20, H⟩ := H
 replace H : (impl_ownPool.l0 k l0_0 (l0_0.length : Int) 0 ([] : List (S65)) t243) = some (r1, r2) := H
 have A2 := Aside0.mk A20
 clear A20
 have H' := Aside0.mk H
 clear H
 go_enter Try.func66, Try.ntmps66
 go_wp2_with (first | ((with_reducible refine gate_dst (N := 1) rfl ?_); refine box_event ?hg (N := 1) ?hd (cs := #[.slice A0_0 l0_0.length c0_0, .slice A0_1 l0_1.length c0_1]) (t := 25) ?hr ?_; (case hd => rfl); (case hg => rfl); (case hr => first | (go_simp; done) | (go_simp; rfl)); intro gb241 hg w3 hbox hb; have n0_ := Aside0.mk (Op.a5 (by repeat (first | (with_reducible first | exact HB.out | apply Op.a1 | apply Op.a2 | apply Op.a3) | exact HB.out)) hb); have n1_ := Aside0.mk (hbox); have n2_ := Aside0.mk ((by rw [hg]; exact (Op.a6 (by repeat (first | (with_reducible first | exact HB.out | apply Op.a1 | apply Op.a2 | apply Op.a3) | exact HB.out))) : w.heap.size ≤ gb241)); have n3_ := Aside0.mk ((by rw [hg]; exact (Op.a6 (by repeat (first | (with_reducible first | exact HB.out | apply Op.a1 | apply Op.a2 | apply Op.a3) | exact HB.out))) : w.heap.size ≤ gb241)); clear HB; have HB := n0_; have BK241 := n1_; have GW241 := n2_; have GE241 := n3_; clear n0_ n1_ n2_ n3_; clear hb hbox hg) | ((with_reducible refine gate_dst (N := 2) rfl ?_); refine box_event ?hg (N := 2) ?hd (cs := #[.slice none 0 0, .slice none 0 0]) (t := 25) ?hr ?_; (case hd => rfl); (case hg => rfl); (case hr => first | (go_simp; done) | (go_simp; rfl)); intro gb242 hg w4 hbox hb; have n0_ := Aside0.mk (Op.b4 (g := gb241) (o := .cells #[.slice A0_0 l0_0.length c0_0, .slice A0_1 l0_1.length c0_1] 25 (0, 0)) (by (with_reducible repeat (first | refine Op.b1 ?_ _ | refine Op.b2 ?_ | refine Op.b3 ?_ _)); exact BK241.out) hb); have n1_ := Aside0.mk (Op.a5 (by repeat (first | (with_reducible first | exact HB.out | apply Op.a1 | apply Op.a2 | apply Op.a3 | refine Op.a4 ?_ GE241.out) | exact HB.out)) hb); have n2_ := Aside0.mk (hbox); have n3_ := Aside0.mk ((by rw [hg]; exact (Op.a6 (by repeat (first | (with_reducible first | exact HB.out | apply Op.a1 | apply Op.a2 | apply Op.a3 | refine Op.a4 ?_ GE241.out) | exact HB.out))) : w.heap.size ≤ gb242)); have n4_ := Aside0.mk ((by rw [hg]; exact (Op.a6 (by repeat (first | (with_reducible first | exact HB.out | apply Op.a1 | apply Op.a2 | apply Op.a3 | refine Op.a4 ?_ GE241.out) | exact HB.out))) : w.heap.size ≤ gb242)); have n5_ := Aside0.mk ((by rw [hg]; exact Nat.ne_of_lt (blk_lt (g := gb241) (o := .cells #[.slice A0_0 l0_0.length c0_0, .slice A0_1 l0_1.length c0_1] 25 (0, 0)) (by (with_reducible repeat (first | refine Op.b1 ?_ _ | refine Op.b2 ?_ | refine Op.b3 ?_ _)); exact BK241.out)) : gb241 ≠ gb242)); have n6_ := Aside0.mk ((by rw [hg]; exact Nat.ne_of_gt (blk_lt (g := gb241) (o := .cells #[.slice A0_0 l0_0.length c0_0, .slice A0_1 l0_1.length c0_1] 25 (0, 0)) (by (with_reducible repeat (first | refine Op.b1 ?_ _ | refine Op.b2 ?_ | refine Op.b3 ?_ _)); exact BK241.out)) : gb242 ≠ gb241)); clear BK241; clear HB; have BK241 := n0_; have HB := n1_; have BK242 := n2_; have GW242 := n3_; have GE242 := n4_; have NB241_242 := n5_; have NB242_241 := n6_; clear n0_ n1_ n2_ n3_ n4_ n5_ n6_; clear hb hbox hg; have hnb5 := NB241_242.out; have hnc5 := NB242_241.out; have hcz6_0 : w4.cell? ⟨gb241, 0, none⟩ = some (.slice A0_0 l0_0.length c0_0) := (blk_cell BK241.out 0).trans rfl; have hcz6_1 : w4.cell? ⟨gb241, 1, none⟩ = some (.slice A0_1 l0_1.length c0_1) := (blk_cell BK241.out 1).trans rfl; have hfz6_0 := blk_frozen BK241.out 0; have hfz6_1 := blk_frozen BK241.out 1) | ((with_reducible refine gate_callee (f := 68) rfl ?_); refine goesL_ (some 8) rfl rfl Try.func68 (by kernel_rfl) rfl #[.slice A0_1 l0_1.length c0_1] rfl (by (try simp only [List.map_toArray, List.map_cons, List.map_nil]); first | done | rfl | (simp only [List.length_drop, List.length_take]; rfl)) ?_; (with_reducible refine (slices_Clone_int_int.calls _ _ l0_1 t243 _ ?side1 ?side2 A2.out).mono ?_); (case side1 => repeat (first | exact (Kd.C_below HR0_1.out HB.out) | (with_reducible refine Kd.C_alloc ?_ _) | (with_reducible refine Kd.C_drewN ?_ _) | (with_reducible refine Kd.C_drew ?_))); (case side2 => exact HC0_1.out); rintro e w7 ⟨v244, rfl, ho0, hb⟩; refine ⟨_, rfl, ?_⟩; have n0_ := Aside0.mk (Kd.R_lower ho0 (Op.a6 (by repeat (first | (with_reducible first | exact HB.out | apply Op.a1 | apply Op.a2 | apply Op.a3 | refine Op.a4 ?_ GE241.out | refine Op.a4 ?_ GE242.out) | exact HB.out)))); have n1_ := Aside0.mk (Op.b4 (g := gb241) (o := .cells #[.slice A0_0 l0_0.length c0_0, .slice A0_1 l0_1.length c0_1] 25 (0, 0)) (by (with_reducible repeat (first | refine Op.b1 ?_ _ | refine Op.b2 ?_ | refine Op.b3 ?_ _)); exact BK241.out) hb); have n2_ := Aside0.mk (Op.b4 (g := gb242) (o := .cells #[.slice none 0 0, .slice none 0 0] 25 (0, 0)) (by (with_reducible repeat (first | refine Op.b1 ?_ _ | refine Op.b2 ?_ | refine Op.b3 ?_ _)); exact BK242.out) hb); have n3_ := Aside0.mk (Op.a5 (by repeat (first | (with_reducible first | exact HB.out | apply Op.a1 | apply Op.a2 | apply Op.a3 | refine Op.a4 ?_ GE241.out | refine Op.a4 ?_ GE242.out) | exact HB.out)) hb); clear BK241; clear BK242; clear HB; have HO245 := n0_; have BK241 := n1_; have BK242 := n2_; have HB := n3_; clear n0_ n1_ n2_ n3_; (try clear hb); (try clear hb2); (try clear hk); (try clear hi); (try clear ho0); obtain ⟨Ao8, co8, eo8⟩ := Kd.R_slice HO245.out; subst eo8) | ((with_reducible refine gate_dst (N := 3) rfl ?_); refine box_event ?hg (N := 3) ?hd (cs := #[.slice none 0 0, .slice none 0 0]) (t := 25) ?hr ?_; (case hd => rfl); (case hg => rfl); (case hr => first | (go_simp; done) | (go_simp; rfl)); intro gb246 hg w9 hbox hb; have n0_ := Aside0.mk (Kd.R_below (by (with_reducible repeat (first | apply Kd.R_alloc | apply Kd.R_drewN | apply Kd.R_drew)); exact HO245.out) hb); have n1_ := Aside0.mk (Op.b4 (g := gb241) (o := .cells #[.slice A0_0 l0_0.length c0_0, .slice A0_1 l0_1.length c0_1] 25 (0, 0)) (by (with_reducible repeat (first | refine Op.b1 ?_ _ | refine Op.b2 ?_ | refine Op.b3 ?_ _)); exact BK241.out) hb); have n2_ := Aside0.mk (Op.b4 (g := gb242) (o := .cells #[.slice none 0 0, .slice none 0 0] 25 (0, 0)) (by (with_reducible repeat (first | refine Op.b1 ?_ _ | refine Op.b2 ?_ | refine Op.b3 ?_ _)); exact BK242.out) hb); have n3_ := Aside0.mk (Op.a5 (by repeat (first | (with_reducible first | exact HB.out | apply Op.a1 | apply Op.a2 | apply Op.a3 | refine Op.a4 ?_ GE241.out | refine Op.a4 ?_ GE242.out) | exact HB.out)) hb); have n4_ := Aside0.mk (hbox); have n5_ := Aside0.mk ((by rw [hg]; exact (Op.a6 (by repeat (first | (with_reducible first | exact HB.out | apply Op.a1 | apply Op.a2 | apply Op.a3 | refine Op.a4 ?_ GE241.out | refine Op.a4 ?_ GE242.out) | exact HB.out))) : w.heap.size ≤ gb246)); have n6_ := Aside0.mk ((by rw [hg]; exact (Op.a6 (by repeat (first | (with_reducible first | exact HB.out | apply Op.a1 | apply Op.a2 | apply Op.a3 | refine Op.a4 ?_ GE241.out | refine Op.a4 ?_ GE242.out) | exact HB.out))) : w.heap.size ≤ gb246)); have n7_ := Aside0.mk ((by rw [hg]; exact Nat.ne_of_lt (blk_lt (g := gb241) (o := .cells #[.slice A0_0 l0_0.length c0_0, .slice A0_1 l0_1.length c0_1] 25 (0, 0)) (by (with_reducible repeat (first | refine Op.b1 ?_ _ | refine Op.b2 ?_ | refine Op.b3 ?_ _)); exact BK241.out)) : gb241 ≠ gb246)); have n8_ := Aside0.mk ((by rw [hg]; exact Nat.ne_of_gt (blk_lt (g := gb241) (o := .cells #[.slice A0_0 l0_0.length c0_0, .slice A0_1 l0_1.length c0_1] 25 (0, 0)) (by (with_reducible repeat (first | refine Op.b1 ?_ _ | refine Op.b2 ?_ | refine Op.b3 ?_ _)); exact BK241.out)) : gb246 ≠ gb241)); have n9_ := Aside0.mk ((by rw [hg]; exact Nat.ne_of_lt (blk_lt (g := gb242) (o := .cells #[.slice none 0 0, .slice none 0 0] 25 (0, 0)) (by (with_reducible repeat (first | refine Op.b1 ?_ _ | refine Op.b2 ?_ | refine Op.b3 ?_ _)); exact BK242.out)) : gb242 ≠ gb246)); have n10_ := Aside0.mk ((by rw [hg]; exact Nat.ne_of_gt (blk_lt (g := gb242) (o := .cells #[.slice none 0 0, .slice none 0 0] 25 (0, 0)) (by (with_reducible repeat (first | refine Op.b1 ?_ _ | refine Op.b2 ?_ | refine Op.b3 ?_ _)); exact BK242.out)) : gb246 ≠ gb242)); clear HO245; clear BK241; clear BK242; clear HB; have HO245 := n0_; have BK241 := n1_; have BK242 := n2_; have HB := n3_; have BK246 := n4_; have GW246 := n5_; have GE246 := n6_; have NB241_246 := n7_; have NB246_241 := n8_; have NB242_246 := n9_; have NB246_242 := n10_; clear n0_ n1_ n2_ n3_ n4_ n5_ n6_ n7_ n8_ n9_ n10_; clear hb hbox hg; have hnb10 := NB246_241.out; have hnc10 := NB241_246.out; have hnb11 := NB246_242.out; have hnc11 := NB242_246.out; have hcz12_0 : w9.cell? ⟨gb246, 0, none⟩ = some (.slice none 0 0) := (blk_cell BK246.out 0).trans rfl; have hcz12_1 : w9.cell? ⟨gb246, 1, none⟩ = some (.slice none 0 0) := (blk_cell BK246.out 1).trans rfl; have hfz12_0 := blk_frozen BK246.out 0; have hfz12_1 := blk_frozen BK246.out 1; have hcz13_0 : w9.cell? ⟨gb241, 0, none⟩ = some (.slice A0_0 l0_0.length c0_0) := (blk_cell BK241.out 0).trans rfl; have hcz13_1 : w9.cell? ⟨gb241, 1, none⟩ = some (.slice A0_1 l0_1.length c0_1) := (blk_cell BK241.out 1).trans rfl; have hfz13_0 := blk_frozen BK241.out 0; have hfz13_1 := blk_frozen BK241.out 1))
 go_loopg [13] k (fun kq v13 w' => ∃ (x13_1 : Int) (x247000_1 : List (S65)) (u247000 : Value), v13 = .int .i64 x13_1 ∧ Aside0 (impl_ownPool.l0 kq l0_0 (l0_0.length : Int) x13_1 x247000_1 t243 = some (r1, r2)) ∧ Aside0 (kq ≤ k) ∧ Aside0 (Kd.S k65 65 w' w.heap.size (fun k_ => some k_ ≠ ((.slice Ao8 t243.length co8) : Value).ownBlock) u247000 x247000_1) ∧ Aside0 (Kd.R (Kd.int .i64) 3 w' w.heap.size (fun _ => True) (.slice Ao8 t243.length co8) t243) ∧ Aside0 (w'.heap[gb241]? = some (.cells #[(.slice A0_0 l0_0.length c0_0), (.slice A0_1 l0_1.length c0_1)] 25 (0, 0))) ∧ Aside0 (w'.heap[gb242]? = some (.cells #[(.slice none 0 0), (.slice none 0 0)] 25 (0, 0))) ∧ Aside0 (w'.heap[gb246]? = some (.cells #[u247000, (.slice Ao8 t243.length co8)] 25 (0, 0))) ∧ Aside0 (Below w.heap.size w w'))
 case atStart => exact ⟨(0), (([] : List (S65))), (.slice none 0 0), (by first | rfl | (simp; done) | (simp [*]; done)), H', ⟨Nat.le_refl _⟩, ⟨by first | exact Kd.S_nil _ _ _ _ _ | exact Kd.N_nil _ _ _ _ _ | exact Kd.V_nil _ _ _ _ _ | exact Kd.Q_nil _ _ _ _ _ | exact Kd.R_nil _ _ _ _ _⟩, ⟨by (with_reducible repeat (first | apply Kd.R_alloc | apply Kd.R_drewN | apply Kd.R_drew)); exact Kd.R_mono (Kd.R_far (p := ⟨gb246, 1, none⟩) (Kd.R_far (p := ⟨gb246, 0, none⟩) (Kd.R_types HO245.out BK246.out (by decide)) (fun _ hk => hk.2) (.slice none 0 0)) (fun _ hk => hk.2) (.slice Ao8 t243.length co8)) (fun _ hk => trivial)⟩, ⟨by (with_reducible repeat (first | refine Op.b1 ?_ _ | refine Op.b2 ?_ | refine Op.b3 ?_ _)); refine blk_far ?_ NB241_246.out _; (with_reducible repeat (first | refine Op.b1 ?_ _ | refine Op.b2 ?_ | refine Op.b3 ?_ _)); refine blk_far ?_ NB241_246.out _; (with_reducible repeat (first | refine Op.b1 ?_ _ | refine Op.b2 ?_ | refine Op.b3 ?_ _)); exact BK241.out⟩, ⟨by (with_reducible repeat (first | refine Op.b1 ?_ _ | refine Op.b2 ?_ | refine Op.b3 ?_ _)); refine blk_far ?_ NB242_246.out _; (with_reducible repeat (first | refine Op.b1 ?_ _ | refine Op.b2 ?_ | refine Op.b3 ?_ _)); refine blk_far ?_ NB242_246.out _; (with_reducible repeat (first | refine Op.b1 ?_ _ | refine Op.b2 ?_ | refine Op.b3 ?_ _)); exact BK242.out⟩, ⟨by (with_reducible repeat (first | refine Op.b1 ?_ _ | refine Op.b2 ?_ | refine Op.b3 ?_ _)); refine blk_put (cs := #[.slice none 0 0, .slice none 0 0]) ?_ 1 _ rfl; (with_reducible repeat (first | refine Op.b1 ?_ _ | refine Op.b2 ?_ | refine Op.b3 ?_ _)); refine blk_put (cs := #[.slice none 0 0, .slice none 0 0]) ?_ 0 _ rfl; (with_reducible repeat (first | refine Op.b1 ?_ _ | refine Op.b2 ?_ | refine Op.b3 ?_ _)); exact BK246.out⟩, ⟨by repeat (first | (with_reducible first | exact HB.out | apply Op.a1 | apply Op.a2 | apply Op.a3 | refine Op.a4 ?_ GE241.out | refine Op.a4 ?_ GE242.out | refine Op.a4 ?_ GE246.out) | exact HB.out)⟩⟩
 case round =>
  clear H'
  try clear c1
  try clear p2
  try clear c5
  try clear c6
  try clear c10
  try clear c11
  try clear hcz12_0
  try clear hcz12_1
  try clear hcz13_0
  try clear hcz13_1
  try clear hcz6_0
  try clear hcz6_1
  try clear hfz12_0
  try clear hfz12_1
  try clear hfz13_0
  try clear hfz13_1
  try clear hfz6_0
  try clear hfz6_1
  obtain ⟨x13_1, x247000_1, u247000, rfl, HA, HK1, HO_247000, HO_247001, BK241, BK242, BK246, HB⟩ := hrel
  cases gk with
  | zero => exact absurd HA.out (by simp [impl_ownPool.l0])
  | succ k1 =>
   have H := HA.out
   clear HA
   simp only [impl_ownPool.l0] at H
   by_cases c14 : x13_1 < (l0_0.length : Int)
   ·rw [if_pos c14] at H
    have c14b0 : decide (x13_1 < (l0_0.length : Int)) = true := decide_eq_true c14
    clear c14
    by_cases c15 : 0 ≤ x13_1
    ·rw [if_pos c15] at H
     have c15b0 : decide (0 ≤ x13_1) = true := decide_eq_true c15
     clear c15
     by_cases c16 : x13_1 < (l0_0.length : Int)
     ·rw [if_pos c16] at H
      have c16b0 : decide (x13_1 < (l0_0.length : Int)) = true := decide_eq_true c16
      clear c16
      replace H := Option.bind_eq_some_iff.mp H
      obtain ⟨t249, A170, H⟩ := H
      replace H : (if x247000_1.length < 4398046511104 then (impl_ownPool.l0 k1 l0_0 (l0_0.length : Int) (wrap64 (x13_1 + 1)) (x247000_1 ++ [(⟨t249, (rd_T65 l0_0 x13_1).f1⟩ : S65)]) t243) else (none)) = some (r1, r2) := H
      have A17 := Aside0.mk A170
      clear A170
      by_cases c18 : x247000_1.length < 4398046511104
      ·rw [if_pos c18] at H
       have LMc18 := Aside0.mk c18
       clear c18
       obtain ⟨y252, hy252⟩ : ∃ y_ : List (S65), y_ = (x247000_1 ++ [(⟨t249, (rd_T65 l0_0 x13_1).f1⟩ : S65)]) := ⟨_, rfl⟩
       replace H : (impl_ownPool.l0 k1 l0_0 (l0_0.length : Int) (wrap64 (x13_1 + 1)) y252 t243) = some (r1, r2) := by first | (rw [hy252]; with_reducible exact H) | (have H2_ := (Option.bind_some _ _).symm.trans H; rw [hy252]; with_reducible exact H2_) | (have H2_ := (Option.bind_some _ _).symm.trans H; with_reducible exact H2_) | with_reducible exact H | (rw [hy252]; exact H) | exact H
       have Ny252 := Aside0.mk hy252
       clear hy252
       have H' := Aside0.mk H
       clear H
       have p247 : 0 ≤ (x13_1 : Int) := of_decide_eq_true (by first | (with_reducible assumption) | assumption)
       have q247 : x13_1 < (l0_0.length : Int) := of_decide_eq_true (by first | (with_reducible assumption) | assumption)
       obtain ⟨ad247, A247_0, c247_0, e247, hx247_0, hx247_1, hl247_0, hi247_0⟩ := at_T65 HR0_0.out x13_1 p247 q247
       cases e247
       replace hx247_0 := (HB.out.cell (World.block_lt_of_cell? w _ hx247_0)).trans hx247_0
       replace hx247_1 := (HB.out.cell (World.block_lt_of_cell? w _ hx247_1)).trans hx247_1
       have HR247_0 := Aside0.mk hi247_0
       have HC247_0 := Aside0.mk hl247_0
       clear hi247_0 hl247_0
       replace p247 := eq_true p247
       replace q247 := eq_true q247
       try go_wp2_with (first | ((with_reducible refine gate_dst (N := 5) rfl ?_); refine box_event ?hg (N := 5) ?hd (cs := #[.slice none 0 0, .bool false]) (t := 65) ?hr ?_; (case hd => rfl); (case hg => rfl); (case hr => first | (go_simp; done) | (go_simp; rfl)); intro gb248 hg w19 hbox hb; have n0_ := Aside0.mk (Kd.S_below (Kd.S_elderB (by (with_reducible repeat (first | apply Kd.S_alloc | apply Kd.S_drewN | apply Kd.S_drew)); exact HO_247000.out) gb248 (Nat.le_of_eq hg.symm)) hb); have n1_ := Aside0.mk (Kd.R_below (by (with_reducible repeat (first | apply Kd.R_alloc | apply Kd.R_drewN | apply Kd.R_drew)); exact HO_247001.out) hb); have n2_ := Aside0.mk (Op.b4 (g := gb241) (o := .cells #[.slice (some ad247) l0_0.length c0_0, .slice A0_1 l0_1.length c0_1] 25 (0, 0)) (by (with_reducible repeat (first | refine Op.b1 ?_ _ | refine Op.b2 ?_ | refine Op.b3 ?_ _)); exact BK241.out) hb); have n3_ := Aside0.mk (Op.b4 (g := gb242) (o := .cells #[.slice none 0 0, .slice none 0 0] 25 (0, 0)) (by (with_reducible repeat (first | refine Op.b1 ?_ _ | refine Op.b2 ?_ | refine Op.b3 ?_ _)); exact BK242.out) hb); have n4_ := Aside0.mk (Op.b4 (g := gb246) (o := .cells #[u247000, .slice Ao8 t243.length co8] 25 (0, 0)) (by (with_reducible repeat (first | refine Op.b1 ?_ _ | refine Op.b2 ?_ | refine Op.b3 ?_ _)); exact BK246.out) hb); have n5_ := Aside0.mk (Op.a5 (by repeat (first | (with_reducible first | exact HB.out | apply Op.a1 | apply Op.a2 | apply Op.a3 | refine Op.a4 ?_ GE241.out | refine Op.a4 ?_ GE242.out | refine Op.a4 ?_ GE246.out) | exact HB.out)) hb); have n6_ := Aside0.mk (hbox); have n7_ := Aside0.mk ((by rw [hg]; exact (Op.a6 (by repeat (first | (with_reducible first | exact HB.out | apply Op.a1 | apply Op.a2 | apply Op.a3 | refine Op.a4 ?_ GE241.out | refine Op.a4 ?_ GE242.out | refine Op.a4 ?_ GE246.out) | exact HB.out))) : w.heap.size ≤ gb248)); have n8_ := Aside0.mk ((by rw [hg]; exact (Op.a6 (by repeat (first | (with_reducible first | exact HB.out | apply Op.a1 | apply Op.a2 | apply Op.a3 | refine Op.a4 ?_ GE241.out | refine Op.a4 ?_ GE242.out | refine Op.a4 ?_ GE246.out) | exact HB.out))) : w.heap.size ≤ gb248)); have n9_ := Aside0.mk ((by rw [hg]; exact Nat.ne_of_lt (blk_lt (g := gb241) (o := .cells #[.slice (some ad247) l0_0.length c0_0, .slice A0_1 l0_1.length c0_1] 25 (0, 0)) (by (with_reducible repeat (first | refine Op.b1 ?_ _ | refine Op.b2 ?_ | refine Op.b3 ?_ _)); exact BK241.out)) : gb241 ≠ gb248)); have n10_ := Aside0.mk ((by rw [hg]; exact Nat.ne_of_gt (blk_lt (g := gb241) (o := .cells #[.slice (some ad247) l0_0.length c0_0, .slice A0_1 l0_1.length c0_1] 25 (0, 0)) (by (with_reducible repeat (first | refine Op.b1 ?_ _ | refine Op.b2 ?_ | refine Op.b3 ?_ _)); exact BK241.out)) : gb248 ≠ gb241)); have n11_ := Aside0.mk ((by rw [hg]; exact Nat.ne_of_lt (blk_lt (g := gb242) (o := .cells #[.slice none 0 0, .slice none 0 0] 25 (0, 0)) (by (with_reducible repeat (first | refine Op.b1 ?_ _ | refine Op.b2 ?_ | refine Op.b3 ?_ _)); exact BK242.out)) : gb242 ≠ gb248)); have n12_ := Aside0.mk ((by rw [hg]; exact Nat.ne_of_gt (blk_lt (g := gb242) (o := .cells #[.slice none 0 0, .slice none 0 0] 25 (0, 0)) (by (with_reducible repeat (first | refine Op.b1 ?_ _ | refine Op.b2 ?_ | refine Op.b3 ?_ _)); exact BK242.out)) : gb248 ≠ gb242)); have n13_ := Aside0.mk ((by rw [hg]; exact Nat.ne_of_lt (blk_lt (g := gb246) (o := .cells #[u247000, .slice Ao8 t243.length co8] 25 (0, 0)) (by (with_reducible repeat (first | refine Op.b1 ?_ _ | refine Op.b2 ?_ | refine Op.b3 ?_ _)); exact BK246.out)) : gb246 ≠ gb248)); have n14_ := Aside0.mk ((by rw [hg]; exact Nat.ne_of_gt (blk_lt (g := gb246) (o := .cells #[u247000, .slice Ao8 t243.length co8] 25 (0, 0)) (by (with_reducible repeat (first | refine Op.b1 ?_ _ | refine Op.b2 ?_ | refine Op.b3 ?_ _)); exact BK246.out)) : gb248 ≠ gb246)); clear HO_247000; clear HO_247001; clear BK241; clear BK242; clear BK246; clear HB; have HO_247000 := n0_; have HO_247001 := n1_; have BK241 := n2_; have BK242 := n3_; have BK246 := n4_; have HB := n5_; have BK248 := n6_; have GW248 := n7_; have GE248 := n8_; have NB241_248 := n9_; have NB248_241 := n10_; have NB242_248 := n11_; have NB248_242 := n12_; have NB246_248 := n13_; have NB248_246 := n14_; clear n0_ n1_ n2_ n3_ n4_ n5_ n6_ n7_ n8_ n9_ n10_ n11_ n12_ n13_ n14_; clear hb hbox hg; have hnb20 := NB248_241.out; have hnc20 := NB241_248.out; have hnb21 := NB248_242.out; have hnc21 := NB242_248.out; have hnb22 := NB248_246.out; have hnc22 := NB246_248.out; have hcz23_0 : w19.cell? ⟨gb248, 0, none⟩ = some (.slice none 0 0) := (blk_cell BK248.out 0).trans rfl; have hcz23_1 : w19.cell? ⟨gb248, 1, none⟩ = some (.bool false) := (blk_cell BK248.out 1).trans rfl; have hfz23_0 := blk_frozen BK248.out 0; have hfz23_1 := blk_frozen BK248.out 1))
       have n0_ : Aside0 (Kd.S k65 65 ((w19.setCell ⟨gb248, 0, none⟩ (.slice A247_0 ((rd_T65 l0_0 x13_1).f0).length c247_0)).setCell ⟨gb248, 1, none⟩ (.bool ((rd_T65 l0_0 x13_1).f1))) w.heap.size (fun k_ => some k_ ≠ (.slice Ao8 t243.length co8 : Value).ownBlock ∧ k_ ≠ gb248) u247000 x247000_1) := ⟨by (with_reducible repeat (first | apply Kd.S_alloc | apply Kd.S_drewN | apply Kd.S_drew)); exact Kd.S_mono (Kd.S_far (p := ⟨gb248, 1, none⟩) (Kd.S_far (p := ⟨gb248, 0, none⟩) (Kd.S_mono HO_247000.out (fun k_ hk => (⟨hk, hk.2⟩ : _ ∧ k_ ≠ gb248))) (fun _ hk => hk.2) (.slice A247_0 ((rd_T65 l0_0 x13_1).f0).length c247_0)) (fun _ hk => hk.2) (.bool ((rd_T65 l0_0 x13_1).f1))) (fun _ hk => ⟨hk.1.1, hk.1.2⟩)⟩
       have n1_ : Aside0 (Kd.R (Kd.int .i64) 3 ((w19.setCell ⟨gb248, 0, none⟩ (.slice A247_0 ((rd_T65 l0_0 x13_1).f0).length c247_0)).setCell ⟨gb248, 1, none⟩ (.bool ((rd_T65 l0_0 x13_1).f1))) w.heap.size (fun _ => True) (.slice Ao8 t243.length co8) t243) := ⟨by (with_reducible repeat (first | apply Kd.R_alloc | apply Kd.R_drewN | apply Kd.R_drew)); exact Kd.R_mono (Kd.R_far (p := ⟨gb248, 1, none⟩) (Kd.R_far (p := ⟨gb248, 0, none⟩) (Kd.R_types HO_247001.out BK248.out (by decide)) (fun _ hk => hk.2) (.slice A247_0 ((rd_T65 l0_0 x13_1).f0).length c247_0)) (fun _ hk => hk.2) (.bool ((rd_T65 l0_0 x13_1).f1))) (fun _ hk => trivial)⟩
       have n2_ : Aside0 (((w19.setCell ⟨gb248, 0, none⟩ (.slice A247_0 ((rd_T65 l0_0 x13_1).f0).length c247_0)).setCell ⟨gb248, 1, none⟩ (.bool ((rd_T65 l0_0 x13_1).f1))).heap[gb241]? = some (.cells #[.slice (some ad247) l0_0.length c0_0, .slice A0_1 l0_1.length c0_1] 25 (0, 0))) := ⟨by (with_reducible repeat (first | refine Op.b1 ?_ _ | refine Op.b2 ?_ | refine Op.b3 ?_ _)); refine blk_far ?_ NB241_248.out _; (with_reducible repeat (first | refine Op.b1 ?_ _ | refine Op.b2 ?_ | refine Op.b3 ?_ _)); refine blk_far ?_ NB241_248.out _; (with_reducible repeat (first | refine Op.b1 ?_ _ | refine Op.b2 ?_ | refine Op.b3 ?_ _)); exact BK241.out⟩
       have n3_ : Aside0 (((w19.setCell ⟨gb248, 0, none⟩ (.slice A247_0 ((rd_T65 l0_0 x13_1).f0).length c247_0)).setCell ⟨gb248, 1, none⟩ (.bool ((rd_T65 l0_0 x13_1).f1))).heap[gb242]? = some (.cells #[.slice none 0 0, .slice none 0 0] 25 (0, 0))) := ⟨by (with_reducible repeat (first | refine Op.b1 ?_ _ | refine Op.b2 ?_ | refine Op.b3 ?_ _)); refine blk_far ?_ NB242_248.out _; (with_reducible repeat (first | refine Op.b1 ?_ _ | refine Op.b2 ?_ | refine Op.b3 ?_ _)); refine blk_far ?_ NB242_248.out _; (with_reducible repeat (first | refine Op.b1 ?_ _ | refine Op.b2 ?_ | refine Op.b3 ?_ _)); exact BK242.out⟩
       have n4_ : Aside0 (((w19.setCell ⟨gb248, 0, none⟩ (.slice A247_0 ((rd_T65 l0_0 x13_1).f0).length c247_0)).setCell ⟨gb248, 1, none⟩ (.bool ((rd_T65 l0_0 x13_1).f1))).heap[gb246]? = some (.cells #[u247000, .slice Ao8 t243.length co8] 25 (0, 0))) := ⟨by (with_reducible repeat (first | refine Op.b1 ?_ _ | refine Op.b2 ?_ | refine Op.b3 ?_ _)); refine blk_far ?_ NB246_248.out _; (with_reducible repeat (first | refine Op.b1 ?_ _ | refine Op.b2 ?_ | refine Op.b3 ?_ _)); refine blk_far ?_ NB246_248.out _; (with_reducible repeat (first | refine Op.b1 ?_ _ | refine Op.b2 ?_ | refine Op.b3 ?_ _)); exact BK246.out⟩
       have n5_ : Aside0 (((w19.setCell ⟨gb248, 0, none⟩ (.slice A247_0 ((rd_T65 l0_0 x13_1).f0).length c247_0)).setCell ⟨gb248, 1, none⟩ (.bool ((rd_T65 l0_0 x13_1).f1))).heap[gb248]? = some (.cells #[.slice A247_0 ((rd_T65 l0_0 x13_1).f0).length c247_0, .bool ((rd_T65 l0_0 x13_1).f1)] 65 (0, 0))) := ⟨by (with_reducible repeat (first | refine Op.b1 ?_ _ | refine Op.b2 ?_ | refine Op.b3 ?_ _)); refine blk_put (cs := #[.slice A247_0 ((rd_T65 l0_0 x13_1).f0).length c247_0, .bool false]) ?_ 1 _ rfl; (with_reducible repeat (first | refine Op.b1 ?_ _ | refine Op.b2 ?_ | refine Op.b3 ?_ _)); refine blk_put (cs := #[.slice none 0 0, .bool false]) ?_ 0 _ rfl; (with_reducible repeat (first | refine Op.b1 ?_ _ | refine Op.b2 ?_ | refine Op.b3 ?_ _)); exact BK248.out⟩
       have n6_ : Aside0 (Below w.heap.size w ((w19.setCell ⟨gb248, 0, none⟩ (.slice A247_0 ((rd_T65 l0_0 x13_1).f0).length c247_0)).setCell ⟨gb248, 1, none⟩ (.bool ((rd_T65 l0_0 x13_1).f1)))) := ⟨by repeat (first | (with_reducible first | exact HB.out | apply Op.a1 | apply Op.a2 | apply Op.a3 | refine Op.a4 ?_ GE241.out | refine Op.a4 ?_ GE242.out | refine Op.a4 ?_ GE246.out | refine Op.a4 ?_ GE248.out) | exact HB.out)⟩
       (try clear HO_247000)
       (try clear HO_247001)
       (try clear BK241)
       (try clear BK242)
       (try clear BK246)
       (try clear BK248)
       (try clear HB)
       generalize ((w19.setCell ⟨gb248, 0, none⟩ (.slice A247_0 ((rd_T65 l0_0 x13_1).f0).length c247_0)).setCell ⟨gb248, 1, none⟩ (.bool ((rd_T65 l0_0 x13_1).f1))) = w24 at n0_ n1_ n2_ n3_ n4_ n5_ n6_ ⊢
       have HO_247000 := n0_
       have HO_247001 := n1_
       have BK241 := n2_
       have BK242 := n3_
       have BK246 := n4_
       have BK248 := n5_
       have HB := n6_
       clear n0_ n1_ n2_ n3_ n4_ n5_ n6_
       have n0_ := Aside0.mk (Kd.S_drew HO_247000.out)
       have n1_ := Aside0.mk (Kd.R_drew HO_247001.out)
       have n2_ := Aside0.mk (Op.b2 BK241.out)
       have n3_ := Aside0.mk (Op.b2 BK242.out)
       have n4_ := Aside0.mk (Op.b2 BK246.out)
       have n5_ := Aside0.mk (Op.b2 BK248.out)
       have n6_ := Aside0.mk (Op.a3 HB.out)
       clear HO_247000
       clear HO_247001
       clear BK241
       clear BK242
       clear BK246
       clear BK248
       clear HB
       have HO_247000 := n0_
       have HO_247001 := n1_
       have BK241 := n2_
       have BK242 := n3_
       have BK246 := n4_
       have BK248 := n5_
       have HB := n6_
       clear n0_ n1_ n2_ n3_ n4_ n5_ n6_
       refine start_ (n := 12) (S := fun w' => w'.cell? ⟨gb246, 0, none⟩ = some (u247000) ∧ w'.cell? ⟨gb246, 1, none⟩ = some (.slice Ao8 t243.length co8) ∧ w'.cell? ⟨gb248, 0, none⟩ = some (.slice A247_0 ((rd_T65 l0_0 x13_1).f0).length c247_0) ∧ w'.cell? ⟨gb248, 1, none⟩ = some (.bool ((rd_T65 l0_0 x13_1).f1))) (ds := [11]) #[false, false, false, false, false, false, false, false, false, false, false, false] (by kernel_rfl) rfl rfl ⟨(blk_cell BK246.out 0).trans rfl, (blk_cell BK246.out 1).trans rfl, (blk_cell BK248.out 0).trans rfl, (blk_cell BK248.out 1).trans rfl⟩ (fun hHeld => ?_); refine with_tabW impl_ownPool.tab5 impl_ownPool.bits5 (fun HT_ HW_ => ?_)
       generalize w24.drew = w25 at HO_247000 HO_247001 BK241 BK242 BK246 BK248 HB hHeld ⊢
       refine pure_ (i := 0) (N := some 17) (v := ?_) (a' := ?_) #[true, false, false, false, false, false, false, false, false, false, false, false] rfl rfl (any_of HT_.out (by kernel_rfl)) (fun _ _ _ h => h) (Or.inl ⟨by rfl, ?_⟩) ?_ ?_
       rotate_left
       ·intro w'
        go_simp
        with_reducible rfl
       rotate_left
       ·simp only [Act.put, List.setIfInBounds_toArray, List.set_cons_zero, List.set_cons_succ, i64_w, i32_w]
        rfl
       refine pure_ (i := 2) (N := some 19) (v := ?_) (a' := ?_) #[true, false, true, false, false, false, false, false, false, false, false, false] rfl rfl (any_of HT_.out (by kernel_rfl)) (fun _ _ _ h => h) (Or.inl ⟨by rfl, ?_⟩) ?_ ?_
       rotate_left
       ·intro w'
        go_simp
        with_reducible rfl
       rotate_left
       ·simp only [Act.put, List.setIfInBounds_toArray, List.set_cons_zero, List.set_cons_succ, i64_w, i32_w]
        rfl
       refine pure_ (i := 5) (N := some 22) (v := ?_) (a' := ?_) #[true, false, true, false, false, true, false, false, false, false, false, false] rfl rfl (any_of HT_.out (by kernel_rfl)) (fun _ _ _ h => h) (Or.inl ⟨by rfl, ?_⟩) ?_ ?_
       rotate_left
       ·intro w'
        go_simp
        with_reducible rfl
       rotate_left
       ·simp only [Act.put, List.setIfInBounds_toArray, List.set_cons_zero, List.set_cons_succ, i64_w, i32_w]
        rfl
       refine take_ (i := 1) (N := some 18) (v := ?_) (a' := ?_) #[true, true, true, false, false, true, false, false, false, false, false, false] rfl rfl (take_ofW HT_.out HW_.out (by kernel_rfl)) (fun _ _ _ h => h) (Or.inl ⟨by rfl, ?_⟩) hHeld ?_ ?_
       rotate_left
       ·rintro w' ⟨s0, s1, s2, s3⟩
        go_simp
        with_reducible rfl
       rotate_left
       ·simp only [Act.put, List.setIfInBounds_toArray, List.set_cons_zero, List.set_cons_succ, i64_w, i32_w]
        rfl
       refine take_ (i := 3) (N := some 20) (v := ?_) (a' := ?_) #[true, true, true, true, false, true, false, false, false, false, false, false] rfl rfl (take_ofW HT_.out HW_.out (by kernel_rfl)) (fun _ _ _ h => h) (Or.inl ⟨by rfl, ?_⟩) hHeld ?_ ?_
       rotate_left
       ·rintro w' ⟨s0, s1, s2, s3⟩
        go_simp
        with_reducible rfl
       rotate_left
       ·simp only [Act.put, List.setIfInBounds_toArray, List.set_cons_zero, List.set_cons_succ, i64_w, i32_w]
        rfl
       refine take_ (i := 6) (N := some 23) (v := ?_) (a' := ?_) #[true, true, true, true, false, true, true, false, false, false, false, false] rfl rfl (take_ofW HT_.out HW_.out (by kernel_rfl)) (fun _ _ _ h => h) (Or.inl ⟨by rfl, ?_⟩) hHeld ?_ ?_
       rotate_left
       ·rintro w' ⟨s0, s1, s2, s3⟩
        go_simp
        with_reducible rfl
       rotate_left
       ·simp only [Act.put, List.setIfInBounds_toArray, List.set_cons_zero, List.set_cons_succ, i64_w, i32_w]
        rfl
       refine one_ (i := 4) (N := some 21) #[true, true, true, true, true, true, true, false, false, false, false, false] rfl rfl (one_of HT_.out (by kernel_rfl)) (by decide) (fun K hK => ?_)
       refine goes_ Try.func68 (by kernel_rfl) rfl #[.slice A247_0 ((rd_T65 l0_0 x13_1).f0).length c247_0] (by rfl) rfl rfl (by (try simp only [List.map_toArray, List.map_cons, List.map_nil]); first | done | rfl | (simp only [List.length_drop, List.length_take]; rfl)) ?_
       with_reducible refine (slices_Clone_int_int.calls _ _ ((rd_T65 l0_0 x13_1).f0) t249 _ ?side1 ?side2 A17.out).mono ?_
       (case side1 => repeat (first | exact (Kd.C_below HR247_0.out HB.out) | (with_reducible refine Kd.C_alloc ?_ _) | (with_reducible refine Kd.C_drewN ?_ _) | (with_reducible refine Kd.C_drew ?_)))
       (case side2 => exact HC247_0.out)
       rintro e w26 ⟨v250, rfl, ho0, hb⟩
       refine ⟨_, rfl, ?_⟩
       have n0_ := Aside0.mk (Kd.S_elder' (by (with_reducible repeat (first | apply Kd.S_alloc | apply Kd.S_drewN | apply Kd.S_drew)); exact HO_247000.out) (Kd.R_base ho0) hb)
       have n1_ := Aside0.mk (Kd.R_elder' (by (with_reducible repeat (first | apply Kd.R_alloc | apply Kd.R_drewN | apply Kd.R_drew)); exact HO_247001.out) (Kd.R_base ho0) hb)
       have n2_ := Aside0.mk (Kd.R_lower (Kd.R_new' ho0 (Kd.R_lt (by (with_reducible repeat (first | apply Kd.R_alloc | apply Kd.R_drewN | apply Kd.R_drew)); exact HO_247001.out))) (Op.a6 (by repeat (first | (with_reducible first | exact HB.out | apply Op.a1 | apply Op.a2 | apply Op.a3 | refine Op.a4 ?_ GE241.out | refine Op.a4 ?_ GE242.out | refine Op.a4 ?_ GE246.out | refine Op.a4 ?_ GE248.out) | exact HB.out))))
       have n3_ := Aside0.mk (Op.b4 (g := gb241) (o := .cells #[.slice (some ad247) l0_0.length c0_0, .slice A0_1 l0_1.length c0_1] 25 (0, 0)) (by (with_reducible repeat (first | refine Op.b1 ?_ _ | refine Op.b2 ?_ | refine Op.b3 ?_ _)); exact BK241.out) hb)
       have n4_ := Aside0.mk (Op.b4 (g := gb242) (o := .cells #[.slice none 0 0, .slice none 0 0] 25 (0, 0)) (by (with_reducible repeat (first | refine Op.b1 ?_ _ | refine Op.b2 ?_ | refine Op.b3 ?_ _)); exact BK242.out) hb)
       have n5_ := Aside0.mk (Op.b4 (g := gb246) (o := .cells #[u247000, .slice Ao8 t243.length co8] 25 (0, 0)) (by (with_reducible repeat (first | refine Op.b1 ?_ _ | refine Op.b2 ?_ | refine Op.b3 ?_ _)); exact BK246.out) hb)
       have n6_ := Aside0.mk (Op.b4 (g := gb248) (o := .cells #[.slice A247_0 ((rd_T65 l0_0 x13_1).f0).length c247_0, .bool ((rd_T65 l0_0 x13_1).f1)] 65 (0, 0)) (by (with_reducible repeat (first | refine Op.b1 ?_ _ | refine Op.b2 ?_ | refine Op.b3 ?_ _)); exact BK248.out) hb)
       have n7_ := Aside0.mk (Op.a5 (by repeat (first | (with_reducible first | exact HB.out | apply Op.a1 | apply Op.a2 | apply Op.a3 | refine Op.a4 ?_ GE241.out | refine Op.a4 ?_ GE242.out | refine Op.a4 ?_ GE246.out | refine Op.a4 ?_ GE248.out) | exact HB.out)) hb)
       clear HO_247000
       clear HO_247001
       clear BK241
       clear BK242
       clear BK246
       clear BK248
       clear HB
       have HO_247000 := n0_
       have HO_247001 := n1_
       have HO251 := n2_
       have BK241 := n3_
       have BK242 := n4_
       have BK246 := n5_
       have BK248 := n6_
       have HB := n7_
       clear n0_ n1_ n2_ n3_ n4_ n5_ n6_ n7_
       (try clear hb)
       (try clear hb2)
       (try clear hk)
       (try clear hi)
       (try clear ho0)
       obtain ⟨Ao27, co27, eo27⟩ := Kd.R_slice HO251.out
       (first | subst eo27 | (injection eo27 with f1_ f2_ f3_; have f4_ := f1_.symm; have f5_ := f3_.symm; clear f1_ f2_ f3_; subst f4_; subst f5_))
       refine hK.out _ _ ⟨(blk_cell BK246.out 0).trans rfl, (blk_cell BK246.out 1).trans rfl, (blk_cell BK248.out 0).trans rfl, (blk_cell BK248.out 1).trans rfl⟩ (fun hHeld => ?_)
       clear hK K
       refine norm_ (a' := ?_) ?_ ?_
       rotate_left
       ·show Act.put _ (some 21) _ = _
        simp only [Act.put, List.setIfInBounds_toArray, List.set_cons_zero, List.set_cons_succ, i64_w, i32_w]
        rfl
       refine pure_ (i := 7) (N := some 24) (v := ?_) (a' := ?_) #[true, true, true, true, true, true, true, true, false, false, false, false] rfl rfl (any_of HT_.out (by kernel_rfl)) (fun _ _ _ h => h) (Or.inl ⟨by rfl, ?_⟩) ?_ ?_
       rotate_left
       ·intro w'
        go_simp
        with_reducible rfl
       rotate_left
       ·simp only [Act.put, List.setIfInBounds_toArray, List.set_cons_zero, List.set_cons_succ, i64_w, i32_w]
        rfl
       refine one_ (i := 8) (N := some 25) #[true, true, true, true, true, true, true, true, true, false, false, false] rfl rfl (one_of HT_.out (by kernel_rfl)) (by decide) (fun K hK => ?_)
       refine value_ (w1 := ?_) (v := ?_) (by rfl) rfl ?_ ?_
       rotate_left 2
       ·go_simp
        constructor
        ·rfl
        ·rfl
       refine hK.out _ _ ⟨(blk_cell (Op.b3 BK246.out _) 0).trans rfl, (blk_cell (Op.b3 BK246.out _) 1).trans rfl, (blk_cell (Op.b3 BK248.out _) 0).trans rfl, (blk_cell (Op.b3 BK248.out _) 1).trans rfl⟩ (fun hHeld => ?_)
       clear hK K
       refine norm_ (a' := ?_) ?_ ?_
       rotate_left
       ·show Act.put _ (some 25) _ = _
        simp only [Act.put, List.setIfInBounds_toArray, List.set_cons_zero, List.set_cons_succ, i64_w, i32_w]
        rfl
       refine one_ (i := 9) (N := some 26) #[true, true, true, true, true, true, true, true, true, true, false, false] rfl rfl (one_of HT_.out (by kernel_rfl)) (by decide) (fun K hK => ?_)
       refine Kd.S_append_step k65 (w0 := w) w.heap.size (by rfl) (.tmp 18) (.tmp 25) 22 65 (.agg #[(.slice none 0 0), (.bool false)]) 32 rfl Try.underlying22 info65 rfl (by decide) (by omega) u247000 x247000_1 (⟨t249, (rd_T65 l0_0 x13_1).f1⟩ : S65) [.slice Ao27 t249.length co27, .bool ((rd_T65 l0_0 x13_1).f1)] (fun k_ => some k_ ≠ (.slice Ao8 t243.length co8 : Value).ownBlock ∧ k_ ≠ gb248) (fun k_ => some k_ = (.slice Ao27 t249.length co27 : Value).ownBlock) rfl rfl ?aP (fun k_ hk_ => ((Kd.R_mono (ok' := fun k_ => ((fun k_ => some k_ ≠ (.slice Ao8 t243.length co8 : Value).ownBlock ∧ k_ ≠ gb248)) k_ ∧ some k_ ≠ (u247000 : Value).ownBlock) (Kd.R_types (Kd.R_apart' (HO251.out) (Kd.S_typed HO_247000.out) (by decide)) BK248.out (by decide)) (fun k_ hk => ⟨⟨hk.1.1.2, hk.2⟩, hk.1.2⟩))).1 k_ hk_.symm) ?aF ?aO ?aB ?aS ?aL ?_
       (case aP => exact k65_mkM _ _ _ (⟨t249, (rd_T65 l0_0 x13_1).f1⟩ : S65) (Kd.R_mono (Kd.R_tight rfl (Kd.R_mono (ok' := fun k_ => ((fun k_ => some k_ ≠ (.slice Ao8 t243.length co8 : Value).ownBlock ∧ k_ ≠ gb248)) k_ ∧ some k_ ≠ (u247000 : Value).ownBlock) (Kd.R_types (Kd.R_apart' (HO251.out) (Kd.S_typed HO_247000.out) (by decide)) BK248.out (by decide)) (fun k_ hk => ⟨⟨hk.1.1.2, hk.2⟩, hk.1.2⟩))) (fun _ h_ => h_)))
       (case aB => exact (by repeat (first | (with_reducible first | exact HB.out | apply Op.a1 | apply Op.a2 | apply Op.a3 | refine Op.a4 ?_ GE241.out | refine Op.a4 ?_ GE242.out | refine Op.a4 ?_ GE246.out | refine Op.a4 ?_ GE248.out) | exact HB.out)))
       (case aF => exact (fun k_ hk => ⟨Kd.fresh' (Kd.R_lt (by (with_reducible repeat (first | apply Kd.R_alloc | apply Kd.R_drewN | apply Kd.R_drew)); exact HO_247001.out)) k_ hk, Kd.freshB (g := gb248) (o := .cells #[.slice A247_0 ((rd_T65 l0_0 x13_1).f0).length c247_0, .bool ((rd_T65 l0_0 x13_1).f1)] 65 (0, 0)) (by (with_reducible repeat (first | refine Op.b1 ?_ _ | refine Op.b2 ?_ | refine Op.b3 ?_ _)); exact BK248.out) k_ hk⟩))
       (case aO => exact (by (with_reducible repeat (first | apply Kd.S_alloc | apply Kd.S_drewN | apply Kd.S_drew)); exact Kd.S_mono HO_247000.out (fun k_ hk => ⟨⟨hk.1.1, hk.1.2⟩, fun e_ => hk.2 e_⟩)))
       (case aS => exact (Op.a6 (by repeat (first | (with_reducible first | exact HB.out | apply Op.a1 | apply Op.a2 | apply Op.a3 | refine Op.a4 ?_ GE241.out | refine Op.a4 ?_ GE242.out | refine Op.a4 ?_ GE246.out | refine Op.a4 ?_ GE248.out) | exact HB.out))))
       (case aL => have := LMc18.out; omega)
       intro v253 w28 ho hb hg hat
       rw [← Ny252.out] at ho
       have n0_ := Aside0.mk (Kd.R_over' (by (with_reducible repeat (first | apply Kd.R_alloc | apply Kd.R_drewN | apply Kd.R_drew)); exact HO_247001.out) (Kd.S_typed (by (with_reducible repeat (first | apply Kd.S_alloc | apply Kd.S_drewN | apply Kd.S_drew)); exact HO_247000.out)) (by decide) hg)
       have n1_ := Aside0.mk (blk_grown (g := gb241) (o := .cells #[.slice (some ad247) l0_0.length c0_0, .slice A0_1 l0_1.length c0_1] 25 (0, 0)) (by (with_reducible repeat (first | refine Op.b1 ?_ _ | refine Op.b2 ?_ | refine Op.b3 ?_ _)); exact BK241.out) hg (Kd.S_ne HO_247000.out BK241.out (by decide)))
       have n2_ := Aside0.mk (blk_grown (g := gb242) (o := .cells #[.slice none 0 0, .slice none 0 0] 25 (0, 0)) (by (with_reducible repeat (first | refine Op.b1 ?_ _ | refine Op.b2 ?_ | refine Op.b3 ?_ _)); exact BK242.out) hg (Kd.S_ne HO_247000.out BK242.out (by decide)))
       have n3_ := Aside0.mk (blk_grown (g := gb246) (o := .cells #[u247000, .slice Ao8 t243.length co8] 25 (0, 0)) (by (with_reducible repeat (first | refine Op.b1 ?_ _ | refine Op.b2 ?_ | refine Op.b3 ?_ _)); exact BK246.out) hg (Kd.S_ne HO_247000.out BK246.out (by decide)))
       have n4_ := Aside0.mk (blk_grown (g := gb248) (o := .cells #[.slice A247_0 ((rd_T65 l0_0 x13_1).f0).length c247_0, .bool ((rd_T65 l0_0 x13_1).f1)] 65 (0, 0)) (by (with_reducible repeat (first | refine Op.b1 ?_ _ | refine Op.b2 ?_ | refine Op.b3 ?_ _)); exact BK248.out) hg (Kd.S_away HO_247000.out (fun _ hk => hk.1.2)))
       have n5_ := Aside0.mk (hb)
       have n6_ := Aside0.mk (ho)
       clear HO_247001
       clear BK241
       clear BK242
       clear BK246
       clear BK248
       clear HB
       clear HO_247000
       clear HO251
       have HO_247001 := n0_
       have BK241 := n1_
       have BK242 := n2_
       have BK246 := n3_
       have BK248 := n4_
       have HB := n5_
       have HO254 := n6_
       clear n0_ n1_ n2_ n3_ n4_ n5_ n6_
       clear ho hb hg hat
       obtain ⟨Ao29, co29, eo29⟩ := Kd.S_slice HO254.out
       (first | subst eo29 | (injection eo29 with f1_ f2_ f3_; have f4_ := f1_.symm; have f5_ := f3_.symm; clear f1_ f2_ f3_; subst f4_; subst f5_))
       refine hK.out _ _ ⟨(blk_cell BK246.out 0).trans rfl, (blk_cell BK246.out 1).trans rfl, (blk_cell BK248.out 0).trans rfl, (blk_cell BK248.out 1).trans rfl⟩ (fun hHeld => ?_)
       clear hK K
       refine norm_ (a' := ?_) ?_ ?_
       rotate_left
       ·show Act.put _ (some 26) _ = _
        simp only [Act.put, List.setIfInBounds_toArray, List.set_cons_zero, List.set_cons_succ, i64_w, i32_w]
        rfl
       refine pure_ (i := 10) (N := some 27) (v := ?_) (a' := ?_) #[true, true, true, true, true, true, true, true, true, true, true, false] rfl rfl (any_of HT_.out (by kernel_rfl)) (fun _ _ _ h => h) (Or.inl ⟨by rfl, ?_⟩) ?_ ?_
       rotate_left
       ·intro w'
        go_simp
        with_reducible rfl
       rotate_left
       ·simp only [Act.put, List.setIfInBounds_toArray, List.set_cons_zero, List.set_cons_succ, i64_w, i32_w]
        rfl
       refine last_ (i := 11) (N := none) #[true, true, true, true, true, true, true, true, true, true, true, true] rfl rfl (one_of HT_.out (by kernel_rfl)) (by decide) (fun K hK => ?_)
       have hs30 : w28.cell? ⟨gb246, 0, none⟩ = some (u247000) := (blk_cell BK246.out 0).trans rfl
       have hfs30 := blk_frozen BK246.out 0
       have hns30_0 := NB241_246.out
       have hns30_1 := NB242_246.out
       have hns30_3 := NB248_246.out
       have hms30_0 := NB246_241.out
       have hms30_1 := NB246_242.out
       have hms30_3 := NB246_248.out
       refine skip_ (w1 := ?_) (by rfl) rfl ?_ ?_
       rotate_left
       ·go_simp
        rfl
       refine hK.out _ _ ?_
       clear hK K
       refine done_ (done_of HT_.out (by kernel_rfl)) ?_
       try go_wp2
       go_roundg k1
       case measure => have := HK1.out; omega
       case rel => exact ⟨(wrap64 (x13_1 + 1)), (y252), (.slice Ao29 y252.length co29), (by first | rfl | (simp; done) | (simp [*]; done)), H', ⟨by have := HK1.out; omega⟩, ⟨by (with_reducible repeat (first | apply Kd.S_alloc | apply Kd.S_drewN | apply Kd.S_drew)); exact Kd.S_mono (Kd.S_far (p := ⟨gb246, 0, none⟩) (Kd.S_types HO254.out BK246.out (by decide)) (fun _ hk => hk.2) (.slice Ao29 y252.length co29)) (fun _ hk => hk.1.1)⟩, ⟨by (with_reducible repeat (first | apply Kd.R_alloc | apply Kd.R_drewN | apply Kd.R_drew)); exact Kd.R_mono (Kd.R_far (p := ⟨gb246, 0, none⟩) (Kd.R_types HO_247001.out BK246.out (by decide)) (fun _ hk => hk.2) (.slice Ao29 y252.length co29)) (fun _ hk => trivial)⟩, ⟨by (with_reducible repeat (first | refine Op.b1 ?_ _ | refine Op.b2 ?_ | refine Op.b3 ?_ _)); refine blk_far ?_ NB241_246.out _; (with_reducible repeat (first | refine Op.b1 ?_ _ | refine Op.b2 ?_ | refine Op.b3 ?_ _)); exact BK241.out⟩, ⟨by (with_reducible repeat (first | refine Op.b1 ?_ _ | refine Op.b2 ?_ | refine Op.b3 ?_ _)); refine blk_far ?_ NB242_246.out _; (with_reducible repeat (first | refine Op.b1 ?_ _ | refine Op.b2 ?_ | refine Op.b3 ?_ _)); exact BK242.out⟩, ⟨by (with_reducible repeat (first | refine Op.b1 ?_ _ | refine Op.b2 ?_ | refine Op.b3 ?_ _)); refine blk_put (cs := #[u247000, .slice Ao8 t243.length co8]) ?_ 0 _ rfl; (with_reducible repeat (first | refine Op.b1 ?_ _ | refine Op.b2 ?_ | refine Op.b3 ?_ _)); exact BK246.out⟩, ⟨by repeat (first | (with_reducible first | exact HB.out | apply Op.a1 | apply Op.a2 | apply Op.a3 | refine Op.a4 ?_ GE241.out | refine Op.a4 ?_ GE242.out | refine Op.a4 ?_ GE246.out | refine Op.a4 ?_ GE248.out) | exact HB.out)⟩⟩
      ·rw [if_neg c18] at H
       exact absurd H (by simp)
     ·rw [if_neg c16] at H
      exact absurd H (by simp)
    ·rw [if_neg c15] at H
     exact absurd H (by simp)
   ·rw [if_neg c14] at H
    have c14b0 : decide (x13_1 < (l0_0.length : Int)) = false := decide_eq_false c14
    clear c14
    simp only [Option.some.injEq, Prod.mk.injEq] at H
    obtain ⟨rfl, rfl⟩ := H
    have hnb31 := NB246_241.out
    have hnc31 := NB241_246.out
    have hnb32 := NB246_242.out
    have hnc32 := NB242_246.out
    have hcz33_0 : wr.cell? ⟨gb246, 0, none⟩ = some (u247000) := (blk_cell BK246.out 0).trans rfl
    have hcz33_1 : wr.cell? ⟨gb246, 1, none⟩ = some (.slice Ao8 t243.length co8) := (blk_cell BK246.out 1).trans rfl
    have hfz33_0 := blk_frozen BK246.out 0
    have hfz33_1 := blk_frozen BK246.out 1
    obtain ⟨Ao34, co34, eo34⟩ := Kd.S_slice HO_247000.out
    subst eo34
    have hnb35 := NB242_241.out
    have hnc35 := NB241_242.out
    have hcz36_0 : wr.cell? ⟨gb242, 0, none⟩ = some (.slice none 0 0) := (blk_cell BK242.out 0).trans rfl
    have hcz36_1 : wr.cell? ⟨gb242, 1, none⟩ = some (.slice none 0 0) := (blk_cell BK242.out 1).trans rfl
    have hfz36_0 := blk_frozen BK242.out 0
    have hfz36_1 := blk_frozen BK242.out 1
    go_wp2
    refine bodyPost_ret (results_cell_row rfl _ _ gb242 25 #[.slice Ao34 x247000_1.length co34, .slice Ao8 t243.length co8] (0, 0) _ rfl (by (with_reducible repeat (first | refine Op.b1 ?_ _ | refine Op.b2 ?_ | refine Op.b3 ?_ _)); refine blk_put (cs := #[.slice Ao34 x247000_1.length co34, .slice none 0 0]) ?_ 1 _ rfl; (with_reducible repeat (first | refine Op.b1 ?_ _ | refine Op.b2 ?_ | refine Op.b3 ?_ _)); refine blk_put (cs := #[.slice none 0 0, .slice none 0 0]) ?_ 0 _ rfl; (with_reducible repeat (first | refine Op.b1 ?_ _ | refine Op.b2 ?_ | refine Op.b3 ?_ _)); exact BK242.out) Try.underlying25 rfl (by kernel_rfl)) rfl ?_
    exact ⟨_, _, by first | rfl | (simp [errW_none, errW_some] <;> rfl) | (simp [*, errW_none, errW_some] <;> rfl), by (with_reducible repeat (first | apply Kd.S_alloc | apply Kd.S_drewN | apply Kd.S_drew)); exact Kd.S_mono (Kd.S_far (p := ⟨gb242, 1, none⟩) (Kd.S_far (p := ⟨gb242, 0, none⟩) (Kd.S_types HO_247000.out BK242.out (by decide)) (fun _ hk => hk.2) (.slice Ao34 x247000_1.length co34)) (fun _ hk => hk.2) (.slice Ao8 t243.length co8)) (fun _ hk => hk.1), by (with_reducible repeat (first | apply Kd.R_alloc | apply Kd.R_drewN | apply Kd.R_drew)); exact Kd.R_mono (Kd.R_far (p := ⟨gb242, 1, none⟩) (Kd.R_far (p := ⟨gb242, 0, none⟩) (Kd.R_types HO_247001.out BK242.out (by decide)) (fun _ hk => hk.2) (.slice Ao34 x247000_1.length co34)) (fun _ hk => hk.2) (.slice Ao8 t243.length co8)) (fun _ hk => trivial), by repeat (first | (with_reducible first | exact HB.out | apply Op.a1 | apply Op.a2 | apply Op.a3 | refine Op.a4 ?_ GE241.out | refine Op.a4 ?_ GE242.out | refine Op.a4 ?_ GE246.out) | exact HB.out)⟩

end Go.Proofs.Ytnafnpoflheonaa.PFnExactPutIn
