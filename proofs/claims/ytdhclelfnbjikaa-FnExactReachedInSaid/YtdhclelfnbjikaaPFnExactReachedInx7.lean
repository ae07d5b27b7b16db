/- Contracts of functions of the translation, written by a program of this repo (a changed copy of the printer). Not trusted: Lean checks it. -/
-- squeezed
import Derived.Test.YtdhclelfnbjikaaPFnExactReachedInx0
import Derived.Test.YtdhclelfnbjikaaPFnExactReachedInx6
namespace Go.Proofs.Ytdhclelfnbjikaa.PFnExactReachedIn
open Go.RowKit Go.Proofs.YtdhclelfnbjikaaW.PrintWords Go.Proofs.YtdhclelfnbjikaaW.PrintLast Go.Proofs.YtdhclelfnbjikaaW.PrintMore
attribute [local go_sem] max2_int min2_int max_two min_two max_three min_three max_four min_four   -- for this text's walks alone
set_option linter.unusedVariables false
set_option linter.unusedSimpArgs false

/-! ### impl_areNodes: function 59 -/
/-- is what a number names gone, or none of these -/
def impl_areNodes.bad (ns : List S60) (hi k : Int) : Option Bool :=
 (impl_within.f k 0 hi).bind fun z => if z then (if 0 ≤ k then if k < ns.length then some (rd_T60 ns k).f1 else none else none) else some true
def impl_areNodes.all (ns : List S60) : List S60 → Int → Option Bool
 | [], _ => some true
 | b :: t, i => if (b.f0.length : Int) > 6 then some false else if b.f1 = true ∧ (b.f0.length : Int) > 0 then some false else (Op.anyO (impl_areNodes.bad ns (wrap64 (i - 1))) b.f0).bind fun x => if x then some false else impl_areNodes.all ns t (i + 1)
def impl_areNodes.f (l0 : List S60) (l1 : List Int) : Option Bool :=
 if (l0.length : Int) > 14 then some false else if (l1.length : Int) > 6 then some false else (impl_areNodes.all l0 l0 0).bind fun x => if x then (Op.anyO (impl_areNodes.bad l0 (wrap64 ((l0.length : Int) - 1))) l1).map (fun z => !z) else some false
theorem impl_areNodes.one (ns : List S60) (A0 : Option Addr) (c0 gn gi : Nat) (i x : Int) (b : Bool) (w : World)
  (hb : w.heap[gn]? = some (.cells #[.slice A0 ns.length c0] 27 (0, 0))) (hi : w.heap[gi]? = some (.cells #[.int .i64 i] 3 (0, 0)))
  (hr0 : Kd.C k60 w A0 ns.length ns) (h : impl_areNodes.bad ns (wrap64 (i - 1)) x = some b) :
  Calls Try.prog 83 #[.int .i64 x, .pointer (some ⟨gi, 0, none⟩), .pointer (some ⟨gn, 0, none⟩)] w fun e w' => e = .returned (.bool b) ∧ Below w.heap.size w w' := by
 have h0 : w.cell? ⟨gn, 0, none⟩ = some (.slice A0 ns.length c0) := (blk_cell hb 0).trans rfl
 have h1 : w.cell? ⟨gi, 0, none⟩ = some (.int .i64 i) := (blk_cell hi 0).trans rfl
 clear hb hi
 unfold impl_areNodes.bad at h
 obtain ⟨z, hz, h⟩ := Option.bind_eq_some_iff.1 h
 have HZ := Aside0.mk hz
 clear hz
 cases z with
 | false =>
  have hb : b = true := by simpa using h.symm
  subst hb
  clear h hr0
  go_enter Try.func83, Try.ntmps83
  go_wp2_with (go_at_call 75; refine (impl_within.calls _ _ _ false _ HZ.out).mono ?_; rintro e w' ⟨rfl, ⟨nd, rfl⟩⟩)
  go_ret
  exact ⟨rfl, pw_below_drewN (Below.refl _ _) _⟩
 | true =>
  simp only [if_true] at h
  by_cases h2 : 0 ≤ x
  ·rw [if_pos h2] at h
   by_cases h3 : x < ns.length
   ·rw [if_pos h3] at h
    obtain ⟨ad, A', c', rfl, hx0, hx1, _, _⟩ := at_T60 hr0 x h2 h3
    have hb := Option.some.inj h
    have HBB := Aside0.mk hb
    have h2b : decide (0 ≤ x) = true := decide_eq_true h2
    have h3b : decide (x < (ns.length : Int)) = true := decide_eq_true h3
    clear h hr0 hb
    go_enter Try.func83, Try.ntmps83
    go_wp2_with (go_at_call 75; refine (impl_within.calls _ _ _ true _ HZ.out).mono ?_; rintro e w' ⟨rfl, ⟨nd, rfl⟩⟩)
    go_ret
    exact ⟨by rw [← HBB.out]; rfl, pw_below_drewN (Below.refl _ _) _⟩
   ·rw [if_neg h3] at h; exact absurd h (by simp)
  ·rw [if_neg h2] at h; exact absurd h (by simp)
theorem impl_areNodes.two (ns : List S60) (A0 : Option Addr) (c0 gn : Nat) (x : Int) (b : Bool) (w : World)
  (hb : w.heap[gn]? = some (.cells #[.slice A0 ns.length c0] 27 (0, 0)))
  (hr0 : Kd.C k60 w A0 ns.length ns) (h : impl_areNodes.bad ns (wrap64 ((ns.length : Int) - 1)) x = some b) :
  Calls Try.prog 84 #[.int .i64 x, .pointer (some ⟨gn, 0, none⟩)] w fun e w' => e = .returned (.bool b) ∧ Below w.heap.size w w' := by
 have h0 : w.cell? ⟨gn, 0, none⟩ = some (.slice A0 ns.length c0) := (blk_cell hb 0).trans rfl
 clear hb
 unfold impl_areNodes.bad at h
 obtain ⟨z, hz, h⟩ := Option.bind_eq_some_iff.1 h
 have HZ := Aside0.mk hz
 clear hz
 cases z with
 | false =>
  have hb : b = true := by simpa using h.symm
  subst hb
  clear h hr0
  go_enter Try.func84, Try.ntmps84
  go_wp2_with (go_at_call 75; refine (impl_within.calls _ _ _ false _ HZ.out).mono ?_; rintro e w' ⟨rfl, ⟨nd, rfl⟩⟩)
  go_ret
  exact ⟨rfl, pw_below_drewN (Below.refl _ _) _⟩
 | true =>
  simp only [if_true] at h
  by_cases h2 : 0 ≤ x
  ·rw [if_pos h2] at h
   by_cases h3 : x < ns.length
   ·rw [if_pos h3] at h
    obtain ⟨ad, A', c', rfl, hx0, hx1, _, _⟩ := at_T60 hr0 x h2 h3
    have hb := Option.some.inj h
    have HBB := Aside0.mk hb
    have h2b : decide (0 ≤ x) = true := decide_eq_true h2
    have h3b : decide (x < (ns.length : Int)) = true := decide_eq_true h3
    clear h hr0 hb
    go_enter Try.func84, Try.ntmps84
    go_wp2_with (go_at_call 75; refine (impl_within.calls _ _ _ true _ HZ.out).mono ?_; rintro e w' ⟨rfl, ⟨nd, rfl⟩⟩)
    go_ret
    exact ⟨by rw [← HBB.out]; rfl, pw_below_drewN (Below.refl _ _) _⟩
   ·rw [if_neg h3] at h; exact absurd h (by simp)
  ·rw [if_neg h2] at h; exact absurd h (by simp)
set_option maxHeartbeats 2000000 in
set_option maxRecDepth 100000 in
theorem impl_areNodes.calls (A0 : Option Addr) (c0 : Nat) (l0 : List S60) (A1 : Option Addr) (c1 : Nat) (l1 : List Int) (r : Bool) (w : World)
  (hr0 : Kd.C k60 w A0 l0.length l0) (hc0 : l0.length ≤ c0) (hr1 : Kd.C (Kd.int .i64) w A1 l1.length l1) (hc1 : l1.length ≤ c1) (h : impl_areNodes.f l0 l1 = some r) :
  Calls Try.prog 59 #[.slice A0 l0.length c0, .slice A1 l1.length c1] w fun e w' => e = .returned (.bool r) ∧ Below w.heap.size w w' := by
 unfold impl_areNodes.f at h
 by_cases g1 : (l0.length : Int) > 14
 ·rw [if_pos g1] at h
  obtain rfl := Option.some.inj h
  have g1b : decide ((14 : Int) < l0.length) = true := decide_eq_true g1
  clear g1 h hr0 hr1
  go_enter Try.func59, Try.ntmps59
  go_wp2
  go_ret
  exact ⟨rfl, (Below.refl _ _).alloc (Nat.le_refl _) _⟩
 rw [if_neg g1] at h
 by_cases g2 : (l1.length : Int) > 6
 ·rw [if_pos g2] at h
  obtain rfl := Option.some.inj h
  have g1b : decide ((14 : Int) < l0.length) = false := decide_eq_false g1
  have g2b : decide ((6 : Int) < l1.length) = true := decide_eq_true g2
  clear g1 g2 h hr0 hr1
  go_enter Try.func59, Try.ntmps59
  go_wp2
  go_ret
  exact ⟨rfl, (Below.refl _ _).alloc (Nat.le_refl _) _⟩
 rw [if_neg g2] at h
 have g1b : decide ((14 : Int) < l0.length) = false := decide_eq_false g1
 have g2b : decide ((6 : Int) < l1.length) = false := decide_eq_false g2
 have H' := Aside0.mk h
 have HR0 := Aside0.mk hr0
 have HR1 := Aside0.mk hr1
 have HL : (l0.length : Int) ≤ 9223372036854775807 := by have := hr0.2.1; omega
 have e1 : ∀ args W, (callFunc 83 args).run Try.prog W = .ok (.enter 83 args) W := enters_of Try.func83 (by kernel_rfl) rfl
 have e2 : ∀ args W, (callFunc 84 args).run Try.prog W = .ok (.enter 84 args) W := enters_of Try.func84 (by kernel_rfl) rfl
 clear g1 g2 h hr0 hr1
 go_enter Try.func59, Try.ntmps59
 go_wp2_with fail
 have HB0 := Aside0.mk ((Below.refl w.heap.size w).alloc (Nat.le_refl _) (.cells #[.slice A0 l0.length c0] 27))
 have HG0 := Aside0.mk (heap_alloc_new w (.cells #[.slice A0 l0.length c0] 27))
 go_loopg [17] l0.length (fun gg v17 wr => ∃ n : Nat, n ≤ l0.length ∧ l0.length - n ≤ gg ∧ v17 = .int .i64 n ∧ Aside0 (((impl_areNodes.all l0 (l0.drop n) n).bind fun x => if x then (Op.anyO (impl_areNodes.bad l0 (wrap64 ((l0.length : Int) - 1))) l1).map (fun z => !z) else some false) = some r) ∧ Aside0 (Below w.heap.size w wr) ∧ Aside0 (wr.heap[w.heap.size]? = some (.cells #[.slice A0 l0.length c0] 27 (0, 0))))
 case atStart => exact ⟨0, Nat.zero_le _, by omega, rfl, ⟨by simpa using H'.out⟩, HB0, HG0⟩
 case round =>
  clear H' HB0 HG0
  obtain ⟨n, hn, hg, rfl, HA, HB, HG⟩ := hrel
  by_cases hlt : n < l0.length
  ·have hltz : (n : Int) < (l0.length : Int) := by omega
   obtain ⟨ad, A', c', rfl, hx0, hx1, hxl, hxr⟩ := at_T60 (Kd.C_below HR0.out HB.out) (n : Int) (by omega) hltz
   rw [Int.toNat_natCast] at hx0 hx1
   have hdr : Aside0 (l0.drop n = rd_T60 l0 n :: l0.drop (n + 1)) := ⟨by rw [List.drop_eq_getElem_cons hlt]; simp [rd_T60, List.getD_eq_getElem?_getD, hlt]⟩
   generalize rd_T60 l0 n = x at *
   rcases x with ⟨xk, xg⟩
   dsimp only at hx0 hx1 hxl hxr
   have HX := Aside0.mk hxr
   have hA := HA.out
   rw [hdr.out] at hA
   unfold impl_areNodes.all at hA
   dsimp only at hA
   clear hxr HA hdr
   by_cases k6 : (xk.length : Int) > 6
   ·rw [if_pos k6] at hA
    have HBA := Aside0.mk ((HB.out.alloc HB.out.size (.cells #[.int .i64 (n : Int)] 3)).alloc (by simp; have := HB.out.size; omega) (.cells #[.slice A' xk.length c', .bool xg] 60))
    have HA := Aside0.mk hA
    have k6b : decide ((6 : Int) < xk.length) = true := decide_eq_true k6
    clear hA k6
    go_wp2
    go_ret
    exact ⟨by have h1 := HA.out; simp only [Option.bind_some, Bool.false_eq_true, if_false, Option.some.injEq] at h1; rw [← h1]; rfl, HBA.out⟩
   rw [if_neg k6] at hA
   have k6b : decide ((6 : Int) < xk.length) = false := decide_eq_false k6
   by_cases kg : xg = true ∧ (xk.length : Int) > 0
   ·rw [if_pos kg] at hA
    obtain ⟨rfl, kz⟩ := kg
    have HBA := Aside0.mk ((HB.out.alloc HB.out.size (.cells #[.int .i64 (n : Int)] 3)).alloc (by simp; have := HB.out.size; omega) (.cells #[.slice A' xk.length c', .bool true] 60))
    have HA := Aside0.mk hA
    have kgc : decide ((0 : Int) < xk.length) = true := decide_eq_true kz
    have kgd : decide (0 < xk.length) = true := decide_eq_true (by omega)
    have kge : 0 < xk.length := by omega
    clear hA kz k6
    go_wp2
    go_ret
    exact ⟨by have h1 := HA.out; simp only [Option.bind_some, Bool.false_eq_true, if_false, Option.some.injEq] at h1; rw [← h1]; rfl, HBA.out⟩
   rw [if_neg kg, Option.bind_assoc] at hA
   obtain ⟨y, hy, hA⟩ := Option.bind_eq_some_iff.1 hA
   have HY := Aside0.mk hy
   have HA := Aside0.mk hA
   have kor : xg = false ∨ (xg = true ∧ decide ((0 : Int) < xk.length) = false ∧ decide (0 < xk.length) = false ∧ ¬ 0 < xk.length) := by
    cases xg with
    | false => exact .inl rfl
    | true => exact .inr ⟨rfl, decide_eq_false (fun h => kg ⟨rfl, h⟩), decide_eq_false (fun h => kg ⟨rfl, by omega⟩), fun h => kg ⟨rfl, by omega⟩⟩
   clear hA hy kg k6
   rcases kor with rfl | ⟨rfl, kz, kz2, kz3⟩
   ·have HBA := Aside0.mk ((HB.out.alloc HB.out.size (.cells #[.int .i64 (n : Int)] 3)).alloc (by simp; have := HB.out.size; omega) (.cells #[.slice A' xk.length c', .bool false] 60))
    have HBW := Aside0.mk (((Below.refl wr.heap.size wr).alloc (Nat.le_refl _) (.cells #[.int .i64 (n : Int)] 3)).alloc (by simp) (.cells #[.slice A' xk.length c', .bool false] 60))
    have HC := Aside0.mk (slices_ContainsFunc_int_int.calls A' c' xk 83 #[.pointer (some ⟨wr.heap.size, 0, none⟩), .pointer (some ⟨w.heap.size, 0, none⟩)] (impl_areNodes.bad l0 (wrap64 ((n : Int) - 1))) y
      ((wr.alloc (.cells #[.int .i64 (n : Int)] 3)).alloc (.cells #[.slice A' xk.length c', .bool false] 60)) e1
      (fun W k b _ hB hk => impl_areNodes.one l0 (some ad) c0 w.heap.size wr.heap.size n k b W
       (Op.b4 (Op.b3 (Op.b3 HG.out _) _) hB)
       (Op.b4 (Op.b3 (blk_new wr _) _) hB)
       (Kd.C_below HR0.out (Op.a5 HBA.out hB)) hk)
      (Kd.C_below HX.out HBW.out) HY.out)
    cases y with
    | true =>
     go_wp2_with (go_at_call 82; refine HC.out.mono ?_; rintro e w' ⟨rfl, hb2⟩)
     go_ret
     exact ⟨by have h1 := HA.out; simp only [if_true, Option.bind_some, Bool.false_eq_true, if_false, Option.some.injEq] at h1; rw [← h1]; rfl, below_step HBA.out hb2⟩
    | false =>
     go_wp2_with (go_at_call 82; refine HC.out.mono ?_; rintro e w' ⟨rfl, hb2⟩)
     go_roundg (l0.length - (n + 1))
     case measure => omega
     case rel => exact ⟨n + 1, by omega, by omega, by go_num, ⟨by have h1 := HA.out; simpa using h1⟩, ⟨below_step HBA.out hb2⟩, ⟨blk_below (Op.b3 (Op.b3 HG.out _) _) hb2⟩⟩
   ·have HBA := Aside0.mk ((HB.out.alloc HB.out.size (.cells #[.int .i64 (n : Int)] 3)).alloc (by simp; have := HB.out.size; omega) (.cells #[.slice A' xk.length c', .bool true] 60))
    have HBW := Aside0.mk (((Below.refl wr.heap.size wr).alloc (Nat.le_refl _) (.cells #[.int .i64 (n : Int)] 3)).alloc (by simp) (.cells #[.slice A' xk.length c', .bool true] 60))
    have HC := Aside0.mk (slices_ContainsFunc_int_int.calls A' c' xk 83 #[.pointer (some ⟨wr.heap.size, 0, none⟩), .pointer (some ⟨w.heap.size, 0, none⟩)] (impl_areNodes.bad l0 (wrap64 ((n : Int) - 1))) y
      ((wr.alloc (.cells #[.int .i64 (n : Int)] 3)).alloc (.cells #[.slice A' xk.length c', .bool true] 60)) e1
      (fun W k b _ hB hk => impl_areNodes.one l0 (some ad) c0 w.heap.size wr.heap.size n k b W
       (Op.b4 (Op.b3 (Op.b3 HG.out _) _) hB)
       (Op.b4 (Op.b3 (blk_new wr _) _) hB)
       (Kd.C_below HR0.out (Op.a5 HBA.out hB)) hk)
      (Kd.C_below HX.out HBW.out) HY.out)
    cases y with
    | true =>
     go_wp2_with (go_at_call 82; refine HC.out.mono ?_; rintro e w' ⟨rfl, hb2⟩)
     go_ret
     exact ⟨by have h1 := HA.out; simp only [if_true, Option.bind_some, Bool.false_eq_true, if_false, Option.some.injEq] at h1; rw [← h1]; rfl, below_step HBA.out hb2⟩
    | false =>
     go_wp2_with (go_at_call 82; refine HC.out.mono ?_; rintro e w' ⟨rfl, hb2⟩)
     go_roundg (l0.length - (n + 1))
     case measure => omega
     case rel => exact ⟨n + 1, by omega, by omega, by go_num, ⟨by have h1 := HA.out; simpa using h1⟩, ⟨below_step HBA.out hb2⟩, ⟨blk_below (Op.b3 (Op.b3 HG.out _) _) hb2⟩⟩
  ·have hltz : ¬ (n : Int) < (l0.length : Int) := by omega
   have e : n = l0.length := by omega
   have hA := HA.out
   rw [e, List.drop_length] at hA
   simp only [impl_areNodes.all, Option.bind_some, if_true] at hA
   obtain ⟨y, hy, hA⟩ := Option.map_eq_some_iff.1 hA
   have h0 : wr.cell? ⟨w.heap.size, 0, none⟩ = some (.slice A0 l0.length c0) := (blk_cell HG.out 0).trans rfl
   have HC := Aside0.mk (slices_ContainsFunc_int_int.calls A1 c1 l1 84 #[.pointer (some ⟨w.heap.size, 0, none⟩)] (impl_areNodes.bad l0 (wrap64 ((l0.length : Int) - 1))) y wr e2
    (fun W k b _ hB hk => impl_areNodes.two l0 A0 c0 w.heap.size k b W ((hB.block _ (blk_lt HG.out)).trans HG.out) (Kd.C_below HR0.out (Op.a5 HB.out hB)) hk)
    (Kd.C_below HR1.out HB.out) hy)
   have HA' := Aside0.mk hA
   clear HA hA hy e
   go_wp2_with (go_at_call 82; refine HC.out.mono ?_; rintro e w' ⟨rfl, hb2⟩)
   go_ret
   exact ⟨by rw [← HA'.out]; rfl, below_step HB.out hb2⟩


/-! ### impl_countsOf: function 60 -/
mutual
def impl_countsOf.l0 : Nat → List (S60) → List Int → List Int → Int → Int → Option (List Int)
 | 0, _, _, _, _, _ => none
 | k + 1, x0, x5, x15, x16, x17 => if x17 < x16 then (if 0 ≤ x17 then (if x17 < (x15.length : Int) then (if 0 ≤ (rd x15 x17) then (if (rd x15 x17) < (x5.length : Int) then (impl_countsOf.l0 k x0 (x5.set ((rd x15 x17) : Int).toNat (wrap64 ((rd x5 (rd x15 x17)) + 1))) x15 x16 (wrap64 (x17 + 1))) else (none)) else (none)) else (none)) else (none)) else (impl_countsOf.l1 k x5 x0 (x0.length : Int) 0)
def impl_countsOf.l1 : Nat → List Int → List (S60) → Int → Int → Option (List Int)
 | 0, _, _, _, _ => none
 | k + 1, x5, x28, x29, x30 => if x30 < x29 then (if 0 ≤ x30 then (if x30 < (x28.length : Int) then (impl_countsOf.l2 k x5 x28 x29 x30 ((rd_T60 x28 x30).f0) (((rd_T60 x28 x30).f0).length : Int) 0) else (none)) else (none)) else (some x5)
def impl_countsOf.l2 : Nat → List Int → List (S60) → Int → Int → List Int → Int → Int → Option (List Int)
 | 0, _, _, _, _, _, _, _ => none
 | k + 1, x5, x28, x29, x30, x35, x36, x37 => if x37 < x36 then (if 0 ≤ x37 then (if x37 < (x35.length : Int) then (if 0 ≤ (rd x35 x37) then (if (rd x35 x37) < (x5.length : Int) then (impl_countsOf.l2 k (x5.set ((rd x35 x37) : Int).toNat (wrap64 ((rd x5 (rd x35 x37)) + 1))) x28 x29 x30 x35 x36 (wrap64 (x37 + 1))) else (none)) else (none)) else (none)) else (none)) else (impl_countsOf.l1 k x5 x28 x29 (wrap64 (x30 + 1)))
end
def impl_countsOf.f (k : Nat) (l0 : List (S60)) (l1 : List Int) : Option (List Int) := if 0 ≤ (l0.length : Int) then (if ((l0.length : Int) : Int).toNat ≤ 35184372088832 then (impl_countsOf.l0 k l0 (List.replicate ((l0.length : Int) : Int).toNat 0) l1 (l1.length : Int) 0) else (none)) else (none)
theorem impl_countsOf.mono_l : ∀ k, (∀ y0 y1 y2 y3 y4, LeO (impl_countsOf.l0 k y0 y1 y2 y3 y4) (impl_countsOf.l0 (k + 1) y0 y1 y2 y3 y4)) ∧ (∀ y0 y1 y2 y3, LeO (impl_countsOf.l1 k y0 y1 y2 y3) (impl_countsOf.l1 (k + 1) y0 y1 y2 y3)) ∧ (∀ y0 y1 y2 y3 y4 y5 y6, LeO (impl_countsOf.l2 k y0 y1 y2 y3 y4 y5 y6) (impl_countsOf.l2 (k + 1) y0 y1 y2 y3 y4 y5 y6))
 | 0 => ⟨fun _ _ _ _ _ r h => by simp [impl_countsOf.l0] at h, fun _ _ _ _ r h => by simp [impl_countsOf.l1] at h, fun _ _ _ _ _ _ _ r h => by simp [impl_countsOf.l2] at h⟩
 | k + 1 => by
  obtain ⟨ih0, ih1, ih2⟩ := impl_countsOf.mono_l k
  refine ⟨?_, ?_, ?_⟩
  ·intro y0 y1 y2 y3 y4
   unfold impl_countsOf.l0
   repeat' first
   | (with_reducible exact ih0 _ _ _ _ _)
   | (with_reducible exact ih1 _ _ _ _)
   | (with_reducible exact ih2 _ _ _ _ _ _ _)
   | (with_reducible exact LeO.refl _)
   | (with_reducible exact LeO.none _)
   | (with_reducible refine LeO.ite ?_ ?_)
   | (with_reducible refine LeO.bind ?_ (fun _ => ?_))
   | exact ih0 _ _ _ _ _
   | exact ih1 _ _ _ _
   | exact ih2 _ _ _ _ _ _ _
   | exact LeO.none _
   | refine LeO.ite ?_ ?_
   | refine LeO.bind ?_ (fun _ => ?_)
  ·intro y0 y1 y2 y3
   unfold impl_countsOf.l1
   repeat' first
   | (with_reducible exact ih0 _ _ _ _ _)
   | (with_reducible exact ih1 _ _ _ _)
   | (with_reducible exact ih2 _ _ _ _ _ _ _)
   | (with_reducible exact LeO.refl _)
   | (with_reducible exact LeO.none _)
   | (with_reducible refine LeO.ite ?_ ?_)
   | (with_reducible refine LeO.bind ?_ (fun _ => ?_))
   | exact ih0 _ _ _ _ _
   | exact ih1 _ _ _ _
   | exact ih2 _ _ _ _ _ _ _
   | exact LeO.none _
   | refine LeO.ite ?_ ?_
   | refine LeO.bind ?_ (fun _ => ?_)
  ·intro y0 y1 y2 y3 y4 y5 y6
   unfold impl_countsOf.l2
   repeat' first
   | (with_reducible exact ih0 _ _ _ _ _)
   | (with_reducible exact ih1 _ _ _ _)
   | (with_reducible exact ih2 _ _ _ _ _ _ _)
   | (with_reducible exact LeO.refl _)
   | (with_reducible exact LeO.none _)
   | (with_reducible refine LeO.ite ?_ ?_)
   | (with_reducible refine LeO.bind ?_ (fun _ => ?_))
   | exact ih0 _ _ _ _ _
   | exact ih1 _ _ _ _
   | exact ih2 _ _ _ _ _ _ _
   | exact LeO.none _
   | refine LeO.ite ?_ ?_
   | refine LeO.bind ?_ (fun _ => ?_)
theorem impl_countsOf.mono : ∀ a0 a1 k, LeO (impl_countsOf.f k a0 a1) (impl_countsOf.f (k + 1) a0 a1) := by
 intro a0 a1 k
 obtain ⟨ih0, ih1, ih2⟩ := impl_countsOf.mono_l k
 unfold impl_countsOf.f
 repeat' first
   | (with_reducible exact ih0 _ _ _ _ _)
   | (with_reducible exact ih1 _ _ _ _)
   | (with_reducible exact ih2 _ _ _ _ _ _ _)
   | (with_reducible exact LeO.refl _)
   | (with_reducible exact LeO.none _)
   | (with_reducible refine LeO.ite ?_ ?_)
   | (with_reducible refine LeO.bind ?_ (fun _ => ?_))
   | exact ih0 _ _ _ _ _
   | exact ih1 _ _ _ _
   | exact ih2 _ _ _ _ _ _ _
   | exact LeO.none _
   | refine LeO.ite ?_ ?_
   | refine LeO.bind ?_ (fun _ => ?_)
set_option maxHeartbeats 8000000 in
set_option maxRecDepth 100000 in
theorem impl_countsOf.calls (k : Nat) (A0 : Option Addr) (c0 : Nat) (l0 : List (S60)) (A1 : Option Addr) (c1 : Nat) (l1 : List Int) (r : List Int) (w : World) (hr0 : Kd.C k60 w A0 l0.length l0) (hc0 : l0.length ≤ c0) (hr1 : Kd.C (Kd.int .i64) w A1 l1.length l1) (hc1 : l1.length ≤ c1) (h : impl_countsOf.f k l0 l1 = some r) :
  Calls Try.prog 60 #[.slice A0 l0.length c0, .slice A1 l1.length c1] w fun e w' => ∃ v0_ : Value, e = .returned (v0_) ∧ Kd.R (Kd.int .i64) 3 w' w.heap.size (fun _ => True) v0_ r ∧ Below w.heap.size w w' := by
 have hu60 := Try.underlying60
 have HR0 := Aside0.mk hr0
 have HC0 := Aside0.mk hc0
 clear hr0 hc0
 have HR1 := Aside0.mk hr1
 have HC1 := Aside0.mk hc1
 clear hr1 hc1
 have HB := Aside0.mk (Below.refl w.heap.size w)
 have H : (if 0 ≤ (l0.length : Int) then (if ((l0.length : Int) : Int).toNat ≤ 35184372088832 then (impl_countsOf.l0 k l0 (List.replicate ((l0.length : Int) : Int).toNat 0) l1 (l1.length : Int) 0) else (none)) else (none)) = some r := h
 clear h
 by_cases c3 : 0 ≤ (l0.length : Int)
 ·rw [if_pos c3] at H
  have c3b0 := eq_true c3
  have c3b1 : decide (0 ≤ (l0.length : Int)) = true := decide_eq_true c3
  clear c3
  by_cases c4 : ((l0.length : Int) : Int).toNat ≤ 35184372088832
  ·rw [if_pos c4] at H
   have c4b0 := eq_true c4
   have c4b1 : decide (((l0.length : Int) : Int).toNat ≤ 35184372088832) = true := decide_eq_true c4
   clear c4
   obtain ⟨y236, hy236⟩ : ∃ y_ : List Int, y_ = (List.replicate ((l0.length : Int) : Int).toNat 0) := ⟨_, rfl⟩
   replace H : (impl_countsOf.l0 k l0 y236 l1 (l1.length : Int) 0) = some r := by first | (rw [hy236]; with_reducible exact H) | (have H2_ := (Option.bind_some _ _).symm.trans H; rw [hy236]; with_reducible exact H2_) | (have H2_ := (Option.bind_some _ _).symm.trans H; with_reducible exact H2_) | with_reducible exact H | (rw [hy236]; exact H) | exact H
   have Ny236 := Aside0.mk hy236
   clear hy236
   have H' := Aside0.mk H
   clear H
   go_enter Try.func60, Try.ntmps60
   go_wp2_with (first | ((with_reducible refine gate_dst (N := 14) rfl ?_); refine Kd.R_make (Kd.int .i64) _ 3 rfl (N := 14) rfl 23 _ _ rfl (l0.length : Int) rfl rfl Try.underlying23 (.int .i64 0) 8 info3 rfl (by decide) (by omega) 0 (ok := fun _ => True) (okp := fun _ => True) rfl (fun _ hk => hk) trivial (of_decide_eq_true (by first | (with_reducible assumption) | assumption)) (Nat.le_trans (Nat.mul_le_mul_right _ (of_decide_eq_true (by first | (with_reducible assumption) | assumption) : (l0.length : Int).toNat ≤ 35184372088832)) (by omega)) (Below.refl _ _) (Nat.le_refl _) ?_; intro v237 w5 ho6 hb hg_ hnew_; clear hg_ hnew_; (first | rw [← Ny236.out] at ho6 | (simp only [Int.reduceToNat] at ho6; rw [← Ny236.out] at ho6)); have n0_ := Aside0.mk (Kd.R_lower ho6 (Op.a6 (by repeat (first | (with_reducible first | exact HB.out | apply Op.a1 | apply Op.a2 | apply Op.a3) | exact HB.out)))); have n1_ := Aside0.mk (Op.a5 (by repeat (first | (with_reducible first | exact HB.out | apply Op.a1 | apply Op.a2 | apply Op.a3) | exact HB.out)) hb); clear HB; have HO238 := n0_; have HB := n1_; clear n0_ n1_; clear hb ho6))
   go_loopg [17] k (fun kq v17 w' => ∃ (x5_1 : List Int) (x17_1 : Int), v17 = .int .i64 x17_1 ∧ Aside0 (impl_countsOf.l0 kq l0 x5_1 l1 (l1.length : Int) x17_1 = some r) ∧ Aside0 (kq ≤ k) ∧ Aside0 (Kd.R (Kd.int .i64) 3 w' w.heap.size (fun _ => True) v237 x5_1) ∧ Aside0 (Below w.heap.size w w'))
   case atStart => exact ⟨(y236), (0), (by first | rfl | (simp; done) | (simp [*]; done)), H', ⟨Nat.le_refl _⟩, ⟨by (with_reducible repeat (first | apply Kd.R_alloc | apply Kd.R_drewN | apply Kd.R_drew)); exact HO238.out⟩, ⟨by repeat (first | (with_reducible first | exact HB.out | apply Op.a1 | apply Op.a2 | apply Op.a3) | exact HB.out)⟩⟩
   case round =>
    clear H'
    try clear c1
    try clear p2
    try clear c3
    try clear c3b0
    try clear c3b1
    try clear c4
    try clear c4b0
    try clear c4b1
    try clear c6
    obtain ⟨x5_1, x17_1, rfl, HA, HK1, HO_5, HB⟩ := hrel
    cases gk with
    | zero => exact absurd HA.out (by simp [impl_countsOf.l0])
    | succ k1 =>
     have H := HA.out
     clear HA
     simp only [impl_countsOf.l0] at H
     by_cases c7 : x17_1 < (l1.length : Int)
     ·rw [if_pos c7] at H
      have c7b0 : decide (x17_1 < (l1.length : Int)) = true := decide_eq_true c7
      clear c7
      by_cases c8 : 0 ≤ x17_1
      ·rw [if_pos c8] at H
       have c8b0 : decide (0 ≤ x17_1) = true := decide_eq_true c8
       clear c8
       by_cases c9 : x17_1 < (l1.length : Int)
       ·rw [if_pos c9] at H
        have c9b0 : decide (x17_1 < (l1.length : Int)) = true := decide_eq_true c9
        clear c9
        by_cases c10 : 0 ≤ (rd l1 x17_1)
        ·rw [if_pos c10] at H
         have c10b0 : decide (0 ≤ (rd l1 x17_1)) = true := decide_eq_true c10
         clear c10
         by_cases c11 : (rd l1 x17_1) < (x5_1.length : Int)
         ·rw [if_pos c11] at H
          have c11b0 : decide ((rd l1 x17_1) < (x5_1.length : Int)) = true := decide_eq_true c11
          clear c11
          obtain ⟨y241, hy241⟩ : ∃ y_ : List Int, y_ = (x5_1.set ((rd l1 x17_1) : Int).toNat (wrap64 ((rd x5_1 (rd l1 x17_1)) + 1))) := ⟨_, rfl⟩
          replace H : (impl_countsOf.l0 k1 l0 y241 l1 (l1.length : Int) (wrap64 (x17_1 + 1))) = some r := by first | (rw [hy241]; with_reducible exact H) | (have H2_ := (Option.bind_some _ _).symm.trans H; rw [hy241]; with_reducible exact H2_) | (have H2_ := (Option.bind_some _ _).symm.trans H; with_reducible exact H2_) | with_reducible exact H | (rw [hy241]; exact H) | exact H
          have Ny241 := Aside0.mk hy241
          clear hy241
          have H' := Aside0.mk H
          clear H
          have p239 : 0 ≤ (x17_1 : Int) := of_decide_eq_true (by first | (with_reducible assumption) | assumption)
          have q239 : x17_1 < (l1.length : Int) := of_decide_eq_true (by first | (with_reducible assumption) | assumption)
          obtain ⟨ad239, e239, hx239_0⟩ := Kd.at_int HR1.out x17_1 p239 q239
          cases e239
          replace hx239_0 := (HB.out.cell (World.block_lt_of_cell? w _ hx239_0)).trans hx239_0
          replace p239 := eq_true p239
          replace q239 := eq_true q239
          obtain ⟨Ao13, co13, eo13⟩ := Kd.R_slice HO_5.out
          subst eo13
          have p240 : 0 ≤ ((rd l1 x17_1) : Int) := of_decide_eq_true (by first | (with_reducible assumption) | assumption)
          have q240 : (rd l1 x17_1) < (x5_1.length : Int) := of_decide_eq_true (by first | (with_reducible assumption) | assumption)
          obtain ⟨ad240, e240, hx240_0⟩ := Kd.at_int (Kd.R_reads' HO_5.out).2.2 (rd l1 x17_1) p240 q240
          cases e240
          replace p240 := eq_true p240
          replace q240 := eq_true q240
          have p12 : 0 ≤ ((rd l1 x17_1) : Int) := of_decide_eq_true (by first | (with_reducible assumption) | assumption)
          have q12 : ((rd l1 x17_1) : Int) < ((x5_1.length : Int) : Int) := of_decide_eq_true (by first | (with_reducible assumption) | assumption)
          obtain ⟨go12, co12, eo12, gb12, gl12, cl12, HG12⟩ := Kd.R_form HO_5.out (by omega)
          (first | cases eo12 | (injection eo12 with ea_ en_ ec_; (first | subst ea_ | (injection ea_ with ea_; subst ea_)); subst ec_; clear en_))
          have GB12 := Aside0.mk gb12
          have GG12 := Aside0.mk HG12
          clear gb12 gl12 HG12
          (first | simp only [add_plain] at hx240_0 | skip)
          obtain ⟨hx12_0, hf12_0⟩ := Kd.R_celln 0 HO_5.out ((rd l1 x17_1) : Int) p12 q12
          replace p12 := eq_true p12
          replace q12 := eq_true q12
          have HP14 := Kd.R_putg HO_5.out ((rd l1 x17_1) : Int) (wrap64 ((rd x5_1 (rd l1 x17_1)) + 1))
          go_wp2_with (first | ((with_reducible refine gate_store (t := 3) (p := 26) rfl ?_); refine store_event (t := 3) (p := 26) (v := ?vo_w15) (w1 := (wr.setCell ⟨go12, ((rd l1 x17_1) : Int).toNat, none⟩ (.int .i64 (wrap64 ((rd x5_1 (rd l1 x17_1)) + 1))))) ?hg ?ho ?hn ?hr ?_; (case ho => rfl); (case hg => rfl); (case hn => rfl); (case hr => first | (go_simp; done) | (go_simp; rfl)); intro w15 hw; have hg : wr.grownBy w15 (some go12) := (by rw [hw]; exact HP14.2); have hp_ : Kd.R (Kd.int .i64) 3 w15 w.heap.size (fun _ => True) (.slice (some ⟨go12, 0, none⟩) x5_1.length co13) y241 := (by rw [hw, Ny241.out]; exact HP14.1); clear HP14; have n0_ := Aside0.mk (hp_); have n1_ := Aside0.mk ((by rw [hw]; exact below_set (HB.out) GB12.out : Below w.heap.size w w15)); clear HO_5; clear HB; have HO_5 := n0_; have HB := n1_; clear n0_ n1_; clear hg hw hp_))
          go_roundg k1
          case measure => have := HK1.out; omega
          case rel => exact ⟨(y241), (wrap64 (x17_1 + 1)), (by first | rfl | (simp; done) | (simp [*]; done)), H', ⟨by have := HK1.out; omega⟩, ⟨by (with_reducible repeat (first | apply Kd.R_alloc | apply Kd.R_drewN | apply Kd.R_drew)); exact HO_5.out⟩, ⟨by repeat (first | (with_reducible first | exact HB.out | apply Op.a1 | apply Op.a2 | apply Op.a3) | exact HB.out)⟩⟩
         ·rw [if_neg c11] at H
          exact absurd H (by simp)
        ·rw [if_neg c10] at H
         exact absurd H (by simp)
       ·rw [if_neg c9] at H
        exact absurd H (by simp)
      ·rw [if_neg c8] at H
       exact absurd H (by simp)
     ·rw [if_neg c7] at H
      have c7b0 : decide (x17_1 < (l1.length : Int)) = false := decide_eq_false c7
      clear c7
      have H' := Aside0.mk H
      clear H
      go_wp2
      go_loopg [30] k1 (fun kq v30 w' => ∃ (x5_2 : List Int) (x30_2 : Int), v30 = .int .i64 x30_2 ∧ Aside0 (impl_countsOf.l1 kq x5_2 l0 (l0.length : Int) x30_2 = some r) ∧ Aside0 (kq ≤ k1) ∧ Aside0 (Kd.R (Kd.int .i64) 3 w' w.heap.size (fun _ => True) v237 x5_2) ∧ Aside0 (Below w.heap.size w w'))
      case atStart => exact ⟨(x5_1), (0), (by first | rfl | (simp; done) | (simp [*]; done)), H', ⟨Nat.le_refl _⟩, ⟨by (with_reducible repeat (first | apply Kd.R_alloc | apply Kd.R_drewN | apply Kd.R_drew)); exact HO_5.out⟩, ⟨by repeat (first | (with_reducible first | exact HB.out | apply Op.a1 | apply Op.a2 | apply Op.a3) | exact HB.out)⟩⟩
      case round =>
       clear H'
       try clear c1
       try clear p1
       try clear q1
       try clear hx1
       try clear p2
       try clear q2
       try clear hx2
       try clear c3
       try clear c3b0
       try clear c3b1
       try clear c4
       try clear c4b0
       try clear c4b1
       try clear c6
       try clear p6
       try clear c7
       try clear c7b0
       try clear c8
       try clear c8b0
       try clear c9
       try clear c9b0
       try clear c10
       try clear c10b0
       try clear c11
       try clear c11b0
       try clear p12
       try clear q12
       try clear hx12
       try clear hf12
       try clear hx12_0
       try clear hx239_0
       try clear hx240_0
       try clear p12
       try clear p2
       try clear p239
       try clear p240
       try clear q12
       try clear q239
       try clear q240
       obtain ⟨x5_2, x30_2, rfl, HA, HK2, HO_5, HB⟩ := hrel
       cases gk with
       | zero => exact absurd HA.out (by simp [impl_countsOf.l1])
       | succ k2 =>
        have H := HA.out
        clear HA
        simp only [impl_countsOf.l1] at H
        by_cases c16 : x30_2 < (l0.length : Int)
        ·rw [if_pos c16] at H
         have c16b0 : decide (x30_2 < (l0.length : Int)) = true := decide_eq_true c16
         clear c16
         by_cases c17 : 0 ≤ x30_2
         ·rw [if_pos c17] at H
          have c17b0 : decide (0 ≤ x30_2) = true := decide_eq_true c17
          clear c17
          by_cases c18 : x30_2 < (l0.length : Int)
          ·rw [if_pos c18] at H
           have c18b0 : decide (x30_2 < (l0.length : Int)) = true := decide_eq_true c18
           clear c18
           have H' := Aside0.mk H
           clear H
           have p242 : 0 ≤ (x30_2 : Int) := of_decide_eq_true (by first | (with_reducible assumption) | assumption)
           have q242 : x30_2 < (l0.length : Int) := of_decide_eq_true (by first | (with_reducible assumption) | assumption)
           obtain ⟨ad242, A242_0, c242_0, e242, hx242_0, hx242_1, hl242_0, hi242_0⟩ := at_T60 HR0.out x30_2 p242 q242
           cases e242
           replace hx242_0 := (HB.out.cell (World.block_lt_of_cell? w _ hx242_0)).trans hx242_0
           replace hx242_1 := (HB.out.cell (World.block_lt_of_cell? w _ hx242_1)).trans hx242_1
           have HR242_0 := Aside0.mk hi242_0
           have HC242_0 := Aside0.mk hl242_0
           clear hi242_0 hl242_0
           replace p242 := eq_true p242
           replace q242 := eq_true q242
           go_wp2_with (first | ((with_reducible refine gate_dst (N := 9) rfl ?_); refine box_event ?hg (N := 9) ?hd (cs := #[.slice none 0 0, .bool false]) (t := 60) ?hr ?_; (case hd => rfl); (case hg => rfl); (case hr => first | (go_simp; done) | (go_simp; rfl)); intro gb243 hg w19 hbox hb; have n0_ := Aside0.mk (Kd.R_below (by (with_reducible repeat (first | apply Kd.R_alloc | apply Kd.R_drewN | apply Kd.R_drew)); exact HO_5.out) hb); have n1_ := Aside0.mk (Op.a5 (by repeat (first | (with_reducible first | exact HB.out | apply Op.a1 | apply Op.a2 | apply Op.a3) | exact HB.out)) hb); have n2_ := Aside0.mk (hbox); have n3_ := Aside0.mk ((by rw [hg]; exact (Op.a6 (by repeat (first | (with_reducible first | exact HB.out | apply Op.a1 | apply Op.a2 | apply Op.a3) | exact HB.out))) : w.heap.size ≤ gb243)); have n4_ := Aside0.mk ((by rw [hg]; exact (Op.a6 (by repeat (first | (with_reducible first | exact HB.out | apply Op.a1 | apply Op.a2 | apply Op.a3) | exact HB.out))) : w.heap.size ≤ gb243)); clear HO_5; clear HB; have HO_5 := n0_; have HB := n1_; have BK243 := n2_; have GW243 := n3_; have GE243 := n4_; clear n0_ n1_ n2_ n3_ n4_; clear hb hbox hg; have hcz20_0 : w19.cell? ⟨gb243, 0, none⟩ = some (.slice none 0 0) := (blk_cell BK243.out 0).trans rfl; have hcz20_1 : w19.cell? ⟨gb243, 1, none⟩ = some (.bool false) := (blk_cell BK243.out 1).trans rfl; have hfz20_0 := blk_frozen BK243.out 0; have hfz20_1 := blk_frozen BK243.out 1))
           go_loopg [37] k2 (fun kq v37 w' => ∃ (x5_3 : List Int) (x37_3 : Int), v37 = .int .i64 x37_3 ∧ Aside0 (impl_countsOf.l2 kq x5_3 l0 (l0.length : Int) x30_2 ((rd_T60 l0 x30_2).f0) (((rd_T60 l0 x30_2).f0).length : Int) x37_3 = some r) ∧ Aside0 (kq ≤ k2) ∧ Aside0 (Kd.R (Kd.int .i64) 3 w' w.heap.size (fun _ => True) v237 x5_3) ∧ Aside0 (w'.heap[gb243]? = some (.cells #[(.slice A242_0 ((rd_T60 l0 x30_2).f0).length c242_0), .bool ((rd_T60 l0 x30_2).f1)] 60 (0, 0))) ∧ Aside0 (Below w.heap.size w w'))
           case atStart => exact ⟨(x5_2), (0), (by first | rfl | (simp; done) | (simp [*]; done)), H', ⟨Nat.le_refl _⟩, ⟨by (with_reducible repeat (first | apply Kd.R_alloc | apply Kd.R_drewN | apply Kd.R_drew)); exact Kd.R_mono (Kd.R_far (p := ⟨gb243, 1, none⟩) (Kd.R_far (p := ⟨gb243, 0, none⟩) (Kd.R_types HO_5.out BK243.out (by decide)) (fun _ hk => hk.2) (.slice A242_0 ((rd_T60 l0 x30_2).f0).length c242_0)) (fun _ hk => hk.2) (.bool ((rd_T60 l0 x30_2).f1))) (fun _ hk => trivial)⟩, ⟨by (with_reducible repeat (first | refine Op.b1 ?_ _ | refine Op.b2 ?_ | refine Op.b3 ?_ _)); refine blk_put (cs := #[.slice A242_0 ((rd_T60 l0 x30_2).f0).length c242_0, .bool false]) ?_ 1 _ rfl; (with_reducible repeat (first | refine Op.b1 ?_ _ | refine Op.b2 ?_ | refine Op.b3 ?_ _)); refine blk_put (cs := #[.slice none 0 0, .bool false]) ?_ 0 _ rfl; (with_reducible repeat (first | refine Op.b1 ?_ _ | refine Op.b2 ?_ | refine Op.b3 ?_ _)); exact BK243.out⟩, ⟨by repeat (first | (with_reducible first | exact HB.out | apply Op.a1 | apply Op.a2 | apply Op.a3 | refine Op.a4 ?_ GE243.out) | exact HB.out)⟩⟩
           case round =>
            clear H'
            try clear c1
            try clear p1
            try clear q1
            try clear hx1
            try clear c2
            try clear p2
            try clear q2
            try clear hx2
            try clear c3
            try clear c3b0
            try clear c3b1
            try clear c4
            try clear c4b0
            try clear c4b1
            try clear c6
            try clear p6
            try clear c7
            try clear c7b0
            try clear c8
            try clear c8b0
            try clear c9
            try clear c9b0
            try clear c10
            try clear c10b0
            try clear c11
            try clear c11b0
            try clear p12
            try clear q12
            try clear hx12
            try clear hf12
            try clear c16
            try clear c16b0
            try clear c17
            try clear c17b0
            try clear c18
            try clear c18b0
            try clear hcz20_0
            try clear hcz20_1
            try clear hfz20_0
            try clear hfz20_1
            try clear hx12_0
            try clear hx239_0
            try clear hx240_0
            try clear hx242_0
            try clear hx242_1
            try clear p1
            try clear p12
            try clear p2
            try clear p239
            try clear p240
            try clear p242
            try clear p6
            try clear q1
            try clear q12
            try clear q2
            try clear q239
            try clear q240
            try clear q242
            obtain ⟨x5_3, x37_3, rfl, HA, HK3, HO_5, BK243, HB⟩ := hrel
            cases gk with
            | zero => exact absurd HA.out (by simp [impl_countsOf.l2])
            | succ k3 =>
             have H := HA.out
             clear HA
             simp only [impl_countsOf.l2] at H
             by_cases c21 : x37_3 < (((rd_T60 l0 x30_2).f0).length : Int)
             ·rw [if_pos c21] at H
              have c21b0 : decide (x37_3 < (((rd_T60 l0 x30_2).f0).length : Int)) = true := decide_eq_true c21
              clear c21
              by_cases c22 : 0 ≤ x37_3
              ·rw [if_pos c22] at H
               have c22b0 : decide (0 ≤ x37_3) = true := decide_eq_true c22
               clear c22
               by_cases c23 : x37_3 < (((rd_T60 l0 x30_2).f0).length : Int)
               ·rw [if_pos c23] at H
                have c23b0 : decide (x37_3 < (((rd_T60 l0 x30_2).f0).length : Int)) = true := decide_eq_true c23
                clear c23
                by_cases c24 : 0 ≤ (rd ((rd_T60 l0 x30_2).f0) x37_3)
                ·rw [if_pos c24] at H
                 have c24b0 : decide (0 ≤ (rd ((rd_T60 l0 x30_2).f0) x37_3)) = true := decide_eq_true c24
                 clear c24
                 by_cases c25 : (rd ((rd_T60 l0 x30_2).f0) x37_3) < (x5_3.length : Int)
                 ·rw [if_pos c25] at H
                  have c25b0 : decide ((rd ((rd_T60 l0 x30_2).f0) x37_3) < (x5_3.length : Int)) = true := decide_eq_true c25
                  clear c25
                  obtain ⟨y246, hy246⟩ : ∃ y_ : List Int, y_ = (x5_3.set ((rd ((rd_T60 l0 x30_2).f0) x37_3) : Int).toNat (wrap64 ((rd x5_3 (rd ((rd_T60 l0 x30_2).f0) x37_3)) + 1))) := ⟨_, rfl⟩
                  replace H : (impl_countsOf.l2 k3 y246 l0 (l0.length : Int) x30_2 ((rd_T60 l0 x30_2).f0) (((rd_T60 l0 x30_2).f0).length : Int) (wrap64 (x37_3 + 1))) = some r := by first | (rw [hy246]; with_reducible exact H) | (have H2_ := (Option.bind_some _ _).symm.trans H; rw [hy246]; with_reducible exact H2_) | (have H2_ := (Option.bind_some _ _).symm.trans H; with_reducible exact H2_) | with_reducible exact H | (rw [hy246]; exact H) | exact H
                  have Ny246 := Aside0.mk hy246
                  clear hy246
                  have H' := Aside0.mk H
                  clear H
                  have p244 : 0 ≤ (x37_3 : Int) := of_decide_eq_true (by first | (with_reducible assumption) | assumption)
                  have q244 : x37_3 < (((rd_T60 l0 x30_2).f0).length : Int) := of_decide_eq_true (by first | (with_reducible assumption) | assumption)
                  obtain ⟨ad244, e244, hx244_0⟩ := Kd.at_int HR242_0.out x37_3 p244 q244
                  cases e244
                  replace hx244_0 := (HB.out.cell (World.block_lt_of_cell? w _ hx244_0)).trans hx244_0
                  replace p244 := eq_true p244
                  replace q244 := eq_true q244
                  obtain ⟨Ao27, co27, eo27⟩ := Kd.R_slice HO_5.out
                  subst eo27
                  have p245 : 0 ≤ ((rd ((rd_T60 l0 x30_2).f0) x37_3) : Int) := of_decide_eq_true (by first | (with_reducible assumption) | assumption)
                  have q245 : (rd ((rd_T60 l0 x30_2).f0) x37_3) < (x5_3.length : Int) := of_decide_eq_true (by first | (with_reducible assumption) | assumption)
                  obtain ⟨ad245, e245, hx245_0⟩ := Kd.at_int (Kd.R_reads' HO_5.out).2.2 (rd ((rd_T60 l0 x30_2).f0) x37_3) p245 q245
                  cases e245
                  replace p245 := eq_true p245
                  replace q245 := eq_true q245
                  have p26 : 0 ≤ ((rd ((rd_T60 l0 x30_2).f0) x37_3) : Int) := of_decide_eq_true (by first | (with_reducible assumption) | assumption)
                  have q26 : ((rd ((rd_T60 l0 x30_2).f0) x37_3) : Int) < ((x5_3.length : Int) : Int) := of_decide_eq_true (by first | (with_reducible assumption) | assumption)
                  obtain ⟨go26, co26, eo26, gb26, gl26, cl26, HG26⟩ := Kd.R_form HO_5.out (by omega)
                  (first | cases eo26 | (injection eo26 with ea_ en_ ec_; (first | subst ea_ | (injection ea_ with ea_; subst ea_)); subst ec_; clear en_))
                  have GB26 := Aside0.mk gb26
                  have GG26 := Aside0.mk HG26
                  clear gb26 gl26 HG26
                  (first | simp only [add_plain] at hx245_0 | skip)
                  obtain ⟨hx26_0, hf26_0⟩ := Kd.R_celln 0 HO_5.out ((rd ((rd_T60 l0 x30_2).f0) x37_3) : Int) p26 q26
                  replace p26 := eq_true p26
                  replace q26 := eq_true q26
                  have HP28 := Kd.R_putg HO_5.out ((rd ((rd_T60 l0 x30_2).f0) x37_3) : Int) (wrap64 ((rd x5_3 (rd ((rd_T60 l0 x30_2).f0) x37_3)) + 1))
                  go_wp2_with (first | ((with_reducible refine gate_store (t := 3) (p := 46) rfl ?_); refine store_event (t := 3) (p := 46) (v := ?vo_w29) (w1 := (wr.setCell ⟨go26, ((rd ((rd_T60 l0 x30_2).f0) x37_3) : Int).toNat, none⟩ (.int .i64 (wrap64 ((rd x5_3 (rd ((rd_T60 l0 x30_2).f0) x37_3)) + 1))))) ?hg ?ho ?hn ?hr ?_; (case ho => rfl); (case hg => rfl); (case hn => rfl); (case hr => first | (go_simp; done) | (go_simp; rfl)); intro w29 hw; have hg : wr.grownBy w29 (some go26) := (by rw [hw]; exact HP28.2); have hp_ : Kd.R (Kd.int .i64) 3 w29 w.heap.size (fun _ => True) (.slice (some ⟨go26, 0, none⟩) x5_3.length co27) y246 := (by rw [hw, Ny246.out]; exact HP28.1); clear HP28; have n0_ := Aside0.mk (hp_); have n1_ := Aside0.mk (blk_grown (g := gb243) (o := .cells #[.slice (some ad244) ((rd_T60 l0 x30_2).f0).length c242_0, .bool ((rd_T60 l0 x30_2).f1)] 60 (0, 0)) (by (with_reducible repeat (first | refine Op.b1 ?_ _ | refine Op.b2 ?_ | refine Op.b3 ?_ _)); exact BK243.out) hg (Kd.R_ne HO_5.out BK243.out (by decide))); have n2_ := Aside0.mk ((by rw [hw]; exact below_set (HB.out) GB26.out : Below w.heap.size w w29)); clear HO_5; clear BK243; clear HB; have HO_5 := n0_; have BK243 := n1_; have HB := n2_; clear n0_ n1_ n2_; clear hg hw hp_))
                  go_roundg k3
                  case measure => have := HK1.out; have := HK2.out; have := HK3.out; omega
                  case rel => exact ⟨(y246), (wrap64 (x37_3 + 1)), (by first | rfl | (simp; done) | (simp [*]; done)), H', ⟨by have := HK1.out; have := HK2.out; have := HK3.out; omega⟩, ⟨by (with_reducible repeat (first | apply Kd.R_alloc | apply Kd.R_drewN | apply Kd.R_drew)); exact HO_5.out⟩, ⟨by (with_reducible repeat (first | refine Op.b1 ?_ _ | refine Op.b2 ?_ | refine Op.b3 ?_ _)); exact BK243.out⟩, ⟨by repeat (first | (with_reducible first | exact HB.out | apply Op.a1 | apply Op.a2 | apply Op.a3 | refine Op.a4 ?_ GE243.out) | exact HB.out)⟩⟩
                 ·rw [if_neg c25] at H
                  exact absurd H (by simp)
                ·rw [if_neg c24] at H
                 exact absurd H (by simp)
               ·rw [if_neg c23] at H
                exact absurd H (by simp)
              ·rw [if_neg c22] at H
               exact absurd H (by simp)
             ·rw [if_neg c21] at H
              have c21b0 : decide (x37_3 < (((rd_T60 l0 x30_2).f0).length : Int)) = false := decide_eq_false c21
              clear c21
              have H' := Aside0.mk H
              clear H
              go_wp2
              go_roundg k3
              case measure => have := HK1.out; have := HK2.out; have := HK3.out; omega
              case rel => exact ⟨(x5_3), (wrap64 (x30_2 + 1)), (by first | rfl | (simp; done) | (simp [*]; done)), H', ⟨by have := HK1.out; have := HK2.out; have := HK3.out; omega⟩, ⟨by (with_reducible repeat (first | apply Kd.R_alloc | apply Kd.R_drewN | apply Kd.R_drew)); exact HO_5.out⟩, ⟨by repeat (first | (with_reducible first | exact HB.out | apply Op.a1 | apply Op.a2 | apply Op.a3 | refine Op.a4 ?_ GE243.out) | exact HB.out)⟩⟩
          ·rw [if_neg c18] at H
           exact absurd H (by simp)
         ·rw [if_neg c17] at H
          exact absurd H (by simp)
        ·rw [if_neg c16] at H
         have c16b0 : decide (x30_2 < (l0.length : Int)) = false := decide_eq_false c16
         clear c16
         obtain rfl := Option.some.inj H
         go_wp2
         go_ret
         exact ⟨_, by first | rfl | (simp [errW_none, errW_some] <;> rfl) | (simp [*, errW_none, errW_some] <;> rfl), by (with_reducible repeat (first | apply Kd.R_alloc | apply Kd.R_drewN | apply Kd.R_drew)); exact HO_5.out, by repeat (first | (with_reducible first | exact HB.out | apply Op.a1 | apply Op.a2 | apply Op.a3) | exact HB.out)⟩
  ·rw [if_neg c4] at H
   exact absurd H (by simp)
 ·rw [if_neg c3] at H
  exact absurd H (by simp)

/-! ### slices_Equal_int_int: function 64 -/
def slices_Equal_int_int.l0 : Nat → List Int → List Int → Int → Int → Option (Bool)
 | 0, _, _, _, _ => none
 | k + 1, x0, x1, x12, x13 => if x13 < x12 then (if 0 ≤ x13 then (if x13 < (x0.length : Int) then (if x13 < (x1.length : Int) then (if (rd x0 x13) = (rd x1 x13) then (slices_Equal_int_int.l0 k x0 x1 x12 (wrap64 (x13 + 1))) else (some false)) else (none)) else (none)) else (none)) else (some true)
def slices_Equal_int_int.f (k : Nat) (l0 : List Int) (l1 : List Int) : Option (Bool) := if (l0.length : Int) = (l1.length : Int) then (slices_Equal_int_int.l0 k l0 l1 (l0.length : Int) 0) else (some false)
theorem slices_Equal_int_int.mono_l : ∀ k, (∀ y0 y1 y2 y3, LeO (slices_Equal_int_int.l0 k y0 y1 y2 y3) (slices_Equal_int_int.l0 (k + 1) y0 y1 y2 y3))
 | 0 => fun _ _ _ _ r h => by simp [slices_Equal_int_int.l0] at h
 | k + 1 => by
  have ih0 := slices_Equal_int_int.mono_l k
  ·intro y0 y1 y2 y3
   unfold slices_Equal_int_int.l0
   repeat' first
   | (with_reducible exact ih0 _ _ _ _)
   | (with_reducible exact LeO.refl _)
   | (with_reducible exact LeO.none _)
   | (with_reducible refine LeO.ite ?_ ?_)
   | (with_reducible refine LeO.bind ?_ (fun _ => ?_))
   | exact ih0 _ _ _ _
   | exact LeO.none _
   | refine LeO.ite ?_ ?_
   | refine LeO.bind ?_ (fun _ => ?_)
theorem slices_Equal_int_int.mono : ∀ a0 a1 k, LeO (slices_Equal_int_int.f k a0 a1) (slices_Equal_int_int.f (k + 1) a0 a1) := by
 intro a0 a1 k
 have ih0 := slices_Equal_int_int.mono_l k
 unfold slices_Equal_int_int.f
 repeat' first
   | (with_reducible exact ih0 _ _ _ _)
   | (with_reducible exact LeO.refl _)
   | (with_reducible exact LeO.none _)
   | (with_reducible refine LeO.ite ?_ ?_)
   | (with_reducible refine LeO.bind ?_ (fun _ => ?_))
   | exact ih0 _ _ _ _
   | exact LeO.none _
   | refine LeO.ite ?_ ?_
   | refine LeO.bind ?_ (fun _ => ?_)
set_option maxHeartbeats 8000000 in
set_option maxRecDepth 100000 in
theorem slices_Equal_int_int.calls (k : Nat) (A0 : Option Addr) (c0 : Nat) (l0 : List Int) (A1 : Option Addr) (c1 : Nat) (l1 : List Int) (r : Bool) (w : World) (hr0 : Kd.C (Kd.int .i64) w A0 l0.length l0) (hc0 : l0.length ≤ c0) (hr1 : Kd.C (Kd.int .i64) w A1 l1.length l1) (hc1 : l1.length ≤ c1) (h : slices_Equal_int_int.f k l0 l1 = some r) :
  Calls Try.prog 64 #[.slice A0 l0.length c0, .slice A1 l1.length c1] w fun e w' => e = .returned (.bool r) ∧ Drawn0 w w' := by
 have HR0 := Aside0.mk hr0
 have HC0 := Aside0.mk hc0
 clear hr0 hc0
 have HR1 := Aside0.mk hr1
 have HC1 := Aside0.mk hc1
 clear hr1 hc1
 have H : (if (l0.length : Int) = (l1.length : Int) then (slices_Equal_int_int.l0 k l0 l1 (l0.length : Int) 0) else (some false)) = some r := h
 clear h
 by_cases c3 : (l0.length : Int) = (l1.length : Int)
 ·rw [if_pos c3] at H
  have c3b0 : ((l0.length : Int) == (l1.length : Int)) = true := beq_iff_eq.mpr c3
  have c3b1 : ((l0.length : Int) != (l1.length : Int)) = false := bne_eq_false_iff_eq.mpr c3
  have c3b2 : (l0.length == l1.length) = true := by first | simpa using c3 | (simp at c3 ⊢; omega)
  clear c3
  have H' := Aside0.mk H
  clear H
  go_enter Try.func64, Try.ntmps64
  go_wp2
  repeat (go_quiet (fail); try go_wp2)
  go_loopg [13] k (fun kq v13 w' => ∃ (x13_1 : Int), v13 = .int .i64 x13_1 ∧ Aside0 (slices_Equal_int_int.l0 kq l0 l1 (l0.length : Int) x13_1 = some r) ∧ Aside0 (kq ≤ k) ∧ Drawn0 w w')
  case atStart => exact ⟨(0), (by first | rfl | (simp; done) | (simp [*]; done)), H', ⟨Nat.le_refl _⟩, by repeat (first | exact Drawn0.refl _ | apply Drawn0.step)⟩
  case round =>
   clear H'
   try clear c1
   try clear p2
   try clear c3
   try clear c3b0
   try clear c3b1
   try clear c3b2
   obtain ⟨x13_1, rfl, HA, HK1, ⟨m1, rfl⟩⟩ := hrel
   cases gk with
   | zero => exact absurd HA.out (by simp [slices_Equal_int_int.l0])
   | succ k1 =>
    have H := HA.out
    clear HA
    simp only [slices_Equal_int_int.l0] at H
    by_cases c4 : x13_1 < (l0.length : Int)
    ·rw [if_pos c4] at H
     have c4b0 : decide (x13_1 < (l0.length : Int)) = true := decide_eq_true c4
     clear c4
     by_cases c5 : 0 ≤ x13_1
     ·rw [if_pos c5] at H
      have c5b0 : decide (0 ≤ x13_1) = true := decide_eq_true c5
      clear c5
      by_cases c6 : x13_1 < (l0.length : Int)
      ·rw [if_pos c6] at H
       have c6b0 : decide (x13_1 < (l0.length : Int)) = true := decide_eq_true c6
       clear c6
       by_cases c7 : x13_1 < (l1.length : Int)
       ·rw [if_pos c7] at H
        have c7b0 : decide (x13_1 < (l1.length : Int)) = true := decide_eq_true c7
        clear c7
        by_cases c8 : (rd l0 x13_1) = (rd l1 x13_1)
        ·rw [if_pos c8] at H
         have c8b0 : ((rd l0 x13_1) == (rd l1 x13_1)) = true := beq_iff_eq.mpr c8
         have c8b1 : ((rd l0 x13_1) != (rd l1 x13_1)) = false := bne_eq_false_iff_eq.mpr c8
         clear c8
         have H' := Aside0.mk H
         clear H
         have p247 : 0 ≤ (x13_1 : Int) := of_decide_eq_true (by first | (with_reducible assumption) | assumption)
         have q247 : x13_1 < (l0.length : Int) := of_decide_eq_true (by first | (with_reducible assumption) | assumption)
         obtain ⟨ad247, e247, hx247_0⟩ := Kd.at_int HR0.out x13_1 p247 q247
         cases e247
         replace p247 := eq_true p247
         replace q247 := eq_true q247
         have p248 : 0 ≤ (x13_1 : Int) := of_decide_eq_true (by first | (with_reducible assumption) | assumption)
         have q248 : x13_1 < (l1.length : Int) := of_decide_eq_true (by first | (with_reducible assumption) | assumption)
         obtain ⟨ad248, e248, hx248_0⟩ := Kd.at_int HR1.out x13_1 p248 q248
         cases e248
         replace p248 := eq_true p248
         replace q248 := eq_true q248
         go_wp2
         repeat (go_quiet (fail); try go_wp2)
         go_roundg k1
         case measure => have := HK1.out; omega
         case rel => exact ⟨(wrap64 (x13_1 + 1)), (by first | rfl | (simp; done) | (simp [*]; done)), H', ⟨by have := HK1.out; omega⟩, by repeat (first | exact Drawn0.refl _ | apply Drawn0.step)⟩
        ·rw [if_neg c8] at H
         have c8b0 : ((rd l0 x13_1) == (rd l1 x13_1)) = false := beq_eq_false_iff_ne.mpr c8
         have c8b1 : ((rd l0 x13_1) != (rd l1 x13_1)) = true := bne_iff_ne.mpr c8
         obtain rfl := Option.some.inj H
         have p247 : 0 ≤ (x13_1 : Int) := of_decide_eq_true (by first | (with_reducible assumption) | assumption)
         have q247 : x13_1 < (l0.length : Int) := of_decide_eq_true (by first | (with_reducible assumption) | assumption)
         obtain ⟨ad247, e247, hx247_0⟩ := Kd.at_int HR0.out x13_1 p247 q247
         cases e247
         replace p247 := eq_true p247
         replace q247 := eq_true q247
         have p248 : 0 ≤ (x13_1 : Int) := of_decide_eq_true (by first | (with_reducible assumption) | assumption)
         have q248 : x13_1 < (l1.length : Int) := of_decide_eq_true (by first | (with_reducible assumption) | assumption)
         obtain ⟨ad248, e248, hx248_0⟩ := Kd.at_int HR1.out x13_1 p248 q248
         cases e248
         replace p248 := eq_true p248
         replace q248 := eq_true q248
         go_wp2
         repeat (go_quiet (fail); try go_wp2)
         go_ret
         exact ⟨by first | rfl | (simp; done) | (simp [*]; done), by repeat (first | exact Drawn0.refl _ | apply Drawn0.step)⟩
       ·rw [if_neg c7] at H
        exact absurd H (by simp)
      ·rw [if_neg c6] at H
       exact absurd H (by simp)
     ·rw [if_neg c5] at H
      exact absurd H (by simp)
    ·rw [if_neg c4] at H
     have c4b0 : decide (x13_1 < (l0.length : Int)) = false := decide_eq_false c4
     clear c4
     obtain rfl := Option.some.inj H
     go_wp2
     repeat (go_quiet (fail); try go_wp2)
     go_ret
     exact ⟨by first | rfl | (simp; done) | (simp [*]; done), by repeat (first | exact Drawn0.refl _ | apply Drawn0.step)⟩
 ·rw [if_neg c3] at H
  have c3b0 : ((l0.length : Int) == (l1.length : Int)) = false := beq_eq_false_iff_ne.mpr c3
  have c3b1 : ((l0.length : Int) != (l1.length : Int)) = true := bne_iff_ne.mpr c3
  have c3b2 : (l0.length == l1.length) = false := by first | simpa using c3 | (simp at c3 ⊢; omega)
  obtain rfl := Option.some.inj H
  go_enter Try.func64, Try.ntmps64
  go_wp2
  repeat (go_quiet (fail); try go_wp2)
  go_ret
  exact ⟨by first | rfl | (simp; done) | (simp [*]; done), by repeat (first | exact Drawn0.refl _ | apply Drawn0.step)⟩

end Go.Proofs.Ytdhclelfnbjikaa.PFnExactReachedIn
