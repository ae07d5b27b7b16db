/- Contracts of functions of the translation, written by a program of this repo (a changed copy of the printer). Not trusted: Lean checks it. -/
-- squeezed
-- compact
import Derived.Test.YtnafnpoflheonaaCc
import Derived.Test.YtnafnpoflheonaaPFnVersionsx0
import Derived.Test.YtnafnpoflheonaaPFnVersionsx1
namespace Go.Proofs.Ytnafnpoflheonaa.PFnVersions
open Go.RowKit Go.Proofs.YtnafnpoflheonaaW.PrintWords Go.Proofs.YtnafnpoflheonaaW.PrintLast Go.Proofs.YtnafnpoflheonaaW.PrintMore
attribute [local go_sem] max2_int min2_int max_two min_two max_three min_three max_four min_four   -- for this text's walks alone
set_option linter.unusedVariables false
set_option linter.unusedSimpArgs false

/-! ### impl_within: function 57 -/
def impl_within.f (a0 : Int) (a1 : Int) (a2 : Int) : Option (Bool) := if a0 ≥ a1 then (some (decide (a0 ≤ a2))) else (some false)
set_option maxHeartbeats 8000000 in
set_option maxRecDepth 100000 in
theorem impl_within.calls (a0 : Int) (a1 : Int) (a2 : Int) (r : Bool) (w : World) (h : impl_within.f a0 a1 a2 = some r) :
  Calls Try.prog 57 #[.int .i64 a0, .int .i64 a1, .int .i64 a2] w fun e w' => e = .returned (.bool r) ∧ Drawn0 w w' := by
 have H : (if a0 ≥ a1 then (some (decide (a0 ≤ a2))) else (some false)) = some r := h
 clear h
 by_cases c4 : a0 ≥ a1
 ·rw [if_pos c4] at H
  have c4b0 : decide (a1 ≤ a0) = true := decide_eq_true c4
  clear c4
  obtain rfl := Option.some.inj H
  go_enter Try.func57, Try.ntmps57
  go_wp2
  go_ret
  exact ⟨by first | rfl | (simp; done) | (simp [*]; done), by repeat (first | exact Drawn0.refl _ | apply Drawn0.step)⟩
 ·rw [if_neg c4] at H
  have c4b0 : decide (a1 ≤ a0) = false := decide_eq_false c4
  clear c4
  obtain rfl := Option.some.inj H
  go_enter Try.func57, Try.ntmps57
  go_wp2
  go_ret
  exact ⟨by first | rfl | (simp; done) | (simp [*]; done), by repeat (first | exact Drawn0.refl _ | apply Drawn0.step)⟩

/-! ### impl_isKid: function 55 -/
def impl_isKid.f (l0_0 : List (S65)) (l0_1 : List Int) (a1 : Int) (a2 : Int) : Option (Bool) := if 0 ≤ a1 then (if a1 < (l0_0.length : Int) then (if (rd_T65 l0_0 a1).f1 = true then ((impl_within.f a2 0 9999).bind fun t103 => (some t103)) else (if a2 = (-1) then (some true) else ((impl_within.f a2 0 (wrap64 (a1 - 1))).bind fun t104 => (if t104 = true then (if 0 ≤ a2 then (if a2 < (l0_0.length : Int) then (some ((rd_T65 l0_0 a2).f1)) else (none)) else (none)) else (some false))))) else (none)) else (none)
set_option maxHeartbeats 8000000 in
set_option maxRecDepth 100000 in
theorem impl_isKid.calls (A0_0 : Option Addr) (c0_0 : Nat) (l0_0 : List (S65)) (A0_1 : Option Addr) (c0_1 : Nat) (l0_1 : List Int) (a1 : Int) (a2 : Int) (r : Bool) (w : World) (hr0_0 : Kd.C k65 w A0_0 l0_0.length l0_0) (hc0_0 : l0_0.length ≤ c0_0) (hr0_1 : Kd.C (Kd.int .i64) w A0_1 l0_1.length l0_1) (hc0_1 : l0_1.length ≤ c0_1) (h : impl_isKid.f l0_0 l0_1 a1 a2 = some r) :
  Calls Try.prog 55 #[.agg #[.slice A0_0 l0_0.length c0_0, .slice A0_1 l0_1.length c0_1], .int .i64 a1, .int .i64 a2] w fun e w' => e = .returned (.bool r) ∧ Below w.heap.size w w' := by
 have hu25 := Try.underlying25
 have HR0_0 := Op.k hr0_0
 have HC0_0 := Op.k hc0_0
 clear hr0_0 hc0_0
 have HR0_1 := Op.k hr0_1
 have HC0_1 := Op.k hc0_1
 clear hr0_1 hc0_1
 have HB := Op.k (Below.refl w.heap.size w)
 have H : (if 0 ≤ a1 then (if a1 < (l0_0.length : Int) then (if (rd_T65 l0_0 a1).f1 = true then ((impl_within.f a2 0 9999).bind fun t103 => (some t103)) else (if a2 = (-1) then (some true) else ((impl_within.f a2 0 (wrap64 (a1 - 1))).bind fun t104 => (if t104 = true then (if 0 ≤ a2 then (if a2 < (l0_0.length : Int) then (some ((rd_T65 l0_0 a2).f1)) else (none)) else (none)) else (some false))))) else (none)) else (none)) = some r := h
 clear h
 by_cases c4 : 0 ≤ a1
 ·rw [if_pos c4] at H
  have c4b0 : decide (0 ≤ a1) = true := decide_eq_true c4
  clear c4
  by_cases c5 : a1 < (l0_0.length : Int)
  ·rw [if_pos c5] at H
   have c5b0 : decide (a1 < (l0_0.length : Int)) = true := decide_eq_true c5
   clear c5
   obtain ⟨bq6, hbq6⟩ : ∃ b_ : Bool, b_ = ((rd_T65 l0_0 a1).f1) := ⟨_, rfl⟩
   replace H : (if bq6 = true then ((impl_within.f a2 0 9999).bind fun t103 => (some t103)) else (if a2 = (-1) then (some true) else ((impl_within.f a2 0 (wrap64 (a1 - 1))).bind fun t104 => (if t104 = true then (if 0 ≤ a2 then (if a2 < (l0_0.length : Int) then (some ((rd_T65 l0_0 a2).f1)) else (none)) else (none)) else (some false))))) = some r := by rw [← hbq6] at H; exact H
   have Nbq6 := Op.k hbq6
   clear hbq6
   by_cases c7 : bq6 = true
   ·subst c7
    have H1 : ((impl_within.f a2 0 9999).bind fun t103 => (some t103)) = some r := by rw [if_pos rfl] at H; exact H
    clear H
    have H := H1
    clear H1
    replace H := Option.bind_eq_some_iff.mp H
    obtain ⟨t103, A80, H⟩ := H
    replace H : (some t103) = some r := H
    have A8 := Op.k A80
    clear A80
    obtain rfl := Option.some.inj H
    go_enter Try.func55, Try.ntmps55
    go_wp2_with (first | ((with_reducible refine gate_dst (N := 3) rfl ?_); refine box_event ?hg (N := 3) ?hd (cs := #[.slice A0_0 l0_0.length c0_0, .slice A0_1 l0_1.length c0_1]) (t := 25) ?hr ?_; (case hd => rfl); (case hg => rfl); (case hr => first | (go_simp; done) | (go_simp; rfl)); intro gb101 hg w9 hbox hb; have BK101 := Op.k (hbox); have GW101 := Op.k ((Op.nz hg (Op.ht HB.out) : w.heap.size ≤ gb101)); have GE101 := Op.k ((Op.nz hg (Op.ht HB.out) : w.heap.size ≤ gb101)); replace HB := Op.k (Op.a5 (Op.ht HB.out) hb); clear hb hbox hg; have hcz10_0 := Op.c0 BK101.out; have hcz10_1 := Op.c1 BK101.out; have hfz10_0 := Op.bf BK101.out 0; have hfz10_1 := Op.bf BK101.out 1; have p102 : 0 ≤ (a1 : Int) := Op.dt; have q102 : a1 < (l0_0.length : Int) := Op.dt; obtain ⟨ad102, A102_0, c102_0, e102, hx102_0, hx102_1, hl102_0, hi102_0⟩ := at_T65 HR0_0.out a1 p102 q102; (try rw [← Nbq6.out] at hx102_1); cases e102; replace hx102_0 := (HB.out.cell (World.block_lt_of_cell? w _ hx102_0)).trans hx102_0; replace hx102_1 := (HB.out.cell (World.block_lt_of_cell? w _ hx102_1)).trans hx102_1; have HR102_0 := Op.k hi102_0; have HC102_0 := Op.k hl102_0; clear hi102_0 hl102_0; replace p102 := eq_true p102; replace q102 := eq_true q102) | ((with_reducible refine gate_callee (f := 57) rfl ?_); refine goesL_ (some 14) rfl rfl Try.func57 (by kernel_rfl) rfl #[.int .i64 a2, .int .i64 0, .int .i64 9999] rfl (by (try simp only [List.map_toArray, List.map_cons, List.map_nil]); first | done | rfl | (simp only [List.length_drop, List.length_take]; rfl)) ?_; (with_reducible refine (impl_within.calls a2 0 9999 t103 _ A8.out).mono ?_); rintro e w' ⟨rfl, ⟨nd, rfl⟩⟩; refine ⟨_, rfl, ?_⟩))
    go_ret
    exact ⟨by first | rfl | (simp [errW_none, errW_some] <;> rfl) | (simp [*, errW_none, errW_some] <;> rfl), Op.ht HB.out⟩
   ·replace c7 := Bool.eq_false_iff.mpr c7
    subst c7
    have H1 : (if a2 = (-1) then (some true) else ((impl_within.f a2 0 (wrap64 (a1 - 1))).bind fun t104 => (if t104 = true then (if 0 ≤ a2 then (if a2 < (l0_0.length : Int) then (some ((rd_T65 l0_0 a2).f1)) else (none)) else (none)) else (some false)))) = some r := by rw [if_neg (show ¬ (false = true) by decide)] at H; exact H
    clear H
    have H := H1
    clear H1
    by_cases c11 : a2 = (-1)
    ·rw [if_pos c11] at H
     have c11b0 : (a2 == (-1)) = true := beq_iff_eq.mpr c11
     have c11b1 : (a2 != (-1)) = false := bne_eq_false_iff_eq.mpr c11
     clear c11
     obtain rfl := Option.some.inj H
     go_enter Try.func55, Try.ntmps55
     go_wp2_with (first | ((with_reducible refine gate_dst (N := 3) rfl ?_); refine box_event ?hg (N := 3) ?hd (cs := #[.slice A0_0 l0_0.length c0_0, .slice A0_1 l0_1.length c0_1]) (t := 25) ?hr ?_; (case hd => rfl); (case hg => rfl); (case hr => first | (go_simp; done) | (go_simp; rfl)); intro gb101 hg w12 hbox hb; have BK101 := Op.k (hbox); have GW101 := Op.k ((Op.nz hg (Op.ht HB.out) : w.heap.size ≤ gb101)); have GE101 := Op.k ((Op.nz hg (Op.ht HB.out) : w.heap.size ≤ gb101)); replace HB := Op.k (Op.a5 (Op.ht HB.out) hb); clear hb hbox hg; have hcz13_0 := Op.c0 BK101.out; have hcz13_1 := Op.c1 BK101.out; have hfz13_0 := Op.bf BK101.out 0; have hfz13_1 := Op.bf BK101.out 1; have p102 : 0 ≤ (a1 : Int) := Op.dt; have q102 : a1 < (l0_0.length : Int) := Op.dt; obtain ⟨ad102, A102_0, c102_0, e102, hx102_0, hx102_1, hl102_0, hi102_0⟩ := at_T65 HR0_0.out a1 p102 q102; (try rw [← Nbq6.out] at hx102_1); cases e102; replace hx102_0 := (HB.out.cell (World.block_lt_of_cell? w _ hx102_0)).trans hx102_0; replace hx102_1 := (HB.out.cell (World.block_lt_of_cell? w _ hx102_1)).trans hx102_1; have HR102_0 := Op.k hi102_0; have HC102_0 := Op.k hl102_0; clear hi102_0 hl102_0; replace p102 := eq_true p102; replace q102 := eq_true q102))
     go_ret
     exact ⟨by first | rfl | (simp [errW_none, errW_some] <;> rfl) | (simp [*, errW_none, errW_some] <;> rfl), Op.ht HB.out⟩
    ·rw [if_neg c11] at H
     have c11b0 : (a2 == (-1)) = false := beq_eq_false_iff_ne.mpr c11
     have c11b1 : (a2 != (-1)) = true := bne_iff_ne.mpr c11
     replace H := Option.bind_eq_some_iff.mp H
     obtain ⟨t104, A140, H⟩ := H
     try dsimp only at H
     have A14 := Op.k A140
     clear A140
     by_cases c15 : t104 = true
     ·subst c15
      have H1 : (if 0 ≤ a2 then (if a2 < (l0_0.length : Int) then (some ((rd_T65 l0_0 a2).f1)) else (none)) else (none)) = some r := by rw [if_pos rfl] at H; exact H
      clear H
      have H := H1
      clear H1
      by_cases c16 : 0 ≤ a2
      ·rw [if_pos c16] at H
       have c16b0 : decide (0 ≤ a2) = true := decide_eq_true c16
       clear c16
       by_cases c17 : a2 < (l0_0.length : Int)
       ·rw [if_pos c17] at H
        have c17b0 : decide (a2 < (l0_0.length : Int)) = true := decide_eq_true c17
        clear c17
        obtain rfl := Option.some.inj H
        go_enter Try.func55, Try.ntmps55
        go_wp2_with (first | ((with_reducible refine gate_dst (N := 3) rfl ?_); refine box_event ?hg (N := 3) ?hd (cs := #[.slice A0_0 l0_0.length c0_0, .slice A0_1 l0_1.length c0_1]) (t := 25) ?hr ?_; (case hd => rfl); (case hg => rfl); (case hr => first | (go_simp; done) | (go_simp; rfl)); intro gb101 hg w18 hbox hb; have BK101 := Op.k (hbox); have GW101 := Op.k ((Op.nz hg (Op.ht HB.out) : w.heap.size ≤ gb101)); have GE101 := Op.k ((Op.nz hg (Op.ht HB.out) : w.heap.size ≤ gb101)); replace HB := Op.k (Op.a5 (Op.ht HB.out) hb); clear hb hbox hg; have hcz19_0 := Op.c0 BK101.out; have hcz19_1 := Op.c1 BK101.out; have hfz19_0 := Op.bf BK101.out 0; have hfz19_1 := Op.bf BK101.out 1; have p102 : 0 ≤ (a1 : Int) := Op.dt; have q102 : a1 < (l0_0.length : Int) := Op.dt; obtain ⟨ad102, A102_0, c102_0, e102, hx102_0, hx102_1, hl102_0, hi102_0⟩ := at_T65 HR0_0.out a1 p102 q102; (try rw [← Nbq6.out] at hx102_1); cases e102; replace hx102_0 := (HB.out.cell (World.block_lt_of_cell? w _ hx102_0)).trans hx102_0; replace hx102_1 := (HB.out.cell (World.block_lt_of_cell? w _ hx102_1)).trans hx102_1; have HR102_0 := Op.k hi102_0; have HC102_0 := Op.k hl102_0; clear hi102_0 hl102_0; replace p102 := eq_true p102; replace q102 := eq_true q102) | (go_at_call 57; (with_reducible refine (impl_within.calls a2 0 (wrap64 (a1 - 1)) true _ A14.out).mono ?_); rintro e w' ⟨rfl, ⟨nd, rfl⟩⟩; have p105 : 0 ≤ (a2 : Int) := Op.dt; have q105 : a2 < (l0_0.length : Int) := Op.dt; obtain ⟨ad105, A105_0, c105_0, e105, hx105_0, hx105_1, hl105_0, hi105_0⟩ := at_T65 HR0_0.out a2 p105 q105; (try rw [← Nbq6.out] at hx105_1); obtain rfl : ad102 = ad105 := (by injection e105); replace hx105_0 := (HB.out.cell (World.block_lt_of_cell? w _ hx105_0)).trans hx105_0; replace hx105_1 := (HB.out.cell (World.block_lt_of_cell? w _ hx105_1)).trans hx105_1; have HR105_0 := Op.k hi105_0; have HC105_0 := Op.k hl105_0; clear hi105_0 hl105_0; replace p105 := eq_true p105; replace q105 := eq_true q105))
        go_ret
        exact ⟨by first | rfl | (simp [errW_none, errW_some] <;> rfl) | (simp [*, errW_none, errW_some] <;> rfl), Op.ht HB.out⟩
       ·rw [if_neg c17] at H
        exact absurd H (by simp)
      ·rw [if_neg c16] at H
       exact absurd H (by simp)
     ·replace c15 := Bool.eq_false_iff.mpr c15
      subst c15
      have H1 : (some false) = some r := by rw [if_neg (show ¬ (false = true) by decide)] at H; exact H
      clear H
      have H := H1
      clear H1
      obtain rfl := Option.some.inj H
      go_enter Try.func55, Try.ntmps55
      go_wp2_with (first | ((with_reducible refine gate_dst (N := 3) rfl ?_); refine box_event ?hg (N := 3) ?hd (cs := #[.slice A0_0 l0_0.length c0_0, .slice A0_1 l0_1.length c0_1]) (t := 25) ?hr ?_; (case hd => rfl); (case hg => rfl); (case hr => first | (go_simp; done) | (go_simp; rfl)); intro gb101 hg w20 hbox hb; have BK101 := Op.k (hbox); have GW101 := Op.k ((Op.nz hg (Op.ht HB.out) : w.heap.size ≤ gb101)); have GE101 := Op.k ((Op.nz hg (Op.ht HB.out) : w.heap.size ≤ gb101)); replace HB := Op.k (Op.a5 (Op.ht HB.out) hb); clear hb hbox hg; have hcz21_0 := Op.c0 BK101.out; have hcz21_1 := Op.c1 BK101.out; have hfz21_0 := Op.bf BK101.out 0; have hfz21_1 := Op.bf BK101.out 1; have p102 : 0 ≤ (a1 : Int) := Op.dt; have q102 : a1 < (l0_0.length : Int) := Op.dt; obtain ⟨ad102, A102_0, c102_0, e102, hx102_0, hx102_1, hl102_0, hi102_0⟩ := at_T65 HR0_0.out a1 p102 q102; (try rw [← Nbq6.out] at hx102_1); cases e102; replace hx102_0 := (HB.out.cell (World.block_lt_of_cell? w _ hx102_0)).trans hx102_0; replace hx102_1 := (HB.out.cell (World.block_lt_of_cell? w _ hx102_1)).trans hx102_1; have HR102_0 := Op.k hi102_0; have HC102_0 := Op.k hl102_0; clear hi102_0 hl102_0; replace p102 := eq_true p102; replace q102 := eq_true q102) | (go_at_call 57; (with_reducible refine (impl_within.calls a2 0 (wrap64 (a1 - 1)) false _ A14.out).mono ?_); rintro e w' ⟨rfl, ⟨nd, rfl⟩⟩))
      go_ret
      exact ⟨by first | rfl | (simp [errW_none, errW_some] <;> rfl) | (simp [*, errW_none, errW_some] <;> rfl), Op.ht HB.out⟩
  ·rw [if_neg c5] at H
   exact absurd H (by simp)
 ·rw [if_neg c4] at H
  exact absurd H (by simp)

/-! ### impl_GoodPool: function 21 -/
/-- does the branch's list hold what it may -/
def impl_GoodPool.br (bs : List S65) (vs : List Int) : List S65 → Int → Option Bool
 | [], _ => some true
 | b :: t, i => if (b.f0.length : Int) = 4 then (Op.anyO (fun kid => (impl_isKid.f bs vs i kid).map (fun z => !z)) b.f0).bind fun x => if x then some false else impl_GoodPool.br bs vs t (i + 1) else some false
def impl_GoodPool.ver (bs : List S65) (k : Int) : Option Bool :=
 if k = -1 then some false else (impl_within.f k 0 (wrap64 ((bs.length : Int) - 1))).bind fun z => if z then (if 0 ≤ k then if k < bs.length then some (rd_T65 bs k).f1 else none else none) else some true
def impl_GoodPool.f (l0_0 : List S65) (l0_1 : List Int) : Option Bool :=
 if (l0_0.length : Int) > 200 then some false else if (l0_1.length : Int) > 40 then some false else (impl_GoodPool.br l0_0 l0_1 l0_0 0).bind fun x => if x then (Op.anyO (impl_GoodPool.ver l0_0) l0_1).map (fun z => !z) else some false
theorem impl_GoodPool.one (bs : List S65) (vs : List Int) (A0 A1 : Option Addr) (c0 c1 : Nat) (gp gi : Nat) (i x : Int) (b : Bool) (w : World)
  (hb : w.heap[gp]? = some (.cells #[.slice A0 bs.length c0, .slice A1 vs.length c1] 25 (0, 0))) (hi : w.heap[gi]? = some (.cells #[.int .i64 i] 3 (0, 0)))
  (hr0 : Kd.C k65 w A0 bs.length bs) (hc0 : bs.length ≤ c0) (hr1 : Kd.C (Kd.int .i64) w A1 vs.length vs) (hc1 : vs.length ≤ c1) (h : (impl_isKid.f bs vs i x).map (fun z => !z) = some b) :
  Calls Try.prog 54 #[.int .i64 x, .pointer (some ⟨gp, 0, none⟩), .pointer (some ⟨gi, 0, none⟩)] w fun e w' => e = .returned (.bool b) ∧ Below w.heap.size w w' := by
 obtain ⟨z, hz, rfl⟩ := Option.map_eq_some_iff.1 h
 have h0 := (blk_cell hb 0).trans rfl
 have h1 := (blk_cell hb 1).trans rfl
 have h2 := (blk_cell hi 0).trans rfl
 have H := Op.k (impl_isKid.calls A0 c0 bs A1 c1 vs i x z w hr0 hc0 hr1 hc1 hz)
 clear hb hi hr0 hr1 hz h
 go_enter Try.func54, Try.ntmps54
 go_wp2_with (go_at_call 55; refine H.out.mono ?_; rintro e w' ⟨rfl, hb2⟩)
 go_ret
 exact ⟨rfl, hb2⟩
theorem impl_GoodPool.two (bs : List S65) (vs : List Int) (A0 A1 : Option Addr) (c0 c1 : Nat) (gp : Nat) (x : Int) (b : Bool) (w : World)
  (hb : w.heap[gp]? = some (.cells #[.slice A0 bs.length c0, .slice A1 vs.length c1] 25 (0, 0)))
  (hr0 : Kd.C k65 w A0 bs.length bs) (h : impl_GoodPool.ver bs x = some b) :
  Calls Try.prog 56 #[.int .i64 x, .pointer (some ⟨gp, 0, none⟩)] w fun e w' => e = .returned (.bool b) ∧ Below w.heap.size w w' := by
 have h0 : w.cell? ⟨gp, 0, none⟩ = some (.slice A0 bs.length c0) := (blk_cell hb 0).trans rfl
 have h1 : w.cell? ⟨gp, 1, none⟩ = some (.slice A1 vs.length c1) := (blk_cell hb 1).trans rfl
 clear hb
 unfold impl_GoodPool.ver at h
 by_cases e1 : x = -1
 ·rw [if_pos e1] at h
  obtain rfl := Option.some.inj h
  subst e1
  clear h hr0
  go_enter Try.func56, Try.ntmps56
  go_wp2
  go_ret
  exact ⟨rfl, Below.refl _ _⟩
 rw [if_neg e1] at h
 obtain ⟨z, hz, h⟩ := Option.bind_eq_some_iff.1 h
 have HZ := Op.k hz
 have e1b : (x != -1) = true := bne_iff_ne.2 e1
 clear hz e1
 cases z with
 | false =>
  have hb : b = true := by simpa using h.symm
  subst hb
  clear h hr0
  go_enter Try.func56, Try.ntmps56
  go_wp2_with (go_at_call 57; refine (impl_within.calls _ _ _ false _ HZ.out).mono ?_; rintro e w' ⟨rfl, ⟨nd, rfl⟩⟩)
  go_ret
  exact ⟨rfl, pw_below_drewN (Below.refl _ _) _⟩
 | true =>
  simp only [if_true] at h
  by_cases h2 : 0 ≤ x
  ·rw [if_pos h2] at h
   by_cases h3 : x < bs.length
   ·rw [if_pos h3] at h
    obtain ⟨ad, A', c', rfl, hx0, hx1, _, _⟩ := at_T65 hr0 x h2 h3
    have hb := Option.some.inj h
    have HBB := Op.k hb
    have h2b : decide (0 ≤ x) = true := decide_eq_true h2
    have h3b : decide (x < (bs.length : Int)) = true := decide_eq_true h3
    clear h hr0 hb
    go_enter Try.func56, Try.ntmps56
    go_wp2_with (go_at_call 57; refine (impl_within.calls _ _ _ true _ HZ.out).mono ?_; rintro e w' ⟨rfl, ⟨nd, rfl⟩⟩)
    go_ret
    exact ⟨by rw [← HBB.out]; rfl, pw_below_drewN (Below.refl _ _) _⟩
   ·rw [if_neg h3] at h; exact absurd h (by simp)
  ·rw [if_neg h2] at h; exact absurd h (by simp)
theorem impl_GoodPool.calls (A0_0 : Option Addr) (c0_0 : Nat) (l0_0 : List S65) (A0_1 : Option Addr) (c0_1 : Nat) (l0_1 : List Int) (r : Bool) (w : World)
  (hr0_0 : Kd.C k65 w A0_0 l0_0.length l0_0) (hc0_0 : l0_0.length ≤ c0_0) (hr0_1 : Kd.C (Kd.int .i64) w A0_1 l0_1.length l0_1) (hc0_1 : l0_1.length ≤ c0_1) (h : impl_GoodPool.f l0_0 l0_1 = some r) :
  Calls Try.prog 21 #[.agg #[.slice A0_0 l0_0.length c0_0, .slice A0_1 l0_1.length c0_1]] w fun e w' => e = .returned (.bool r) ∧ Below w.heap.size w w' := by
 unfold impl_GoodPool.f at h
 by_cases g1 : (l0_0.length : Int) > 200
 ·rw [if_pos g1] at h
  obtain rfl := Option.some.inj h
  have g1b : decide ((200 : Int) < l0_0.length) = true := decide_eq_true g1
  clear g1 h hr0_0 hr0_1
  go_enter Try.func21, Try.ntmps21
  go_wp2
  go_ret
  exact ⟨rfl, (Below.refl _ _).alloc (Nat.le_refl _) _⟩
 rw [if_neg g1] at h
 by_cases g2 : (l0_1.length : Int) > 40
 ·rw [if_pos g2] at h
  obtain rfl := Option.some.inj h
  have g1b : decide ((200 : Int) < l0_0.length) = false := decide_eq_false g1
  have g2b : decide ((40 : Int) < l0_1.length) = true := decide_eq_true g2
  clear g1 g2 h hr0_0 hr0_1
  go_enter Try.func21, Try.ntmps21
  go_wp2
  go_ret
  exact ⟨rfl, (Below.refl _ _).alloc (Nat.le_refl _) _⟩
 rw [if_neg g2] at h
 have g1b : decide ((200 : Int) < l0_0.length) = false := decide_eq_false g1
 have g2b : decide ((40 : Int) < l0_1.length) = false := decide_eq_false g2
 have H' := Op.k h
 have HR0 := Op.k hr0_0
 have HR1 := Op.k hr0_1
 have HL : (l0_0.length : Int) ≤ 9223372036854775807 := by have := hr0_0.2.1; omega
 have e54 : ∀ args W, (callFunc 54 args).run Try.prog W = .ok (.enter 54 args) W := enters_of Try.func54 (by kernel_rfl) rfl
 have e56 : ∀ args W, (callFunc 56 args).run Try.prog W = .ok (.enter 56 args) W := enters_of Try.func56 (by kernel_rfl) rfl
 clear g1 g2 h hr0_0 hr0_1
 go_enter Try.func21, Try.ntmps21
 go_wp2_with fail
 have HB0 := Op.k ((Below.refl w.heap.size w).alloc (Nat.le_refl _) (.cells #[.slice A0_0 l0_0.length c0_0, .slice A0_1 l0_1.length c0_1] 25))
 have HG0 := Op.k (heap_alloc_new w (.cells #[.slice A0_0 l0_0.length c0_0, .slice A0_1 l0_1.length c0_1] 25))
 go_loopg [18] l0_0.length (fun gg v18 wr => ∃ n : Nat, n ≤ l0_0.length ∧ l0_0.length - n ≤ gg ∧ v18 = .int .i64 n ∧ Aside0 (((impl_GoodPool.br l0_0 l0_1 (l0_0.drop n) n).bind fun x => if x then (Op.anyO (impl_GoodPool.ver l0_0) l0_1).map (fun z => !z) else some false) = some r) ∧ Aside0 (Below w.heap.size w wr) ∧ Aside0 (wr.heap[w.heap.size]? = some (.cells #[.slice A0_0 l0_0.length c0_0, .slice A0_1 l0_1.length c0_1] 25 (0, 0))))
 case atStart => exact ⟨0, Nat.zero_le _, by omega, rfl, ⟨by simpa using H'.out⟩, HB0, HG0⟩
 case round =>
  clear H' HB0 HG0
  obtain ⟨n, hn, hg, rfl, HA, HB, HG⟩ := hrel
  by_cases hlt : n < l0_0.length
  ·have hltz : (n : Int) < (l0_0.length : Int) := by omega
   obtain ⟨ad, A', c', rfl, hx0, hx1, hxl, hxr⟩ := at_T65 (Kd.C_below HR0.out HB.out) (n : Int) (by omega) hltz
   rw [Int.toNat_natCast] at hx0 hx1
   have hdr : Aside0 (l0_0.drop n = rd_T65 l0_0 n :: l0_0.drop (n + 1)) := ⟨by rw [List.drop_eq_getElem_cons hlt]; simp [rd_T65, List.getD_eq_getElem?_getD, hlt]⟩
   generalize rd_T65 l0_0 n = x at *
   have HX := Op.k hxr
   have HBA := Op.k ((HB.out.alloc HB.out.size (.cells #[.int .i64 (n : Int)] 3)).alloc (by simp; have := HB.out.size; omega) (.cells #[.slice A' x.f0.length c', .bool x.f1] 65))
   have HBW := Op.k (((Below.refl wr.heap.size wr).alloc (Nat.le_refl _) (.cells #[.int .i64 (n : Int)] 3)).alloc (by simp) (.cells #[.slice A' x.f0.length c', .bool x.f1] 65))
   have hA := HA.out
   rw [hdr.out] at hA
   unfold impl_GoodPool.br at hA
   clear hxr HA hdr
   by_cases k4 : (x.f0.length : Int) = 4
   ·rw [if_pos k4, Option.bind_assoc] at hA
    obtain ⟨y, hy, hA⟩ := Option.bind_eq_some_iff.1 hA
    have hcon := slices_ContainsFunc_int_int.calls A' c' x.f0 54 #[.pointer (some ⟨w.heap.size, 0, none⟩), .pointer (some ⟨wr.heap.size, 0, none⟩)] (fun kid => (impl_isKid.f l0_0 l0_1 n kid).map (fun z => !z)) y
     ((wr.alloc (.cells #[.int .i64 (n : Int)] 3)).alloc (.cells #[.slice A' x.f0.length c', .bool x.f1] 65)) e54
     (fun W kid b _ hB hk => impl_GoodPool.one l0_0 l0_1 (some ad) A0_1 c0_0 c0_1 w.heap.size wr.heap.size n kid b W
      (Op.b4 (Op.b3 (Op.b3 HG.out _) _) hB)
      (Op.b4 (Op.b3 (blk_new wr _) _) hB)
      (Kd.C_below HR0.out (Op.a5 HBA.out hB)) hc0_0 (Kd.C_below HR1.out (Op.a5 HBA.out hB)) hc0_1 hk)
     (Kd.C_below HX.out HBW.out) hy
    have HC := Op.k hcon
    have HA := Op.k hA
    have k4b : ((x.f0.length : Int) != 4) = false := bne_eq_false_iff_eq.2 k4
    clear hcon hA hy k4
    cases y with
    | true =>
     go_wp2_with (go_at_call 53; refine HC.out.mono ?_; rintro e w' ⟨rfl, hb2⟩)
     go_ret
     exact ⟨by have h1 := HA.out; simp only [if_true, Option.bind_some, Bool.false_eq_true, if_false, Option.some.injEq] at h1; rw [← h1]; rfl, below_step HBA.out hb2⟩
    | false =>
     go_wp2_with (go_at_call 53; refine HC.out.mono ?_; rintro e w' ⟨rfl, hb2⟩)
     go_roundg (l0_0.length - (n + 1))
     case measure => omega
     case rel => exact ⟨n + 1, by omega, by omega, by go_num, ⟨by have h1 := HA.out; simpa using h1⟩, ⟨below_step HBA.out hb2⟩, ⟨blk_below (Op.b3 (Op.b3 HG.out _) _) hb2⟩⟩
   ·rw [if_neg k4] at hA
    have HA := Op.k hA
    have k4b : ((x.f0.length : Int) != 4) = true := bne_iff_ne.2 k4
    clear hA k4
    go_wp2
    go_ret
    exact ⟨by have h1 := HA.out; simp only [Option.bind_some, Bool.false_eq_true, if_false, Option.some.injEq] at h1; rw [← h1]; rfl, HBA.out⟩
  ·have hltz : ¬ (n : Int) < (l0_0.length : Int) := by omega
   have e : n = l0_0.length := by omega
   have hA := HA.out
   rw [e, List.drop_length] at hA
   simp only [impl_GoodPool.br, Option.bind_some, if_true] at hA
   obtain ⟨y, hy, hA⟩ := Option.map_eq_some_iff.1 hA
   have h0 : wr.cell? ⟨w.heap.size, 0, none⟩ = some (.slice A0_0 l0_0.length c0_0) := (blk_cell HG.out 0).trans rfl
   have h1 : wr.cell? ⟨w.heap.size, 1, none⟩ = some (.slice A0_1 l0_1.length c0_1) := (blk_cell HG.out 1).trans rfl
   have HC := Op.k (slices_ContainsFunc_int_int.calls A0_1 c0_1 l0_1 56 #[.pointer (some ⟨w.heap.size, 0, none⟩)] (impl_GoodPool.ver l0_0) y wr e56
    (fun W k b _ hB hk => impl_GoodPool.two l0_0 l0_1 A0_0 A0_1 c0_0 c0_1 w.heap.size k b W ((hB.block _ (blk_lt HG.out)).trans HG.out) (Kd.C_below HR0.out (Op.a5 HB.out hB)) hk)
    (Kd.C_below HR1.out HB.out) hy)
   have HA' := Op.k hA
   clear HA hA hy e
   go_wp2_with (go_at_call 53; refine HC.out.mono ?_; rintro e w' ⟨rfl, hb2⟩)
   go_ret
   exact ⟨by rw [← HA'.out]; rfl, below_step HB.out hb2⟩


/-! ### impl_isVersion: function 61 -/
def impl_isVersion.ver (n : Int) (v : Int) : Option Bool := (impl_within.f v 0 (wrap64 (n - 1))).bind fun z => some (!z)
def impl_isVersion.f (l0_0 : List S65) (l0_1 : List Int) (l1 : List Int) : Option Bool :=
 (impl_GoodPool.f l0_0 l0_1).bind fun g => if g then (Op.anyO (impl_isVersion.ver l0_1.length) l1).map (fun z => !z) else some false
theorem impl_isVersion.one (n0 : Nat) (vs : List Int) (A0 A1 : Option Addr) (c0 c1 : Nat) (gp : Nat) (x : Int) (b : Bool) (w : World)
  (hb : w.heap[gp]? = some (.cells #[.slice A0 n0 c0, .slice A1 vs.length c1] 25 (0, 0))) (h : impl_isVersion.ver vs.length x = some b) :
  Calls Try.prog 79 #[.int .i64 x, .pointer (some ⟨gp, 0, none⟩)] w fun e w' => e = .returned (.bool b) ∧ Below w.heap.size w w' := by
 have h1 : w.cell? ⟨gp, 1, none⟩ = some (.slice A1 vs.length c1) := (blk_cell hb 1).trans rfl
 unfold impl_isVersion.ver at h
 obtain ⟨z, hz, h⟩ := Option.bind_eq_some_iff.1 h
 have HZ := Op.k hz
 have HBB := Op.k (Option.some.inj h)
 clear hb hz h
 go_enter Try.func79, Try.ntmps79
 go_wp2_with (go_at_call 57; refine (impl_within.calls _ _ _ z _ HZ.out).mono ?_; rintro e w' ⟨rfl, ⟨nd, rfl⟩⟩)
 go_ret
 exact ⟨by rw [← HBB.out]; rfl, pw_below_drewN (Below.refl _ _) _⟩
theorem impl_isVersion.calls (A0_0 : Option Addr) (c0_0 : Nat) (l0_0 : List S65) (A0_1 : Option Addr) (c0_1 : Nat) (l0_1 : List Int) (A1 : Option Addr) (c1 : Nat) (l1 : List Int) (r : Bool) (w : World)
  (hr0_0 : Kd.C k65 w A0_0 l0_0.length l0_0) (hc0_0 : l0_0.length ≤ c0_0) (hr0_1 : Kd.C (Kd.int .i64) w A0_1 l0_1.length l0_1) (hc0_1 : l0_1.length ≤ c0_1) (hr1 : Kd.C (Kd.int .i64) w A1 l1.length l1) (hc1 : l1.length ≤ c1) (h : impl_isVersion.f l0_0 l0_1 l1 = some r) :
  Calls Try.prog 61 #[.agg #[.slice A0_0 l0_0.length c0_0, .slice A0_1 l0_1.length c0_1], .slice A1 l1.length c1] w fun e w' => e = .returned (.bool r) ∧ Below w.heap.size w w' := by
 have e1 : ∀ args W, (callFunc 79 args).run Try.prog W = .ok (.enter 79 args) W := enters_of Try.func79 (by kernel_rfl) rfl
 unfold impl_isVersion.f at h
 obtain ⟨g, hg, h⟩ := Option.bind_eq_some_iff.1 h
 have HB0 := Op.k ((Below.refl w.heap.size w).alloc (Nat.le_refl _) (.cells #[.slice A0_0 l0_0.length c0_0, .slice A0_1 l0_1.length c0_1] 25))
 have HG0 := Op.k (heap_alloc_new w (.cells #[.slice A0_0 l0_0.length c0_0, .slice A0_1 l0_1.length c0_1] 25))
 have HC := Op.k (impl_GoodPool.calls A0_0 c0_0 l0_0 A0_1 c0_1 l0_1 g (w.alloc (.cells #[.slice A0_0 l0_0.length c0_0, .slice A0_1 l0_1.length c0_1] 25)) (Kd.C_below hr0_0 ((Below.refl w.heap.size w).alloc (Nat.le_refl _) _)) hc0_0 (Kd.C_below hr0_1 ((Below.refl w.heap.size w).alloc (Nat.le_refl _) _)) hc0_1 hg)
 have HR1 := Op.k hr1
 clear hg hr0_0 hr0_1 hr1
 cases g with
 | false =>
  have HH := Op.k h
  clear h
  go_enter Try.func61, Try.ntmps61
  go_wp2_with (go_at_call 21; refine HC.out.mono ?_; rintro e w' ⟨rfl, hb2⟩)
  go_ret
  exact ⟨by have h1 := HH.out; simp only [Bool.false_eq_true, if_false, Option.some.injEq] at h1; rw [← h1]; rfl, below_step HB0.out hb2⟩
 | true =>
  simp only [if_true] at h
  obtain ⟨y, hy, h⟩ := Option.map_eq_some_iff.1 h
  have HH := Op.k h
  have HY := Op.k hy
  clear h hy
  go_enter Try.func61, Try.ntmps61
  go_wp2_with (go_at_call 21; refine HC.out.mono ?_; rintro e w' ⟨rfl, hb2⟩)
  have HG := Op.k (Op.b4 HG0.out hb2)
  have HB := Op.k (Op.a5 HB0.out hb2)
  refine (slices_ContainsFunc_int_int.calls A1 c1 l1 79 #[.pointer (some ⟨w.heap.size, 0, none⟩)] (impl_isVersion.ver l0_1.length) y w' e1
   (fun W k b _ hB hk => impl_isVersion.one l0_0.length l0_1 A0_0 A0_1 c0_0 c0_1 w.heap.size k b W (Op.b4 HG.out hB) hk) (Kd.C_below HR1.out HB.out) HY.out).mono ?_
  rintro e w2 ⟨rfl, hb3⟩
  go_wp2
  go_ret
  exact ⟨by rw [← HH.out]; rfl, below_step HB.out hb3⟩


/-! ### impl_isPoolKey: function 62 -/
def impl_isPoolKey.f (a0 : Int) : Option (Bool) := (impl_within.f a0 0 15).bind fun t106 => (some t106)
set_option maxHeartbeats 8000000 in
set_option maxRecDepth 100000 in
theorem impl_isPoolKey.calls (a0 : Int) (r : Bool) (w : World) (h : impl_isPoolKey.f a0 = some r) :
  Calls Try.prog 62 #[.int .i64 a0] w fun e w' => e = .returned (.bool r) ∧ Drawn0 w w' := by
 have H : ((impl_within.f a0 0 15).bind fun t106 => (some t106)) = some r := h
 clear h
 replace H := Option.bind_eq_some_iff.mp H
 obtain ⟨t106, A20, H⟩ := H
 replace H : (some t106) = some r := H
 have A2 := Op.k A20
 clear A20
 obtain rfl := Option.some.inj H
 go_enter Try.func62, Try.ntmps62
 go_wp2_with (first | ((with_reducible refine gate_callee (f := 57) rfl ?_); refine goesL_ (some 4) rfl rfl Try.func57 (by kernel_rfl) rfl #[.int .i64 a0, .int .i64 0, .int .i64 15] rfl (by (try simp only [List.map_toArray, List.map_cons, List.map_nil]); first | done | rfl | (simp only [List.length_drop, List.length_take]; rfl)) ?_; (with_reducible refine (impl_within.calls a0 0 15 t106 _ A2.out).mono ?_); rintro e w' ⟨rfl, ⟨nd, rfl⟩⟩; refine ⟨_, rfl, ?_⟩))
 go_ret
 exact ⟨by first | rfl | (simp; done) | (simp [*]; done), by repeat (first | exact Drawn0.refl _ | apply Drawn0.step)⟩

/-! ### impl_get: function 63 -/
def impl_get.f (l0_0 : List (S65)) (l0_1 : List Int) (a1 : Int) (a2 : Int) : Option (Int) := if 0 ≤ a1 then (if a1 < (l0_1.length : Int) then (if (rd l0_1 a1) < 0 then (some 0) else (if 0 ≤ (rd l0_1 a1) then (if (rd l0_1 a1) < (l0_0.length : Int) then (if 0 ≤ (wrap64 (Int.tdiv a2 4)) then (if (wrap64 (Int.tdiv a2 4)) < (((rd_T65 l0_0 (rd l0_1 a1)).f0).length : Int) then (if (rd ((rd_T65 l0_0 (rd l0_1 a1)).f0) (wrap64 (Int.tdiv a2 4))) < 0 then (some 0) else (if 0 ≤ (rd ((rd_T65 l0_0 (rd l0_1 a1)).f0) (wrap64 (Int.tdiv a2 4))) then (if (rd ((rd_T65 l0_0 (rd l0_1 a1)).f0) (wrap64 (Int.tdiv a2 4))) < (l0_0.length : Int) then (if 0 ≤ (Int.tmod a2 4) then (if (Int.tmod a2 4) < (((rd_T65 l0_0 (rd ((rd_T65 l0_0 (rd l0_1 a1)).f0) (wrap64 (Int.tdiv a2 4)))).f0).length : Int) then (some (rd ((rd_T65 l0_0 (rd ((rd_T65 l0_0 (rd l0_1 a1)).f0) (wrap64 (Int.tdiv a2 4)))).f0) (Int.tmod a2 4))) else (none)) else (none)) else (none)) else (none))) else (none)) else (none)) else (none)) else (none))) else (none)) else (none)
set_option maxHeartbeats 8000000 in
set_option maxRecDepth 100000 in
theorem impl_get.calls (A0_0 : Option Addr) (c0_0 : Nat) (l0_0 : List (S65)) (A0_1 : Option Addr) (c0_1 : Nat) (l0_1 : List Int) (a1 : Int) (a2 : Int) (r : Int) (w : World) (hr0_0 : Kd.C k65 w A0_0 l0_0.length l0_0) (hc0_0 : l0_0.length ≤ c0_0) (hr0_1 : Kd.C (Kd.int .i64) w A0_1 l0_1.length l0_1) (hc0_1 : l0_1.length ≤ c0_1) (h : impl_get.f l0_0 l0_1 a1 a2 = some r) :
  Calls Try.prog 63 #[.agg #[.slice A0_0 l0_0.length c0_0, .slice A0_1 l0_1.length c0_1], .int .i64 a1, .int .i64 a2] w fun e w' => e = .returned (.int .i64 r) ∧ Below w.heap.size w w' := by
 have hu25 := Try.underlying25
 have HR0_0 := Op.k hr0_0
 have HC0_0 := Op.k hc0_0
 clear hr0_0 hc0_0
 have HR0_1 := Op.k hr0_1
 have HC0_1 := Op.k hc0_1
 clear hr0_1 hc0_1
 have HB := Op.k (Below.refl w.heap.size w)
 have H : (if 0 ≤ a1 then (if a1 < (l0_1.length : Int) then (if (rd l0_1 a1) < 0 then (some 0) else (if 0 ≤ (rd l0_1 a1) then (if (rd l0_1 a1) < (l0_0.length : Int) then (if 0 ≤ (wrap64 (Int.tdiv a2 4)) then (if (wrap64 (Int.tdiv a2 4)) < (((rd_T65 l0_0 (rd l0_1 a1)).f0).length : Int) then (if (rd ((rd_T65 l0_0 (rd l0_1 a1)).f0) (wrap64 (Int.tdiv a2 4))) < 0 then (some 0) else (if 0 ≤ (rd ((rd_T65 l0_0 (rd l0_1 a1)).f0) (wrap64 (Int.tdiv a2 4))) then (if (rd ((rd_T65 l0_0 (rd l0_1 a1)).f0) (wrap64 (Int.tdiv a2 4))) < (l0_0.length : Int) then (if 0 ≤ (Int.tmod a2 4) then (if (Int.tmod a2 4) < (((rd_T65 l0_0 (rd ((rd_T65 l0_0 (rd l0_1 a1)).f0) (wrap64 (Int.tdiv a2 4)))).f0).length : Int) then (some (rd ((rd_T65 l0_0 (rd ((rd_T65 l0_0 (rd l0_1 a1)).f0) (wrap64 (Int.tdiv a2 4)))).f0) (Int.tmod a2 4))) else (none)) else (none)) else (none)) else (none))) else (none)) else (none)) else (none)) else (none))) else (none)) else (none)) = some r := h
 clear h
 by_cases c4 : 0 ≤ a1
 ·rw [if_pos c4] at H
  have c4b0 : decide (0 ≤ a1) = true := decide_eq_true c4
  clear c4
  by_cases c5 : a1 < (l0_1.length : Int)
  ·rw [if_pos c5] at H
   have c5b0 : decide (a1 < (l0_1.length : Int)) = true := decide_eq_true c5
   clear c5
   by_cases c6 : (rd l0_1 a1) < 0
   ·rw [if_pos c6] at H
    have c6b0 : decide ((rd l0_1 a1) < 0) = true := decide_eq_true c6
    clear c6
    obtain rfl := Option.some.inj H
    go_enter Try.func63, Try.ntmps63
    go_wp2_with (first | ((with_reducible refine gate_dst (N := 3) rfl ?_); refine box_event ?hg (N := 3) ?hd (cs := #[.slice A0_0 l0_0.length c0_0, .slice A0_1 l0_1.length c0_1]) (t := 25) ?hr ?_; (case hd => rfl); (case hg => rfl); (case hr => first | (go_simp; done) | (go_simp; rfl)); intro gb107 hg w7 hbox hb; have BK107 := Op.k (hbox); have GW107 := Op.k ((Op.nz hg (Op.ht HB.out) : w.heap.size ≤ gb107)); have GE107 := Op.k ((Op.nz hg (Op.ht HB.out) : w.heap.size ≤ gb107)); replace HB := Op.k (Op.a5 (Op.ht HB.out) hb); clear hb hbox hg; have hcz8_0 := Op.c0 BK107.out; have hcz8_1 := Op.c1 BK107.out; have hfz8_0 := Op.bf BK107.out 0; have hfz8_1 := Op.bf BK107.out 1; have p108 : 0 ≤ (a1 : Int) := Op.dt; have q108 : a1 < (l0_1.length : Int) := Op.dt; obtain ⟨ad108, e108, hx108_0⟩ := Kd.at_int HR0_1.out a1 p108 q108; cases e108; replace hx108_0 := (HB.out.cell (World.block_lt_of_cell? w _ hx108_0)).trans hx108_0; replace p108 := eq_true p108; replace q108 := eq_true q108))
    go_ret
    exact ⟨by first | rfl | (simp [errW_none, errW_some] <;> rfl) | (simp [*, errW_none, errW_some] <;> rfl), Op.ht HB.out⟩
   ·rw [if_neg c6] at H
    have c6b0 : decide ((rd l0_1 a1) < 0) = false := decide_eq_false c6
    clear c6
    by_cases c9 : 0 ≤ (rd l0_1 a1)
    ·rw [if_pos c9] at H
     have c9b0 : decide (0 ≤ (rd l0_1 a1)) = true := decide_eq_true c9
     clear c9
     by_cases c10 : (rd l0_1 a1) < (l0_0.length : Int)
     ·rw [if_pos c10] at H
      have c10b0 : decide ((rd l0_1 a1) < (l0_0.length : Int)) = true := decide_eq_true c10
      clear c10
      obtain ⟨ji11, hji11⟩ : ∃ j_ : Int, (wrap64 (Int.tdiv a2 4)) = j_ := ⟨_, rfl⟩
      replace H : (if 0 ≤ (ji11) then (if (ji11) < (((rd_T65 l0_0 (rd l0_1 a1)).f0).length : Int) then (if (rd ((rd_T65 l0_0 (rd l0_1 a1)).f0) (ji11)) < 0 then (some 0) else (if 0 ≤ (rd ((rd_T65 l0_0 (rd l0_1 a1)).f0) (ji11)) then (if (rd ((rd_T65 l0_0 (rd l0_1 a1)).f0) (ji11)) < (l0_0.length : Int) then (if 0 ≤ (Int.tmod a2 4) then (if (Int.tmod a2 4) < (((rd_T65 l0_0 (rd ((rd_T65 l0_0 (rd l0_1 a1)).f0) (ji11))).f0).length : Int) then (some (rd ((rd_T65 l0_0 (rd ((rd_T65 l0_0 (rd l0_1 a1)).f0) (ji11))).f0) (Int.tmod a2 4))) else (none)) else (none)) else (none)) else (none))) else (none)) else (none)) = some r := by first | (rw [hji11] at H; exact H) | (simp only [hji11] at H ⊢; exact H)
      have hji11w : (IntKind.i64.wrap (Int.tdiv a2 4)) = ji11 := (i64_w _).trans hji11
      by_cases c12 : 0 ≤ (ji11)
      ·rw [if_pos c12] at H
       have c12b0 : decide (0 ≤ (ji11)) = true := decide_eq_true c12
       clear c12
       by_cases c13 : (ji11) < (((rd_T65 l0_0 (rd l0_1 a1)).f0).length : Int)
       ·rw [if_pos c13] at H
        have c13b0 : decide ((ji11) < (((rd_T65 l0_0 (rd l0_1 a1)).f0).length : Int)) = true := decide_eq_true c13
        clear c13
        by_cases c14 : (rd ((rd_T65 l0_0 (rd l0_1 a1)).f0) (ji11)) < 0
        ·rw [if_pos c14] at H
         have c14b0 : decide ((rd ((rd_T65 l0_0 (rd l0_1 a1)).f0) (ji11)) < 0) = true := decide_eq_true c14
         clear c14
         obtain rfl := Option.some.inj H
         go_enter Try.func63, Try.ntmps63
         go_wp2_with (first | ((with_reducible refine gate_dst (N := 3) rfl ?_); refine box_event ?hg (N := 3) ?hd (cs := #[.slice A0_0 l0_0.length c0_0, .slice A0_1 l0_1.length c0_1]) (t := 25) ?hr ?_; (case hd => rfl); (case hg => rfl); (case hr => first | (go_simp; done) | (go_simp; rfl)); intro gb107 hg w15 hbox hb; have BK107 := Op.k (hbox); have GW107 := Op.k ((Op.nz hg (Op.ht HB.out) : w.heap.size ≤ gb107)); have GE107 := Op.k ((Op.nz hg (Op.ht HB.out) : w.heap.size ≤ gb107)); replace HB := Op.k (Op.a5 (Op.ht HB.out) hb); clear hb hbox hg; have hcz16_0 := Op.c0 BK107.out; have hcz16_1 := Op.c1 BK107.out; have hfz16_0 := Op.bf BK107.out 0; have hfz16_1 := Op.bf BK107.out 1; have p108 : 0 ≤ (a1 : Int) := Op.dt; have q108 : a1 < (l0_1.length : Int) := Op.dt; obtain ⟨ad108, e108, hx108_0⟩ := Kd.at_int HR0_1.out a1 p108 q108; cases e108; replace hx108_0 := (HB.out.cell (World.block_lt_of_cell? w _ hx108_0)).trans hx108_0; replace p108 := eq_true p108; replace q108 := eq_true q108; have p109 : 0 ≤ ((rd l0_1 a1) : Int) := Op.dt; have q109 : (rd l0_1 a1) < (l0_0.length : Int) := Op.dt; obtain ⟨ad109, A109_0, c109_0, e109, hx109_0, hx109_1, hl109_0, hi109_0⟩ := at_T65 HR0_0.out (rd l0_1 a1) p109 q109; cases e109; replace hx109_0 := (HB.out.cell (World.block_lt_of_cell? w _ hx109_0)).trans hx109_0; replace hx109_1 := (HB.out.cell (World.block_lt_of_cell? w _ hx109_1)).trans hx109_1; have HR109_0 := Op.k hi109_0; have HC109_0 := Op.k hl109_0; clear hi109_0 hl109_0; replace p109 := eq_true p109; replace q109 := eq_true q109; have p110 : 0 ≤ ((ji11) : Int) := Op.dt; have q110 : (ji11) < (((rd_T65 l0_0 (rd l0_1 a1)).f0).length : Int) := Op.dt; obtain ⟨ad110, e110, hx110_0⟩ := Kd.at_int HR109_0.out (ji11) p110 q110; cases e110; replace hx110_0 := (HB.out.cell (World.block_lt_of_cell? w _ hx110_0)).trans hx110_0; replace p110 := eq_true p110; replace q110 := eq_true q110))
         go_ret
         exact ⟨by first | rfl | (simp [errW_none, errW_some] <;> rfl) | (simp only [← hji11]; first | rfl | (simp [errW_none, errW_some] <;> rfl)) | (simp [*, errW_none, errW_some] <;> rfl), Op.ht HB.out⟩
        ·rw [if_neg c14] at H
         have c14b0 : decide ((rd ((rd_T65 l0_0 (rd l0_1 a1)).f0) (ji11)) < 0) = false := decide_eq_false c14
         clear c14
         by_cases c17 : 0 ≤ (rd ((rd_T65 l0_0 (rd l0_1 a1)).f0) (ji11))
         ·rw [if_pos c17] at H
          have c17b0 : decide (0 ≤ (rd ((rd_T65 l0_0 (rd l0_1 a1)).f0) (ji11))) = true := decide_eq_true c17
          clear c17
          by_cases c18 : (rd ((rd_T65 l0_0 (rd l0_1 a1)).f0) (ji11)) < (l0_0.length : Int)
          ·rw [if_pos c18] at H
           have c18b0 : decide ((rd ((rd_T65 l0_0 (rd l0_1 a1)).f0) (ji11)) < (l0_0.length : Int)) = true := decide_eq_true c18
           clear c18
           obtain ⟨ji19, hji19⟩ : ∃ j_ : Int, (Int.tmod a2 4) = j_ := ⟨_, rfl⟩
           replace H : (if 0 ≤ (ji19) then (if (ji19) < (((rd_T65 l0_0 (rd ((rd_T65 l0_0 (rd l0_1 a1)).f0) (ji11))).f0).length : Int) then (some (rd ((rd_T65 l0_0 (rd ((rd_T65 l0_0 (rd l0_1 a1)).f0) (ji11))).f0) (ji19))) else (none)) else (none)) = some r := by first | (rw [hji19] at H; exact H) | (simp only [hji19] at H ⊢; exact H)
           by_cases c20 : 0 ≤ (ji19)
           ·rw [if_pos c20] at H
            have c20b0 : decide (0 ≤ (ji19)) = true := decide_eq_true c20
            clear c20
            by_cases c21 : (ji19) < (((rd_T65 l0_0 (rd ((rd_T65 l0_0 (rd l0_1 a1)).f0) (ji11))).f0).length : Int)
            ·rw [if_pos c21] at H
             have c21b0 : decide ((ji19) < (((rd_T65 l0_0 (rd ((rd_T65 l0_0 (rd l0_1 a1)).f0) (ji11))).f0).length : Int)) = true := decide_eq_true c21
             clear c21
             obtain rfl := Option.some.inj H
             go_enter Try.func63, Try.ntmps63
             go_wp2_with (first | ((with_reducible refine gate_dst (N := 3) rfl ?_); refine box_event ?hg (N := 3) ?hd (cs := #[.slice A0_0 l0_0.length c0_0, .slice A0_1 l0_1.length c0_1]) (t := 25) ?hr ?_; (case hd => rfl); (case hg => rfl); (case hr => first | (go_simp; done) | (go_simp; rfl)); intro gb107 hg w22 hbox hb; have BK107 := Op.k (hbox); have GW107 := Op.k ((Op.nz hg (Op.ht HB.out) : w.heap.size ≤ gb107)); have GE107 := Op.k ((Op.nz hg (Op.ht HB.out) : w.heap.size ≤ gb107)); replace HB := Op.k (Op.a5 (Op.ht HB.out) hb); clear hb hbox hg; have hcz23_0 := Op.c0 BK107.out; have hcz23_1 := Op.c1 BK107.out; have hfz23_0 := Op.bf BK107.out 0; have hfz23_1 := Op.bf BK107.out 1; have p108 : 0 ≤ (a1 : Int) := Op.dt; have q108 : a1 < (l0_1.length : Int) := Op.dt; obtain ⟨ad108, e108, hx108_0⟩ := Kd.at_int HR0_1.out a1 p108 q108; cases e108; replace hx108_0 := (HB.out.cell (World.block_lt_of_cell? w _ hx108_0)).trans hx108_0; replace p108 := eq_true p108; replace q108 := eq_true q108; have p109 : 0 ≤ ((rd l0_1 a1) : Int) := Op.dt; have q109 : (rd l0_1 a1) < (l0_0.length : Int) := Op.dt; obtain ⟨ad109, A109_0, c109_0, e109, hx109_0, hx109_1, hl109_0, hi109_0⟩ := at_T65 HR0_0.out (rd l0_1 a1) p109 q109; cases e109; replace hx109_0 := (HB.out.cell (World.block_lt_of_cell? w _ hx109_0)).trans hx109_0; replace hx109_1 := (HB.out.cell (World.block_lt_of_cell? w _ hx109_1)).trans hx109_1; have HR109_0 := Op.k hi109_0; have HC109_0 := Op.k hl109_0; clear hi109_0 hl109_0; replace p109 := eq_true p109; replace q109 := eq_true q109; have p110 : 0 ≤ ((ji11) : Int) := Op.dt; have q110 : (ji11) < (((rd_T65 l0_0 (rd l0_1 a1)).f0).length : Int) := Op.dt; obtain ⟨ad110, e110, hx110_0⟩ := Kd.at_int HR109_0.out (ji11) p110 q110; cases e110; replace hx110_0 := (HB.out.cell (World.block_lt_of_cell? w _ hx110_0)).trans hx110_0; replace p110 := eq_true p110; replace q110 := eq_true q110; have p111 : 0 ≤ ((rd ((rd_T65 l0_0 (rd l0_1 a1)).f0) (ji11)) : Int) := Op.dt; have q111 : (rd ((rd_T65 l0_0 (rd l0_1 a1)).f0) (ji11)) < (l0_0.length : Int) := Op.dt; obtain ⟨ad111, A111_0, c111_0, e111, hx111_0, hx111_1, hl111_0, hi111_0⟩ := at_T65 HR0_0.out (rd ((rd_T65 l0_0 (rd l0_1 a1)).f0) (ji11)) p111 q111; obtain rfl : ad109 = ad111 := (by injection e111); replace hx111_0 := (HB.out.cell (World.block_lt_of_cell? w _ hx111_0)).trans hx111_0; replace hx111_1 := (HB.out.cell (World.block_lt_of_cell? w _ hx111_1)).trans hx111_1; have HR111_0 := Op.k hi111_0; have HC111_0 := Op.k hl111_0; clear hi111_0 hl111_0; replace p111 := eq_true p111; replace q111 := eq_true q111; have p112 : 0 ≤ ((ji19) : Int) := Op.dt; have q112 : (ji19) < (((rd_T65 l0_0 (rd ((rd_T65 l0_0 (rd l0_1 a1)).f0) (ji11))).f0).length : Int) := Op.dt; obtain ⟨ad112, e112, hx112_0⟩ := Kd.at_int HR111_0.out (ji19) p112 q112; cases e112; replace hx112_0 := (HB.out.cell (World.block_lt_of_cell? w _ hx112_0)).trans hx112_0; replace p112 := eq_true p112; replace q112 := eq_true q112))
             go_ret
             exact ⟨by first | rfl | (simp [errW_none, errW_some] <;> rfl) | (simp only [← hji11, ← hji19]; first | rfl | (simp [errW_none, errW_some] <;> rfl)) | (simp [*, errW_none, errW_some] <;> rfl), Op.ht HB.out⟩
            ·rw [if_neg c21] at H
             exact absurd H (by simp)
           ·rw [if_neg c20] at H
            exact absurd H (by simp)
          ·rw [if_neg c18] at H
           exact absurd H (by simp)
         ·rw [if_neg c17] at H
          exact absurd H (by simp)
       ·rw [if_neg c13] at H
        exact absurd H (by simp)
      ·rw [if_neg c12] at H
       exact absurd H (by simp)
     ·rw [if_neg c10] at H
      exact absurd H (by simp)
    ·rw [if_neg c9] at H
     exact absurd H (by simp)
  ·rw [if_neg c5] at H
   exact absurd H (by simp)
 ·rw [if_neg c4] at H
  exact absurd H (by simp)

/-! ### impl_GetIn: function 23 -/
def impl_GetIn.f (l0_0 : List (S65)) (l0_1 : List Int) (a1 : Int) (a2 : Int) : Option (Int × Bool) := (impl_isVersion.f l0_0 l0_1 (([a1] : List Int))).bind fun t117 => (if t117 = true then ((impl_isPoolKey.f a2).bind fun t118 => (if t118 = true then ((impl_get.f l0_0 l0_1 a1 a2).bind fun t119 => (some (t119, true))) else (some (0, false)))) else (some (0, false)))
set_option maxHeartbeats 8000000 in
set_option maxRecDepth 100000 in
theorem impl_GetIn.calls (A0_0 : Option Addr) (c0_0 : Nat) (l0_0 : List (S65)) (A0_1 : Option Addr) (c0_1 : Nat) (l0_1 : List Int) (a1 : Int) (a2 : Int) (r1 : Int) (r2 : Bool) (w : World) (hr0_0 : Kd.C k65 w A0_0 l0_0.length l0_0) (hc0_0 : l0_0.length ≤ c0_0) (hr0_1 : Kd.C (Kd.int .i64) w A0_1 l0_1.length l0_1) (hc0_1 : l0_1.length ≤ c0_1) (h : impl_GetIn.f l0_0 l0_1 a1 a2 = some (r1, r2)) :
  Calls Try.prog 23 #[.agg #[.slice A0_0 l0_0.length c0_0, .slice A0_1 l0_1.length c0_1], .int .i64 a1, .int .i64 a2] w fun e w' => e = .returned (.tuple #[.int .i64 r1, .bool r2]) ∧ Below w.heap.size w w' := by
 have hu25 := Try.underlying25
 have HR0_0 := Op.k hr0_0
 have HC0_0 := Op.k hc0_0
 clear hr0_0 hc0_0
 have HR0_1 := Op.k hr0_1
 have HC0_1 := Op.k hc0_1
 clear hr0_1 hc0_1
 have HB := Op.k (Below.refl w.heap.size w)
 have H : ((impl_isVersion.f l0_0 l0_1 (([a1] : List Int))).bind fun t117 => (if t117 = true then ((impl_isPoolKey.f a2).bind fun t118 => (if t118 = true then ((impl_get.f l0_0 l0_1 a1 a2).bind fun t119 => (some (t119, true))) else (some (0, false)))) else (some (0, false)))) = some (r1, r2) := h
 clear h
 obtain ⟨y114, hy114⟩ : ∃ y_ : List Int, y_ = (([a1] : List Int)) := ⟨_, rfl⟩
 replace H : ((impl_isVersion.f l0_0 l0_1 y114).bind fun t117 => (if t117 = true then ((impl_isPoolKey.f a2).bind fun t118 => (if t118 = true then ((impl_get.f l0_0 l0_1 a1 a2).bind fun t119 => (some (t119, true))) else (some (0, false)))) else (some (0, false)))) = some (r1, r2) := by first | (rw [hy114]; with_reducible exact H) | (have H2_ := (Option.bind_some _ _).symm.trans H; rw [hy114]; with_reducible exact H2_) | (have H2_ := (Option.bind_some _ _).symm.trans H; with_reducible exact H2_) | with_reducible exact H | (rw [hy114]; exact H) | exact H
 have Ny114 := Op.k hy114
 clear hy114
 replace H := Option.bind_eq_some_iff.mp H
 obtain ⟨t117, A40, H⟩ := H
 try dsimp only at H
 have A4 := Op.k A40
 clear A40
 by_cases c5 : t117 = true
 ·subst c5
  have H1 : ((impl_isPoolKey.f a2).bind fun t118 => (if t118 = true then ((impl_get.f l0_0 l0_1 a1 a2).bind fun t119 => (some (t119, true))) else (some (0, false)))) = some (r1, r2) := by rw [if_pos rfl] at H; exact H
  clear H
  have H := H1
  clear H1
  replace H := Option.bind_eq_some_iff.mp H
  obtain ⟨t118, A60, H⟩ := H
  try dsimp only at H
  have A6 := Op.k A60
  clear A60
  by_cases c7 : t118 = true
  ·subst c7
   have H1 : ((impl_get.f l0_0 l0_1 a1 a2).bind fun t119 => (some (t119, true))) = some (r1, r2) := by rw [if_pos rfl] at H; exact H
   clear H
   have H := H1
   clear H1
   replace H := Option.bind_eq_some_iff.mp H
   obtain ⟨t119, A80, H⟩ := H
   replace H : (some (t119, true)) = some (r1, r2) := H
   have A8 := Op.k A80
   clear A80
   simp only [Option.some.injEq, Prod.mk.injEq] at H
   obtain ⟨rfl, rfl⟩ := H
   go_enter Try.func23, Try.ntmps23
   go_wp2_with (first | ((with_reducible refine gate_dst (N := 3) rfl ?_); refine box_event ?hg (N := 3) ?hd (cs := #[.slice A0_0 l0_0.length c0_0, .slice A0_1 l0_1.length c0_1]) (t := 25) ?hr ?_; (case hd => rfl); (case hg => rfl); (case hr => first | (go_simp; done) | (go_simp; rfl)); intro gb113 hg w9 hbox hb; have BK113 := Op.k (hbox); have GW113 := Op.k ((Op.nz hg (Op.ht HB.out) : w.heap.size ≤ gb113)); have GE113 := Op.k ((Op.nz hg (Op.ht HB.out) : w.heap.size ≤ gb113)); replace HB := Op.k (Op.a5 (Op.ht HB.out) hb); clear hb hbox hg; have hcz10_0 := Op.c0 BK113.out; have hcz10_1 := Op.c1 BK113.out; have hfz10_0 := Op.bf BK113.out 0; have hfz10_1 := Op.bf BK113.out 1) | ((with_reducible refine gate_dst (N := 10) rfl ?_); refine Kd.R_lit (Kd.int .i64) _ 3 ?hg (N := 10) ?hd (xs := ([a1] : List Int)) (inner := [.int .i64 a1]) (ok := fun _ => True) (okp := fun _ => True) ?hr ?hp (fun _ hk => hk) trivial (Below.refl _ _) (Nat.le_refl _) (by simp) ?_; (case hd => rfl); (case hg => rfl); (case hr => first | (go_simp; done) | (go_simp; rfl)); (case hp => exact (Reps.one (show Kd.M (Kd.int .i64) _ _ _ a1 [.int .i64 a1] from rfl) (Reps.none _ _))); intro v115 w11 ho12 hb hg_ hnew_; clear hg_ hnew_; (first | rw [← Ny114.out] at ho12 | (simp only [Int.reduceToNat] at ho12; rw [← Ny114.out] at ho12)); have HO116 := Op.k (Kd.R_lower ho12 (Op.a6 (Op.ht HB.out))); replace BK113 := Op.k (Op.b4 (Op.bt BK113.out) hb); replace HB := Op.k (Op.a5 (Op.ht HB.out) hb); clear hb ho12; obtain ⟨Ao13, co13, eo13⟩ := Kd.R_slice HO116.out; subst eo13) | ((with_reducible refine gate_callee (f := 61) rfl ?_); refine goesL_ (some 11) rfl rfl Try.func61 (by kernel_rfl) rfl #[.agg #[.slice A0_0 l0_0.length c0_0, .slice A0_1 l0_1.length c0_1], .slice Ao13 y114.length co13] rfl (by (try simp only [List.map_toArray, List.map_cons, List.map_nil]); first | done | rfl | (simp only [List.length_drop, List.length_take]; rfl)) ?_; (with_reducible refine (impl_isVersion.calls _ _ l0_0 _ _ l0_1 _ _ y114 true _ ?side1 ?side2 ?side3 ?side4 ?side5 ?side6 A4.out).mono ?_); (case side1 => exact Op.ct (Kd.C_below HR0_0.out HB.out)); (case side2 => exact HC0_0.out); (case side3 => exact Op.ct (Kd.C_below HR0_1.out HB.out)); (case side4 => exact HC0_1.out); (case side5 => exact Op.ct (Kd.R_reads' HO116.out).2.2); (case side6 => exact (Kd.R_reads' HO116.out).2.1); rintro e w14 ⟨rfl, hb⟩; refine ⟨_, rfl, ?_⟩; replace HO116 := Op.k (Kd.R_below (Op.rt HO116.out) hb); replace BK113 := Op.k (Op.b4 (Op.bt BK113.out) hb); replace HB := Op.k (Op.a5 (Op.ht HB.out) hb); (try clear hb); (try clear hb2); (try clear hk); (try clear hi)) | (go_at_call 62; (with_reducible refine (impl_isPoolKey.calls a2 true _ A6.out).mono ?_); rintro e w' ⟨rfl, ⟨nd, rfl⟩⟩; have hcz15_0 := Op.c0 BK113.out; have hcz15_1 := Op.c1 BK113.out; have hfz15_0 := Op.bf BK113.out 0; have hfz15_1 := Op.bf BK113.out 1) | ((with_reducible refine gate_callee (f := 63) rfl ?_); refine goesL_ (some 21) rfl rfl Try.func63 (by kernel_rfl) rfl #[.agg #[.slice A0_0 l0_0.length c0_0, .slice A0_1 l0_1.length c0_1], .int .i64 a1, .int .i64 a2] rfl (by (try simp only [List.map_toArray, List.map_cons, List.map_nil]); first | done | rfl | (simp only [List.length_drop, List.length_take]; rfl)) ?_; (with_reducible refine (impl_get.calls _ _ l0_0 _ _ l0_1 a1 a2 t119 _ ?side1 ?side2 ?side3 ?side4 A8.out).mono ?_); (case side1 => exact Op.ct (Kd.C_below HR0_0.out (Op.ht HB.out))); (case side2 => exact HC0_0.out); (case side3 => exact Op.ct (Kd.C_below HR0_1.out (Op.ht HB.out))); (case side4 => exact HC0_1.out); rintro e w16 ⟨rfl, hb⟩; refine ⟨_, rfl, ?_⟩; replace HO116 := Op.k (Kd.R_below (Op.rt HO116.out) hb); replace BK113 := Op.k (Op.b4 (Op.bt BK113.out) hb); replace HB := Op.k (Op.a5 (Op.ht HB.out) hb); (try clear hb); (try clear hb2); (try clear hk); (try clear hi)))
   go_ret2
   exact ⟨by first | rfl | (simp [errW_none, errW_some] <;> rfl) | (simp [*, errW_none, errW_some] <;> rfl), Op.ht HB.out⟩
  ·replace c7 := Bool.eq_false_iff.mpr c7
   subst c7
   have H1 : (some (0, false)) = some (r1, r2) := by rw [if_neg (show ¬ (false = true) by decide)] at H; exact H
   clear H
   have H := H1
   clear H1
   simp only [Option.some.injEq, Prod.mk.injEq] at H
   obtain ⟨rfl, rfl⟩ := H
   go_enter Try.func23, Try.ntmps23
   go_wp2_with (first | ((with_reducible refine gate_dst (N := 3) rfl ?_); refine box_event ?hg (N := 3) ?hd (cs := #[.slice A0_0 l0_0.length c0_0, .slice A0_1 l0_1.length c0_1]) (t := 25) ?hr ?_; (case hd => rfl); (case hg => rfl); (case hr => first | (go_simp; done) | (go_simp; rfl)); intro gb113 hg w17 hbox hb; have BK113 := Op.k (hbox); have GW113 := Op.k ((Op.nz hg (Op.ht HB.out) : w.heap.size ≤ gb113)); have GE113 := Op.k ((Op.nz hg (Op.ht HB.out) : w.heap.size ≤ gb113)); replace HB := Op.k (Op.a5 (Op.ht HB.out) hb); clear hb hbox hg; have hcz18_0 := Op.c0 BK113.out; have hcz18_1 := Op.c1 BK113.out; have hfz18_0 := Op.bf BK113.out 0; have hfz18_1 := Op.bf BK113.out 1) | ((with_reducible refine gate_dst (N := 10) rfl ?_); refine Kd.R_lit (Kd.int .i64) _ 3 ?hg (N := 10) ?hd (xs := ([a1] : List Int)) (inner := [.int .i64 a1]) (ok := fun _ => True) (okp := fun _ => True) ?hr ?hp (fun _ hk => hk) trivial (Below.refl _ _) (Nat.le_refl _) (by simp) ?_; (case hd => rfl); (case hg => rfl); (case hr => first | (go_simp; done) | (go_simp; rfl)); (case hp => exact (Reps.one (show Kd.M (Kd.int .i64) _ _ _ a1 [.int .i64 a1] from rfl) (Reps.none _ _))); intro v115 w19 ho20 hb hg_ hnew_; clear hg_ hnew_; (first | rw [← Ny114.out] at ho20 | (simp only [Int.reduceToNat] at ho20; rw [← Ny114.out] at ho20)); have HO116 := Op.k (Kd.R_lower ho20 (Op.a6 (Op.ht HB.out))); replace BK113 := Op.k (Op.b4 (Op.bt BK113.out) hb); replace HB := Op.k (Op.a5 (Op.ht HB.out) hb); clear hb ho20; obtain ⟨Ao21, co21, eo21⟩ := Kd.R_slice HO116.out; subst eo21) | ((with_reducible refine gate_callee (f := 61) rfl ?_); refine goesL_ (some 11) rfl rfl Try.func61 (by kernel_rfl) rfl #[.agg #[.slice A0_0 l0_0.length c0_0, .slice A0_1 l0_1.length c0_1], .slice Ao21 y114.length co21] rfl (by (try simp only [List.map_toArray, List.map_cons, List.map_nil]); first | done | rfl | (simp only [List.length_drop, List.length_take]; rfl)) ?_; (with_reducible refine (impl_isVersion.calls _ _ l0_0 _ _ l0_1 _ _ y114 true _ ?side1 ?side2 ?side3 ?side4 ?side5 ?side6 A4.out).mono ?_); (case side1 => exact Op.ct (Kd.C_below HR0_0.out HB.out)); (case side2 => exact HC0_0.out); (case side3 => exact Op.ct (Kd.C_below HR0_1.out HB.out)); (case side4 => exact HC0_1.out); (case side5 => exact Op.ct (Kd.R_reads' HO116.out).2.2); (case side6 => exact (Kd.R_reads' HO116.out).2.1); rintro e w22 ⟨rfl, hb⟩; refine ⟨_, rfl, ?_⟩; replace HO116 := Op.k (Kd.R_below (Op.rt HO116.out) hb); replace BK113 := Op.k (Op.b4 (Op.bt BK113.out) hb); replace HB := Op.k (Op.a5 (Op.ht HB.out) hb); (try clear hb); (try clear hb2); (try clear hk); (try clear hi)) | (go_at_call 62; (with_reducible refine (impl_isPoolKey.calls a2 false _ A6.out).mono ?_); rintro e w' ⟨rfl, ⟨nd, rfl⟩⟩))
   go_ret2
   exact ⟨by first | rfl | (simp [errW_none, errW_some] <;> rfl) | (simp [*, errW_none, errW_some] <;> rfl), Op.ht HB.out⟩
 ·replace c5 := Bool.eq_false_iff.mpr c5
  subst c5
  have H1 : (some (0, false)) = some (r1, r2) := by rw [if_neg (show ¬ (false = true) by decide)] at H; exact H
  clear H
  have H := H1
  clear H1
  simp only [Option.some.injEq, Prod.mk.injEq] at H
  obtain ⟨rfl, rfl⟩ := H
  go_enter Try.func23, Try.ntmps23
  go_wp2_with (first | ((with_reducible refine gate_dst (N := 3) rfl ?_); refine box_event ?hg (N := 3) ?hd (cs := #[.slice A0_0 l0_0.length c0_0, .slice A0_1 l0_1.length c0_1]) (t := 25) ?hr ?_; (case hd => rfl); (case hg => rfl); (case hr => first | (go_simp; done) | (go_simp; rfl)); intro gb113 hg w23 hbox hb; have BK113 := Op.k (hbox); have GW113 := Op.k ((Op.nz hg (Op.ht HB.out) : w.heap.size ≤ gb113)); have GE113 := Op.k ((Op.nz hg (Op.ht HB.out) : w.heap.size ≤ gb113)); replace HB := Op.k (Op.a5 (Op.ht HB.out) hb); clear hb hbox hg; have hcz24_0 := Op.c0 BK113.out; have hcz24_1 := Op.c1 BK113.out; have hfz24_0 := Op.bf BK113.out 0; have hfz24_1 := Op.bf BK113.out 1) | ((with_reducible refine gate_dst (N := 10) rfl ?_); refine Kd.R_lit (Kd.int .i64) _ 3 ?hg (N := 10) ?hd (xs := ([a1] : List Int)) (inner := [.int .i64 a1]) (ok := fun _ => True) (okp := fun _ => True) ?hr ?hp (fun _ hk => hk) trivial (Below.refl _ _) (Nat.le_refl _) (by simp) ?_; (case hd => rfl); (case hg => rfl); (case hr => first | (go_simp; done) | (go_simp; rfl)); (case hp => exact (Reps.one (show Kd.M (Kd.int .i64) _ _ _ a1 [.int .i64 a1] from rfl) (Reps.none _ _))); intro v115 w25 ho26 hb hg_ hnew_; clear hg_ hnew_; (first | rw [← Ny114.out] at ho26 | (simp only [Int.reduceToNat] at ho26; rw [← Ny114.out] at ho26)); have HO116 := Op.k (Kd.R_lower ho26 (Op.a6 (Op.ht HB.out))); replace BK113 := Op.k (Op.b4 (Op.bt BK113.out) hb); replace HB := Op.k (Op.a5 (Op.ht HB.out) hb); clear hb ho26; obtain ⟨Ao27, co27, eo27⟩ := Kd.R_slice HO116.out; subst eo27) | ((with_reducible refine gate_callee (f := 61) rfl ?_); refine goesL_ (some 11) rfl rfl Try.func61 (by kernel_rfl) rfl #[.agg #[.slice A0_0 l0_0.length c0_0, .slice A0_1 l0_1.length c0_1], .slice Ao27 y114.length co27] rfl (by (try simp only [List.map_toArray, List.map_cons, List.map_nil]); first | done | rfl | (simp only [List.length_drop, List.length_take]; rfl)) ?_; (with_reducible refine (impl_isVersion.calls _ _ l0_0 _ _ l0_1 _ _ y114 false _ ?side1 ?side2 ?side3 ?side4 ?side5 ?side6 A4.out).mono ?_); (case side1 => exact Op.ct (Kd.C_below HR0_0.out HB.out)); (case side2 => exact HC0_0.out); (case side3 => exact Op.ct (Kd.C_below HR0_1.out HB.out)); (case side4 => exact HC0_1.out); (case side5 => exact Op.ct (Kd.R_reads' HO116.out).2.2); (case side6 => exact (Kd.R_reads' HO116.out).2.1); rintro e w28 ⟨rfl, hb⟩; refine ⟨_, rfl, ?_⟩; replace HO116 := Op.k (Kd.R_below (Op.rt HO116.out) hb); replace BK113 := Op.k (Op.b4 (Op.bt BK113.out) hb); replace HB := Op.k (Op.a5 (Op.ht HB.out) hb); (try clear hb); (try clear hb2); (try clear hk); (try clear hi)))
  go_ret2
  exact ⟨by first | rfl | (simp [errW_none, errW_some] <;> rfl) | (simp [*, errW_none, errW_some] <;> rfl), Op.ht HB.out⟩

/-! ### impl_AllIn: function 25 -/
def impl_AllIn.l0 : Nat → Int → List Int → Int → List (S65) → List Int → Option (List Int × Bool)
 | 0, _, _, _, _, _ => none
 | k + 1, x1, x6, x14, x121000, x121001 => if x14 < 16 then ((impl_get.f x121000 x121001 x1 x14).bind fun t128 => (if x6.length < 17592186044416 then (impl_AllIn.l0 k x1 (x6 ++ [t128]) (wrap64 (x14 + 1)) x121000 x121001) else (none))) else (some (x6, true))
def impl_AllIn.f (k : Nat) (l0_0 : List (S65)) (l0_1 : List Int) (a1 : Int) : Option (List Int × Bool) := (impl_isVersion.f l0_0 l0_1 (([a1] : List Int))).bind fun t124 => (if t124 = true then (impl_AllIn.l0 k a1 (([] : List Int)) 0 l0_0 l0_1) else (some (([] : List Int), false)))
theorem impl_AllIn.mono_l : ∀ k, (∀ y0 y1 y2 y3 y4, LeO (impl_AllIn.l0 k y0 y1 y2 y3 y4) (impl_AllIn.l0 (k + 1) y0 y1 y2 y3 y4))
 | 0 => fun _ _ _ _ _ r h => by simp [impl_AllIn.l0] at h
 | k + 1 => by
  have ih0 := impl_AllIn.mono_l k
  ·intro y0 y1 y2 y3 y4
   unfold impl_AllIn.l0
   repeat' first
   | (with_reducible exact ih0 _ _ _ _ _)
   | (with_reducible exact LeO.refl _)
   | (with_reducible exact LeO.none _)
   | (with_reducible refine LeO.ite ?_ ?_)
   | (with_reducible refine LeO.bind ?_ (fun _ => ?_))
   | exact ih0 _ _ _ _ _
   | exact LeO.none _
   | refine LeO.ite ?_ ?_
   | refine LeO.bind ?_ (fun _ => ?_)
theorem impl_AllIn.mono : ∀ a0 a1 a2 k, LeO (impl_AllIn.f k a0 a1 a2) (impl_AllIn.f (k + 1) a0 a1 a2) := by
 intro a0 a1 a2 k
 have ih0 := impl_AllIn.mono_l k
 unfold impl_AllIn.f
 repeat' first
   | (with_reducible exact ih0 _ _ _ _ _)
   | (with_reducible exact LeO.refl _)
   | (with_reducible exact LeO.none _)
   | (with_reducible refine LeO.ite ?_ ?_)
   | (with_reducible refine LeO.bind ?_ (fun _ => ?_))
   | exact ih0 _ _ _ _ _
   | exact LeO.none _
   | refine LeO.ite ?_ ?_
   | refine LeO.bind ?_ (fun _ => ?_)
set_option maxHeartbeats 8000000 in
set_option maxRecDepth 100000 in
theorem impl_AllIn.calls (k : Nat) (A0_0 : Option Addr) (c0_0 : Nat) (l0_0 : List (S65)) (A0_1 : Option Addr) (c0_1 : Nat) (l0_1 : List Int) (a1 : Int) (r1 : List Int) (r2 : Bool) (w : World) (hr0_0 : Kd.C k65 w A0_0 l0_0.length l0_0) (hc0_0 : l0_0.length ≤ c0_0) (hr0_1 : Kd.C (Kd.int .i64) w A0_1 l0_1.length l0_1) (hc0_1 : l0_1.length ≤ c0_1) (h : impl_AllIn.f k l0_0 l0_1 a1 = some (r1, r2)) :
  Calls Try.prog 25 #[.agg #[.slice A0_0 l0_0.length c0_0, .slice A0_1 l0_1.length c0_1], .int .i64 a1] w fun e w' => ∃ v0_ : Value, e = .returned (.tuple #[v0_, .bool r2]) ∧ Kd.R (Kd.int .i64) 3 w' w.heap.size (fun _ => True) v0_ r1 ∧ Below w.heap.size w w' := by
 have hu25 := Try.underlying25
 have HR0_0 := Op.k hr0_0
 have HC0_0 := Op.k hc0_0
 clear hr0_0 hc0_0
 have HR0_1 := Op.k hr0_1
 have HC0_1 := Op.k hc0_1
 clear hr0_1 hc0_1
 have HB := Op.k (Below.refl w.heap.size w)
 have H : ((impl_isVersion.f l0_0 l0_1 (([a1] : List Int))).bind fun t124 => (if t124 = true then (impl_AllIn.l0 k a1 (([] : List Int)) 0 l0_0 l0_1) else (some (([] : List Int), false)))) = some (r1, r2) := h
 clear h
 obtain ⟨y121, hy121⟩ : ∃ y_ : List Int, y_ = (([a1] : List Int)) := ⟨_, rfl⟩
 replace H : ((impl_isVersion.f l0_0 l0_1 y121).bind fun t124 => (if t124 = true then (impl_AllIn.l0 k a1 (([] : List Int)) 0 l0_0 l0_1) else (some (([] : List Int), false)))) = some (r1, r2) := by first | (rw [hy121]; with_reducible exact H) | (have H2_ := (Option.bind_some _ _).symm.trans H; rw [hy121]; with_reducible exact H2_) | (have H2_ := (Option.bind_some _ _).symm.trans H; with_reducible exact H2_) | with_reducible exact H | (rw [hy121]; exact H) | exact H
 have Ny121 := Op.k hy121
 clear hy121
 replace H := Option.bind_eq_some_iff.mp H
 obtain ⟨t124, A30, H⟩ := H
 try dsimp only at H
 have A3 := Op.k A30
 clear A30
 by_cases c4 : t124 = true
 ·subst c4
  have H1 : (impl_AllIn.l0 k a1 (([] : List Int)) 0 l0_0 l0_1) = some (r1, r2) := by rw [if_pos rfl] at H; exact H
  clear H
  have H := H1
  clear H1
  obtain ⟨y125, hy125⟩ : ∃ y_ : List Int, y_ = (([] : List Int)) := ⟨_, rfl⟩
  replace H : (impl_AllIn.l0 k a1 y125 0 l0_0 l0_1) = some (r1, r2) := by first | (rw [hy125]; with_reducible exact H) | (have H2_ := (Option.bind_some _ _).symm.trans H; rw [hy125]; with_reducible exact H2_) | (have H2_ := (Option.bind_some _ _).symm.trans H; with_reducible exact H2_) | with_reducible exact H | (rw [hy125]; exact H) | exact H
  have Ny125 := Op.k hy125
  clear hy125
  have H' := Op.k H
  clear H
  go_enter Try.func25, Try.ntmps25
  go_wp2_with (first | ((with_reducible refine gate_dst (N := 2) rfl ?_); refine box_event ?hg (N := 2) ?hd (cs := #[.slice A0_0 l0_0.length c0_0, .slice A0_1 l0_1.length c0_1]) (t := 25) ?hr ?_; (case hd => rfl); (case hg => rfl); (case hr => first | (go_simp; done) | (go_simp; rfl)); intro gb120 hg w5 hbox hb; have BK120 := Op.k (hbox); have GW120 := Op.k ((Op.nz hg (Op.ht HB.out) : w.heap.size ≤ gb120)); have GE120 := Op.k ((Op.nz hg (Op.ht HB.out) : w.heap.size ≤ gb120)); replace HB := Op.k (Op.a5 (Op.ht HB.out) hb); clear hb hbox hg; have hcz6_0 := Op.c0 BK120.out; have hcz6_1 := Op.c1 BK120.out; have hfz6_0 := Op.bf BK120.out 0; have hfz6_1 := Op.bf BK120.out 1) | ((with_reducible refine gate_dst (N := 10) rfl ?_); refine Kd.R_lit (Kd.int .i64) _ 3 ?hg (N := 10) ?hd (xs := ([a1] : List Int)) (inner := [.int .i64 a1]) (ok := fun _ => True) (okp := fun _ => True) ?hr ?hp (fun _ hk => hk) trivial (Below.refl _ _) (Nat.le_refl _) (by simp) ?_; (case hd => rfl); (case hg => rfl); (case hr => first | (go_simp; done) | (go_simp; rfl)); (case hp => exact (Reps.one (show Kd.M (Kd.int .i64) _ _ _ a1 [.int .i64 a1] from rfl) (Reps.none _ _))); intro v122 w7 ho8 hb hg_ hnew_; clear hg_ hnew_; (first | rw [← Ny121.out] at ho8 | (simp only [Int.reduceToNat] at ho8; rw [← Ny121.out] at ho8)); have HO123 := Op.k (Kd.R_lower ho8 (Op.a6 (Op.ht HB.out))); replace BK120 := Op.k (Op.b4 (Op.bt BK120.out) hb); replace HB := Op.k (Op.a5 (Op.ht HB.out) hb); clear hb ho8; obtain ⟨Ao9, co9, eo9⟩ := Kd.R_slice HO123.out; subst eo9) | ((with_reducible refine gate_callee (f := 61) rfl ?_); refine goesL_ (some 11) rfl rfl Try.func61 (by kernel_rfl) rfl #[.agg #[.slice A0_0 l0_0.length c0_0, .slice A0_1 l0_1.length c0_1], .slice Ao9 y121.length co9] rfl (by (try simp only [List.map_toArray, List.map_cons, List.map_nil]); first | done | rfl | (simp only [List.length_drop, List.length_take]; rfl)) ?_; (with_reducible refine (impl_isVersion.calls _ _ l0_0 _ _ l0_1 _ _ y121 true _ ?side1 ?side2 ?side3 ?side4 ?side5 ?side6 A3.out).mono ?_); (case side1 => exact Op.ct (Kd.C_below HR0_0.out HB.out)); (case side2 => exact HC0_0.out); (case side3 => exact Op.ct (Kd.C_below HR0_1.out HB.out)); (case side4 => exact HC0_1.out); (case side5 => exact Op.ct (Kd.R_reads' HO123.out).2.2); (case side6 => exact (Kd.R_reads' HO123.out).2.1); rintro e w10 ⟨rfl, hb⟩; refine ⟨_, rfl, ?_⟩; replace HO123 := Op.k (Kd.R_below (Op.rt HO123.out) hb); replace BK120 := Op.k (Op.b4 (Op.bt BK120.out) hb); replace HB := Op.k (Op.a5 (Op.ht HB.out) hb); (try clear hb); (try clear hb2); (try clear hk); (try clear hi)) | ((with_reducible refine gate_dst (N := 13) rfl ?_); refine Kd.R_lit (Kd.int .i64) _ 3 ?hg (N := 13) ?hd (xs := ([] : List Int)) (inner := []) (ok := fun _ => True) (okp := fun _ => True) ?hr ?hp (fun _ hk => hk) trivial (Below.refl _ _) (Nat.le_refl _) (by simp) ?_; (case hd => rfl); (case hg => rfl); (case hr => first | (go_simp; done) | (go_simp; rfl)); (case hp => exact (Reps.none _ _)); intro v126 w11 ho12 hb hg_ hnew_; clear hg_ hnew_; (first | rw [← Ny125.out] at ho12 | (simp only [Int.reduceToNat] at ho12; rw [← Ny125.out] at ho12)); have HO127 := Op.k (Kd.R_lower (Kd.R_new' ho12 (Kd.R_lt (Op.rt HO123.out))) (Op.a6 (Op.ht HB.out))); replace HO123 := Op.k (Kd.R_elder' (Op.rt HO123.out) (Kd.R_base ho12) hb); replace BK120 := Op.k (Op.b4 (Op.bt BK120.out) hb); replace HB := Op.k (Op.a5 (Op.ht HB.out) hb); clear hb ho12))
  go_loopg [6, 14] k (fun kq v6 v14 w' => ∃ (x6_1 : List Int) (x14_1 : Int), v14 = .int .i64 x14_1 ∧ Aside0 (impl_AllIn.l0 kq a1 x6_1 x14_1 l0_0 l0_1 = some (r1, r2)) ∧ Aside0 (kq ≤ k) ∧ Aside0 (Kd.R (Kd.int .i64) 3 w' w.heap.size (fun _ => True) v6 x6_1) ∧ Aside0 (w'.heap[gb120]? = some (.cells #[(.slice A0_0 l0_0.length c0_0), (.slice A0_1 l0_1.length c0_1)] 25 (0, 0))) ∧ Aside0 (Below w.heap.size w w'))
  case atStart => exact ⟨(y125), (0), (by first | rfl | (simp; done) | (simp [*]; done)), H', ⟨Nat.le_refl _⟩, ⟨Kd.R_mono (Op.rt HO127.out) (fun _ hk => trivial)⟩, ⟨Op.bt BK120.out⟩, ⟨Op.ht HB.out⟩⟩
  case round =>
   clear H'
   try clear c2
   try clear p2
   try clear c4
   try clear c6
   try clear hcz6_0
   try clear hcz6_1
   try clear hfz6_0
   try clear hfz6_1
   obtain ⟨x6_1, x14_1, rfl, HA, HK1, HO_6, BK120, HB⟩ := hrel
   cases gk with
   | zero => exact absurd HA.out (by simp [impl_AllIn.l0])
   | succ k1 =>
    have H := HA.out
    clear HA
    simp only [impl_AllIn.l0] at H
    by_cases c13 : x14_1 < 16
    ·rw [if_pos c13] at H
     have c13b0 : decide (x14_1 < 16) = true := decide_eq_true c13
     clear c13
     replace H := Option.bind_eq_some_iff.mp H
     obtain ⟨t128, A140, H⟩ := H
     try dsimp only at H
     have A14 := Op.k A140
     clear A140
     by_cases c15 : x6_1.length < 17592186044416
     ·rw [if_pos c15] at H
      have LMc15 := Op.k c15
      clear c15
      obtain ⟨y129, hy129⟩ : ∃ y_ : List Int, y_ = (x6_1 ++ [t128]) := ⟨_, rfl⟩
      replace H : (impl_AllIn.l0 k1 a1 y129 (wrap64 (x14_1 + 1)) l0_0 l0_1) = some (r1, r2) := by first | (rw [hy129]; with_reducible exact H) | (have H2_ := (Option.bind_some _ _).symm.trans H; rw [hy129]; with_reducible exact H2_) | (have H2_ := (Option.bind_some _ _).symm.trans H; with_reducible exact H2_) | with_reducible exact H | (rw [hy129]; exact H) | exact H
      have Ny129 := Op.k hy129
      clear hy129
      have H' := Op.k H
      clear H
      have hcz16_0 := Op.c0 BK120.out
      have hcz16_1 := Op.c1 BK120.out
      have hfz16_0 := Op.bf BK120.out 0
      have hfz16_1 := Op.bf BK120.out 1
      go_wp2_with (first | ((with_reducible refine gate_callee (f := 63) rfl ?_); refine goesL_ (some 21) rfl rfl Try.func63 (by kernel_rfl) rfl #[.agg #[.slice A0_0 l0_0.length c0_0, .slice A0_1 l0_1.length c0_1], .int .i64 a1, .int .i64 x14_1] rfl (by (try simp only [List.map_toArray, List.map_cons, List.map_nil]); first | done | rfl | (simp only [List.length_drop, List.length_take]; rfl)) ?_; (with_reducible refine (impl_get.calls _ _ l0_0 _ _ l0_1 a1 x14_1 t128 _ ?side1 ?side2 ?side3 ?side4 A14.out).mono ?_); (case side1 => exact Op.ct (Kd.C_below HR0_0.out HB.out)); (case side2 => exact HC0_0.out); (case side3 => exact Op.ct (Kd.C_below HR0_1.out HB.out)); (case side4 => exact HC0_1.out); rintro e w17 ⟨rfl, hb⟩; refine ⟨_, rfl, ?_⟩; replace HO_6 := Op.k (Kd.R_below (Op.rt HO_6.out) hb); replace BK120 := Op.k (Op.b4 (Op.bt BK120.out) hb); replace HB := Op.k (Op.a5 (Op.ht HB.out) hb); (try clear hb); (try clear hb2); (try clear hk); (try clear hi)) | ((with_reducible refine gate_builtin (b := .append) (xs := #[.tmp 17, .tmp 22]) rfl ?_); at_builtin; refine Kd.R_append (Kd.int .i64) (w0 := w) w.heap.size rfl (.tmp 17) (.tmp 22) 23 3 (.int .i64 0) 8 rfl Try.underlying23 info3 rfl (by decide) (by omega) u6 x6_1 t128 [.int .i64 t128] (fun _ => True) (fun _ => False) rfl rfl ?aP (fun _ hk => hk.elim) ?aF ?aO ?aB ?aS ?aL ?_; (case aP => exact rfl); (case aB => exact (Op.ht HB.out)); (case aF => exact (fun _ _ => trivial)); (case aO => exact (Op.rt HO_6.out)); (case aS => exact (Op.a6 (Op.ht HB.out))); (case aL => have := LMc15.out; omega); intro v130 w18 ho hb hg hat; rw [← Ny129.out] at ho; have n0_ := Op.k (blk_grown (Op.bt BK120.out) hg (Kd.R_ne HO_6.out BK120.out (by decide))); have n1_ := Op.k (hb); have n2_ := Op.k (ho); clear BK120; clear HB; clear HO_6; have BK120 := n0_; have HB := n1_; have HO131 := n2_; clear n0_ n1_ n2_; clear ho hb hg hat))
      go_roundg k1
      case measure => have := HK1.out; omega
      case rel => exact ⟨(y129), (wrap64 (x14_1 + 1)), (by first | rfl | (simp; done) | (simp [*]; done)), H', ⟨by have := HK1.out; omega⟩, ⟨Op.rt HO131.out⟩, ⟨Op.bt BK120.out⟩, ⟨Op.ht HB.out⟩⟩
     ·rw [if_neg c15] at H
      exact absurd H (by simp)
    ·rw [if_neg c13] at H
     have c13b0 : decide (x14_1 < 16) = false := decide_eq_false c13
     clear c13
     simp only [Option.some.injEq, Prod.mk.injEq] at H
     obtain ⟨rfl, rfl⟩ := H
     go_wp2
     go_ret2
     exact ⟨_, by first | rfl | (simp [errW_none, errW_some] <;> rfl) | (simp [*, errW_none, errW_some] <;> rfl), Op.rt HO_6.out, Op.ht HB.out⟩
 ·replace c4 := Bool.eq_false_iff.mpr c4
  subst c4
  have H1 : (some (([] : List Int), false)) = some (r1, r2) := by rw [if_neg (show ¬ (false = true) by decide)] at H; exact H
  clear H
  have H := H1
  clear H1
  simp only [Option.some.injEq, Prod.mk.injEq] at H
  obtain ⟨rfl, rfl⟩ := H
  go_enter Try.func25, Try.ntmps25
  go_wp2_with (first | ((with_reducible refine gate_dst (N := 2) rfl ?_); refine box_event ?hg (N := 2) ?hd (cs := #[.slice A0_0 l0_0.length c0_0, .slice A0_1 l0_1.length c0_1]) (t := 25) ?hr ?_; (case hd => rfl); (case hg => rfl); (case hr => first | (go_simp; done) | (go_simp; rfl)); intro gb120 hg w19 hbox hb; have BK120 := Op.k (hbox); have GW120 := Op.k ((Op.nz hg (Op.ht HB.out) : w.heap.size ≤ gb120)); have GE120 := Op.k ((Op.nz hg (Op.ht HB.out) : w.heap.size ≤ gb120)); replace HB := Op.k (Op.a5 (Op.ht HB.out) hb); clear hb hbox hg; have hcz20_0 := Op.c0 BK120.out; have hcz20_1 := Op.c1 BK120.out; have hfz20_0 := Op.bf BK120.out 0; have hfz20_1 := Op.bf BK120.out 1) | ((with_reducible refine gate_dst (N := 10) rfl ?_); refine Kd.R_lit (Kd.int .i64) _ 3 ?hg (N := 10) ?hd (xs := ([a1] : List Int)) (inner := [.int .i64 a1]) (ok := fun _ => True) (okp := fun _ => True) ?hr ?hp (fun _ hk => hk) trivial (Below.refl _ _) (Nat.le_refl _) (by simp) ?_; (case hd => rfl); (case hg => rfl); (case hr => first | (go_simp; done) | (go_simp; rfl)); (case hp => exact (Reps.one (show Kd.M (Kd.int .i64) _ _ _ a1 [.int .i64 a1] from rfl) (Reps.none _ _))); intro v122 w21 ho22 hb hg_ hnew_; clear hg_ hnew_; (first | rw [← Ny121.out] at ho22 | (simp only [Int.reduceToNat] at ho22; rw [← Ny121.out] at ho22)); have HO123 := Op.k (Kd.R_lower ho22 (Op.a6 (Op.ht HB.out))); replace BK120 := Op.k (Op.b4 (Op.bt BK120.out) hb); replace HB := Op.k (Op.a5 (Op.ht HB.out) hb); clear hb ho22; obtain ⟨Ao23, co23, eo23⟩ := Kd.R_slice HO123.out; subst eo23) | ((with_reducible refine gate_callee (f := 61) rfl ?_); refine goesL_ (some 11) rfl rfl Try.func61 (by kernel_rfl) rfl #[.agg #[.slice A0_0 l0_0.length c0_0, .slice A0_1 l0_1.length c0_1], .slice Ao23 y121.length co23] rfl (by (try simp only [List.map_toArray, List.map_cons, List.map_nil]); first | done | rfl | (simp only [List.length_drop, List.length_take]; rfl)) ?_; (with_reducible refine (impl_isVersion.calls _ _ l0_0 _ _ l0_1 _ _ y121 false _ ?side1 ?side2 ?side3 ?side4 ?side5 ?side6 A3.out).mono ?_); (case side1 => exact Op.ct (Kd.C_below HR0_0.out HB.out)); (case side2 => exact HC0_0.out); (case side3 => exact Op.ct (Kd.C_below HR0_1.out HB.out)); (case side4 => exact HC0_1.out); (case side5 => exact Op.ct (Kd.R_reads' HO123.out).2.2); (case side6 => exact (Kd.R_reads' HO123.out).2.1); rintro e w24 ⟨rfl, hb⟩; refine ⟨_, rfl, ?_⟩; replace HO123 := Op.k (Kd.R_below (Op.rt HO123.out) hb); replace BK120 := Op.k (Op.b4 (Op.bt BK120.out) hb); replace HB := Op.k (Op.a5 (Op.ht HB.out) hb); (try clear hb); (try clear hb2); (try clear hk); (try clear hi)))
  go_ret2
  exact ⟨_, by first | rfl | (simp [errW_none, errW_some] <;> rfl) | (simp [*, errW_none, errW_some] <;> rfl), by first | exact Kd.R_nil _ _ _ _ _ | exact Kd.N_nil _ _ _ _ _ | exact Kd.V_nil _ _ _ _ _ | exact Kd.Q_nil _ _ _ _ _ | exact Kd.S_nil _ _ _ _ _, Op.ht HB.out⟩

/-! ### spec_l11There: function 58 -/
def spec_l11There.f (k : Nat) (l0_0 : List (S65)) (l0_1 : List Int) (a1 : Int) : Option (Bool) := (spec_GoodPool.f k l0_0 l0_1).bind fun t133 => (if t133 = true then (if a1 ≥ 0 then (some (decide (a1 < (l0_1.length : Int)))) else (some false)) else (some false))
theorem spec_l11There.mono : ∀ a0 a1 a2 k, LeO (spec_l11There.f k a0 a1 a2) (spec_l11There.f (k + 1) a0 a1 a2) := by
 intro a0 a1 a2 k
 unfold spec_l11There.f
 repeat' first
   | (with_reducible exact spec_GoodPool.mono _ _ _)
   | (with_reducible exact LeO.refl _)
   | (with_reducible exact LeO.none _)
   | (with_reducible refine LeO.ite ?_ ?_)
   | (with_reducible refine LeO.bind ?_ (fun _ => ?_))
   | exact spec_GoodPool.mono _ _ _
   | exact LeO.none _
   | refine LeO.ite ?_ ?_
   | refine LeO.bind ?_ (fun _ => ?_)
set_option maxHeartbeats 8000000 in
set_option maxRecDepth 100000 in
theorem spec_l11There.calls (k : Nat) (A0_0 : Option Addr) (c0_0 : Nat) (l0_0 : List (S65)) (A0_1 : Option Addr) (c0_1 : Nat) (l0_1 : List Int) (a1 : Int) (r : Bool) (w : World) (hr0_0 : Kd.C k65 w A0_0 l0_0.length l0_0) (hc0_0 : l0_0.length ≤ c0_0) (hr0_1 : Kd.C (Kd.int .i64) w A0_1 l0_1.length l0_1) (hc0_1 : l0_1.length ≤ c0_1) (h : spec_l11There.f k l0_0 l0_1 a1 = some r) :
  Calls Try.prog 58 #[.agg #[.slice A0_0 l0_0.length c0_0, .slice A0_1 l0_1.length c0_1], .int .i64 a1] w fun e w' => e = .returned (.bool r) ∧ Below w.heap.size w w' := by
 have hu25 := Try.underlying25
 have HR0_0 := Op.k hr0_0
 have HC0_0 := Op.k hc0_0
 clear hr0_0 hc0_0
 have HR0_1 := Op.k hr0_1
 have HC0_1 := Op.k hc0_1
 clear hr0_1 hc0_1
 have HB := Op.k (Below.refl w.heap.size w)
 have H : ((spec_GoodPool.f k l0_0 l0_1).bind fun t133 => (if t133 = true then (if a1 ≥ 0 then (some (decide (a1 < (l0_1.length : Int)))) else (some false)) else (some false))) = some r := h
 clear h
 replace H := Option.bind_eq_some_iff.mp H
 obtain ⟨t133, A30, H⟩ := H
 try dsimp only at H
 have A3 := Op.k A30
 clear A30
 by_cases c4 : t133 = true
 ·subst c4
  have H1 : (if a1 ≥ 0 then (some (decide (a1 < (l0_1.length : Int)))) else (some false)) = some r := by rw [if_pos rfl] at H; exact H
  clear H
  have H := H1
  clear H1
  by_cases c5 : a1 ≥ 0
  ·rw [if_pos c5] at H
   have c5b0 : decide (0 ≤ a1) = true := decide_eq_true c5
   clear c5
   obtain rfl := Option.some.inj H
   go_enter Try.func58, Try.ntmps58
   go_wp2_with (first | ((with_reducible refine gate_dst (N := 2) rfl ?_); (try (refine gate_guard (by rfl) ?_; dsimp only)); refine box_event ?hg (N := 2) ?hd (cs := #[.slice A0_0 l0_0.length c0_0, .slice A0_1 l0_1.length c0_1]) (t := 25) ?hr ?_; (case hd => rfl); (case hg => rfl); (case hr => first | (go_simp; done) | (go_simp; rfl)); intro gb132 hg w6 hbox hb; have BK132 := Op.k (hbox); have GW132 := Op.k ((Op.nz hg (Op.ht HB.out) : w.heap.size ≤ gb132)); have GE132 := Op.k ((Op.nz hg (Op.ht HB.out) : w.heap.size ≤ gb132)); replace HB := Op.k (Op.a5 (Op.ht HB.out) hb); clear hb hbox hg; have hcz7_0 := Op.c0 BK132.out; have hcz7_1 := Op.c1 BK132.out; have hfz7_0 := Op.bf BK132.out 0; have hfz7_1 := Op.bf BK132.out 1) | ((with_reducible refine gate_callee (f := 19) rfl ?_); refine goesL_ (some 6) rfl rfl Try.func19 (by kernel_rfl) rfl #[.agg #[.slice A0_0 l0_0.length c0_0, .slice A0_1 l0_1.length c0_1]] rfl (by (try simp only [List.map_toArray, List.map_cons, List.map_nil]); first | done | rfl | (simp only [List.length_drop, List.length_take]; rfl)) ?_; (with_reducible refine (spec_GoodPool.calls k _ _ l0_0 _ _ l0_1 true _ ?side1 ?side2 ?side3 ?side4 A3.out).mono ?_); (case side1 => exact Op.ct (Kd.C_below HR0_0.out HB.out)); (case side2 => exact HC0_0.out); (case side3 => exact Op.ct (Kd.C_below HR0_1.out HB.out)); (case side4 => exact HC0_1.out); rintro e w8 ⟨rfl, hb⟩; refine ⟨_, rfl, ?_⟩; replace BK132 := Op.k (Op.b4 (Op.bt BK132.out) hb); replace HB := Op.k (Op.a5 (Op.ht HB.out) hb); (try clear hb); (try clear hb2); (try clear hk); (try clear hi); have hcz9_0 := Op.c0 BK132.out; have hcz9_1 := Op.c1 BK132.out; have hfz9_0 := Op.bf BK132.out 0; have hfz9_1 := Op.bf BK132.out 1))
   go_ret
   exact ⟨by first | rfl | (simp [errW_none, errW_some] <;> rfl) | (simp [*, errW_none, errW_some] <;> rfl), Op.ht HB.out⟩
  ·rw [if_neg c5] at H
   have c5b0 : decide (0 ≤ a1) = false := decide_eq_false c5
   clear c5
   obtain rfl := Option.some.inj H
   go_enter Try.func58, Try.ntmps58
   go_wp2_with (first | ((with_reducible refine gate_dst (N := 2) rfl ?_); (try (refine gate_guard (by rfl) ?_; dsimp only)); refine box_event ?hg (N := 2) ?hd (cs := #[.slice A0_0 l0_0.length c0_0, .slice A0_1 l0_1.length c0_1]) (t := 25) ?hr ?_; (case hd => rfl); (case hg => rfl); (case hr => first | (go_simp; done) | (go_simp; rfl)); intro gb132 hg w10 hbox hb; have BK132 := Op.k (hbox); have GW132 := Op.k ((Op.nz hg (Op.ht HB.out) : w.heap.size ≤ gb132)); have GE132 := Op.k ((Op.nz hg (Op.ht HB.out) : w.heap.size ≤ gb132)); replace HB := Op.k (Op.a5 (Op.ht HB.out) hb); clear hb hbox hg; have hcz11_0 := Op.c0 BK132.out; have hcz11_1 := Op.c1 BK132.out; have hfz11_0 := Op.bf BK132.out 0; have hfz11_1 := Op.bf BK132.out 1) | ((with_reducible refine gate_callee (f := 19) rfl ?_); refine goesL_ (some 6) rfl rfl Try.func19 (by kernel_rfl) rfl #[.agg #[.slice A0_0 l0_0.length c0_0, .slice A0_1 l0_1.length c0_1]] rfl (by (try simp only [List.map_toArray, List.map_cons, List.map_nil]); first | done | rfl | (simp only [List.length_drop, List.length_take]; rfl)) ?_; (with_reducible refine (spec_GoodPool.calls k _ _ l0_0 _ _ l0_1 true _ ?side1 ?side2 ?side3 ?side4 A3.out).mono ?_); (case side1 => exact Op.ct (Kd.C_below HR0_0.out HB.out)); (case side2 => exact HC0_0.out); (case side3 => exact Op.ct (Kd.C_below HR0_1.out HB.out)); (case side4 => exact HC0_1.out); rintro e w12 ⟨rfl, hb⟩; refine ⟨_, rfl, ?_⟩; replace BK132 := Op.k (Op.b4 (Op.bt BK132.out) hb); replace HB := Op.k (Op.a5 (Op.ht HB.out) hb); (try clear hb); (try clear hb2); (try clear hk); (try clear hi)))
   go_ret
   exact ⟨by first | rfl | (simp [errW_none, errW_some] <;> rfl) | (simp [*, errW_none, errW_some] <;> rfl), Op.ht HB.out⟩
 ·replace c4 := Bool.eq_false_iff.mpr c4
  subst c4
  have H1 : (some false) = some r := by rw [if_neg (show ¬ (false = true) by decide)] at H; exact H
  clear H
  have H := H1
  clear H1
  obtain rfl := Option.some.inj H
  go_enter Try.func58, Try.ntmps58
  go_wp2_with (first | ((with_reducible refine gate_dst (N := 2) rfl ?_); (try (refine gate_guard (by rfl) ?_; dsimp only)); refine box_event ?hg (N := 2) ?hd (cs := #[.slice A0_0 l0_0.length c0_0, .slice A0_1 l0_1.length c0_1]) (t := 25) ?hr ?_; (case hd => rfl); (case hg => rfl); (case hr => first | (go_simp; done) | (go_simp; rfl)); intro gb132 hg w13 hbox hb; have BK132 := Op.k (hbox); have GW132 := Op.k ((Op.nz hg (Op.ht HB.out) : w.heap.size ≤ gb132)); have GE132 := Op.k ((Op.nz hg (Op.ht HB.out) : w.heap.size ≤ gb132)); replace HB := Op.k (Op.a5 (Op.ht HB.out) hb); clear hb hbox hg; have hcz14_0 := Op.c0 BK132.out; have hcz14_1 := Op.c1 BK132.out; have hfz14_0 := Op.bf BK132.out 0; have hfz14_1 := Op.bf BK132.out 1) | ((with_reducible refine gate_callee (f := 19) rfl ?_); refine goesL_ (some 6) rfl rfl Try.func19 (by kernel_rfl) rfl #[.agg #[.slice A0_0 l0_0.length c0_0, .slice A0_1 l0_1.length c0_1]] rfl (by (try simp only [List.map_toArray, List.map_cons, List.map_nil]); first | done | rfl | (simp only [List.length_drop, List.length_take]; rfl)) ?_; (with_reducible refine (spec_GoodPool.calls k _ _ l0_0 _ _ l0_1 false _ ?side1 ?side2 ?side3 ?side4 A3.out).mono ?_); (case side1 => exact Op.ct (Kd.C_below HR0_0.out HB.out)); (case side2 => exact HC0_0.out); (case side3 => exact Op.ct (Kd.C_below HR0_1.out HB.out)); (case side4 => exact HC0_1.out); rintro e w15 ⟨rfl, hb⟩; refine ⟨_, rfl, ?_⟩; replace BK132 := Op.k (Op.b4 (Op.bt BK132.out) hb); replace HB := Op.k (Op.a5 (Op.ht HB.out) hb); (try clear hb); (try clear hb2); (try clear hk); (try clear hi)))
  go_ret
  exact ⟨by first | rfl | (simp [errW_none, errW_some] <;> rfl) | (simp [*, errW_none, errW_some] <;> rfl), Op.ht HB.out⟩

/-! ### spec_l11Leaf: function 67 -/
def spec_l11Leaf.f (l0_0 : List (S65)) (l0_1 : List Int) (a1 : Int) (a2 : Int) : Option (Int) := if 0 ≤ a1 then (if a1 < (l0_1.length : Int) then (if (rd l0_1 a1) < 0 then (some (-1)) else (if 0 ≤ (rd l0_1 a1) then (if (rd l0_1 a1) < (l0_0.length : Int) then (if 0 ≤ (wrap64 (Int.tdiv a2 4)) then (if (wrap64 (Int.tdiv a2 4)) < (((rd_T65 l0_0 (rd l0_1 a1)).f0).length : Int) then (some (rd ((rd_T65 l0_0 (rd l0_1 a1)).f0) (wrap64 (Int.tdiv a2 4)))) else (none)) else (none)) else (none)) else (none))) else (none)) else (none)
set_option maxHeartbeats 8000000 in
set_option maxRecDepth 100000 in
theorem spec_l11Leaf.calls (A0_0 : Option Addr) (c0_0 : Nat) (l0_0 : List (S65)) (A0_1 : Option Addr) (c0_1 : Nat) (l0_1 : List Int) (a1 : Int) (a2 : Int) (r : Int) (w : World) (hr0_0 : Kd.C k65 w A0_0 l0_0.length l0_0) (hc0_0 : l0_0.length ≤ c0_0) (hr0_1 : Kd.C (Kd.int .i64) w A0_1 l0_1.length l0_1) (hc0_1 : l0_1.length ≤ c0_1) (h : spec_l11Leaf.f l0_0 l0_1 a1 a2 = some r) :
  Calls Try.prog 67 #[.agg #[.slice A0_0 l0_0.length c0_0, .slice A0_1 l0_1.length c0_1], .int .i64 a1, .int .i64 a2] w fun e w' => e = .returned (.int .i64 r) ∧ Below w.heap.size w w' := by
 have hu25 := Try.underlying25
 have HR0_0 := Op.k hr0_0
 have HC0_0 := Op.k hc0_0
 clear hr0_0 hc0_0
 have HR0_1 := Op.k hr0_1
 have HC0_1 := Op.k hc0_1
 clear hr0_1 hc0_1
 have HB := Op.k (Below.refl w.heap.size w)
 have H : (if 0 ≤ a1 then (if a1 < (l0_1.length : Int) then (if (rd l0_1 a1) < 0 then (some (-1)) else (if 0 ≤ (rd l0_1 a1) then (if (rd l0_1 a1) < (l0_0.length : Int) then (if 0 ≤ (wrap64 (Int.tdiv a2 4)) then (if (wrap64 (Int.tdiv a2 4)) < (((rd_T65 l0_0 (rd l0_1 a1)).f0).length : Int) then (some (rd ((rd_T65 l0_0 (rd l0_1 a1)).f0) (wrap64 (Int.tdiv a2 4)))) else (none)) else (none)) else (none)) else (none))) else (none)) else (none)) = some r := h
 clear h
 by_cases c4 : 0 ≤ a1
 ·rw [if_pos c4] at H
  have c4b0 : decide (0 ≤ a1) = true := decide_eq_true c4
  clear c4
  by_cases c5 : a1 < (l0_1.length : Int)
  ·rw [if_pos c5] at H
   have c5b0 : decide (a1 < (l0_1.length : Int)) = true := decide_eq_true c5
   clear c5
   by_cases c6 : (rd l0_1 a1) < 0
   ·rw [if_pos c6] at H
    have c6b0 : decide ((rd l0_1 a1) < 0) = true := decide_eq_true c6
    clear c6
    obtain rfl := Option.some.inj H
    go_enter Try.func67, Try.ntmps67
    go_wp2_with (first | ((with_reducible refine gate_dst (N := 3) rfl ?_); refine box_event ?hg (N := 3) ?hd (cs := #[.slice A0_0 l0_0.length c0_0, .slice A0_1 l0_1.length c0_1]) (t := 25) ?hr ?_; (case hd => rfl); (case hg => rfl); (case hr => first | (go_simp; done) | (go_simp; rfl)); intro gb134 hg w7 hbox hb; have BK134 := Op.k (hbox); have GW134 := Op.k ((Op.nz hg (Op.ht HB.out) : w.heap.size ≤ gb134)); have GE134 := Op.k ((Op.nz hg (Op.ht HB.out) : w.heap.size ≤ gb134)); replace HB := Op.k (Op.a5 (Op.ht HB.out) hb); clear hb hbox hg; have hcz8_0 := Op.c0 BK134.out; have hcz8_1 := Op.c1 BK134.out; have hfz8_0 := Op.bf BK134.out 0; have hfz8_1 := Op.bf BK134.out 1; have p135 : 0 ≤ (a1 : Int) := Op.dt; have q135 : a1 < (l0_1.length : Int) := Op.dt; obtain ⟨ad135, e135, hx135_0⟩ := Kd.at_int HR0_1.out a1 p135 q135; cases e135; replace hx135_0 := (HB.out.cell (World.block_lt_of_cell? w _ hx135_0)).trans hx135_0; replace p135 := eq_true p135; replace q135 := eq_true q135))
    go_ret
    exact ⟨by first | rfl | (simp [errW_none, errW_some] <;> rfl) | (simp [*, errW_none, errW_some] <;> rfl), Op.ht HB.out⟩
   ·rw [if_neg c6] at H
    have c6b0 : decide ((rd l0_1 a1) < 0) = false := decide_eq_false c6
    clear c6
    by_cases c9 : 0 ≤ (rd l0_1 a1)
    ·rw [if_pos c9] at H
     have c9b0 : decide (0 ≤ (rd l0_1 a1)) = true := decide_eq_true c9
     clear c9
     by_cases c10 : (rd l0_1 a1) < (l0_0.length : Int)
     ·rw [if_pos c10] at H
      have c10b0 : decide ((rd l0_1 a1) < (l0_0.length : Int)) = true := decide_eq_true c10
      clear c10
      obtain ⟨ji11, hji11⟩ : ∃ j_ : Int, (wrap64 (Int.tdiv a2 4)) = j_ := ⟨_, rfl⟩
      replace H : (if 0 ≤ (ji11) then (if (ji11) < (((rd_T65 l0_0 (rd l0_1 a1)).f0).length : Int) then (some (rd ((rd_T65 l0_0 (rd l0_1 a1)).f0) (ji11))) else (none)) else (none)) = some r := by first | (rw [hji11] at H; exact H) | (simp only [hji11] at H ⊢; exact H)
      have hji11w : (IntKind.i64.wrap (Int.tdiv a2 4)) = ji11 := (i64_w _).trans hji11
      by_cases c12 : 0 ≤ (ji11)
      ·rw [if_pos c12] at H
       have c12b0 : decide (0 ≤ (ji11)) = true := decide_eq_true c12
       clear c12
       by_cases c13 : (ji11) < (((rd_T65 l0_0 (rd l0_1 a1)).f0).length : Int)
       ·rw [if_pos c13] at H
        have c13b0 : decide ((ji11) < (((rd_T65 l0_0 (rd l0_1 a1)).f0).length : Int)) = true := decide_eq_true c13
        clear c13
        obtain rfl := Option.some.inj H
        go_enter Try.func67, Try.ntmps67
        go_wp2_with (first | ((with_reducible refine gate_dst (N := 3) rfl ?_); refine box_event ?hg (N := 3) ?hd (cs := #[.slice A0_0 l0_0.length c0_0, .slice A0_1 l0_1.length c0_1]) (t := 25) ?hr ?_; (case hd => rfl); (case hg => rfl); (case hr => first | (go_simp; done) | (go_simp; rfl)); intro gb134 hg w14 hbox hb; have BK134 := Op.k (hbox); have GW134 := Op.k ((Op.nz hg (Op.ht HB.out) : w.heap.size ≤ gb134)); have GE134 := Op.k ((Op.nz hg (Op.ht HB.out) : w.heap.size ≤ gb134)); replace HB := Op.k (Op.a5 (Op.ht HB.out) hb); clear hb hbox hg; have hcz15_0 := Op.c0 BK134.out; have hcz15_1 := Op.c1 BK134.out; have hfz15_0 := Op.bf BK134.out 0; have hfz15_1 := Op.bf BK134.out 1; have p135 : 0 ≤ (a1 : Int) := Op.dt; have q135 : a1 < (l0_1.length : Int) := Op.dt; obtain ⟨ad135, e135, hx135_0⟩ := Kd.at_int HR0_1.out a1 p135 q135; cases e135; replace hx135_0 := (HB.out.cell (World.block_lt_of_cell? w _ hx135_0)).trans hx135_0; replace p135 := eq_true p135; replace q135 := eq_true q135; have p136 : 0 ≤ ((rd l0_1 a1) : Int) := Op.dt; have q136 : (rd l0_1 a1) < (l0_0.length : Int) := Op.dt; obtain ⟨ad136, A136_0, c136_0, e136, hx136_0, hx136_1, hl136_0, hi136_0⟩ := at_T65 HR0_0.out (rd l0_1 a1) p136 q136; cases e136; replace hx136_0 := (HB.out.cell (World.block_lt_of_cell? w _ hx136_0)).trans hx136_0; replace hx136_1 := (HB.out.cell (World.block_lt_of_cell? w _ hx136_1)).trans hx136_1; have HR136_0 := Op.k hi136_0; have HC136_0 := Op.k hl136_0; clear hi136_0 hl136_0; replace p136 := eq_true p136; replace q136 := eq_true q136; have p137 : 0 ≤ ((ji11) : Int) := Op.dt; have q137 : (ji11) < (((rd_T65 l0_0 (rd l0_1 a1)).f0).length : Int) := Op.dt; obtain ⟨ad137, e137, hx137_0⟩ := Kd.at_int HR136_0.out (ji11) p137 q137; cases e137; replace hx137_0 := (HB.out.cell (World.block_lt_of_cell? w _ hx137_0)).trans hx137_0; replace p137 := eq_true p137; replace q137 := eq_true q137))
        go_ret
        exact ⟨by first | rfl | (simp [errW_none, errW_some] <;> rfl) | (simp only [← hji11]; first | rfl | (simp [errW_none, errW_some] <;> rfl)) | (simp [*, errW_none, errW_some] <;> rfl), Op.ht HB.out⟩
       ·rw [if_neg c13] at H
        exact absurd H (by simp)
      ·rw [if_neg c12] at H
       exact absurd H (by simp)
     ·rw [if_neg c10] at H
      exact absurd H (by simp)
    ·rw [if_neg c9] at H
     exact absurd H (by simp)
  ·rw [if_neg c5] at H
   exact absurd H (by simp)
 ·rw [if_neg c4] at H
  exact absurd H (by simp)

end Go.Proofs.Ytnafnpoflheonaa.PFnVersions
