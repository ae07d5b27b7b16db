/- Contracts of functions of the translation, written by a program of this repo (a changed copy of the printer). Not trusted: Lean checks it. -/
import Derived.Test.YtdhclelfnbjikaaPFnExactCountsOfx0
import Derived.Test.YtdhclelfnbjikaaPFnExactCountsOfx1
import Derived.Test.YtdhclelfnbjikaaPFnExactCountsOfx2
import Derived.Test.YtdhclelfnbjikaaPFnExactCountsOfx3
import Derived.Test.YtdhclelfnbjikaaPFnExactCountsOfx4
namespace Go.Proofs.Ytdhclelfnbjikaa.PFnExactCountsOf
open Go.RowKit Go.Proofs.YtdhclelfnbjikaaW.PrintWords Go.Proofs.YtdhclelfnbjikaaW.PrintLast Go.Proofs.YtdhclelfnbjikaaW.PrintMore
attribute [local go_sem] max2_int min2_int max_two min_two max_three min_three max_four min_four   -- for this text's walks alone
set_option linter.unusedVariables false
set_option linter.unusedSimpArgs false

/-! ### laws_heldIntS: function 23 -/
def laws_heldIntS.l0 : Nat → List Int → Int → Int → Option (Int)
  | 0, _, _, _ => none
  | k + 1, x0, x1, x5 => if x5 < (x0.length : Int) then (if 0 ≤ x5 then (if (rd x0 x5) = x1 then (laws_heldIntS.l0 k x0 (wrap64 (x1 + 1)) (wrap64 (x5 + 1))) else (some (-1))) else (none)) else (some x1)
def laws_heldIntS.f (k : Nat) (l0 : List Int) (a1 : Int) : Option (Int) := laws_heldIntS.l0 k l0 a1 0
theorem laws_heldIntS.mono_l : ∀ k, (∀ y0 y1 y2, LeO (laws_heldIntS.l0 k y0 y1 y2) (laws_heldIntS.l0 (k + 1) y0 y1 y2))
  | 0 => fun _ _ _ r h => by simp [laws_heldIntS.l0] at h
  | k + 1 => by
    have ih0 := laws_heldIntS.mono_l k
    · intro y0 y1 y2
      unfold laws_heldIntS.l0
      repeat' first
      | (with_reducible exact ih0 _ _ _)
      | (with_reducible exact LeO.refl _)
      | (with_reducible exact LeO.none _)
      | (with_reducible refine LeO.ite ?_ ?_)
      | (with_reducible refine LeO.bind ?_ (fun _ => ?_))
      | exact ih0 _ _ _
      | exact LeO.none _
      | refine LeO.ite ?_ ?_
      | refine LeO.bind ?_ (fun _ => ?_)
theorem laws_heldIntS.mono : ∀ a0 a1 k, LeO (laws_heldIntS.f k a0 a1) (laws_heldIntS.f (k + 1) a0 a1) := by
  intro a0 a1 k
  have ih0 := laws_heldIntS.mono_l k
  unfold laws_heldIntS.f
  repeat' first
      | (with_reducible exact ih0 _ _ _)
      | (with_reducible exact LeO.refl _)
      | (with_reducible exact LeO.none _)
      | (with_reducible refine LeO.ite ?_ ?_)
      | (with_reducible refine LeO.bind ?_ (fun _ => ?_))
      | exact ih0 _ _ _
      | exact LeO.none _
      | refine LeO.ite ?_ ?_
      | refine LeO.bind ?_ (fun _ => ?_)
set_option maxHeartbeats 8000000 in
set_option maxRecDepth 100000 in
theorem laws_heldIntS.calls (k : Nat) (A0 : Option Addr) (c0 : Nat) (l0 : List Int) (a1 : Int) (r : Int) (w : World) (hr0 : Kd.C (Kd.int .i64) w A0 l0.length l0) (hc0 : l0.length ≤ c0) (h : laws_heldIntS.f k l0 a1 = some r) :
    Calls Try.prog 23 #[.slice A0 l0.length c0, .int .i64 a1] w fun e w' => e = .returned (.int .i64 r) ∧ Drawn0 w w' := by
  have HR0 := Aside0.mk hr0
  have HC0 := Aside0.mk hc0
  clear hr0 hc0
  have H : (laws_heldIntS.l0 k l0 a1 0) = some r := h
  clear h
  have H' := Aside0.mk H
  clear H
  go_enter Try.func23, Try.ntmps23
  go_wp2
  go_loopg [1, 5] k (fun kq v1 v5 w' => ∃ (x1_1 : Int) (x5_1 : Int), v1 = .int .i64 x1_1 ∧ v5 = .int .i64 x5_1 ∧ Aside0 (laws_heldIntS.l0 kq l0 x1_1 x5_1 = some r) ∧ Aside0 (kq ≤ k) ∧ Drawn0 w w')
  case atStart => exact ⟨(a1), (0), (by first | rfl | (simp; done) | (simp [*]; done)), (by first | rfl | (simp; done) | (simp [*]; done)), H', ⟨Nat.le_refl _⟩, by repeat (first | exact Drawn0.refl _ | apply Drawn0.step)⟩
  case round =>
    clear H'
    try clear c2
    try clear p2
    obtain ⟨x1_1, x5_1, rfl, rfl, HA, HK1, ⟨m1, rfl⟩⟩ := hrel
    cases gk with
    | zero => exact absurd HA.out (by simp [laws_heldIntS.l0])
    | succ k1 =>
      have H := HA.out
      clear HA
      simp only [laws_heldIntS.l0] at H
      by_cases c3 : x5_1 < (l0.length : Int)
      · rw [if_pos c3] at H
        have c3b0 : decide (x5_1 < (l0.length : Int)) = true := decide_eq_true c3
        clear c3
        by_cases c4 : 0 ≤ x5_1
        · rw [if_pos c4] at H
          have c4b0 : decide (0 ≤ x5_1) = true := decide_eq_true c4
          clear c4
          by_cases c5 : (rd l0 x5_1) = x1_1
          · rw [if_pos c5] at H
            have c5b0 : ((rd l0 x5_1) == x1_1) = true := beq_iff_eq.mpr c5
            have c5b1 : ((rd l0 x5_1) != x1_1) = false := bne_eq_false_iff_eq.mpr c5
            clear c5
            have H' := Aside0.mk H
            clear H
            have p170 : 0 ≤ (x5_1 : Int) := of_decide_eq_true (by first | (with_reducible assumption) | assumption)
            have q170 : x5_1 < (l0.length : Int) := of_decide_eq_true (by first | (with_reducible assumption) | assumption)
            obtain ⟨ad170, e170, hx170_0⟩ := Kd.at_int HR0.out x5_1 p170 q170
            cases e170
            replace p170 := eq_true p170
            replace q170 := eq_true q170
            go_wp2
            go_roundg k1
            case measure => have := HK1.out; omega
            case rel => exact ⟨(wrap64 (x1_1 + 1)), (wrap64 (x5_1 + 1)), (by first | rfl | (simp; done) | (simp [*]; done)), (by first | rfl | (simp; done) | (simp [*]; done)), H', ⟨by have := HK1.out; omega⟩, by repeat (first | exact Drawn0.refl _ | apply Drawn0.step)⟩
          · rw [if_neg c5] at H
            have c5b0 : ((rd l0 x5_1) == x1_1) = false := beq_eq_false_iff_ne.mpr c5
            have c5b1 : ((rd l0 x5_1) != x1_1) = true := bne_iff_ne.mpr c5
            obtain rfl := Option.some.inj H
            have p170 : 0 ≤ (x5_1 : Int) := of_decide_eq_true (by first | (with_reducible assumption) | assumption)
            have q170 : x5_1 < (l0.length : Int) := of_decide_eq_true (by first | (with_reducible assumption) | assumption)
            obtain ⟨ad170, e170, hx170_0⟩ := Kd.at_int HR0.out x5_1 p170 q170
            cases e170
            replace p170 := eq_true p170
            replace q170 := eq_true q170
            go_wp2
            go_ret
            exact ⟨by first | rfl | (simp; done) | (simp [*]; done), by repeat (first | exact Drawn0.refl _ | apply Drawn0.step)⟩
        · rw [if_neg c4] at H
          exact absurd H (by simp)
      · rw [if_neg c3] at H
        have c3b0 : decide (x5_1 < (l0.length : Int)) = false := decide_eq_false c3
        clear c3
        obtain rfl := Option.some.inj H
        go_wp2
        go_ret
        exact ⟨by first | rfl | (simp; done) | (simp [*]; done), by repeat (first | exact Drawn0.refl _ | apply Drawn0.step)⟩

/-! ### laws_FnExactCountsOf: function 3 -/
/-- what the law asks, one after the other -/
def laws_FnExactCountsOf.f (k : Nat) (l0 : List (S69)) (l1 : List Int) : Option Bool :=
  if (l1.length : Int) > 1048576 then some true else ((laws_szNodeS.f k l0 1048576).bind fun be3 => if be3 < 0 then some true else ((laws_toNodeS.f k l0).bind fun be6 => (laws_toIntS.f k l1).bind fun be9 => (spec_CountsOf.f k be6 be9).bind fun be13 => (laws_toNodeS.f k l0).bind fun be16 => (laws_toIntS.f k l1).bind fun be19 => (impl_CountsOf.f k be16 be19).bind fun be23 => (laws_eqIntS.f k be23.1 be13.1).bind fun be26 => if be26 = true then (if (be23.2 != be13.2) = true then some false else ((laws_toNodeS.f k l0).bind fun be29 => (laws_eqNodeS.f k be16 be29).bind fun be32 => if be32 = true then ((laws_toIntS.f k l1).bind fun be35 => (laws_eqIntS.f k be19 be35).bind fun be38 => if be38 = true then ((laws_markNodeS.f k be16 1).bind fun be42 => (laws_markIntS.f k be19 be42.1).bind fun be46 => if be46.1 < 0 then some false else ((laws_eqIntS.f k be23.1 be13.1).bind fun be49 => if be49 = true then (if (be23.2 != be13.2) = true then some false else ((laws_markIntS.f k be23.1 1).bind fun be53 => (laws_heldIntS.f k be53.2 1).bind fun be56 => if be56 < 0 then some false else (if (be56 != be53.1) = true then some false else ((laws_toNodeS.f k l0).bind fun be59 => (laws_toIntS.f k l1).bind fun be62 => (impl_CountsOf.f k be59 be62).bind fun be66 => (laws_eqIntS.f k be66.1 be13.1).bind fun be69 => if be69 = true then (if (be66.2 != be13.2) = true then some false else ((laws_heldIntS.f k be53.2 1).bind fun be72 => if be72 < 0 then some false else (if (be72 != be53.1) = true then some false else (some true)))) else some false)))) else some false)) else some false) else some false)) else some false))
set_option maxHeartbeats 8000000 in
theorem laws_FnExactCountsOf.calls (k : Nat) (A0 : Option Addr) (c0 : Nat) (l0 : List (S69)) (A1 : Option Addr) (c1 : Nat) (l1 : List Int) (r : Bool) (w : World) (hr0 : Kd.C k69 w A0 l0.length l0) (hc0 : l0.length ≤ c0) (hr1 : Kd.C (Kd.int .i64) w A1 l1.length l1) (hc1 : l1.length ≤ c1) (h : laws_FnExactCountsOf.f k l0 l1 = some true) :
    Calls Try.prog 3 #[.slice A0 l0.length c0, .slice A1 l1.length c1] w fun e w' => e = .returned (.bool true) ∧ Below w.heap.size w w' := by
  have HR0 := Aside0.mk hr0
  have HC0 := Aside0.mk hc0
  have HR1 := Aside0.mk hr1
  have HC1 := Aside0.mk hc1
  clear hr0 hc0 hr1 hc1
  have HB := Aside0.mk (Below.refl w.heap.size w)
  unfold laws_FnExactCountsOf.f at h
  by_cases c1_ : (l1.length : Int) > 1048576
  · clear h
    have c1b_ : decide (1048576 < (l1.length : Int)) = true := decide_eq_true c1_
    have c1d_ : decide (1048576 < l1.length) = true := decide_eq_true (by omega)
    clear c1_
    go_enter Try.func3, Try.ntmps3
    go_wp2
    go_ret
    exact ⟨rfl, HB.out⟩
  replace h := (if_neg c1_).symm.trans h
  have c1b_ : decide (1048576 < (l1.length : Int)) = false := decide_eq_false c1_
  have c1d_ : decide (1048576 < l1.length) = false := decide_eq_false (by omega)
  clear c1_
  replace h := Option.bind_eq_some_iff.1 h
  obtain ⟨r2, e3, h⟩ := h
  try dsimp only at h
  have Ee3 := Aside0.mk e3
  clear e3
  by_cases c2_ : r2 < 0
  · clear h
    have c2b_ : decide (r2 < 0) = true := decide_eq_true c2_
    clear c2_
    go_enter Try.func3, Try.ntmps3
    go_wp2_with (first | ((with_reducible refine gate_callee (f := 14) rfl ?_); refine goesL_ (some 22) rfl rfl Try.func14 (by kernel_rfl) rfl #[.slice A0 l0.length c0, .int .i64 1048576] rfl (by (try simp only [List.map_toArray, List.map_cons, List.map_nil]); first | done | rfl | (simp only [List.length_drop, List.length_take]; rfl)) ?_; (with_reducible refine (laws_szNodeS.calls k _ _ l0 1048576 r2 _ ?side1 ?side2 Ee3.out).mono ?_); (case side1 => exact (Kd.C_below HR0.out HB.out)); (case side2 => exact HC0.out); rintro ex_ w1 ⟨rfl, hb⟩; refine ⟨_, rfl, ?_⟩; have hk := Kept.of_below hb (fun _ => False); have nHB := Aside0.mk (below_step HB.out hb); have SZw1 := Aside0.mk hb.size; clear HB; have HB := nHB; clear nHB; clear hb hk))
    go_ret
    exact ⟨rfl, HB.out⟩
  replace h := (if_neg c2_).symm.trans h
  have c2b_ : decide (r2 < 0) = false := decide_eq_false c2_
  clear c2_
  replace h := Option.bind_eq_some_iff.1 h
  obtain ⟨r5, e6, h⟩ := h
  try dsimp only at h
  have Ee6 := Aside0.mk e6
  clear e6
  replace h := Option.bind_eq_some_iff.1 h
  obtain ⟨r8, e9, h⟩ := h
  try dsimp only at h
  have Ee9 := Aside0.mk e9
  clear e9
  replace h := Option.bind_eq_some_iff.1 h
  obtain ⟨⟨r11, r12⟩, e13, h⟩ := h
  try dsimp only at h
  have Ee13 := Aside0.mk e13
  clear e13
  replace h := Option.bind_eq_some_iff.1 h
  obtain ⟨r15, e16, h⟩ := h
  try dsimp only at h
  have Ee16 := Aside0.mk e16
  clear e16
  replace h := Option.bind_eq_some_iff.1 h
  obtain ⟨r18, e19, h⟩ := h
  try dsimp only at h
  have Ee19 := Aside0.mk e19
  clear e19
  replace h := Option.bind_eq_some_iff.1 h
  obtain ⟨⟨r21, r22⟩, e23, h⟩ := h
  try dsimp only at h
  have Ee23 := Aside0.mk e23
  clear e23
  replace h := Option.bind_eq_some_iff.1 h
  obtain ⟨r25, e26, h⟩ := h
  try dsimp only at h
  have Ee26 := Aside0.mk e26
  clear e26
  replace h := Op.must_t h
  obtain ⟨rfl, h⟩ := h
  replace h := Op.must_n h
  obtain ⟨c3_, h⟩ := h
  have c3e_ : (r22 == r12) = true := by revert c3_; cases r22 <;> cases r12 <;> decide
  clear c3_
  replace h := Option.bind_eq_some_iff.1 h
  obtain ⟨r28, e29, h⟩ := h
  try dsimp only at h
  have Ee29 := Aside0.mk e29
  clear e29
  replace h := Option.bind_eq_some_iff.1 h
  obtain ⟨r31, e32, h⟩ := h
  try dsimp only at h
  have Ee32 := Aside0.mk e32
  clear e32
  replace h := Op.must_t h
  obtain ⟨rfl, h⟩ := h
  replace h := Option.bind_eq_some_iff.1 h
  obtain ⟨r34, e35, h⟩ := h
  try dsimp only at h
  have Ee35 := Aside0.mk e35
  clear e35
  replace h := Option.bind_eq_some_iff.1 h
  obtain ⟨r37, e38, h⟩ := h
  try dsimp only at h
  have Ee38 := Aside0.mk e38
  clear e38
  replace h := Op.must_t h
  obtain ⟨rfl, h⟩ := h
  replace h := Option.bind_eq_some_iff.1 h
  obtain ⟨⟨r40, r41⟩, e42, h⟩ := h
  try dsimp only at h
  have Ee42 := Aside0.mk e42
  clear e42
  replace h := Option.bind_eq_some_iff.1 h
  obtain ⟨⟨r44, r45⟩, e46, h⟩ := h
  try dsimp only at h
  have Ee46 := Aside0.mk e46
  clear e46
  replace h := Op.must_n h
  obtain ⟨c4_, h⟩ := h
  have c4b_ : decide (r44 < 0) = false := decide_eq_false c4_
  clear c4_
  replace h := Option.bind_eq_some_iff.1 h
  obtain ⟨r48, e49, h⟩ := h
  try dsimp only at h
  have Ee49 := Aside0.mk e49
  clear e49
  replace h := Op.must_t h
  obtain ⟨rfl, h⟩ := h
  replace h := Op.must_n h
  obtain ⟨c5_, h⟩ := h
  have c5e_ : (r22 == r12) = true := by revert c5_; cases r22 <;> cases r12 <;> decide
  clear c5_
  replace h := Option.bind_eq_some_iff.1 h
  obtain ⟨⟨r51, r52⟩, e53, h⟩ := h
  try dsimp only at h
  have Ee53 := Aside0.mk e53
  clear e53
  replace h := Option.bind_eq_some_iff.1 h
  obtain ⟨r55, e56, h⟩ := h
  try dsimp only at h
  have Ee56 := Aside0.mk e56
  clear e56
  replace h := Op.must_n h
  obtain ⟨c6_, h⟩ := h
  have c6b_ : decide (r55 < 0) = false := decide_eq_false c6_
  clear c6_
  replace h := Op.must_n h
  obtain ⟨c7_, h⟩ := h
  have c7b_ := Bool.eq_false_iff.mpr c7_
  clear c7_
  replace h := Option.bind_eq_some_iff.1 h
  obtain ⟨r58, e59, h⟩ := h
  try dsimp only at h
  have Ee59 := Aside0.mk e59
  clear e59
  replace h := Option.bind_eq_some_iff.1 h
  obtain ⟨r61, e62, h⟩ := h
  try dsimp only at h
  have Ee62 := Aside0.mk e62
  clear e62
  replace h := Option.bind_eq_some_iff.1 h
  obtain ⟨⟨r64, r65⟩, e66, h⟩ := h
  try dsimp only at h
  have Ee66 := Aside0.mk e66
  clear e66
  replace h := Option.bind_eq_some_iff.1 h
  obtain ⟨r68, e69, h⟩ := h
  try dsimp only at h
  have Ee69 := Aside0.mk e69
  clear e69
  replace h := Op.must_t h
  obtain ⟨rfl, h⟩ := h
  replace h := Op.must_n h
  obtain ⟨c8_, h⟩ := h
  have c8e_ : (r65 == r12) = true := by revert c8_; cases r65 <;> cases r12 <;> decide
  clear c8_
  replace h := Option.bind_eq_some_iff.1 h
  obtain ⟨r71, e72, h⟩ := h
  try dsimp only at h
  have Ee72 := Aside0.mk e72
  clear e72
  replace h := Op.must_n h
  obtain ⟨c9_, h⟩ := h
  have c9b_ : decide (r71 < 0) = false := decide_eq_false c9_
  clear c9_
  replace h := Op.must_n h
  obtain ⟨c10_, h⟩ := h
  have c10b_ := Bool.eq_false_iff.mpr c10_
  clear c10_
  clear h
  go_enter Try.func3, Try.ntmps3
  go_wp2_with (first | ((with_reducible refine gate_callee (f := 14) rfl ?_); refine goesL_ (some 22) rfl rfl Try.func14 (by kernel_rfl) rfl #[.slice A0 l0.length c0, .int .i64 1048576] rfl (by (try simp only [List.map_toArray, List.map_cons, List.map_nil]); first | done | rfl | (simp only [List.length_drop, List.length_take]; rfl)) ?_; (with_reducible refine (laws_szNodeS.calls k _ _ l0 1048576 r2 _ ?side1 ?side2 Ee3.out).mono ?_); (case side1 => exact (Kd.C_below HR0.out HB.out)); (case side2 => exact HC0.out); rintro ex_ w1 ⟨rfl, hb⟩; refine ⟨_, rfl, ?_⟩; have hk := Kept.of_below hb (fun _ => False); have nHB := Aside0.mk (below_step HB.out hb); have SZw1 := Aside0.mk hb.size; clear HB; have HB := nHB; clear nHB; clear hb hk) | ((with_reducible refine gate_callee (f := 16) rfl ?_); refine goesL_ (some 27) rfl rfl Try.func16 (by kernel_rfl) rfl #[.slice A0 l0.length c0] rfl (by (try simp only [List.map_toArray, List.map_cons, List.map_nil]); first | done | rfl | (simp only [List.length_drop, List.length_take]; rfl)) ?_; (with_reducible refine (laws_toNodeS.calls k _ _ l0 r5 _ ?side1 ?side2 Ee6.out).mono ?_); (case side1 => exact (Kd.C_below HR0.out HB.out)); (case side2 => exact HC0.out); rintro ex_ w4 ⟨ve6_0, rfl, ho0, hb⟩; refine ⟨_, rfl, ?_⟩; have hk := Kept.of_below hb (fun _ => False); have nHB := Aside0.mk (below_step HB.out hb); have SZw4 := Aside0.mk hb.size; have Oe6_0 := Aside0.mk (Op.inS ho0 (a := w1.heap.size) (b := w.heap.size) HB.out.size (Nat.le_refl _)); clear HB; have HB := nHB; clear nHB; obtain ⟨Ae6_0, cAe6_0, ev_⟩ := Kd.S_slice Oe6_0.out; subst ev_; clear hb hk ho0) | ((with_reducible refine gate_callee (f := 17) rfl ?_); refine goesL_ (some 29) rfl rfl Try.func17 (by kernel_rfl) rfl #[.slice A1 l1.length c1] rfl (by (try simp only [List.map_toArray, List.map_cons, List.map_nil]); first | done | rfl | (simp only [List.length_drop, List.length_take]; rfl)) ?_; (with_reducible refine (laws_toIntS.calls k _ _ l1 r8 _ ?side1 ?side2 Ee9.out).mono ?_); (case side1 => exact (Kd.C_below HR1.out HB.out)); (case side2 => exact HC1.out); rintro ex_ w7 ⟨ve9_0, rfl, ho0, hb⟩; refine ⟨_, rfl, ?_⟩; have hk := Kept.of_below hb (fun _ => False); have nOe6_0 := Aside0.mk (Op.mvS Oe6_0.out hk (fun _ _ hs => hs)); have nHB := Aside0.mk (below_step HB.out hb); have SZw7 := Aside0.mk hb.size; have Oe9_0 := Aside0.mk (Op.inR ho0 (a := w4.heap.size) (b := w.heap.size) HB.out.size (Nat.le_refl _)); clear Oe6_0 HB; have Oe6_0 := nOe6_0; have HB := nHB; clear nOe6_0 nHB; obtain ⟨Ae9_0, cAe9_0, ev_⟩ := Kd.R_slice Oe9_0.out; subst ev_; clear hb hk ho0) | ((with_reducible refine gate_callee (f := 15) rfl ?_); refine goesL_ (some 30) rfl rfl Try.func15 (by kernel_rfl) rfl #[.slice Ae6_0 r5.length cAe6_0, .slice Ae9_0 r8.length cAe9_0] rfl (by (try simp only [List.map_toArray, List.map_cons, List.map_nil]); first | done | rfl | (simp only [List.length_drop, List.length_take]; rfl)) ?_; (with_reducible refine (spec_CountsOf.calls k _ _ r5 _ _ r8 r11 r12 _ ?side1 ?side2 ?side3 ?side4 Ee13.out).mono ?_); (case side1 => exact (Kd.S_reads' Oe6_0.out).2.2); (case side2 => (have h_ := Kd.S_reads' Oe6_0.out; have h1_ := h_.1; have h2_ := h_.2.1; omega)); (case side3 => exact (Kd.R_reads' Oe9_0.out).2.2); (case side4 => (have h_ := Kd.R_reads' Oe9_0.out; have h1_ := h_.1; have h2_ := h_.2.1; omega)); rintro ex_ w10 ⟨ve13_0, rfl, ho0, hb⟩; refine ⟨_, rfl, ?_⟩; have hk := Kept.of_below hb (fun _ => False); have nOe6_0 := Aside0.mk (Op.mvS Oe6_0.out hk (fun _ _ hs => hs)); have nOe9_0 := Aside0.mk (Op.mvR Oe9_0.out hk (fun _ _ hs => hs)); have nHB := Aside0.mk (below_step HB.out hb); have SZw10 := Aside0.mk hb.size; have Oe13_0 := Aside0.mk (Op.inR ho0 (a := w7.heap.size) (b := w.heap.size) HB.out.size (Nat.le_refl _)); clear Oe6_0 Oe9_0 HB; have Oe6_0 := nOe6_0; have Oe9_0 := nOe9_0; have HB := nHB; clear nOe6_0 nOe9_0 nHB; obtain ⟨Ae13_0, cAe13_0, ev_⟩ := Kd.R_slice Oe13_0.out; subst ev_; clear hb hk ho0) | ((with_reducible refine gate_callee (f := 16) rfl ?_); refine goesL_ (some 34) rfl rfl Try.func16 (by kernel_rfl) rfl #[.slice A0 l0.length c0] rfl (by (try simp only [List.map_toArray, List.map_cons, List.map_nil]); first | done | rfl | (simp only [List.length_drop, List.length_take]; rfl)) ?_; (with_reducible refine (laws_toNodeS.calls k _ _ l0 r15 _ ?side1 ?side2 Ee16.out).mono ?_); (case side1 => exact (Kd.C_below HR0.out HB.out)); (case side2 => exact HC0.out); rintro ex_ w14 ⟨ve16_0, rfl, ho0, hb⟩; refine ⟨_, rfl, ?_⟩; have hk := Kept.of_below hb (fun _ => False); have nOe6_0 := Aside0.mk (Op.mvS Oe6_0.out hk (fun _ _ hs => hs)); have nOe9_0 := Aside0.mk (Op.mvR Oe9_0.out hk (fun _ _ hs => hs)); have nOe13_0 := Aside0.mk (Op.mvR Oe13_0.out hk (fun _ _ hs => hs)); have nHB := Aside0.mk (below_step HB.out hb); have SZw14 := Aside0.mk hb.size; have Oe16_0 := Aside0.mk (Op.inS ho0 (a := w10.heap.size) (b := w.heap.size) HB.out.size (Nat.le_refl _)); clear Oe6_0 Oe9_0 Oe13_0 HB; have Oe6_0 := nOe6_0; have Oe9_0 := nOe9_0; have Oe13_0 := nOe13_0; have HB := nHB; clear nOe6_0 nOe9_0 nOe13_0 nHB; obtain ⟨Ae16_0, cAe16_0, ev_⟩ := Kd.S_slice Oe16_0.out; subst ev_; clear hb hk ho0) | ((with_reducible refine gate_callee (f := 17) rfl ?_); refine goesL_ (some 36) rfl rfl Try.func17 (by kernel_rfl) rfl #[.slice A1 l1.length c1] rfl (by (try simp only [List.map_toArray, List.map_cons, List.map_nil]); first | done | rfl | (simp only [List.length_drop, List.length_take]; rfl)) ?_; (with_reducible refine (laws_toIntS.calls k _ _ l1 r18 _ ?side1 ?side2 Ee19.out).mono ?_); (case side1 => exact (Kd.C_below HR1.out HB.out)); (case side2 => exact HC1.out); rintro ex_ w17 ⟨ve19_0, rfl, ho0, hb⟩; refine ⟨_, rfl, ?_⟩; have hk := Kept.of_below hb (fun _ => False); have nOe6_0 := Aside0.mk (Op.mvS Oe6_0.out hk (fun _ _ hs => hs)); have nOe9_0 := Aside0.mk (Op.mvR Oe9_0.out hk (fun _ _ hs => hs)); have nOe13_0 := Aside0.mk (Op.mvR Oe13_0.out hk (fun _ _ hs => hs)); have nOe16_0 := Aside0.mk (Op.mvS Oe16_0.out hk (fun _ _ hs => hs)); have nHB := Aside0.mk (below_step HB.out hb); have SZw17 := Aside0.mk hb.size; have Oe19_0 := Aside0.mk (Op.inR ho0 (a := w14.heap.size) (b := w.heap.size) HB.out.size (Nat.le_refl _)); clear Oe6_0 Oe9_0 Oe13_0 Oe16_0 HB; have Oe6_0 := nOe6_0; have Oe9_0 := nOe9_0; have Oe13_0 := nOe13_0; have Oe16_0 := nOe16_0; have HB := nHB; clear nOe6_0 nOe9_0 nOe13_0 nOe16_0 nHB; obtain ⟨Ae19_0, cAe19_0, ev_⟩ := Kd.R_slice Oe19_0.out; subst ev_; clear hb hk ho0) | ((with_reducible refine gate_callee (f := 18) rfl ?_); refine goesL_ (some 40) rfl rfl Try.func18 (by kernel_rfl) rfl #[.slice Ae16_0 r15.length cAe16_0, .slice Ae19_0 r18.length cAe19_0] rfl (by (try simp only [List.map_toArray, List.map_cons, List.map_nil]); first | done | rfl | (simp only [List.length_drop, List.length_take]; rfl)) ?_; (with_reducible refine (impl_CountsOf.calls k _ _ r15 _ _ r18 r21 r22 _ ?side1 ?side2 ?side3 ?side4 Ee23.out).mono ?_); (case side1 => exact (Kd.S_reads' Oe16_0.out).2.2); (case side2 => (have h_ := Kd.S_reads' Oe16_0.out; have h1_ := h_.1; have h2_ := h_.2.1; omega)); (case side3 => exact (Kd.R_reads' Oe19_0.out).2.2); (case side4 => (have h_ := Kd.R_reads' Oe19_0.out; have h1_ := h_.1; have h2_ := h_.2.1; omega)); rintro ex_ w20 ⟨ve23_0, rfl, ho0, hb⟩; refine ⟨_, rfl, ?_⟩; have hk := Kept.of_below hb (fun _ => False); have nOe6_0 := Aside0.mk (Op.mvS Oe6_0.out hk (fun _ _ hs => hs)); have nOe9_0 := Aside0.mk (Op.mvR Oe9_0.out hk (fun _ _ hs => hs)); have nOe13_0 := Aside0.mk (Op.mvR Oe13_0.out hk (fun _ _ hs => hs)); have nOe16_0 := Aside0.mk (Op.mvS Oe16_0.out hk (fun _ _ hs => hs)); have nOe19_0 := Aside0.mk (Op.mvR Oe19_0.out hk (fun _ _ hs => hs)); have nHB := Aside0.mk (below_step HB.out hb); have SZw20 := Aside0.mk hb.size; have Oe23_0 := Aside0.mk (Op.inR ho0 (a := w17.heap.size) (b := w.heap.size) HB.out.size (Nat.le_refl _)); clear Oe6_0 Oe9_0 Oe13_0 Oe16_0 Oe19_0 HB; have Oe6_0 := nOe6_0; have Oe9_0 := nOe9_0; have Oe13_0 := nOe13_0; have Oe16_0 := nOe16_0; have Oe19_0 := nOe19_0; have HB := nHB; clear nOe6_0 nOe9_0 nOe13_0 nOe16_0 nOe19_0 nHB; obtain ⟨Ae23_0, cAe23_0, ev_⟩ := Kd.R_slice Oe23_0.out; subst ev_; clear hb hk ho0) | ((with_reducible refine gate_callee (f := 19) rfl ?_); refine goesL_ (some 45) rfl rfl Try.func19 (by kernel_rfl) rfl #[.slice Ae23_0 r21.length cAe23_0, .slice Ae13_0 r11.length cAe13_0] rfl (by (try simp only [List.map_toArray, List.map_cons, List.map_nil]); first | done | rfl | (simp only [List.length_drop, List.length_take]; rfl)) ?_; (with_reducible refine (laws_eqIntS.calls k _ _ r21 _ _ r11 true _ ?side1 ?side2 ?side3 ?side4 Ee26.out).mono ?_); (case side1 => exact (Kd.R_reads' Oe23_0.out).2.2); (case side2 => (have h_ := Kd.R_reads' Oe23_0.out; have h1_ := h_.1; have h2_ := h_.2.1; omega)); (case side3 => exact (Kd.R_reads' Oe13_0.out).2.2); (case side4 => (have h_ := Kd.R_reads' Oe13_0.out; have h1_ := h_.1; have h2_ := h_.2.1; omega)); rintro ex_ w24 ⟨rfl, hd⟩; refine ⟨_, rfl, ?_⟩; have hb := hd.below; have hk := Kept.of_below hb (fun _ => False); have nOe6_0 := Aside0.mk (Op.mvS Oe6_0.out hk (fun _ _ hs => hs)); have nOe9_0 := Aside0.mk (Op.mvR Oe9_0.out hk (fun _ _ hs => hs)); have nOe13_0 := Aside0.mk (Op.mvR Oe13_0.out hk (fun _ _ hs => hs)); have nOe16_0 := Aside0.mk (Op.mvS Oe16_0.out hk (fun _ _ hs => hs)); have nOe19_0 := Aside0.mk (Op.mvR Oe19_0.out hk (fun _ _ hs => hs)); have nOe23_0 := Aside0.mk (Op.mvR Oe23_0.out hk (fun _ _ hs => hs)); have nHB := Aside0.mk (below_step HB.out hb); have SZw24 := Aside0.mk hb.size; clear Oe6_0 Oe9_0 Oe13_0 Oe16_0 Oe19_0 Oe23_0 HB; have Oe6_0 := nOe6_0; have Oe9_0 := nOe9_0; have Oe13_0 := nOe13_0; have Oe16_0 := nOe16_0; have Oe19_0 := nOe19_0; have Oe23_0 := nOe23_0; have HB := nHB; clear nOe6_0 nOe9_0 nOe13_0 nOe16_0 nOe19_0 nOe23_0 nHB; clear hb hk hd) | ((with_reducible refine gate_callee (f := 16) rfl ?_); refine goesL_ (some 54) rfl rfl Try.func16 (by kernel_rfl) rfl #[.slice A0 l0.length c0] rfl (by (try simp only [List.map_toArray, List.map_cons, List.map_nil]); first | done | rfl | (simp only [List.length_drop, List.length_take]; rfl)) ?_; (with_reducible refine (laws_toNodeS.calls k _ _ l0 r28 _ ?side1 ?side2 Ee29.out).mono ?_); (case side1 => exact (Kd.C_below HR0.out HB.out)); (case side2 => exact HC0.out); rintro ex_ w27 ⟨ve29_0, rfl, ho0, hb⟩; refine ⟨_, rfl, ?_⟩; have hk := Kept.of_below hb (fun _ => False); have nOe6_0 := Aside0.mk (Op.mvS Oe6_0.out hk (fun _ _ hs => hs)); have nOe9_0 := Aside0.mk (Op.mvR Oe9_0.out hk (fun _ _ hs => hs)); have nOe13_0 := Aside0.mk (Op.mvR Oe13_0.out hk (fun _ _ hs => hs)); have nOe16_0 := Aside0.mk (Op.mvS Oe16_0.out hk (fun _ _ hs => hs)); have nOe19_0 := Aside0.mk (Op.mvR Oe19_0.out hk (fun _ _ hs => hs)); have nOe23_0 := Aside0.mk (Op.mvR Oe23_0.out hk (fun _ _ hs => hs)); have nHB := Aside0.mk (below_step HB.out hb); have SZw27 := Aside0.mk hb.size; have Oe29_0 := Aside0.mk (Op.inS ho0 (a := w24.heap.size) (b := w.heap.size) HB.out.size (Nat.le_refl _)); clear Oe6_0 Oe9_0 Oe13_0 Oe16_0 Oe19_0 Oe23_0 HB; have Oe6_0 := nOe6_0; have Oe9_0 := nOe9_0; have Oe13_0 := nOe13_0; have Oe16_0 := nOe16_0; have Oe19_0 := nOe19_0; have Oe23_0 := nOe23_0; have HB := nHB; clear nOe6_0 nOe9_0 nOe13_0 nOe16_0 nOe19_0 nOe23_0 nHB; obtain ⟨Ae29_0, cAe29_0, ev_⟩ := Kd.S_slice Oe29_0.out; subst ev_; clear hb hk ho0) | ((with_reducible refine gate_callee (f := 20) rfl ?_); refine goesL_ (some 55) rfl rfl Try.func20 (by kernel_rfl) rfl #[.slice Ae16_0 r15.length cAe16_0, .slice Ae29_0 r28.length cAe29_0] rfl (by (try simp only [List.map_toArray, List.map_cons, List.map_nil]); first | done | rfl | (simp only [List.length_drop, List.length_take]; rfl)) ?_; (with_reducible refine (laws_eqNodeS.calls k _ _ r15 _ _ r28 true _ ?side1 ?side2 ?side3 ?side4 Ee32.out).mono ?_); (case side1 => exact (Kd.S_reads' Oe16_0.out).2.2); (case side2 => (have h_ := Kd.S_reads' Oe16_0.out; have h1_ := h_.1; have h2_ := h_.2.1; omega)); (case side3 => exact (Kd.S_reads' Oe29_0.out).2.2); (case side4 => (have h_ := Kd.S_reads' Oe29_0.out; have h1_ := h_.1; have h2_ := h_.2.1; omega)); rintro ex_ w30 ⟨rfl, hb⟩; refine ⟨_, rfl, ?_⟩; have hk := Kept.of_below hb (fun _ => False); have nOe6_0 := Aside0.mk (Op.mvS Oe6_0.out hk (fun _ _ hs => hs)); have nOe9_0 := Aside0.mk (Op.mvR Oe9_0.out hk (fun _ _ hs => hs)); have nOe13_0 := Aside0.mk (Op.mvR Oe13_0.out hk (fun _ _ hs => hs)); have nOe16_0 := Aside0.mk (Op.mvS Oe16_0.out hk (fun _ _ hs => hs)); have nOe19_0 := Aside0.mk (Op.mvR Oe19_0.out hk (fun _ _ hs => hs)); have nOe23_0 := Aside0.mk (Op.mvR Oe23_0.out hk (fun _ _ hs => hs)); have nOe29_0 := Aside0.mk (Op.mvS Oe29_0.out hk (fun _ _ hs => hs)); have nHB := Aside0.mk (below_step HB.out hb); have SZw30 := Aside0.mk hb.size; clear Oe6_0 Oe9_0 Oe13_0 Oe16_0 Oe19_0 Oe23_0 Oe29_0 HB; have Oe6_0 := nOe6_0; have Oe9_0 := nOe9_0; have Oe13_0 := nOe13_0; have Oe16_0 := nOe16_0; have Oe19_0 := nOe19_0; have Oe23_0 := nOe23_0; have Oe29_0 := nOe29_0; have HB := nHB; clear nOe6_0 nOe9_0 nOe13_0 nOe16_0 nOe19_0 nOe23_0 nOe29_0 nHB; clear hb hk) | ((with_reducible refine gate_callee (f := 17) rfl ?_); refine goesL_ (some 59) rfl rfl Try.func17 (by kernel_rfl) rfl #[.slice A1 l1.length c1] rfl (by (try simp only [List.map_toArray, List.map_cons, List.map_nil]); first | done | rfl | (simp only [List.length_drop, List.length_take]; rfl)) ?_; (with_reducible refine (laws_toIntS.calls k _ _ l1 r34 _ ?side1 ?side2 Ee35.out).mono ?_); (case side1 => exact (Kd.C_below HR1.out HB.out)); (case side2 => exact HC1.out); rintro ex_ w33 ⟨ve35_0, rfl, ho0, hb⟩; refine ⟨_, rfl, ?_⟩; have hk := Kept.of_below hb (fun _ => False); have nOe6_0 := Aside0.mk (Op.mvS Oe6_0.out hk (fun _ _ hs => hs)); have nOe9_0 := Aside0.mk (Op.mvR Oe9_0.out hk (fun _ _ hs => hs)); have nOe13_0 := Aside0.mk (Op.mvR Oe13_0.out hk (fun _ _ hs => hs)); have nOe16_0 := Aside0.mk (Op.mvS Oe16_0.out hk (fun _ _ hs => hs)); have nOe19_0 := Aside0.mk (Op.mvR Oe19_0.out hk (fun _ _ hs => hs)); have nOe23_0 := Aside0.mk (Op.mvR Oe23_0.out hk (fun _ _ hs => hs)); have nOe29_0 := Aside0.mk (Op.mvS Oe29_0.out hk (fun _ _ hs => hs)); have nHB := Aside0.mk (below_step HB.out hb); have SZw33 := Aside0.mk hb.size; have Oe35_0 := Aside0.mk (Op.inR ho0 (a := w30.heap.size) (b := w.heap.size) HB.out.size (Nat.le_refl _)); clear Oe6_0 Oe9_0 Oe13_0 Oe16_0 Oe19_0 Oe23_0 Oe29_0 HB; have Oe6_0 := nOe6_0; have Oe9_0 := nOe9_0; have Oe13_0 := nOe13_0; have Oe16_0 := nOe16_0; have Oe19_0 := nOe19_0; have Oe23_0 := nOe23_0; have Oe29_0 := nOe29_0; have HB := nHB; clear nOe6_0 nOe9_0 nOe13_0 nOe16_0 nOe19_0 nOe23_0 nOe29_0 nHB; obtain ⟨Ae35_0, cAe35_0, ev_⟩ := Kd.R_slice Oe35_0.out; subst ev_; clear hb hk ho0) | ((with_reducible refine gate_callee (f := 19) rfl ?_); refine goesL_ (some 60) rfl rfl Try.func19 (by kernel_rfl) rfl #[.slice Ae19_0 r18.length cAe19_0, .slice Ae35_0 r34.length cAe35_0] rfl (by (try simp only [List.map_toArray, List.map_cons, List.map_nil]); first | done | rfl | (simp only [List.length_drop, List.length_take]; rfl)) ?_; (with_reducible refine (laws_eqIntS.calls k _ _ r18 _ _ r34 true _ ?side1 ?side2 ?side3 ?side4 Ee38.out).mono ?_); (case side1 => exact (Kd.R_reads' Oe19_0.out).2.2); (case side2 => (have h_ := Kd.R_reads' Oe19_0.out; have h1_ := h_.1; have h2_ := h_.2.1; omega)); (case side3 => exact (Kd.R_reads' Oe35_0.out).2.2); (case side4 => (have h_ := Kd.R_reads' Oe35_0.out; have h1_ := h_.1; have h2_ := h_.2.1; omega)); rintro ex_ w36 ⟨rfl, hd⟩; refine ⟨_, rfl, ?_⟩; have hb := hd.below; have hk := Kept.of_below hb (fun _ => False); have nOe6_0 := Aside0.mk (Op.mvS Oe6_0.out hk (fun _ _ hs => hs)); have nOe9_0 := Aside0.mk (Op.mvR Oe9_0.out hk (fun _ _ hs => hs)); have nOe13_0 := Aside0.mk (Op.mvR Oe13_0.out hk (fun _ _ hs => hs)); have nOe16_0 := Aside0.mk (Op.mvS Oe16_0.out hk (fun _ _ hs => hs)); have nOe19_0 := Aside0.mk (Op.mvR Oe19_0.out hk (fun _ _ hs => hs)); have nOe23_0 := Aside0.mk (Op.mvR Oe23_0.out hk (fun _ _ hs => hs)); have nOe29_0 := Aside0.mk (Op.mvS Oe29_0.out hk (fun _ _ hs => hs)); have nOe35_0 := Aside0.mk (Op.mvR Oe35_0.out hk (fun _ _ hs => hs)); have nHB := Aside0.mk (below_step HB.out hb); have SZw36 := Aside0.mk hb.size; clear Oe6_0 Oe9_0 Oe13_0 Oe16_0 Oe19_0 Oe23_0 Oe29_0 Oe35_0 HB; have Oe6_0 := nOe6_0; have Oe9_0 := nOe9_0; have Oe13_0 := nOe13_0; have Oe16_0 := nOe16_0; have Oe19_0 := nOe19_0; have Oe23_0 := nOe23_0; have Oe29_0 := nOe29_0; have Oe35_0 := nOe35_0; have HB := nHB; clear nOe6_0 nOe9_0 nOe13_0 nOe16_0 nOe19_0 nOe23_0 nOe29_0 nOe35_0 nHB; clear hb hk hd) | ((with_reducible refine gate_callee (f := 21) rfl ?_); refine goesL_ (some 64) rfl rfl Try.func21 (by kernel_rfl) rfl #[.slice Ae16_0 r15.length cAe16_0, .int .i64 1] rfl (by (try simp only [List.map_toArray, List.map_cons, List.map_nil]); first | done | rfl | (simp only [List.length_drop, List.length_take]; rfl)) ?_; (with_reducible refine (laws_markNodeS.calls k _ _ r15 1 r40 r41 w _ HB.out Oe16_0.out Ee42.out).mono ?_); rintro ex_ w39 ⟨rfl, ho0, hb, hk⟩; refine ⟨_, rfl, ?_⟩; have nOe6_0 := Aside0.mk (Op.mvS Oe6_0.out hk (fun j hj hs => by (have hj2 := hj.2; have q0 := SZw1.out; have q1 := SZw4.out; have q2 := SZw7.out; have q3 := SZw10.out; have q4 := SZw14.out; have q5 := SZw17.out; have q6 := SZw20.out; have q7 := SZw24.out; have q8 := SZw27.out; have q9 := SZw30.out; have q10 := SZw33.out; have q11 := SZw36.out; have hs2 := hs.2; omega))); have nOe9_0 := Aside0.mk (Op.mvR Oe9_0.out hk (fun j hj hs => by (have hj2 := hj.2; have q0 := SZw1.out; have q1 := SZw4.out; have q2 := SZw7.out; have q3 := SZw10.out; have q4 := SZw14.out; have q5 := SZw17.out; have q6 := SZw20.out; have q7 := SZw24.out; have q8 := SZw27.out; have q9 := SZw30.out; have q10 := SZw33.out; have q11 := SZw36.out; have hs2 := hs.2; omega))); have nOe13_0 := Aside0.mk (Op.mvR Oe13_0.out hk (fun j hj hs => by (have hj2 := hj.2; have q0 := SZw1.out; have q1 := SZw4.out; have q2 := SZw7.out; have q3 := SZw10.out; have q4 := SZw14.out; have q5 := SZw17.out; have q6 := SZw20.out; have q7 := SZw24.out; have q8 := SZw27.out; have q9 := SZw30.out; have q10 := SZw33.out; have q11 := SZw36.out; have hs2 := hs.2; omega))); have nOe19_0 := Aside0.mk (Op.mvR Oe19_0.out hk (fun j hj hs => by (have hj2 := hj.2; have q0 := SZw1.out; have q1 := SZw4.out; have q2 := SZw7.out; have q3 := SZw10.out; have q4 := SZw14.out; have q5 := SZw17.out; have q6 := SZw20.out; have q7 := SZw24.out; have q8 := SZw27.out; have q9 := SZw30.out; have q10 := SZw33.out; have q11 := SZw36.out; have hs2 := hs.2; omega))); have nOe23_0 := Aside0.mk (Op.mvR Oe23_0.out hk (fun j hj hs => by (have hj2 := hj.2; have q0 := SZw1.out; have q1 := SZw4.out; have q2 := SZw7.out; have q3 := SZw10.out; have q4 := SZw14.out; have q5 := SZw17.out; have q6 := SZw20.out; have q7 := SZw24.out; have q8 := SZw27.out; have q9 := SZw30.out; have q10 := SZw33.out; have q11 := SZw36.out; have hs2 := hs.2; omega))); have nOe29_0 := Aside0.mk (Op.mvS Oe29_0.out hk (fun j hj hs => by (have hj2 := hj.2; have q0 := SZw1.out; have q1 := SZw4.out; have q2 := SZw7.out; have q3 := SZw10.out; have q4 := SZw14.out; have q5 := SZw17.out; have q6 := SZw20.out; have q7 := SZw24.out; have q8 := SZw27.out; have q9 := SZw30.out; have q10 := SZw33.out; have q11 := SZw36.out; have hs2 := hs.2; omega))); have nOe35_0 := Aside0.mk (Op.mvR Oe35_0.out hk (fun j hj hs => by (have hj2 := hj.2; have q0 := SZw1.out; have q1 := SZw4.out; have q2 := SZw7.out; have q3 := SZw10.out; have q4 := SZw14.out; have q5 := SZw17.out; have q6 := SZw20.out; have q7 := SZw24.out; have q8 := SZw27.out; have q9 := SZw30.out; have q10 := SZw33.out; have q11 := SZw36.out; have hs2 := hs.2; omega))); have nHB := Aside0.mk hb; have SZw39 := Aside0.mk hk.1; have nOe16_0 := Aside0.mk ho0; clear Oe6_0 Oe9_0 Oe13_0 Oe19_0 Oe23_0 Oe29_0 Oe35_0 Oe16_0 HB; have Oe6_0 := nOe6_0; have Oe9_0 := nOe9_0; have Oe13_0 := nOe13_0; have Oe19_0 := nOe19_0; have Oe23_0 := nOe23_0; have Oe29_0 := nOe29_0; have Oe35_0 := nOe35_0; have Oe16_0 := nOe16_0; have HB := nHB; clear nOe6_0 nOe9_0 nOe13_0 nOe19_0 nOe23_0 nOe29_0 nOe35_0 nOe16_0 nHB; clear hb hk ho0; have hl_ := (Kd.S_reads' Oe16_0.out).1; have LOe16_0_r41 := Aside0.mk hl_; clear hl_) | ((with_reducible refine gate_callee (f := 22) rfl ?_); refine goesL_ (some 67) rfl rfl Try.func22 (by kernel_rfl) rfl #[.slice Ae19_0 r18.length cAe19_0, .int .i64 r40] rfl (by (try simp only [List.map_toArray, List.map_cons, List.map_nil]); first | done | rfl | (simp only [List.length_drop, List.length_take]; rfl)) ?_; have tOe19_0 := Aside0.mk (Op.tiR rfl Oe19_0.out); (with_reducible refine (laws_markIntS.calls k _ _ r18 r40 r44 r45 w _ HB.out tOe19_0.out Ee46.out).mono ?_); rintro ex_ w43 ⟨rfl, ho0, hb, hk⟩; refine ⟨_, rfl, ?_⟩; have nOe6_0 := Aside0.mk (Op.mvS Oe6_0.out hk (fun j hj hs => by (have hj2 := hj.2; have q0 := SZw1.out; have q1 := SZw4.out; have q2 := SZw7.out; have q3 := SZw10.out; have q4 := SZw14.out; have q5 := SZw17.out; have q6 := SZw20.out; have q7 := SZw24.out; have q8 := SZw27.out; have q9 := SZw30.out; have q10 := SZw33.out; have q11 := SZw36.out; have q12 := SZw39.out; have hs2 := hs.2.2; omega))); have nOe9_0 := Aside0.mk (Op.mvR Oe9_0.out hk (fun j hj hs => by (have hj2 := hj.2; have q0 := SZw1.out; have q1 := SZw4.out; have q2 := SZw7.out; have q3 := SZw10.out; have q4 := SZw14.out; have q5 := SZw17.out; have q6 := SZw20.out; have q7 := SZw24.out; have q8 := SZw27.out; have q9 := SZw30.out; have q10 := SZw33.out; have q11 := SZw36.out; have q12 := SZw39.out; have hs2 := hs.2.2; omega))); have nOe13_0 := Aside0.mk (Op.mvR Oe13_0.out hk (fun j hj hs => by (have hj2 := hj.2; have q0 := SZw1.out; have q1 := SZw4.out; have q2 := SZw7.out; have q3 := SZw10.out; have q4 := SZw14.out; have q5 := SZw17.out; have q6 := SZw20.out; have q7 := SZw24.out; have q8 := SZw27.out; have q9 := SZw30.out; have q10 := SZw33.out; have q11 := SZw36.out; have q12 := SZw39.out; have hs2 := hs.2.2; omega))); have nOe16_0 := Aside0.mk (Op.mvS Oe16_0.out hk (fun j hj hs => by (have hj2 := hj.2; have q0 := SZw1.out; have q1 := SZw4.out; have q2 := SZw7.out; have q3 := SZw10.out; have q4 := SZw14.out; have q5 := SZw17.out; have q6 := SZw20.out; have q7 := SZw24.out; have q8 := SZw27.out; have q9 := SZw30.out; have q10 := SZw33.out; have q11 := SZw36.out; have q12 := SZw39.out; have hs2 := hs.2.2; omega))); have nOe23_0 := Aside0.mk (Op.mvR Oe23_0.out hk (fun j hj hs => by (have hj2 := hj.2; have q0 := SZw1.out; have q1 := SZw4.out; have q2 := SZw7.out; have q3 := SZw10.out; have q4 := SZw14.out; have q5 := SZw17.out; have q6 := SZw20.out; have q7 := SZw24.out; have q8 := SZw27.out; have q9 := SZw30.out; have q10 := SZw33.out; have q11 := SZw36.out; have q12 := SZw39.out; have hs2 := hs.2.2; omega))); have nOe29_0 := Aside0.mk (Op.mvS Oe29_0.out hk (fun j hj hs => by (have hj2 := hj.2; have q0 := SZw1.out; have q1 := SZw4.out; have q2 := SZw7.out; have q3 := SZw10.out; have q4 := SZw14.out; have q5 := SZw17.out; have q6 := SZw20.out; have q7 := SZw24.out; have q8 := SZw27.out; have q9 := SZw30.out; have q10 := SZw33.out; have q11 := SZw36.out; have q12 := SZw39.out; have hs2 := hs.2.2; omega))); have nOe35_0 := Aside0.mk (Op.mvR Oe35_0.out hk (fun j hj hs => by (have hj2 := hj.2; have q0 := SZw1.out; have q1 := SZw4.out; have q2 := SZw7.out; have q3 := SZw10.out; have q4 := SZw14.out; have q5 := SZw17.out; have q6 := SZw20.out; have q7 := SZw24.out; have q8 := SZw27.out; have q9 := SZw30.out; have q10 := SZw33.out; have q11 := SZw36.out; have q12 := SZw39.out; have hs2 := hs.2.2; omega))); have nHB := Aside0.mk hb; have SZw43 := Aside0.mk hk.1; have nOe19_0 := Aside0.mk (Kd.R_reok rfl ho0 Oe19_0.out.1); clear Oe6_0 Oe9_0 Oe13_0 Oe16_0 Oe23_0 Oe29_0 Oe35_0 Oe19_0 HB; have Oe6_0 := nOe6_0; have Oe9_0 := nOe9_0; have Oe13_0 := nOe13_0; have Oe16_0 := nOe16_0; have Oe23_0 := nOe23_0; have Oe29_0 := nOe29_0; have Oe35_0 := nOe35_0; have Oe19_0 := nOe19_0; have HB := nHB; clear nOe6_0 nOe9_0 nOe13_0 nOe16_0 nOe23_0 nOe29_0 nOe35_0 nOe19_0 nHB; clear hb hk ho0 tOe19_0; have hl_ := (Kd.R_reads' Oe19_0.out).1; have LOe19_0_r45 := Aside0.mk hl_; clear hl_) | (go_at_call 19; (with_reducible refine (laws_eqIntS.calls k _ _ r21 _ _ r11 true _ ?side1 ?side2 ?side3 ?side4 Ee49.out).mono ?_); (case side1 => exact (Kd.R_reads' Oe23_0.out).2.2); (case side2 => (have h_ := Kd.R_reads' Oe23_0.out; have h1_ := h_.1; have h2_ := h_.2.1; omega)); (case side3 => exact (Kd.R_reads' Oe13_0.out).2.2); (case side4 => (have h_ := Kd.R_reads' Oe13_0.out; have h1_ := h_.1; have h2_ := h_.2.1; omega)); rintro ex_ w47 ⟨rfl, hd⟩; have hb := hd.below; have hk := Kept.of_below hb (fun _ => False); have nOe6_0 := Aside0.mk (Op.mvS Oe6_0.out hk (fun _ _ hs => hs)); have nOe9_0 := Aside0.mk (Op.mvR Oe9_0.out hk (fun _ _ hs => hs)); have nOe13_0 := Aside0.mk (Op.mvR Oe13_0.out hk (fun _ _ hs => hs)); have nOe16_0 := Aside0.mk (Op.mvS Oe16_0.out hk (fun _ _ hs => hs)); have nOe19_0 := Aside0.mk (Op.mvR Oe19_0.out hk (fun _ _ hs => hs)); have nOe23_0 := Aside0.mk (Op.mvR Oe23_0.out hk (fun _ _ hs => hs)); have nOe29_0 := Aside0.mk (Op.mvS Oe29_0.out hk (fun _ _ hs => hs)); have nOe35_0 := Aside0.mk (Op.mvR Oe35_0.out hk (fun _ _ hs => hs)); have nHB := Aside0.mk (below_step HB.out hb); have SZw47 := Aside0.mk hb.size; clear Oe6_0 Oe9_0 Oe13_0 Oe16_0 Oe19_0 Oe23_0 Oe29_0 Oe35_0 HB; have Oe6_0 := nOe6_0; have Oe9_0 := nOe9_0; have Oe13_0 := nOe13_0; have Oe16_0 := nOe16_0; have Oe19_0 := nOe19_0; have Oe23_0 := nOe23_0; have Oe29_0 := nOe29_0; have Oe35_0 := nOe35_0; have HB := nHB; clear nOe6_0 nOe9_0 nOe13_0 nOe16_0 nOe19_0 nOe23_0 nOe29_0 nOe35_0 nHB; clear hb hk hd) | ((with_reducible refine gate_callee (f := 22) rfl ?_); refine goesL_ (some 83) rfl rfl Try.func22 (by kernel_rfl) rfl #[.slice Ae23_0 r21.length cAe23_0, .int .i64 1] rfl (by (try simp only [List.map_toArray, List.map_cons, List.map_nil]); first | done | rfl | (simp only [List.length_drop, List.length_take]; rfl)) ?_; have tOe23_0 := Aside0.mk (Op.tiR rfl Oe23_0.out); (with_reducible refine (laws_markIntS.calls k _ _ r21 1 r51 r52 w _ HB.out tOe23_0.out Ee53.out).mono ?_); rintro ex_ w50 ⟨rfl, ho0, hb, hk⟩; refine ⟨_, rfl, ?_⟩; have nOe6_0 := Aside0.mk (Op.mvS Oe6_0.out hk (fun j hj hs => by (have hj2 := hj.2; have q0 := SZw1.out; have q1 := SZw4.out; have q2 := SZw7.out; have q3 := SZw10.out; have q4 := SZw14.out; have q5 := SZw17.out; have q6 := SZw20.out; have q7 := SZw24.out; have q8 := SZw27.out; have q9 := SZw30.out; have q10 := SZw33.out; have q11 := SZw36.out; have q12 := SZw39.out; have q13 := SZw43.out; have q14 := SZw47.out; have hs2 := hs.2.2; omega))); have nOe9_0 := Aside0.mk (Op.mvR Oe9_0.out hk (fun j hj hs => by (have hj2 := hj.2; have q0 := SZw1.out; have q1 := SZw4.out; have q2 := SZw7.out; have q3 := SZw10.out; have q4 := SZw14.out; have q5 := SZw17.out; have q6 := SZw20.out; have q7 := SZw24.out; have q8 := SZw27.out; have q9 := SZw30.out; have q10 := SZw33.out; have q11 := SZw36.out; have q12 := SZw39.out; have q13 := SZw43.out; have q14 := SZw47.out; have hs2 := hs.2.2; omega))); have nOe13_0 := Aside0.mk (Op.mvR Oe13_0.out hk (fun j hj hs => by (have hj2 := hj.2; have q0 := SZw1.out; have q1 := SZw4.out; have q2 := SZw7.out; have q3 := SZw10.out; have q4 := SZw14.out; have q5 := SZw17.out; have q6 := SZw20.out; have q7 := SZw24.out; have q8 := SZw27.out; have q9 := SZw30.out; have q10 := SZw33.out; have q11 := SZw36.out; have q12 := SZw39.out; have q13 := SZw43.out; have q14 := SZw47.out; have hs2 := hs.2.2; omega))); have nOe16_0 := Aside0.mk (Op.mvS Oe16_0.out hk (fun j hj hs => by (have hj2 := hj.2; have q0 := SZw1.out; have q1 := SZw4.out; have q2 := SZw7.out; have q3 := SZw10.out; have q4 := SZw14.out; have q5 := SZw17.out; have q6 := SZw20.out; have q7 := SZw24.out; have q8 := SZw27.out; have q9 := SZw30.out; have q10 := SZw33.out; have q11 := SZw36.out; have q12 := SZw39.out; have q13 := SZw43.out; have q14 := SZw47.out; have hs2 := hs.2.2; omega))); have nOe19_0 := Aside0.mk (Op.mvR Oe19_0.out hk (fun j hj hs => by (have hj2 := hj.2; have q0 := SZw1.out; have q1 := SZw4.out; have q2 := SZw7.out; have q3 := SZw10.out; have q4 := SZw14.out; have q5 := SZw17.out; have q6 := SZw20.out; have q7 := SZw24.out; have q8 := SZw27.out; have q9 := SZw30.out; have q10 := SZw33.out; have q11 := SZw36.out; have q12 := SZw39.out; have q13 := SZw43.out; have q14 := SZw47.out; have hs2 := hs.2.2; omega))); have nOe29_0 := Aside0.mk (Op.mvS Oe29_0.out hk (fun j hj hs => by (have hj2 := hj.2; have q0 := SZw1.out; have q1 := SZw4.out; have q2 := SZw7.out; have q3 := SZw10.out; have q4 := SZw14.out; have q5 := SZw17.out; have q6 := SZw20.out; have q7 := SZw24.out; have q8 := SZw27.out; have q9 := SZw30.out; have q10 := SZw33.out; have q11 := SZw36.out; have q12 := SZw39.out; have q13 := SZw43.out; have q14 := SZw47.out; have hs2 := hs.2.2; omega))); have nOe35_0 := Aside0.mk (Op.mvR Oe35_0.out hk (fun j hj hs => by (have hj2 := hj.2; have q0 := SZw1.out; have q1 := SZw4.out; have q2 := SZw7.out; have q3 := SZw10.out; have q4 := SZw14.out; have q5 := SZw17.out; have q6 := SZw20.out; have q7 := SZw24.out; have q8 := SZw27.out; have q9 := SZw30.out; have q10 := SZw33.out; have q11 := SZw36.out; have q12 := SZw39.out; have q13 := SZw43.out; have q14 := SZw47.out; have hs2 := hs.2.2; omega))); have nHB := Aside0.mk hb; have SZw50 := Aside0.mk hk.1; have nOe23_0 := Aside0.mk (Kd.R_reok rfl ho0 Oe23_0.out.1); clear Oe6_0 Oe9_0 Oe13_0 Oe16_0 Oe19_0 Oe29_0 Oe35_0 Oe23_0 HB; have Oe6_0 := nOe6_0; have Oe9_0 := nOe9_0; have Oe13_0 := nOe13_0; have Oe16_0 := nOe16_0; have Oe19_0 := nOe19_0; have Oe29_0 := nOe29_0; have Oe35_0 := nOe35_0; have Oe23_0 := nOe23_0; have HB := nHB; clear nOe6_0 nOe9_0 nOe13_0 nOe16_0 nOe19_0 nOe29_0 nOe35_0 nOe23_0 nHB; clear hb hk ho0 tOe23_0; have hl_ := (Kd.R_reads' Oe23_0.out).1; have LOe23_0_r52 := Aside0.mk hl_; clear hl_) | ((with_reducible refine gate_callee (f := 23) rfl ?_); refine goesL_ (some 86) rfl rfl Try.func23 (by kernel_rfl) rfl #[.slice Ae23_0 r21.length cAe23_0, .int .i64 1] rfl (by (try simp only [List.map_toArray, List.map_cons, List.map_nil]); first | done | rfl | (simp only [List.length_drop, List.length_take]; rfl)) ?_; refine Op.args_eq (args := #[.slice Ae23_0 r52.length cAe23_0, .int .i64 1]) (by simp only [LOe23_0_r52.out]) ?_; (with_reducible refine (laws_heldIntS.calls k _ _ r52 1 r55 _ ?side1 ?side2 Ee56.out).mono ?_); (case side1 => exact (Kd.R_reads' Oe23_0.out).2.2); (case side2 => (have h_ := Kd.R_reads' Oe23_0.out; have h1_ := h_.1; have h2_ := h_.2.1; omega)); rintro ex_ w54 ⟨rfl, hd⟩; refine ⟨_, rfl, ?_⟩; have hb := hd.below; have hk := Kept.of_below hb (fun _ => False); have nOe6_0 := Aside0.mk (Op.mvS Oe6_0.out hk (fun _ _ hs => hs)); have nOe9_0 := Aside0.mk (Op.mvR Oe9_0.out hk (fun _ _ hs => hs)); have nOe13_0 := Aside0.mk (Op.mvR Oe13_0.out hk (fun _ _ hs => hs)); have nOe16_0 := Aside0.mk (Op.mvS Oe16_0.out hk (fun _ _ hs => hs)); have nOe19_0 := Aside0.mk (Op.mvR Oe19_0.out hk (fun _ _ hs => hs)); have nOe23_0 := Aside0.mk (Op.mvR Oe23_0.out hk (fun _ _ hs => hs)); have nOe29_0 := Aside0.mk (Op.mvS Oe29_0.out hk (fun _ _ hs => hs)); have nOe35_0 := Aside0.mk (Op.mvR Oe35_0.out hk (fun _ _ hs => hs)); have nHB := Aside0.mk (below_step HB.out hb); have SZw54 := Aside0.mk hb.size; clear Oe6_0 Oe9_0 Oe13_0 Oe16_0 Oe19_0 Oe23_0 Oe29_0 Oe35_0 HB; have Oe6_0 := nOe6_0; have Oe9_0 := nOe9_0; have Oe13_0 := nOe13_0; have Oe16_0 := nOe16_0; have Oe19_0 := nOe19_0; have Oe23_0 := nOe23_0; have Oe29_0 := nOe29_0; have Oe35_0 := nOe35_0; have HB := nHB; clear nOe6_0 nOe9_0 nOe13_0 nOe16_0 nOe19_0 nOe23_0 nOe29_0 nOe35_0 nHB; clear hb hk hd) | ((with_reducible refine gate_callee (f := 16) rfl ?_); refine goesL_ (some 94) rfl rfl Try.func16 (by kernel_rfl) rfl #[.slice A0 l0.length c0] rfl (by (try simp only [List.map_toArray, List.map_cons, List.map_nil]); first | done | rfl | (simp only [List.length_drop, List.length_take]; rfl)) ?_; (with_reducible refine (laws_toNodeS.calls k _ _ l0 r58 _ ?side1 ?side2 Ee59.out).mono ?_); (case side1 => exact (Kd.C_below HR0.out HB.out)); (case side2 => exact HC0.out); rintro ex_ w57 ⟨ve59_0, rfl, ho0, hb⟩; refine ⟨_, rfl, ?_⟩; have hk := Kept.of_below hb (fun _ => False); have nOe6_0 := Aside0.mk (Op.mvS Oe6_0.out hk (fun _ _ hs => hs)); have nOe9_0 := Aside0.mk (Op.mvR Oe9_0.out hk (fun _ _ hs => hs)); have nOe13_0 := Aside0.mk (Op.mvR Oe13_0.out hk (fun _ _ hs => hs)); have nOe16_0 := Aside0.mk (Op.mvS Oe16_0.out hk (fun _ _ hs => hs)); have nOe19_0 := Aside0.mk (Op.mvR Oe19_0.out hk (fun _ _ hs => hs)); have nOe23_0 := Aside0.mk (Op.mvR Oe23_0.out hk (fun _ _ hs => hs)); have nOe29_0 := Aside0.mk (Op.mvS Oe29_0.out hk (fun _ _ hs => hs)); have nOe35_0 := Aside0.mk (Op.mvR Oe35_0.out hk (fun _ _ hs => hs)); have nHB := Aside0.mk (below_step HB.out hb); have SZw57 := Aside0.mk hb.size; have Oe59_0 := Aside0.mk (Op.inS ho0 (a := w54.heap.size) (b := w.heap.size) HB.out.size (Nat.le_refl _)); clear Oe6_0 Oe9_0 Oe13_0 Oe16_0 Oe19_0 Oe23_0 Oe29_0 Oe35_0 HB; have Oe6_0 := nOe6_0; have Oe9_0 := nOe9_0; have Oe13_0 := nOe13_0; have Oe16_0 := nOe16_0; have Oe19_0 := nOe19_0; have Oe23_0 := nOe23_0; have Oe29_0 := nOe29_0; have Oe35_0 := nOe35_0; have HB := nHB; clear nOe6_0 nOe9_0 nOe13_0 nOe16_0 nOe19_0 nOe23_0 nOe29_0 nOe35_0 nHB; obtain ⟨Ae59_0, cAe59_0, ev_⟩ := Kd.S_slice Oe59_0.out; subst ev_; clear hb hk ho0) | ((with_reducible refine gate_callee (f := 17) rfl ?_); refine goesL_ (some 96) rfl rfl Try.func17 (by kernel_rfl) rfl #[.slice A1 l1.length c1] rfl (by (try simp only [List.map_toArray, List.map_cons, List.map_nil]); first | done | rfl | (simp only [List.length_drop, List.length_take]; rfl)) ?_; (with_reducible refine (laws_toIntS.calls k _ _ l1 r61 _ ?side1 ?side2 Ee62.out).mono ?_); (case side1 => exact (Kd.C_below HR1.out HB.out)); (case side2 => exact HC1.out); rintro ex_ w60 ⟨ve62_0, rfl, ho0, hb⟩; refine ⟨_, rfl, ?_⟩; have hk := Kept.of_below hb (fun _ => False); have nOe6_0 := Aside0.mk (Op.mvS Oe6_0.out hk (fun _ _ hs => hs)); have nOe9_0 := Aside0.mk (Op.mvR Oe9_0.out hk (fun _ _ hs => hs)); have nOe13_0 := Aside0.mk (Op.mvR Oe13_0.out hk (fun _ _ hs => hs)); have nOe16_0 := Aside0.mk (Op.mvS Oe16_0.out hk (fun _ _ hs => hs)); have nOe19_0 := Aside0.mk (Op.mvR Oe19_0.out hk (fun _ _ hs => hs)); have nOe23_0 := Aside0.mk (Op.mvR Oe23_0.out hk (fun _ _ hs => hs)); have nOe29_0 := Aside0.mk (Op.mvS Oe29_0.out hk (fun _ _ hs => hs)); have nOe35_0 := Aside0.mk (Op.mvR Oe35_0.out hk (fun _ _ hs => hs)); have nOe59_0 := Aside0.mk (Op.mvS Oe59_0.out hk (fun _ _ hs => hs)); have nHB := Aside0.mk (below_step HB.out hb); have SZw60 := Aside0.mk hb.size; have Oe62_0 := Aside0.mk (Op.inR ho0 (a := w57.heap.size) (b := w.heap.size) HB.out.size (Nat.le_refl _)); clear Oe6_0 Oe9_0 Oe13_0 Oe16_0 Oe19_0 Oe23_0 Oe29_0 Oe35_0 Oe59_0 HB; have Oe6_0 := nOe6_0; have Oe9_0 := nOe9_0; have Oe13_0 := nOe13_0; have Oe16_0 := nOe16_0; have Oe19_0 := nOe19_0; have Oe23_0 := nOe23_0; have Oe29_0 := nOe29_0; have Oe35_0 := nOe35_0; have Oe59_0 := nOe59_0; have HB := nHB; clear nOe6_0 nOe9_0 nOe13_0 nOe16_0 nOe19_0 nOe23_0 nOe29_0 nOe35_0 nOe59_0 nHB; obtain ⟨Ae62_0, cAe62_0, ev_⟩ := Kd.R_slice Oe62_0.out; subst ev_; clear hb hk ho0) | ((with_reducible refine gate_callee (f := 18) rfl ?_); refine goesL_ (some 97) rfl rfl Try.func18 (by kernel_rfl) rfl #[.slice Ae59_0 r58.length cAe59_0, .slice Ae62_0 r61.length cAe62_0] rfl (by (try simp only [List.map_toArray, List.map_cons, List.map_nil]); first | done | rfl | (simp only [List.length_drop, List.length_take]; rfl)) ?_; (with_reducible refine (impl_CountsOf.calls k _ _ r58 _ _ r61 r64 r65 _ ?side1 ?side2 ?side3 ?side4 Ee66.out).mono ?_); (case side1 => exact (Kd.S_reads' Oe59_0.out).2.2); (case side2 => (have h_ := Kd.S_reads' Oe59_0.out; have h1_ := h_.1; have h2_ := h_.2.1; omega)); (case side3 => exact (Kd.R_reads' Oe62_0.out).2.2); (case side4 => (have h_ := Kd.R_reads' Oe62_0.out; have h1_ := h_.1; have h2_ := h_.2.1; omega)); rintro ex_ w63 ⟨ve66_0, rfl, ho0, hb⟩; refine ⟨_, rfl, ?_⟩; have hk := Kept.of_below hb (fun _ => False); have nOe6_0 := Aside0.mk (Op.mvS Oe6_0.out hk (fun _ _ hs => hs)); have nOe9_0 := Aside0.mk (Op.mvR Oe9_0.out hk (fun _ _ hs => hs)); have nOe13_0 := Aside0.mk (Op.mvR Oe13_0.out hk (fun _ _ hs => hs)); have nOe16_0 := Aside0.mk (Op.mvS Oe16_0.out hk (fun _ _ hs => hs)); have nOe19_0 := Aside0.mk (Op.mvR Oe19_0.out hk (fun _ _ hs => hs)); have nOe23_0 := Aside0.mk (Op.mvR Oe23_0.out hk (fun _ _ hs => hs)); have nOe29_0 := Aside0.mk (Op.mvS Oe29_0.out hk (fun _ _ hs => hs)); have nOe35_0 := Aside0.mk (Op.mvR Oe35_0.out hk (fun _ _ hs => hs)); have nOe59_0 := Aside0.mk (Op.mvS Oe59_0.out hk (fun _ _ hs => hs)); have nOe62_0 := Aside0.mk (Op.mvR Oe62_0.out hk (fun _ _ hs => hs)); have nHB := Aside0.mk (below_step HB.out hb); have SZw63 := Aside0.mk hb.size; have Oe66_0 := Aside0.mk (Op.inR ho0 (a := w60.heap.size) (b := w.heap.size) HB.out.size (Nat.le_refl _)); clear Oe6_0 Oe9_0 Oe13_0 Oe16_0 Oe19_0 Oe23_0 Oe29_0 Oe35_0 Oe59_0 Oe62_0 HB; have Oe6_0 := nOe6_0; have Oe9_0 := nOe9_0; have Oe13_0 := nOe13_0; have Oe16_0 := nOe16_0; have Oe19_0 := nOe19_0; have Oe23_0 := nOe23_0; have Oe29_0 := nOe29_0; have Oe35_0 := nOe35_0; have Oe59_0 := nOe59_0; have Oe62_0 := nOe62_0; have HB := nHB; clear nOe6_0 nOe9_0 nOe13_0 nOe16_0 nOe19_0 nOe23_0 nOe29_0 nOe35_0 nOe59_0 nOe62_0 nHB; obtain ⟨Ae66_0, cAe66_0, ev_⟩ := Kd.R_slice Oe66_0.out; subst ev_; clear hb hk ho0) | ((with_reducible refine gate_callee (f := 19) rfl ?_); refine goesL_ (some 102) rfl rfl Try.func19 (by kernel_rfl) rfl #[.slice Ae66_0 r64.length cAe66_0, .slice Ae13_0 r11.length cAe13_0] rfl (by (try simp only [List.map_toArray, List.map_cons, List.map_nil]); first | done | rfl | (simp only [List.length_drop, List.length_take]; rfl)) ?_; (with_reducible refine (laws_eqIntS.calls k _ _ r64 _ _ r11 true _ ?side1 ?side2 ?side3 ?side4 Ee69.out).mono ?_); (case side1 => exact (Kd.R_reads' Oe66_0.out).2.2); (case side2 => (have h_ := Kd.R_reads' Oe66_0.out; have h1_ := h_.1; have h2_ := h_.2.1; omega)); (case side3 => exact (Kd.R_reads' Oe13_0.out).2.2); (case side4 => (have h_ := Kd.R_reads' Oe13_0.out; have h1_ := h_.1; have h2_ := h_.2.1; omega)); rintro ex_ w67 ⟨rfl, hd⟩; refine ⟨_, rfl, ?_⟩; have hb := hd.below; have hk := Kept.of_below hb (fun _ => False); have nOe6_0 := Aside0.mk (Op.mvS Oe6_0.out hk (fun _ _ hs => hs)); have nOe9_0 := Aside0.mk (Op.mvR Oe9_0.out hk (fun _ _ hs => hs)); have nOe13_0 := Aside0.mk (Op.mvR Oe13_0.out hk (fun _ _ hs => hs)); have nOe16_0 := Aside0.mk (Op.mvS Oe16_0.out hk (fun _ _ hs => hs)); have nOe19_0 := Aside0.mk (Op.mvR Oe19_0.out hk (fun _ _ hs => hs)); have nOe23_0 := Aside0.mk (Op.mvR Oe23_0.out hk (fun _ _ hs => hs)); have nOe29_0 := Aside0.mk (Op.mvS Oe29_0.out hk (fun _ _ hs => hs)); have nOe35_0 := Aside0.mk (Op.mvR Oe35_0.out hk (fun _ _ hs => hs)); have nOe59_0 := Aside0.mk (Op.mvS Oe59_0.out hk (fun _ _ hs => hs)); have nOe62_0 := Aside0.mk (Op.mvR Oe62_0.out hk (fun _ _ hs => hs)); have nOe66_0 := Aside0.mk (Op.mvR Oe66_0.out hk (fun _ _ hs => hs)); have nHB := Aside0.mk (below_step HB.out hb); have SZw67 := Aside0.mk hb.size; clear Oe6_0 Oe9_0 Oe13_0 Oe16_0 Oe19_0 Oe23_0 Oe29_0 Oe35_0 Oe59_0 Oe62_0 Oe66_0 HB; have Oe6_0 := nOe6_0; have Oe9_0 := nOe9_0; have Oe13_0 := nOe13_0; have Oe16_0 := nOe16_0; have Oe19_0 := nOe19_0; have Oe23_0 := nOe23_0; have Oe29_0 := nOe29_0; have Oe35_0 := nOe35_0; have Oe59_0 := nOe59_0; have Oe62_0 := nOe62_0; have Oe66_0 := nOe66_0; have HB := nHB; clear nOe6_0 nOe9_0 nOe13_0 nOe16_0 nOe19_0 nOe23_0 nOe29_0 nOe35_0 nOe59_0 nOe62_0 nOe66_0 nHB; clear hb hk hd) | ((with_reducible refine gate_callee (f := 23) rfl ?_); refine goesL_ (some 111) rfl rfl Try.func23 (by kernel_rfl) rfl #[.slice Ae23_0 r21.length cAe23_0, .int .i64 1] rfl (by (try simp only [List.map_toArray, List.map_cons, List.map_nil]); first | done | rfl | (simp only [List.length_drop, List.length_take]; rfl)) ?_; refine Op.args_eq (args := #[.slice Ae23_0 r52.length cAe23_0, .int .i64 1]) (by simp only [LOe23_0_r52.out]) ?_; (with_reducible refine (laws_heldIntS.calls k _ _ r52 1 r71 _ ?side1 ?side2 Ee72.out).mono ?_); (case side1 => exact (Kd.R_reads' Oe23_0.out).2.2); (case side2 => (have h_ := Kd.R_reads' Oe23_0.out; have h1_ := h_.1; have h2_ := h_.2.1; omega)); rintro ex_ w70 ⟨rfl, hd⟩; refine ⟨_, rfl, ?_⟩; have hb := hd.below; have hk := Kept.of_below hb (fun _ => False); have nOe6_0 := Aside0.mk (Op.mvS Oe6_0.out hk (fun _ _ hs => hs)); have nOe9_0 := Aside0.mk (Op.mvR Oe9_0.out hk (fun _ _ hs => hs)); have nOe13_0 := Aside0.mk (Op.mvR Oe13_0.out hk (fun _ _ hs => hs)); have nOe16_0 := Aside0.mk (Op.mvS Oe16_0.out hk (fun _ _ hs => hs)); have nOe19_0 := Aside0.mk (Op.mvR Oe19_0.out hk (fun _ _ hs => hs)); have nOe23_0 := Aside0.mk (Op.mvR Oe23_0.out hk (fun _ _ hs => hs)); have nOe29_0 := Aside0.mk (Op.mvS Oe29_0.out hk (fun _ _ hs => hs)); have nOe35_0 := Aside0.mk (Op.mvR Oe35_0.out hk (fun _ _ hs => hs)); have nOe59_0 := Aside0.mk (Op.mvS Oe59_0.out hk (fun _ _ hs => hs)); have nOe62_0 := Aside0.mk (Op.mvR Oe62_0.out hk (fun _ _ hs => hs)); have nOe66_0 := Aside0.mk (Op.mvR Oe66_0.out hk (fun _ _ hs => hs)); have nHB := Aside0.mk (below_step HB.out hb); have SZw70 := Aside0.mk hb.size; clear Oe6_0 Oe9_0 Oe13_0 Oe16_0 Oe19_0 Oe23_0 Oe29_0 Oe35_0 Oe59_0 Oe62_0 Oe66_0 HB; have Oe6_0 := nOe6_0; have Oe9_0 := nOe9_0; have Oe13_0 := nOe13_0; have Oe16_0 := nOe16_0; have Oe19_0 := nOe19_0; have Oe23_0 := nOe23_0; have Oe29_0 := nOe29_0; have Oe35_0 := nOe35_0; have Oe59_0 := nOe59_0; have Oe62_0 := nOe62_0; have Oe66_0 := nOe66_0; have HB := nHB; clear nOe6_0 nOe9_0 nOe13_0 nOe16_0 nOe19_0 nOe23_0 nOe29_0 nOe35_0 nOe59_0 nOe62_0 nOe66_0 nHB; clear hb hk hd))
  go_ret
  exact ⟨rfl, HB.out⟩

/-- THE ONE PURE STATEMENT of laws_FnExactCountsOf: yours. -/
def laws_FnExactCountsOf.Pure : Prop := ∀ (l0 : List (S69)) (l1 : List Int), (l0.length ≤ maxLen ∧ ∀ y_ ∈ l0, (fun z_ : S69 => ((z_).f0.length ≤ maxLen ∧ ∀ y_ ∈ (z_).f0, (fun z_ : Int => (Lit.int .i64 z_).wf = true) y_) ∧ (True)) y_) → (l1.length ≤ maxLen ∧ ∀ y_ ∈ l1, (fun z_ : Int => (Lit.int .i64 z_).wf = true) y_) → ∃ k, laws_FnExactCountsOf.f k l0 l1 = some true
set_option maxHeartbeats 1000000 in
theorem laws_FnExactCountsOf.walk (P : laws_FnExactCountsOf.Pure) (A0 : Option Addr) (c0 : Nat) (l0 : List (S69)) (A1 : Option Addr) (c1 : Nat) (l1 : List Int) (w : World) (hr0 : Kd.C k69 w A0 l0.length l0) (hc0 : l0.length ≤ c0) (hr1 : Kd.C (Kd.int .i64) w A1 l1.length l1) (hc1 : l1.length ≤ c1) (q0 : l0.length ≤ maxLen ∧ ∀ y_ ∈ l0, (fun z_ : S69 => ((z_).f0.length ≤ maxLen ∧ ∀ y_ ∈ (z_).f0, (fun z_ : Int => (Lit.int .i64 z_).wf = true) y_) ∧ (True)) y_) (q1 : l1.length ≤ maxLen ∧ ∀ y_ ∈ l1, (fun z_ : Int => (Lit.int .i64 z_).wf = true) y_) :
    Calls Try.prog 3 #[.slice A0 l0.length c0, .slice A1 l1.length c1] w fun e w' => e = .returned (.bool true) ∧ Below w.heap.size w w' := by
  obtain ⟨k, h⟩ := P l0 l1 q0 q1
  refine (laws_FnExactCountsOf.calls k _ _ l0 _ _ l1 true w hr0 hc0 hr1 hc1 h).mono ?_
  rintro e w' ⟨rfl, hd⟩
  exact ⟨rfl, hd⟩

end Go.Proofs.Ytdhclelfnbjikaa.PFnExactCountsOf
