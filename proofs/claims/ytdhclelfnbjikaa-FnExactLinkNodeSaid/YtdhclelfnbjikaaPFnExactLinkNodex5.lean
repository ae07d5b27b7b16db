/- Contracts of functions of the translation, written by a program of this repo (a changed copy of the printer). Not trusted: Lean checks it. -/
-- squeezed
import Derived.Test.YtdhclelfnbjikaaPFnExactLinkNodex0
namespace Go.Proofs.Ytdhclelfnbjikaa.PFnExactLinkNode
open Go.RowKit Go.Proofs.YtdhclelfnbjikaaW.PrintWords Go.Proofs.YtdhclelfnbjikaaW.PrintLast Go.Proofs.YtdhclelfnbjikaaW.PrintMore
attribute [local go_sem] max2_int min2_int max_two min_two max_three min_three max_four min_four   -- for this text's walks alone
set_option linter.unusedVariables false
set_option linter.unusedSimpArgs false

/-! ### spec_l10Nodes: function 56 -/
mutual
def spec_l10Nodes.l0 : Nat → List (S60) → List Int → List (S60) → Int → Int → Option (Bool)
 | 0, _, _, _, _, _ => none
 | k + 1, x0, x1, x11, x12, x13 => if x13 < x12 then (if 0 ≤ x13 then (if x13 < (x11.length : Int) then (spec_l10Nodes.l1 k x0 x1 x13 x11 x12 x13 ((rd_T60 x11 x13).f0) (((rd_T60 x11 x13).f0).length : Int) 0 ((rd_T60 x11 x13).f0) ((rd_T60 x11 x13).f1)) else (none)) else (none)) else (spec_l10Nodes.l2 k x0 x1 x1 (x1.length : Int) 0)
def spec_l10Nodes.l1 : Nat → List (S60) → List Int → Int → List (S60) → Int → Int → List Int → Int → Int → List Int → Bool → Option (Bool)
 | 0, _, _, _, _, _, _, _, _, _, _, _ => none
 | k + 1, x0, x1, x5, x11, x12, x13, x19, x20, x21, x191000, x191001 => if x21 < x20 then (if 0 ≤ x21 then (if x21 < (x19.length : Int) then (if (rd x19 x21) < 0 then (some false) else (if (rd x19 x21) ≥ x5 then (some false) else (if 0 ≤ (rd x19 x21) then (if (rd x19 x21) < (x0.length : Int) then (if (rd_T60 x0 (rd x19 x21)).f1 = true then (some false) else (spec_l10Nodes.l1 k x0 x1 x5 x11 x12 x13 x19 x20 (wrap64 (x21 + 1)) x191000 x191001)) else (none)) else (none)))) else (none)) else (none)) else (if (x191000.length : Int) > 6 then (some false) else (if x191001 = true then (if (x191000.length : Int) > 0 then (some false) else (spec_l10Nodes.l0 k x0 x1 x11 x12 (wrap64 (x13 + 1)))) else (spec_l10Nodes.l0 k x0 x1 x11 x12 (wrap64 (x13 + 1)))))
def spec_l10Nodes.l2 : Nat → List (S60) → List Int → List Int → Int → Int → Option (Bool)
 | 0, _, _, _, _, _ => none
 | k + 1, x0, x1, x55, x56, x57 => if x57 < x56 then (if 0 ≤ x57 then (if x57 < (x55.length : Int) then (if (rd x55 x57) < 0 then (some false) else (if (rd x55 x57) ≥ (x0.length : Int) then (some false) else (if 0 ≤ (rd x55 x57) then (if (rd x55 x57) < (x0.length : Int) then (if (rd_T60 x0 (rd x55 x57)).f1 = true then (some false) else (spec_l10Nodes.l2 k x0 x1 x55 x56 (wrap64 (x57 + 1)))) else (none)) else (none)))) else (none)) else (none)) else (if (x0.length : Int) ≤ 14 then (some (decide ((x1.length : Int) ≤ 6))) else (some false))
end
def spec_l10Nodes.f (k : Nat) (l0 : List (S60)) (l1 : List Int) : Option (Bool) := spec_l10Nodes.l0 k l0 l1 l0 (l0.length : Int) 0
theorem spec_l10Nodes.mono_l : ∀ k, (∀ y0 y1 y2 y3 y4, LeO (spec_l10Nodes.l0 k y0 y1 y2 y3 y4) (spec_l10Nodes.l0 (k + 1) y0 y1 y2 y3 y4)) ∧ (∀ y0 y1 y2 y3 y4 y5 y6 y7 y8 y9 y10, LeO (spec_l10Nodes.l1 k y0 y1 y2 y3 y4 y5 y6 y7 y8 y9 y10) (spec_l10Nodes.l1 (k + 1) y0 y1 y2 y3 y4 y5 y6 y7 y8 y9 y10)) ∧ (∀ y0 y1 y2 y3 y4, LeO (spec_l10Nodes.l2 k y0 y1 y2 y3 y4) (spec_l10Nodes.l2 (k + 1) y0 y1 y2 y3 y4))
 | 0 => ⟨fun _ _ _ _ _ r h => by simp [spec_l10Nodes.l0] at h, fun _ _ _ _ _ _ _ _ _ _ _ r h => by simp [spec_l10Nodes.l1] at h, fun _ _ _ _ _ r h => by simp [spec_l10Nodes.l2] at h⟩
 | k + 1 => by
  obtain ⟨ih0, ih1, ih2⟩ := spec_l10Nodes.mono_l k
  refine ⟨?_, ?_, ?_⟩
  ·intro y0 y1 y2 y3 y4
   unfold spec_l10Nodes.l0
   repeat' first
   | (with_reducible exact ih0 _ _ _ _ _)
   | (with_reducible exact ih1 _ _ _ _ _ _ _ _ _ _ _)
   | (with_reducible exact ih2 _ _ _ _ _)
   | (with_reducible exact LeO.refl _)
   | (with_reducible exact LeO.none _)
   | (with_reducible refine LeO.ite ?_ ?_)
   | (with_reducible refine LeO.bind ?_ (fun _ => ?_))
   | exact ih0 _ _ _ _ _
   | exact ih1 _ _ _ _ _ _ _ _ _ _ _
   | exact ih2 _ _ _ _ _
   | exact LeO.none _
   | refine LeO.ite ?_ ?_
   | refine LeO.bind ?_ (fun _ => ?_)
  ·intro y0 y1 y2 y3 y4 y5 y6 y7 y8 y9 y10
   unfold spec_l10Nodes.l1
   repeat' first
   | (with_reducible exact ih0 _ _ _ _ _)
   | (with_reducible exact ih1 _ _ _ _ _ _ _ _ _ _ _)
   | (with_reducible exact ih2 _ _ _ _ _)
   | (with_reducible exact LeO.refl _)
   | (with_reducible exact LeO.none _)
   | (with_reducible refine LeO.ite ?_ ?_)
   | (with_reducible refine LeO.bind ?_ (fun _ => ?_))
   | exact ih0 _ _ _ _ _
   | exact ih1 _ _ _ _ _ _ _ _ _ _ _
   | exact ih2 _ _ _ _ _
   | exact LeO.none _
   | refine LeO.ite ?_ ?_
   | refine LeO.bind ?_ (fun _ => ?_)
  ·intro y0 y1 y2 y3 y4
   unfold spec_l10Nodes.l2
   repeat' first
   | (with_reducible exact ih0 _ _ _ _ _)
   | (with_reducible exact ih1 _ _ _ _ _ _ _ _ _ _ _)
   | (with_reducible exact ih2 _ _ _ _ _)
   | (with_reducible exact LeO.refl _)
   | (with_reducible exact LeO.none _)
   | (with_reducible refine LeO.ite ?_ ?_)
   | (with_reducible refine LeO.bind ?_ (fun _ => ?_))
   | exact ih0 _ _ _ _ _
   | exact ih1 _ _ _ _ _ _ _ _ _ _ _
   | exact ih2 _ _ _ _ _
   | exact LeO.none _
   | refine LeO.ite ?_ ?_
   | refine LeO.bind ?_ (fun _ => ?_)
theorem spec_l10Nodes.mono : ∀ a0 a1 k, LeO (spec_l10Nodes.f k a0 a1) (spec_l10Nodes.f (k + 1) a0 a1) := by
 intro a0 a1 k
 obtain ⟨ih0, ih1, ih2⟩ := spec_l10Nodes.mono_l k
 unfold spec_l10Nodes.f
 repeat' first
   | (with_reducible exact ih0 _ _ _ _ _)
   | (with_reducible exact ih1 _ _ _ _ _ _ _ _ _ _ _)
   | (with_reducible exact ih2 _ _ _ _ _)
   | (with_reducible exact LeO.refl _)
   | (with_reducible exact LeO.none _)
   | (with_reducible refine LeO.ite ?_ ?_)
   | (with_reducible refine LeO.bind ?_ (fun _ => ?_))
   | exact ih0 _ _ _ _ _
   | exact ih1 _ _ _ _ _ _ _ _ _ _ _
   | exact ih2 _ _ _ _ _
   | exact LeO.none _
   | refine LeO.ite ?_ ?_
   | refine LeO.bind ?_ (fun _ => ?_)
set_option maxHeartbeats 8000000 in
set_option maxRecDepth 100000 in
theorem spec_l10Nodes.calls (k : Nat) (A0 : Option Addr) (c0 : Nat) (l0 : List (S60)) (A1 : Option Addr) (c1 : Nat) (l1 : List Int) (r : Bool) (w : World) (hr0 : Kd.C k60 w A0 l0.length l0) (hc0 : l0.length ≤ c0) (hr1 : Kd.C (Kd.int .i64) w A1 l1.length l1) (hc1 : l1.length ≤ c1) (h : spec_l10Nodes.f k l0 l1 = some r) :
  Calls Try.prog 56 #[.slice A0 l0.length c0, .slice A1 l1.length c1] w fun e w' => e = .returned (.bool r) ∧ Below w.heap.size w w' := by
 have hu60 := Try.underlying60
 have HR0 := Aside0.mk hr0
 have HC0 := Aside0.mk hc0
 clear hr0 hc0
 have HR1 := Aside0.mk hr1
 have HC1 := Aside0.mk hc1
 clear hr1 hc1
 have HB := Aside0.mk (Below.refl w.heap.size w)
 have H : (spec_l10Nodes.l0 k l0 l1 l0 (l0.length : Int) 0) = some r := h
 clear h
 have H' := Aside0.mk H
 clear H
 go_enter Try.func56, Try.ntmps56
 go_wp2
 go_loopg [13] k (fun kq v13 w' => ∃ (x13_1 : Int), v13 = .int .i64 x13_1 ∧ Aside0 (spec_l10Nodes.l0 kq l0 l1 l0 (l0.length : Int) x13_1 = some r) ∧ Aside0 (kq ≤ k) ∧ Aside0 (Below w.heap.size w w'))
 case atStart => exact ⟨(0), (by first | rfl | (simp; done) | (simp [*]; done)), H', ⟨Nat.le_refl _⟩, ⟨by repeat (first | (with_reducible first | exact HB.out | apply Op.a1 | apply Op.a2 | apply Op.a3) | exact HB.out)⟩⟩
 case round =>
  clear H'
  try clear c1
  try clear p2
  obtain ⟨x13_1, rfl, HA, HK1, HB⟩ := hrel
  cases gk with
  | zero => exact absurd HA.out (by simp [spec_l10Nodes.l0])
  | succ k1 =>
   have H := HA.out
   clear HA
   simp only [spec_l10Nodes.l0] at H
   by_cases c3 : x13_1 < (l0.length : Int)
   ·rw [if_pos c3] at H
    have c3b0 : decide (x13_1 < (l0.length : Int)) = true := decide_eq_true c3
    clear c3
    by_cases c4 : 0 ≤ x13_1
    ·rw [if_pos c4] at H
     have c4b0 : decide (0 ≤ x13_1) = true := decide_eq_true c4
     clear c4
     by_cases c5 : x13_1 < (l0.length : Int)
     ·rw [if_pos c5] at H
      have c5b0 : decide (x13_1 < (l0.length : Int)) = true := decide_eq_true c5
      clear c5
      have H' := Aside0.mk H
      clear H
      have p189 : 0 ≤ (x13_1 : Int) := of_decide_eq_true (by first | (with_reducible assumption) | assumption)
      have q189 : x13_1 < (l0.length : Int) := of_decide_eq_true (by first | (with_reducible assumption) | assumption)
      obtain ⟨ad189, A189_0, c189_0, e189, hx189_0, hx189_1, hl189_0, hi189_0⟩ := at_T60 HR0.out x13_1 p189 q189
      cases e189
      replace hx189_0 := (HB.out.cell (World.block_lt_of_cell? w _ hx189_0)).trans hx189_0
      replace hx189_1 := (HB.out.cell (World.block_lt_of_cell? w _ hx189_1)).trans hx189_1
      have HR189_0 := Aside0.mk hi189_0
      have HC189_0 := Aside0.mk hl189_0
      clear hi189_0 hl189_0
      replace p189 := eq_true p189
      replace q189 := eq_true q189
      go_wp2_with (first | ((with_reducible refine gate_dst (N := 6) rfl ?_); (try (refine gate_guard (by rfl) ?_; dsimp only)); refine box_event ?hg (N := 6) ?hd (cs := #[.slice none 0 0, .bool false]) (t := 60) ?hr ?_; (case hd => rfl); (case hg => rfl); (case hr => first | (go_simp; done) | (go_simp; rfl)); intro gb190 hg w6 hbox hb; have n0_ := Aside0.mk (Op.a5 (by repeat (first | (with_reducible first | exact HB.out | apply Op.a1 | apply Op.a2 | apply Op.a3) | exact HB.out)) hb); have n1_ := Aside0.mk (hbox); have n2_ := Aside0.mk ((by rw [hg]; exact (Op.a6 (by repeat (first | (with_reducible first | exact HB.out | apply Op.a1 | apply Op.a2 | apply Op.a3) | exact HB.out))) : w.heap.size ≤ gb190)); have n3_ := Aside0.mk ((by rw [hg]; exact (Op.a6 (by repeat (first | (with_reducible first | exact HB.out | apply Op.a1 | apply Op.a2 | apply Op.a3) | exact HB.out))) : w.heap.size ≤ gb190)); clear HB; have HB := n0_; have BK190 := n1_; have GW190 := n2_; have GE190 := n3_; clear n0_ n1_ n2_ n3_; clear hb hbox hg; have hcz7_0 : w6.cell? ⟨gb190, 0, none⟩ = some (.slice none 0 0) := (blk_cell BK190.out 0).trans rfl; have hcz7_1 : w6.cell? ⟨gb190, 1, none⟩ = some (.bool false) := (blk_cell BK190.out 1).trans rfl; have hfz7_0 := blk_frozen BK190.out 0; have hfz7_1 := blk_frozen BK190.out 1))
      go_loopg [21] k1 (fun kq v21 w' => ∃ (x21_2 : Int), v21 = .int .i64 x21_2 ∧ Aside0 (spec_l10Nodes.l1 kq l0 l1 x13_1 l0 (l0.length : Int) x13_1 ((rd_T60 l0 x13_1).f0) (((rd_T60 l0 x13_1).f0).length : Int) x21_2 ((rd_T60 l0 x13_1).f0) ((rd_T60 l0 x13_1).f1) = some r) ∧ Aside0 (kq ≤ k1) ∧ Aside0 (w'.heap[gb190]? = some (.cells #[(.slice A189_0 ((rd_T60 l0 x13_1).f0).length c189_0), .bool ((rd_T60 l0 x13_1).f1)] 60 (0, 0))) ∧ Aside0 (Below w.heap.size w w'))
      case atStart => exact ⟨(0), (by first | rfl | (simp; done) | (simp [*]; done)), H', ⟨Nat.le_refl _⟩, ⟨by (with_reducible repeat (first | refine Op.b1 ?_ _ | refine Op.b2 ?_ | refine Op.b3 ?_ _)); refine blk_put (cs := #[.slice A189_0 ((rd_T60 l0 x13_1).f0).length c189_0, .bool false]) ?_ 1 _ rfl; (with_reducible repeat (first | refine Op.b1 ?_ _ | refine Op.b2 ?_ | refine Op.b3 ?_ _)); refine blk_put (cs := #[.slice none 0 0, .bool false]) ?_ 0 _ rfl; (with_reducible repeat (first | refine Op.b1 ?_ _ | refine Op.b2 ?_ | refine Op.b3 ?_ _)); exact BK190.out⟩, ⟨by repeat (first | (with_reducible first | exact HB.out | apply Op.a1 | apply Op.a2 | apply Op.a3 | refine Op.a4 ?_ GE190.out) | exact HB.out)⟩⟩
      case round =>
       clear H'
       try clear c1
       try clear p1
       try clear q1
       try clear hx1
       try clear p2
       try clear c3
       try clear c3b0
       try clear c4
       try clear c4b0
       try clear c5
       try clear c5b0
       try clear hcz7_0
       try clear hcz7_1
       try clear hfz7_0
       try clear hfz7_1
       try clear hx189_0
       try clear hx189_1
       try clear p189
       try clear p2
       try clear q189
       obtain ⟨x21_2, rfl, HA, HK2, BK190, HB⟩ := hrel
       cases gk with
       | zero => exact absurd HA.out (by simp [spec_l10Nodes.l1])
       | succ k2 =>
        have H := HA.out
        clear HA
        simp only [spec_l10Nodes.l1] at H
        by_cases c8 : x21_2 < (((rd_T60 l0 x13_1).f0).length : Int)
        ·rw [if_pos c8] at H
         have c8b0 : decide (x21_2 < (((rd_T60 l0 x13_1).f0).length : Int)) = true := decide_eq_true c8
         clear c8
         by_cases c9 : 0 ≤ x21_2
         ·rw [if_pos c9] at H
          have c9b0 : decide (0 ≤ x21_2) = true := decide_eq_true c9
          clear c9
          by_cases c10 : x21_2 < (((rd_T60 l0 x13_1).f0).length : Int)
          ·rw [if_pos c10] at H
           have c10b0 : decide (x21_2 < (((rd_T60 l0 x13_1).f0).length : Int)) = true := decide_eq_true c10
           clear c10
           by_cases c11 : (rd ((rd_T60 l0 x13_1).f0) x21_2) < 0
           ·rw [if_pos c11] at H
            have c11b0 : decide ((rd ((rd_T60 l0 x13_1).f0) x21_2) < 0) = true := decide_eq_true c11
            clear c11
            obtain rfl := Option.some.inj H
            have p191 : 0 ≤ (x21_2 : Int) := of_decide_eq_true (by first | (with_reducible assumption) | assumption)
            have q191 : x21_2 < (((rd_T60 l0 x13_1).f0).length : Int) := of_decide_eq_true (by first | (with_reducible assumption) | assumption)
            obtain ⟨ad191, e191, hx191_0⟩ := Kd.at_int HR189_0.out x21_2 p191 q191
            cases e191
            replace hx191_0 := (HB.out.cell (World.block_lt_of_cell? w _ hx191_0)).trans hx191_0
            replace p191 := eq_true p191
            replace q191 := eq_true q191
            go_wp2
            go_ret
            exact ⟨by first | rfl | (simp [errW_none, errW_some] <;> rfl) | (simp [*, errW_none, errW_some] <;> rfl), by repeat (first | (with_reducible first | exact HB.out | apply Op.a1 | apply Op.a2 | apply Op.a3 | refine Op.a4 ?_ GE190.out) | exact HB.out)⟩
           ·rw [if_neg c11] at H
            have c11b0 : decide ((rd ((rd_T60 l0 x13_1).f0) x21_2) < 0) = false := decide_eq_false c11
            clear c11
            by_cases c12 : (rd ((rd_T60 l0 x13_1).f0) x21_2) ≥ x13_1
            ·rw [if_pos c12] at H
             have c12b0 : decide (x13_1 ≤ (rd ((rd_T60 l0 x13_1).f0) x21_2)) = true := decide_eq_true c12
             clear c12
             obtain rfl := Option.some.inj H
             have p191 : 0 ≤ (x21_2 : Int) := of_decide_eq_true (by first | (with_reducible assumption) | assumption)
             have q191 : x21_2 < (((rd_T60 l0 x13_1).f0).length : Int) := of_decide_eq_true (by first | (with_reducible assumption) | assumption)
             obtain ⟨ad191, e191, hx191_0⟩ := Kd.at_int HR189_0.out x21_2 p191 q191
             cases e191
             replace hx191_0 := (HB.out.cell (World.block_lt_of_cell? w _ hx191_0)).trans hx191_0
             replace p191 := eq_true p191
             replace q191 := eq_true q191
             go_wp2
             go_ret
             exact ⟨by first | rfl | (simp [errW_none, errW_some] <;> rfl) | (simp [*, errW_none, errW_some] <;> rfl), by repeat (first | (with_reducible first | exact HB.out | apply Op.a1 | apply Op.a2 | apply Op.a3 | refine Op.a4 ?_ GE190.out) | exact HB.out)⟩
            ·rw [if_neg c12] at H
             have c12b0 : decide (x13_1 ≤ (rd ((rd_T60 l0 x13_1).f0) x21_2)) = false := decide_eq_false c12
             clear c12
             by_cases c13 : 0 ≤ (rd ((rd_T60 l0 x13_1).f0) x21_2)
             ·rw [if_pos c13] at H
              have c13b0 : decide (0 ≤ (rd ((rd_T60 l0 x13_1).f0) x21_2)) = true := decide_eq_true c13
              clear c13
              by_cases c14 : (rd ((rd_T60 l0 x13_1).f0) x21_2) < (l0.length : Int)
              ·rw [if_pos c14] at H
               have c14b0 : decide ((rd ((rd_T60 l0 x13_1).f0) x21_2) < (l0.length : Int)) = true := decide_eq_true c14
               clear c14
               obtain ⟨bq15, hbq15⟩ : ∃ b_ : Bool, b_ = ((rd_T60 l0 (rd ((rd_T60 l0 x13_1).f0) x21_2)).f1) := ⟨_, rfl⟩
               replace H : (if bq15 = true then (some false) else (spec_l10Nodes.l1 k2 l0 l1 x13_1 l0 (l0.length : Int) x13_1 ((rd_T60 l0 x13_1).f0) (((rd_T60 l0 x13_1).f0).length : Int) (wrap64 (x21_2 + 1)) ((rd_T60 l0 x13_1).f0) ((rd_T60 l0 x13_1).f1))) = some r := by rw [← hbq15] at H; exact H
               have Nbq15 := Aside0.mk hbq15
               clear hbq15
               by_cases c16 : bq15 = true
               ·subst c16
                have H1 : (some false) = some r := by rw [if_pos rfl] at H; exact H
                clear H
                have H := H1
                clear H1
                obtain rfl := Option.some.inj H
                have p191 : 0 ≤ (x21_2 : Int) := of_decide_eq_true (by first | (with_reducible assumption) | assumption)
                have q191 : x21_2 < (((rd_T60 l0 x13_1).f0).length : Int) := of_decide_eq_true (by first | (with_reducible assumption) | assumption)
                obtain ⟨ad191, e191, hx191_0⟩ := Kd.at_int HR189_0.out x21_2 p191 q191
                cases e191
                replace hx191_0 := (HB.out.cell (World.block_lt_of_cell? w _ hx191_0)).trans hx191_0
                replace p191 := eq_true p191
                replace q191 := eq_true q191
                have p192 : 0 ≤ ((rd ((rd_T60 l0 x13_1).f0) x21_2) : Int) := of_decide_eq_true (by first | (with_reducible assumption) | assumption)
                have q192 : (rd ((rd_T60 l0 x13_1).f0) x21_2) < (l0.length : Int) := of_decide_eq_true (by first | (with_reducible assumption) | assumption)
                obtain ⟨ad192, A192_0, c192_0, e192, hx192_0, hx192_1, hl192_0, hi192_0⟩ := at_T60 HR0.out (rd ((rd_T60 l0 x13_1).f0) x21_2) p192 q192
                (try rw [← Nbq15.out] at hx192_1)
                obtain rfl : ad189 = ad192 := (by injection e192)
                replace hx192_0 := (HB.out.cell (World.block_lt_of_cell? w _ hx192_0)).trans hx192_0
                replace hx192_1 := (HB.out.cell (World.block_lt_of_cell? w _ hx192_1)).trans hx192_1
                have HR192_0 := Aside0.mk hi192_0
                have HC192_0 := Aside0.mk hl192_0
                clear hi192_0 hl192_0
                replace p192 := eq_true p192
                replace q192 := eq_true q192
                go_wp2
                go_ret
                exact ⟨by first | rfl | (simp [errW_none, errW_some] <;> rfl) | (simp [*, errW_none, errW_some] <;> rfl), by repeat (first | (with_reducible first | exact HB.out | apply Op.a1 | apply Op.a2 | apply Op.a3 | refine Op.a4 ?_ GE190.out) | exact HB.out)⟩
               ·replace c16 := Bool.eq_false_iff.mpr c16
                subst c16
                have H1 : (spec_l10Nodes.l1 k2 l0 l1 x13_1 l0 (l0.length : Int) x13_1 ((rd_T60 l0 x13_1).f0) (((rd_T60 l0 x13_1).f0).length : Int) (wrap64 (x21_2 + 1)) ((rd_T60 l0 x13_1).f0) ((rd_T60 l0 x13_1).f1)) = some r := by rw [if_neg (show ¬ (false = true) by decide)] at H; exact H
                clear H
                have H := H1
                clear H1
                have H' := Aside0.mk H
                clear H
                have p191 : 0 ≤ (x21_2 : Int) := of_decide_eq_true (by first | (with_reducible assumption) | assumption)
                have q191 : x21_2 < (((rd_T60 l0 x13_1).f0).length : Int) := of_decide_eq_true (by first | (with_reducible assumption) | assumption)
                obtain ⟨ad191, e191, hx191_0⟩ := Kd.at_int HR189_0.out x21_2 p191 q191
                cases e191
                replace hx191_0 := (HB.out.cell (World.block_lt_of_cell? w _ hx191_0)).trans hx191_0
                replace p191 := eq_true p191
                replace q191 := eq_true q191
                have p192 : 0 ≤ ((rd ((rd_T60 l0 x13_1).f0) x21_2) : Int) := of_decide_eq_true (by first | (with_reducible assumption) | assumption)
                have q192 : (rd ((rd_T60 l0 x13_1).f0) x21_2) < (l0.length : Int) := of_decide_eq_true (by first | (with_reducible assumption) | assumption)
                obtain ⟨ad192, A192_0, c192_0, e192, hx192_0, hx192_1, hl192_0, hi192_0⟩ := at_T60 HR0.out (rd ((rd_T60 l0 x13_1).f0) x21_2) p192 q192
                (try rw [← Nbq15.out] at hx192_1)
                obtain rfl : ad189 = ad192 := (by injection e192)
                replace hx192_0 := (HB.out.cell (World.block_lt_of_cell? w _ hx192_0)).trans hx192_0
                replace hx192_1 := (HB.out.cell (World.block_lt_of_cell? w _ hx192_1)).trans hx192_1
                have HR192_0 := Aside0.mk hi192_0
                have HC192_0 := Aside0.mk hl192_0
                clear hi192_0 hl192_0
                replace p192 := eq_true p192
                replace q192 := eq_true q192
                go_wp2
                go_roundg k2
                case measure => have := HK1.out; have := HK2.out; omega
                case rel => exact ⟨(wrap64 (x21_2 + 1)), (by first | rfl | (simp; done) | (simp [*]; done)), H', ⟨by have := HK1.out; have := HK2.out; omega⟩, ⟨by (with_reducible repeat (first | refine Op.b1 ?_ _ | refine Op.b2 ?_ | refine Op.b3 ?_ _)); exact BK190.out⟩, ⟨by repeat (first | (with_reducible first | exact HB.out | apply Op.a1 | apply Op.a2 | apply Op.a3 | refine Op.a4 ?_ GE190.out) | exact HB.out)⟩⟩
              ·rw [if_neg c14] at H
               exact absurd H (by simp)
             ·rw [if_neg c13] at H
              exact absurd H (by simp)
          ·rw [if_neg c10] at H
           exact absurd H (by simp)
         ·rw [if_neg c9] at H
          exact absurd H (by simp)
        ·rw [if_neg c8] at H
         have c8b0 : decide (x21_2 < (((rd_T60 l0 x13_1).f0).length : Int)) = false := decide_eq_false c8
         clear c8
         by_cases c17 : (((rd_T60 l0 x13_1).f0).length : Int) > 6
         ·rw [if_pos c17] at H
          have c17b0 : decide (6 < (((rd_T60 l0 x13_1).f0).length : Int)) = true := decide_eq_true c17
          have c17b1 : decide (6 < ((rd_T60 l0 x13_1).f0).length) = true := decide_eq_true (by omega)
          clear c17
          obtain rfl := Option.some.inj H
          have hcz18_0 : wr.cell? ⟨gb190, 0, none⟩ = some (.slice A189_0 ((rd_T60 l0 x13_1).f0).length c189_0) := (blk_cell BK190.out 0).trans rfl
          have hcz18_1 : wr.cell? ⟨gb190, 1, none⟩ = some (.bool ((rd_T60 l0 x13_1).f1)) := (blk_cell BK190.out 1).trans rfl
          have hfz18_0 := blk_frozen BK190.out 0
          have hfz18_1 := blk_frozen BK190.out 1
          go_wp2
          go_ret
          exact ⟨by first | rfl | (simp [errW_none, errW_some] <;> rfl) | (simp [*, errW_none, errW_some] <;> rfl), by repeat (first | (with_reducible first | exact HB.out | apply Op.a1 | apply Op.a2 | apply Op.a3 | refine Op.a4 ?_ GE190.out) | exact HB.out)⟩
         ·rw [if_neg c17] at H
          have c17b0 : decide (6 < (((rd_T60 l0 x13_1).f0).length : Int)) = false := decide_eq_false c17
          have c17b1 : decide (6 < ((rd_T60 l0 x13_1).f0).length) = false := decide_eq_false (by omega)
          clear c17
          by_cases c19 : ((rd_T60 l0 x13_1).f1) = true
          ·rw [if_pos c19] at H
           have c19b0 : ((rd_T60 l0 x13_1).f1) = true := c19
           clear c19
           by_cases c20 : (((rd_T60 l0 x13_1).f0).length : Int) > 0
           ·rw [if_pos c20] at H
            have c20b0 : decide (0 < (((rd_T60 l0 x13_1).f0).length : Int)) = true := decide_eq_true c20
            have c20b1 : decide (0 < ((rd_T60 l0 x13_1).f0).length) = true := decide_eq_true (by omega)
            clear c20
            obtain rfl := Option.some.inj H
            have hcz21_0 : wr.cell? ⟨gb190, 0, none⟩ = some (.slice A189_0 ((rd_T60 l0 x13_1).f0).length c189_0) := (blk_cell BK190.out 0).trans rfl
            have hcz21_1 : wr.cell? ⟨gb190, 1, none⟩ = some (.bool ((rd_T60 l0 x13_1).f1)) := (blk_cell BK190.out 1).trans rfl
            have hfz21_0 := blk_frozen BK190.out 0
            have hfz21_1 := blk_frozen BK190.out 1
            go_wp2
            go_ret
            exact ⟨by first | rfl | (simp [errW_none, errW_some] <;> rfl) | (simp [*, errW_none, errW_some] <;> rfl), by repeat (first | (with_reducible first | exact HB.out | apply Op.a1 | apply Op.a2 | apply Op.a3 | refine Op.a4 ?_ GE190.out) | exact HB.out)⟩
           ·rw [if_neg c20] at H
            have c20b0 : decide (0 < (((rd_T60 l0 x13_1).f0).length : Int)) = false := decide_eq_false c20
            have c20b1 : decide (0 < ((rd_T60 l0 x13_1).f0).length) = false := decide_eq_false (by omega)
            clear c20
            have H' := Aside0.mk H
            clear H
            have hcz22_0 : wr.cell? ⟨gb190, 0, none⟩ = some (.slice A189_0 ((rd_T60 l0 x13_1).f0).length c189_0) := (blk_cell BK190.out 0).trans rfl
            have hcz22_1 : wr.cell? ⟨gb190, 1, none⟩ = some (.bool ((rd_T60 l0 x13_1).f1)) := (blk_cell BK190.out 1).trans rfl
            have hfz22_0 := blk_frozen BK190.out 0
            have hfz22_1 := blk_frozen BK190.out 1
            go_wp2
            go_roundg k2
            case measure => have := HK1.out; have := HK2.out; omega
            case rel => exact ⟨(wrap64 (x13_1 + 1)), (by first | rfl | (simp; done) | (simp [*]; done)), H', ⟨by have := HK1.out; have := HK2.out; omega⟩, ⟨by repeat (first | (with_reducible first | exact HB.out | apply Op.a1 | apply Op.a2 | apply Op.a3 | refine Op.a4 ?_ GE190.out) | exact HB.out)⟩⟩
          ·rw [if_neg c19] at H
           have c19b0 : ((rd_T60 l0 x13_1).f1) = false := by simpa using c19
           clear c19
           have H' := Aside0.mk H
           clear H
           have hcz23_0 : wr.cell? ⟨gb190, 0, none⟩ = some (.slice A189_0 ((rd_T60 l0 x13_1).f0).length c189_0) := (blk_cell BK190.out 0).trans rfl
           have hcz23_1 : wr.cell? ⟨gb190, 1, none⟩ = some (.bool ((rd_T60 l0 x13_1).f1)) := (blk_cell BK190.out 1).trans rfl
           have hfz23_0 := blk_frozen BK190.out 0
           have hfz23_1 := blk_frozen BK190.out 1
           go_wp2
           go_roundg k2
           case measure => have := HK1.out; have := HK2.out; omega
           case rel => exact ⟨(wrap64 (x13_1 + 1)), (by first | rfl | (simp; done) | (simp [*]; done)), H', ⟨by have := HK1.out; have := HK2.out; omega⟩, ⟨by repeat (first | (with_reducible first | exact HB.out | apply Op.a1 | apply Op.a2 | apply Op.a3 | refine Op.a4 ?_ GE190.out) | exact HB.out)⟩⟩
     ·rw [if_neg c5] at H
      exact absurd H (by simp)
    ·rw [if_neg c4] at H
     exact absurd H (by simp)
   ·rw [if_neg c3] at H
    have c3b0 : decide (x13_1 < (l0.length : Int)) = false := decide_eq_false c3
    clear c3
    have H' := Aside0.mk H
    clear H
    go_wp2
    go_loopg [57] k1 (fun kq v57 w' => ∃ (x57_2 : Int), v57 = .int .i64 x57_2 ∧ Aside0 (spec_l10Nodes.l2 kq l0 l1 l1 (l1.length : Int) x57_2 = some r) ∧ Aside0 (kq ≤ k1) ∧ Aside0 (Below w.heap.size w w'))
    case atStart => exact ⟨(0), (by first | rfl | (simp; done) | (simp [*]; done)), H', ⟨Nat.le_refl _⟩, ⟨by repeat (first | (with_reducible first | exact HB.out | apply Op.a1 | apply Op.a2 | apply Op.a3) | exact HB.out)⟩⟩
    case round =>
     clear H'
     try clear c1
     try clear p1
     try clear q1
     try clear hx1
     try clear c2
     try clear p2
     try clear c3
     try clear c3b0
     try clear c4
     try clear c4b0
     try clear c5
     try clear c5b0
     try clear p6
     try clear c8
     try clear c8b0
     try clear c9
     try clear c9b0
     try clear c10
     try clear c10b0
     try clear c11
     try clear c11b0
     try clear c12
     try clear c12b0
     try clear c13
     try clear c13b0
     try clear c14
     try clear c14b0
     try clear q15
     try clear c16
     try clear c17
     try clear c17b0
     try clear c17b1
     try clear c18
     try clear p18
     try clear q18
     try clear hx18
     try clear c19
     try clear c19b0
     try clear p19
     try clear q19
     try clear hx19
     try clear c20
     try clear c20b0
     try clear c20b1
     try clear hcz18_0
     try clear hcz18_1
     try clear hcz21_0
     try clear hcz21_1
     try clear hcz22_0
     try clear hcz22_1
     try clear hcz23_0
     try clear hcz23_1
     try clear hcz7_0
     try clear hcz7_1
     try clear hfz18_0
     try clear hfz18_1
     try clear hfz21_0
     try clear hfz21_1
     try clear hfz22_0
     try clear hfz22_1
     try clear hfz23_0
     try clear hfz23_1
     try clear hfz7_0
     try clear hfz7_1
     try clear hx189_0
     try clear hx189_1
     try clear hx191_0
     try clear hx192_0
     try clear hx192_1
     try clear p1
     try clear p189
     try clear p191
     try clear p192
     try clear p2
     try clear q1
     try clear q189
     try clear q191
     try clear q192
     obtain ⟨x57_2, rfl, HA, HK2, HB⟩ := hrel
     cases gk with
     | zero => exact absurd HA.out (by simp [spec_l10Nodes.l2])
     | succ k2 =>
      have H := HA.out
      clear HA
      simp only [spec_l10Nodes.l2] at H
      by_cases c24 : x57_2 < (l1.length : Int)
      ·rw [if_pos c24] at H
       have c24b0 : decide (x57_2 < (l1.length : Int)) = true := decide_eq_true c24
       clear c24
       by_cases c25 : 0 ≤ x57_2
       ·rw [if_pos c25] at H
        have c25b0 : decide (0 ≤ x57_2) = true := decide_eq_true c25
        clear c25
        by_cases c26 : x57_2 < (l1.length : Int)
        ·rw [if_pos c26] at H
         have c26b0 : decide (x57_2 < (l1.length : Int)) = true := decide_eq_true c26
         clear c26
         by_cases c27 : (rd l1 x57_2) < 0
         ·rw [if_pos c27] at H
          have c27b0 : decide ((rd l1 x57_2) < 0) = true := decide_eq_true c27
          clear c27
          obtain rfl := Option.some.inj H
          have p193 : 0 ≤ (x57_2 : Int) := of_decide_eq_true (by first | (with_reducible assumption) | assumption)
          have q193 : x57_2 < (l1.length : Int) := of_decide_eq_true (by first | (with_reducible assumption) | assumption)
          obtain ⟨ad193, e193, hx193_0⟩ := Kd.at_int HR1.out x57_2 p193 q193
          cases e193
          replace hx193_0 := (HB.out.cell (World.block_lt_of_cell? w _ hx193_0)).trans hx193_0
          replace p193 := eq_true p193
          replace q193 := eq_true q193
          go_wp2
          go_ret
          exact ⟨by first | rfl | (simp [errW_none, errW_some] <;> rfl) | (simp [*, errW_none, errW_some] <;> rfl), by repeat (first | (with_reducible first | exact HB.out | apply Op.a1 | apply Op.a2 | apply Op.a3) | exact HB.out)⟩
         ·rw [if_neg c27] at H
          have c27b0 : decide ((rd l1 x57_2) < 0) = false := decide_eq_false c27
          clear c27
          by_cases c28 : (rd l1 x57_2) ≥ (l0.length : Int)
          ·rw [if_pos c28] at H
           have c28b0 : decide ((l0.length : Int) ≤ (rd l1 x57_2)) = true := decide_eq_true c28
           clear c28
           obtain rfl := Option.some.inj H
           have p193 : 0 ≤ (x57_2 : Int) := of_decide_eq_true (by first | (with_reducible assumption) | assumption)
           have q193 : x57_2 < (l1.length : Int) := of_decide_eq_true (by first | (with_reducible assumption) | assumption)
           obtain ⟨ad193, e193, hx193_0⟩ := Kd.at_int HR1.out x57_2 p193 q193
           cases e193
           replace hx193_0 := (HB.out.cell (World.block_lt_of_cell? w _ hx193_0)).trans hx193_0
           replace p193 := eq_true p193
           replace q193 := eq_true q193
           go_wp2
           go_ret
           exact ⟨by first | rfl | (simp [errW_none, errW_some] <;> rfl) | (simp [*, errW_none, errW_some] <;> rfl), by repeat (first | (with_reducible first | exact HB.out | apply Op.a1 | apply Op.a2 | apply Op.a3) | exact HB.out)⟩
          ·rw [if_neg c28] at H
           have c28b0 : decide ((l0.length : Int) ≤ (rd l1 x57_2)) = false := decide_eq_false c28
           clear c28
           by_cases c29 : 0 ≤ (rd l1 x57_2)
           ·rw [if_pos c29] at H
            have c29b0 : decide (0 ≤ (rd l1 x57_2)) = true := decide_eq_true c29
            clear c29
            by_cases c30 : (rd l1 x57_2) < (l0.length : Int)
            ·rw [if_pos c30] at H
             have c30b0 : decide ((rd l1 x57_2) < (l0.length : Int)) = true := decide_eq_true c30
             clear c30
             obtain ⟨bq31, hbq31⟩ : ∃ b_ : Bool, b_ = ((rd_T60 l0 (rd l1 x57_2)).f1) := ⟨_, rfl⟩
             replace H : (if bq31 = true then (some false) else (spec_l10Nodes.l2 k2 l0 l1 l1 (l1.length : Int) (wrap64 (x57_2 + 1)))) = some r := by rw [← hbq31] at H; exact H
             have Nbq31 := Aside0.mk hbq31
             clear hbq31
             by_cases c32 : bq31 = true
             ·subst c32
              have H1 : (some false) = some r := by rw [if_pos rfl] at H; exact H
              clear H
              have H := H1
              clear H1
              obtain rfl := Option.some.inj H
              have p193 : 0 ≤ (x57_2 : Int) := of_decide_eq_true (by first | (with_reducible assumption) | assumption)
              have q193 : x57_2 < (l1.length : Int) := of_decide_eq_true (by first | (with_reducible assumption) | assumption)
              obtain ⟨ad193, e193, hx193_0⟩ := Kd.at_int HR1.out x57_2 p193 q193
              cases e193
              replace hx193_0 := (HB.out.cell (World.block_lt_of_cell? w _ hx193_0)).trans hx193_0
              replace p193 := eq_true p193
              replace q193 := eq_true q193
              have p194 : 0 ≤ ((rd l1 x57_2) : Int) := of_decide_eq_true (by first | (with_reducible assumption) | assumption)
              have q194 : (rd l1 x57_2) < (l0.length : Int) := of_decide_eq_true (by first | (with_reducible assumption) | assumption)
              obtain ⟨ad194, A194_0, c194_0, e194, hx194_0, hx194_1, hl194_0, hi194_0⟩ := at_T60 HR0.out (rd l1 x57_2) p194 q194
              (try rw [← Nbq31.out] at hx194_1)
              cases e194
              replace hx194_0 := (HB.out.cell (World.block_lt_of_cell? w _ hx194_0)).trans hx194_0
              replace hx194_1 := (HB.out.cell (World.block_lt_of_cell? w _ hx194_1)).trans hx194_1
              have HR194_0 := Aside0.mk hi194_0
              have HC194_0 := Aside0.mk hl194_0
              clear hi194_0 hl194_0
              replace p194 := eq_true p194
              replace q194 := eq_true q194
              go_wp2
              go_ret
              exact ⟨by first | rfl | (simp [errW_none, errW_some] <;> rfl) | (simp [*, errW_none, errW_some] <;> rfl), by repeat (first | (with_reducible first | exact HB.out | apply Op.a1 | apply Op.a2 | apply Op.a3) | exact HB.out)⟩
             ·replace c32 := Bool.eq_false_iff.mpr c32
              subst c32
              have H1 : (spec_l10Nodes.l2 k2 l0 l1 l1 (l1.length : Int) (wrap64 (x57_2 + 1))) = some r := by rw [if_neg (show ¬ (false = true) by decide)] at H; exact H
              clear H
              have H := H1
              clear H1
              have H' := Aside0.mk H
              clear H
              have p193 : 0 ≤ (x57_2 : Int) := of_decide_eq_true (by first | (with_reducible assumption) | assumption)
              have q193 : x57_2 < (l1.length : Int) := of_decide_eq_true (by first | (with_reducible assumption) | assumption)
              obtain ⟨ad193, e193, hx193_0⟩ := Kd.at_int HR1.out x57_2 p193 q193
              cases e193
              replace hx193_0 := (HB.out.cell (World.block_lt_of_cell? w _ hx193_0)).trans hx193_0
              replace p193 := eq_true p193
              replace q193 := eq_true q193
              have p194 : 0 ≤ ((rd l1 x57_2) : Int) := of_decide_eq_true (by first | (with_reducible assumption) | assumption)
              have q194 : (rd l1 x57_2) < (l0.length : Int) := of_decide_eq_true (by first | (with_reducible assumption) | assumption)
              obtain ⟨ad194, A194_0, c194_0, e194, hx194_0, hx194_1, hl194_0, hi194_0⟩ := at_T60 HR0.out (rd l1 x57_2) p194 q194
              (try rw [← Nbq31.out] at hx194_1)
              cases e194
              replace hx194_0 := (HB.out.cell (World.block_lt_of_cell? w _ hx194_0)).trans hx194_0
              replace hx194_1 := (HB.out.cell (World.block_lt_of_cell? w _ hx194_1)).trans hx194_1
              have HR194_0 := Aside0.mk hi194_0
              have HC194_0 := Aside0.mk hl194_0
              clear hi194_0 hl194_0
              replace p194 := eq_true p194
              replace q194 := eq_true q194
              go_wp2
              go_roundg k2
              case measure => have := HK1.out; have := HK2.out; omega
              case rel => exact ⟨(wrap64 (x57_2 + 1)), (by first | rfl | (simp; done) | (simp [*]; done)), H', ⟨by have := HK1.out; have := HK2.out; omega⟩, ⟨by repeat (first | (with_reducible first | exact HB.out | apply Op.a1 | apply Op.a2 | apply Op.a3) | exact HB.out)⟩⟩
            ·rw [if_neg c30] at H
             exact absurd H (by simp)
           ·rw [if_neg c29] at H
            exact absurd H (by simp)
        ·rw [if_neg c26] at H
         exact absurd H (by simp)
       ·rw [if_neg c25] at H
        exact absurd H (by simp)
      ·rw [if_neg c24] at H
       have c24b0 : decide (x57_2 < (l1.length : Int)) = false := decide_eq_false c24
       clear c24
       by_cases c33 : (l0.length : Int) ≤ 14
       ·rw [if_pos c33] at H
        have c33b0 : decide ((l0.length : Int) ≤ 14) = true := decide_eq_true c33
        have c33b1 : decide (l0.length ≤ 14) = true := decide_eq_true (by omega)
        clear c33
        obtain rfl := Option.some.inj H
        go_wp2
        go_ret
        exact ⟨by first | rfl | (simp [errW_none, errW_some] <;> rfl) | (simp [*, errW_none, errW_some] <;> rfl), by repeat (first | (with_reducible first | exact HB.out | apply Op.a1 | apply Op.a2 | apply Op.a3) | exact HB.out)⟩
       ·rw [if_neg c33] at H
        have c33b0 : decide ((l0.length : Int) ≤ 14) = false := decide_eq_false c33
        have c33b1 : decide (l0.length ≤ 14) = false := decide_eq_false (by omega)
        clear c33
        obtain rfl := Option.some.inj H
        go_wp2
        go_ret
        exact ⟨by first | rfl | (simp [errW_none, errW_some] <;> rfl) | (simp [*, errW_none, errW_some] <;> rfl), by repeat (first | (with_reducible first | exact HB.out | apply Op.a1 | apply Op.a2 | apply Op.a3) | exact HB.out)⟩

end Go.Proofs.Ytdhclelfnbjikaa.PFnExactLinkNode
