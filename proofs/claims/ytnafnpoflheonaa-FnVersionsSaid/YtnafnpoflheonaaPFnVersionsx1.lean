/- Contracts of functions of the translation, written by a program of this repo (a changed copy of the printer). Not trusted: Lean checks it. -/
-- squeezed
-- compact
import Derived.Test.YtnafnpoflheonaaCc
import Derived.Test.YtnafnpoflheonaaPFnVersionsx0
namespace Go.Proofs.Ytnafnpoflheonaa.PFnVersions
open Go.RowKit Go.Proofs.YtnafnpoflheonaaW.PrintWords Go.Proofs.YtnafnpoflheonaaW.PrintLast Go.Proofs.YtnafnpoflheonaaW.PrintMore
attribute [local go_sem] max2_int min2_int max_two min_two max_three min_three max_four min_four   -- for this text's walks alone
set_option linter.unusedVariables false
set_option linter.unusedSimpArgs false

/-! ### spec_l1In: function 50 -/
def spec_l1In.f (a0 : Int) (a1 : Int) (a2 : Int) : Option (Bool) := if a0 ≥ a1 then (some (decide (a0 ≤ a2))) else (some false)
set_option maxHeartbeats 8000000 in
set_option maxRecDepth 100000 in
theorem spec_l1In.calls (a0 : Int) (a1 : Int) (a2 : Int) (r : Bool) (w : World) (h : spec_l1In.f a0 a1 a2 = some r) :
  Calls Try.prog 50 #[.int .i64 a0, .int .i64 a1, .int .i64 a2] w fun e w' => e = .returned (.bool r) ∧ Drawn0 w w' := by
 have H : (if a0 ≥ a1 then (some (decide (a0 ≤ a2))) else (some false)) = some r := h
 clear h
 by_cases c4 : a0 ≥ a1
 ·rw [if_pos c4] at H
  have c4b0 : decide (a1 ≤ a0) = true := decide_eq_true c4
  clear c4
  obtain rfl := Option.some.inj H
  go_enter Try.func50, Try.ntmps50
  go_wp2
  go_ret
  exact ⟨by first | rfl | (simp; done) | (simp [*]; done), by repeat (first | exact Drawn0.refl _ | apply Drawn0.step)⟩
 ·rw [if_neg c4] at H
  have c4b0 : decide (a1 ≤ a0) = false := decide_eq_false c4
  clear c4
  obtain rfl := Option.some.inj H
  go_enter Try.func50, Try.ntmps50
  go_wp2
  go_ret
  exact ⟨by first | rfl | (simp; done) | (simp [*]; done), by repeat (first | exact Drawn0.refl _ | apply Drawn0.step)⟩

/-! ### spec_GoodPool: function 19 -/
mutual
def spec_GoodPool.l0 : Nat → List (S65) → Int → Int → List (S65) → List Int → Option (Bool)
 | 0, _, _, _, _, _ => none
 | k + 1, x10, x11, x12, x121000, x121001 => if x12 < x11 then (if 0 ≤ x12 then (if x12 < (x10.length : Int) then (spec_GoodPool.l1 k x12 x10 x11 x12 ((rd_T65 x10 x12).f0) (((rd_T65 x10 x12).f0).length : Int) 0 x121000 x121001 ((rd_T65 x10 x12).f0) ((rd_T65 x10 x12).f1)) else (none)) else (none)) else (spec_GoodPool.l2 k x121001 (x121001.length : Int) 0 x121000 x121001)
def spec_GoodPool.l1 : Nat → Int → List (S65) → Int → Int → List Int → Int → Int → List (S65) → List Int → List Int → Bool → Option (Bool)
 | 0, _, _, _, _, _, _, _, _, _, _, _ => none
 | k + 1, x3, x10, x11, x12, x18, x19, x20, x121000, x121001, x123000, x123001 => if x20 < x19 then (if 0 ≤ x20 then (if x20 < (x18.length : Int) then (if x123001 = true then ((spec_l1In.f (rd x18 x20) 0 9999).bind fun t124 => (if t124 = true then (spec_GoodPool.l1 k x3 x10 x11 x12 x18 x19 (wrap64 (x20 + 1)) x121000 x121001 x123000 x123001) else (some false))) else (if (rd x18 x20) = (-1) then (spec_GoodPool.l1 k x3 x10 x11 x12 x18 x19 (wrap64 (x20 + 1)) x121000 x121001 x123000 x123001) else (if (rd x18 x20) < 0 then (some false) else (if (rd x18 x20) ≥ x3 then (some false) else (if 0 ≤ (rd x18 x20) then (if (rd x18 x20) < (x121000.length : Int) then (if ((rd_T65 x121000 (rd x18 x20)).f1 = true) then (spec_GoodPool.l1 k x3 x10 x11 x12 x18 x19 (wrap64 (x20 + 1)) x121000 x121001 x123000 x123001) else (some false)) else (none)) else (none)))))) else (none)) else (none)) else (if (x123000.length : Int) = 4 then (spec_GoodPool.l0 k x10 x11 (wrap64 (x12 + 1)) x121000 x121001) else (some false))
def spec_GoodPool.l2 : Nat → List Int → Int → Int → List (S65) → List Int → Option (Bool)
 | 0, _, _, _, _, _ => none
 | k + 1, x65, x66, x67, x121000, x121001 => if x67 < x66 then (if 0 ≤ x67 then (if x67 < (x65.length : Int) then (if (rd x65 x67) = (-1) then (spec_GoodPool.l2 k x65 x66 (wrap64 (x67 + 1)) x121000 x121001) else (if (rd x65 x67) < 0 then (some false) else (if (rd x65 x67) ≥ (x121000.length : Int) then (some false) else (if 0 ≤ (rd x65 x67) then (if (rd x65 x67) < (x121000.length : Int) then (if (rd_T65 x121000 (rd x65 x67)).f1 = true then (some false) else (spec_GoodPool.l2 k x65 x66 (wrap64 (x67 + 1)) x121000 x121001)) else (none)) else (none))))) else (none)) else (none)) else (if (x121000.length : Int) ≤ 200 then (some (decide ((x121001.length : Int) ≤ 40))) else (some false))
end
def spec_GoodPool.f (k : Nat) (l0_0 : List (S65)) (l0_1 : List Int) : Option (Bool) := spec_GoodPool.l0 k l0_0 (l0_0.length : Int) 0 l0_0 l0_1
theorem spec_GoodPool.mono_l : ∀ k, (∀ y0 y1 y2 y3 y4, LeO (spec_GoodPool.l0 k y0 y1 y2 y3 y4) (spec_GoodPool.l0 (k + 1) y0 y1 y2 y3 y4)) ∧ (∀ y0 y1 y2 y3 y4 y5 y6 y7 y8 y9 y10, LeO (spec_GoodPool.l1 k y0 y1 y2 y3 y4 y5 y6 y7 y8 y9 y10) (spec_GoodPool.l1 (k + 1) y0 y1 y2 y3 y4 y5 y6 y7 y8 y9 y10)) ∧ (∀ y0 y1 y2 y3 y4, LeO (spec_GoodPool.l2 k y0 y1 y2 y3 y4) (spec_GoodPool.l2 (k + 1) y0 y1 y2 y3 y4))
 | 0 => ⟨fun _ _ _ _ _ r h => by simp [spec_GoodPool.l0] at h, fun _ _ _ _ _ _ _ _ _ _ _ r h => by simp [spec_GoodPool.l1] at h, fun _ _ _ _ _ r h => by simp [spec_GoodPool.l2] at h⟩
 | k + 1 => by
  obtain ⟨ih0, ih1, ih2⟩ := spec_GoodPool.mono_l k
  refine ⟨?_, ?_, ?_⟩
  ·intro y0 y1 y2 y3 y4
   unfold spec_GoodPool.l0
   repeat' first
   | (with_reducible exact ih0 _ _ _ _ _)
   | (with_reducible exact ih1 _ _ _ _ _ _ _ _ _ _ _)
   | (with_reducible exact ih2 _ _ _ _ _)
   | (with_reducible exact LeO.refl _)
   | (with_reducible exact LeO.none _)
   | (with_reducible refine LeO.ite ?_ ?_)
   | (with_reducible refine LeO.bind ?_ (fun _ => ?_))
   | exact ih0 _ _ _ _ _
   | exact ih1 _ _ _ _ _ _ _ _ _ _ _
   | exact ih2 _ _ _ _ _
   | exact LeO.none _
   | refine LeO.ite ?_ ?_
   | refine LeO.bind ?_ (fun _ => ?_)
  ·intro y0 y1 y2 y3 y4 y5 y6 y7 y8 y9 y10
   unfold spec_GoodPool.l1
   repeat' first
   | (with_reducible exact ih0 _ _ _ _ _)
   | (with_reducible exact ih1 _ _ _ _ _ _ _ _ _ _ _)
   | (with_reducible exact ih2 _ _ _ _ _)
   | (with_reducible exact LeO.refl _)
   | (with_reducible exact LeO.none _)
   | (with_reducible refine LeO.ite ?_ ?_)
   | (with_reducible refine LeO.bind ?_ (fun _ => ?_))
   | exact ih0 _ _ _ _ _
   | exact ih1 _ _ _ _ _ _ _ _ _ _ _
   | exact ih2 _ _ _ _ _
   | exact LeO.none _
   | refine LeO.ite ?_ ?_
   | refine LeO.bind ?_ (fun _ => ?_)
  ·intro y0 y1 y2 y3 y4
   unfold spec_GoodPool.l2
   repeat' first
   | (with_reducible exact ih0 _ _ _ _ _)
   | (with_reducible exact ih1 _ _ _ _ _ _ _ _ _ _ _)
   | (with_reducible exact ih2 _ _ _ _ _)
   | (with_reducible exact LeO.refl _)
   | (with_reducible exact LeO.none _)
   | (with_reducible refine LeO.ite ?_ ?_)
   | (with_reducible refine LeO.bind ?_ (fun _ => ?_))
   | exact ih0 _ _ _ _ _
   | exact ih1 _ _ _ _ _ _ _ _ _ _ _
   | exact ih2 _ _ _ _ _
   | exact LeO.none _
   | refine LeO.ite ?_ ?_
   | refine LeO.bind ?_ (fun _ => ?_)
theorem spec_GoodPool.mono : ∀ a0 a1 k, LeO (spec_GoodPool.f k a0 a1) (spec_GoodPool.f (k + 1) a0 a1) := by
 intro a0 a1 k
 obtain ⟨ih0, ih1, ih2⟩ := spec_GoodPool.mono_l k
 unfold spec_GoodPool.f
 repeat' first
   | (with_reducible exact ih0 _ _ _ _ _)
   | (with_reducible exact ih1 _ _ _ _ _ _ _ _ _ _ _)
   | (with_reducible exact ih2 _ _ _ _ _)
   | (with_reducible exact LeO.refl _)
   | (with_reducible exact LeO.none _)
   | (with_reducible refine LeO.ite ?_ ?_)
   | (with_reducible refine LeO.bind ?_ (fun _ => ?_))
   | exact ih0 _ _ _ _ _
   | exact ih1 _ _ _ _ _ _ _ _ _ _ _
   | exact ih2 _ _ _ _ _
   | exact LeO.none _
   | refine LeO.ite ?_ ?_
   | refine LeO.bind ?_ (fun _ => ?_)
set_option maxHeartbeats 8000000 in
set_option maxRecDepth 100000 in
theorem spec_GoodPool.calls (k : Nat) (A0_0 : Option Addr) (c0_0 : Nat) (l0_0 : List (S65)) (A0_1 : Option Addr) (c0_1 : Nat) (l0_1 : List Int) (r : Bool) (w : World) (hr0_0 : Kd.C k65 w A0_0 l0_0.length l0_0) (hc0_0 : l0_0.length ≤ c0_0) (hr0_1 : Kd.C (Kd.int .i64) w A0_1 l0_1.length l0_1) (hc0_1 : l0_1.length ≤ c0_1) (h : spec_GoodPool.f k l0_0 l0_1 = some r) :
  Calls Try.prog 19 #[.agg #[.slice A0_0 l0_0.length c0_0, .slice A0_1 l0_1.length c0_1]] w fun e w' => e = .returned (.bool r) ∧ Below w.heap.size w w' := by
 have hu25 := Try.underlying25
 have hu65 := Try.underlying65
 have HR0_0 := Op.k hr0_0
 have HC0_0 := Op.k hc0_0
 clear hr0_0 hc0_0
 have HR0_1 := Op.k hr0_1
 have HC0_1 := Op.k hc0_1
 clear hr0_1 hc0_1
 have HB := Op.k (Below.refl w.heap.size w)
 have H : (spec_GoodPool.l0 k l0_0 (l0_0.length : Int) 0 l0_0 l0_1) = some r := h
 clear h
 have H' := Op.k H
 clear H
 go_enter Try.func19, Try.ntmps19
 go_wp2_with (first | ((with_reducible refine gate_dst (N := 1) rfl ?_); (try (refine gate_guard (by rfl) ?_; dsimp only)); refine box_event ?hg (N := 1) ?hd (cs := #[.slice A0_0 l0_0.length c0_0, .slice A0_1 l0_1.length c0_1]) (t := 25) ?hr ?_; (case hd => rfl); (case hg => rfl); (case hr => first | (go_simp; done) | (go_simp; rfl)); intro gb120 hg w2 hbox hb; have BK120 := Op.k (hbox); have GW120 := Op.k ((Op.nz hg (Op.ht HB.out) : w.heap.size ≤ gb120)); have GE120 := Op.k ((Op.nz hg (Op.ht HB.out) : w.heap.size ≤ gb120)); replace HB := Op.k (Op.a5 (Op.ht HB.out) hb); clear hb hbox hg; have hcz3_0 := Op.c0 BK120.out; have hcz3_1 := Op.c1 BK120.out; have hfz3_0 := Op.bf BK120.out 0; have hfz3_1 := Op.bf BK120.out 1))
 go_loopg [12] k (fun kq v12 w' => ∃ (x12_1 : Int), v12 = .int .i64 x12_1 ∧ Aside0 (spec_GoodPool.l0 kq l0_0 (l0_0.length : Int) x12_1 l0_0 l0_1 = some r) ∧ Aside0 (kq ≤ k) ∧ Aside0 (w'.heap[gb120]? = some (.cells #[(.slice A0_0 l0_0.length c0_0), (.slice A0_1 l0_1.length c0_1)] 25 (0, 0))) ∧ Aside0 (Below w.heap.size w w'))
 case atStart => exact ⟨(0), (by first | rfl | (simp; done) | (simp [*]; done)), H', ⟨Nat.le_refl _⟩, ⟨Op.bt BK120.out⟩, ⟨Op.ht HB.out⟩⟩
 case round =>
  clear H'
  try clear c1
  try clear p2
  try clear hcz3_0
  try clear hcz3_1
  try clear hfz3_0
  try clear hfz3_1
  obtain ⟨x12_1, rfl, HA, HK1, BK120, HB⟩ := hrel
  cases gk with
  | zero => exact absurd HA.out (by simp [spec_GoodPool.l0])
  | succ k1 =>
   have H := HA.out
   clear HA
   simp only [spec_GoodPool.l0] at H
   by_cases c4 : x12_1 < (l0_0.length : Int)
   ·rw [if_pos c4] at H
    have c4b0 : decide (x12_1 < (l0_0.length : Int)) = true := decide_eq_true c4
    clear c4
    by_cases c5 : 0 ≤ x12_1
    ·rw [if_pos c5] at H
     have c5b0 : decide (0 ≤ x12_1) = true := decide_eq_true c5
     clear c5
     by_cases c6 : x12_1 < (l0_0.length : Int)
     ·rw [if_pos c6] at H
      have c6b0 : decide (x12_1 < (l0_0.length : Int)) = true := decide_eq_true c6
      clear c6
      have H' := Op.k H
      clear H
      have p121 : 0 ≤ (x12_1 : Int) := Op.dt
      have q121 : x12_1 < (l0_0.length : Int) := Op.dt
      obtain ⟨ad121, A121_0, c121_0, e121, hx121_0, hx121_1, hl121_0, hi121_0⟩ := at_T65 HR0_0.out x12_1 p121 q121
      cases e121
      replace hx121_0 := (HB.out.cell (World.block_lt_of_cell? w _ hx121_0)).trans hx121_0
      replace hx121_1 := (HB.out.cell (World.block_lt_of_cell? w _ hx121_1)).trans hx121_1
      have HR121_0 := Op.k hi121_0
      have HC121_0 := Op.k hl121_0
      clear hi121_0 hl121_0
      replace p121 := eq_true p121
      replace q121 := eq_true q121
      go_wp2_with (first | ((with_reducible refine gate_dst (N := 4) rfl ?_); (try (refine gate_guard (by rfl) ?_; dsimp only)); refine box_event ?hg (N := 4) ?hd (cs := #[.slice none 0 0, .bool false]) (t := 65) ?hr ?_; (case hd => rfl); (case hg => rfl); (case hr => first | (go_simp; done) | (go_simp; rfl)); intro gb122 hg w7 hbox hb; have BK122 := Op.k (hbox); have GW122 := Op.k ((Op.nz hg (Op.ht HB.out) : w.heap.size ≤ gb122)); have GE122 := Op.k ((Op.nz hg (Op.ht HB.out) : w.heap.size ≤ gb122)); replace HB := Op.k (Op.a5 (Op.ht HB.out) hb); have NB120_122 := Op.k ((by rw [hg]; exact Nat.ne_of_lt (blk_lt (Op.bt BK120.out)) : gb120 ≠ gb122)); have NB122_120 := Op.k ((by rw [hg]; exact Nat.ne_of_gt (blk_lt (Op.bt BK120.out)) : gb122 ≠ gb120)); replace BK120 := Op.k (Op.b4 (Op.bt BK120.out) hb); clear hb hbox hg; have hnb8 := NB122_120.out; have hnc8 := NB120_122.out; have hcz9_0 := Op.c0 BK122.out; have hcz9_1 := Op.c1 BK122.out; have hfz9_0 := Op.bf BK122.out 0; have hfz9_1 := Op.bf BK122.out 1))
      generalize (rd_T65 l0_0 x12_1).f1 = bx at *
      go_loopg [20] k1 (fun kq v20 w' => ∃ (x20_2 : Int), v20 = .int .i64 x20_2 ∧ Aside0 (spec_GoodPool.l1 kq x12_1 l0_0 (l0_0.length : Int) x12_1 ((rd_T65 l0_0 x12_1).f0) (((rd_T65 l0_0 x12_1).f0).length : Int) x20_2 l0_0 l0_1 ((rd_T65 l0_0 x12_1).f0) bx = some r) ∧ Aside0 (kq ≤ k1) ∧ Aside0 (w'.heap[gb120]? = some (.cells #[(.slice (some ad121) l0_0.length c0_0), (.slice A0_1 l0_1.length c0_1)] 25 (0, 0))) ∧ Aside0 (w'.heap[gb122]? = some (.cells #[(.slice A121_0 ((rd_T65 l0_0 x12_1).f0).length c121_0), .bool bx] 65 (0, 0))) ∧ Aside0 (Below w.heap.size w w'))
      case atStart => exact ⟨(0), (by first | rfl | (simp; done) | (simp [*]; done)), H', ⟨Nat.le_refl _⟩, ⟨Op.bt BK120.out⟩, ⟨Op.bv BK122.out⟩, ⟨Op.ht HB.out⟩⟩
      case round =>
       clear H'
       try clear c1
       try clear p1
       try clear q1
       try clear hx1
       try clear p2
       try clear c4
       try clear c4b0
       try clear c5
       try clear c5b0
       try clear c6
       try clear c6b0
       try clear c8
       try clear hcz3_0
       try clear hcz3_1
       try clear hcz9_0
       try clear hcz9_1
       try clear hfz3_0
       try clear hfz3_1
       try clear hfz9_0
       try clear hfz9_1
       try clear hx121_0
       try clear hx121_1
       try clear p121
       try clear p2
       try clear q121
       obtain ⟨x20_2, rfl, HA, HK2, BK120, BK122, HB⟩ := hrel
       cases gk with
       | zero => exact absurd HA.out (by simp [spec_GoodPool.l1])
       | succ k2 =>
        have H := HA.out
        clear HA
        simp only [spec_GoodPool.l1] at H
        by_cases c10 : x20_2 < (((rd_T65 l0_0 x12_1).f0).length : Int)
        ·rw [if_pos c10] at H
         have c10b0 : decide (x20_2 < (((rd_T65 l0_0 x12_1).f0).length : Int)) = true := decide_eq_true c10
         clear c10
         by_cases c11 : 0 ≤ x20_2
         ·rw [if_pos c11] at H
          have c11b0 : decide (0 ≤ x20_2) = true := decide_eq_true c11
          clear c11
          by_cases c12 : x20_2 < (((rd_T65 l0_0 x12_1).f0).length : Int)
          ·rw [if_pos c12] at H
           have c12b0 : decide (x20_2 < (((rd_T65 l0_0 x12_1).f0).length : Int)) = true := decide_eq_true c12
           clear c12
           by_cases c13 : bx = true
           ·rw [if_pos c13] at H
            subst c13
            replace H := Option.bind_eq_some_iff.mp H
            obtain ⟨t124, A140, H⟩ := H
            try dsimp only at H
            have A14 := Op.k A140
            clear A140
            by_cases c15 : t124 = true
            ·subst c15
             have H1 : (spec_GoodPool.l1 k2 x12_1 l0_0 (l0_0.length : Int) x12_1 ((rd_T65 l0_0 x12_1).f0) (((rd_T65 l0_0 x12_1).f0).length : Int) (wrap64 (x20_2 + 1)) l0_0 l0_1 ((rd_T65 l0_0 x12_1).f0) true) = some r := by rw [if_pos rfl] at H; exact H
             clear H
             have H := H1
             clear H1
             have H' := Op.k H
             clear H
             have p123 : 0 ≤ (x20_2 : Int) := Op.dt
             have q123 : x20_2 < (((rd_T65 l0_0 x12_1).f0).length : Int) := Op.dt
             obtain ⟨ad123, e123, hx123_0⟩ := Kd.at_int HR121_0.out x20_2 p123 q123
             cases e123
             replace hx123_0 := (HB.out.cell (World.block_lt_of_cell? w _ hx123_0)).trans hx123_0
             replace p123 := eq_true p123
             replace q123 := eq_true q123
             have hnb16 := NB122_120.out
             have hnc16 := NB120_122.out
             have hcz17_0 : wr.cell? ⟨gb122, 0, none⟩ = some (.slice (some ad123) ((rd_T65 l0_0 x12_1).f0).length c121_0) := (blk_cell BK122.out 0).trans rfl
             have hcz17_1 := Op.c1 BK122.out
             have hfz17_0 := Op.bf BK122.out 0
             have hfz17_1 := Op.bf BK122.out 1
             go_wp2_with (first | (go_at_call 50; (with_reducible refine (spec_l1In.calls (rd ((rd_T65 l0_0 x12_1).f0) x20_2) 0 9999 true _ A14.out).mono ?_); rintro e w' ⟨rfl, ⟨nd, rfl⟩⟩))
             go_roundg k2
             case measure => have := HK1.out; have := HK2.out; omega
             case rel => exact ⟨(wrap64 (x20_2 + 1)), (by first | rfl | (simp; done) | (simp [*]; done)), H', ⟨by have := HK1.out; have := HK2.out; omega⟩, ⟨Op.bt BK120.out⟩, ⟨Op.bt BK122.out⟩, ⟨Op.ht HB.out⟩⟩
            ·replace c15 := Bool.eq_false_iff.mpr c15
             subst c15
             have H1 : (some false) = some r := by rw [if_neg (show ¬ (false = true) by decide)] at H; exact H
             clear H
             have H := H1
             clear H1
             obtain rfl := Option.some.inj H
             have p123 : 0 ≤ (x20_2 : Int) := Op.dt
             have q123 : x20_2 < (((rd_T65 l0_0 x12_1).f0).length : Int) := Op.dt
             obtain ⟨ad123, e123, hx123_0⟩ := Kd.at_int HR121_0.out x20_2 p123 q123
             cases e123
             replace hx123_0 := (HB.out.cell (World.block_lt_of_cell? w _ hx123_0)).trans hx123_0
             replace p123 := eq_true p123
             replace q123 := eq_true q123
             have hnb18 := NB122_120.out
             have hnc18 := NB120_122.out
             have hcz19_0 : wr.cell? ⟨gb122, 0, none⟩ = some (.slice (some ad123) ((rd_T65 l0_0 x12_1).f0).length c121_0) := (blk_cell BK122.out 0).trans rfl
             have hcz19_1 := Op.c1 BK122.out
             have hfz19_0 := Op.bf BK122.out 0
             have hfz19_1 := Op.bf BK122.out 1
             go_wp2_with (first | (go_at_call 50; (with_reducible refine (spec_l1In.calls (rd ((rd_T65 l0_0 x12_1).f0) x20_2) 0 9999 false _ A14.out).mono ?_); rintro e w' ⟨rfl, ⟨nd, rfl⟩⟩))
             go_ret
             exact ⟨by first | rfl | (simp [errW_none, errW_some] <;> rfl) | (simp [*, errW_none, errW_some] <;> rfl), Op.ht HB.out⟩
           ·rw [if_neg c13] at H
            obtain rfl : bx = false := by simpa using c13
            by_cases c20 : (rd ((rd_T65 l0_0 x12_1).f0) x20_2) = (-1)
            ·rw [if_pos c20] at H
             have c20b0 : ((rd ((rd_T65 l0_0 x12_1).f0) x20_2) == (-1)) = true := beq_iff_eq.mpr c20
             have c20b1 : ((rd ((rd_T65 l0_0 x12_1).f0) x20_2) != (-1)) = false := bne_eq_false_iff_eq.mpr c20
             clear c20
             have H' := Op.k H
             clear H
             have p123 : 0 ≤ (x20_2 : Int) := Op.dt
             have q123 : x20_2 < (((rd_T65 l0_0 x12_1).f0).length : Int) := Op.dt
             obtain ⟨ad123, e123, hx123_0⟩ := Kd.at_int HR121_0.out x20_2 p123 q123
             cases e123
             replace hx123_0 := (HB.out.cell (World.block_lt_of_cell? w _ hx123_0)).trans hx123_0
             replace p123 := eq_true p123
             replace q123 := eq_true q123
             have hnb21 := NB122_120.out
             have hnc21 := NB120_122.out
             have hcz22_0 : wr.cell? ⟨gb122, 0, none⟩ = some (.slice (some ad123) ((rd_T65 l0_0 x12_1).f0).length c121_0) := (blk_cell BK122.out 0).trans rfl
             have hcz22_1 := Op.c1 BK122.out
             have hfz22_0 := Op.bf BK122.out 0
             have hfz22_1 := Op.bf BK122.out 1
             go_wp2
             go_roundg k2
             case measure => have := HK1.out; have := HK2.out; omega
             case rel => exact ⟨(wrap64 (x20_2 + 1)), (by first | rfl | (simp; done) | (simp [*]; done)), H', ⟨by have := HK1.out; have := HK2.out; omega⟩, ⟨Op.bt BK120.out⟩, ⟨Op.bt BK122.out⟩, ⟨Op.ht HB.out⟩⟩
            ·rw [if_neg c20] at H
             have c20b0 : ((rd ((rd_T65 l0_0 x12_1).f0) x20_2) == (-1)) = false := beq_eq_false_iff_ne.mpr c20
             have c20b1 : ((rd ((rd_T65 l0_0 x12_1).f0) x20_2) != (-1)) = true := bne_iff_ne.mpr c20
             by_cases c23 : (rd ((rd_T65 l0_0 x12_1).f0) x20_2) < 0
             ·rw [if_pos c23] at H
              have c23b0 : decide ((rd ((rd_T65 l0_0 x12_1).f0) x20_2) < 0) = true := decide_eq_true c23
              clear c23
              obtain rfl := Option.some.inj H
              have p123 : 0 ≤ (x20_2 : Int) := Op.dt
              have q123 : x20_2 < (((rd_T65 l0_0 x12_1).f0).length : Int) := Op.dt
              obtain ⟨ad123, e123, hx123_0⟩ := Kd.at_int HR121_0.out x20_2 p123 q123
              cases e123
              replace hx123_0 := (HB.out.cell (World.block_lt_of_cell? w _ hx123_0)).trans hx123_0
              replace p123 := eq_true p123
              replace q123 := eq_true q123
              have hnb24 := NB122_120.out
              have hnc24 := NB120_122.out
              have hcz25_0 : wr.cell? ⟨gb122, 0, none⟩ = some (.slice (some ad123) ((rd_T65 l0_0 x12_1).f0).length c121_0) := (blk_cell BK122.out 0).trans rfl
              have hcz25_1 := Op.c1 BK122.out
              have hfz25_0 := Op.bf BK122.out 0
              have hfz25_1 := Op.bf BK122.out 1
              go_wp2
              go_ret
              exact ⟨by first | rfl | (simp [errW_none, errW_some] <;> rfl) | (simp [*, errW_none, errW_some] <;> rfl), Op.ht HB.out⟩
             ·rw [if_neg c23] at H
              have c23b0 : decide ((rd ((rd_T65 l0_0 x12_1).f0) x20_2) < 0) = false := decide_eq_false c23
              clear c23
              by_cases c26 : (rd ((rd_T65 l0_0 x12_1).f0) x20_2) ≥ x12_1
              ·rw [if_pos c26] at H
               have c26b0 : decide (x12_1 ≤ (rd ((rd_T65 l0_0 x12_1).f0) x20_2)) = true := decide_eq_true c26
               clear c26
               obtain rfl := Option.some.inj H
               have p123 : 0 ≤ (x20_2 : Int) := Op.dt
               have q123 : x20_2 < (((rd_T65 l0_0 x12_1).f0).length : Int) := Op.dt
               obtain ⟨ad123, e123, hx123_0⟩ := Kd.at_int HR121_0.out x20_2 p123 q123
               cases e123
               replace hx123_0 := (HB.out.cell (World.block_lt_of_cell? w _ hx123_0)).trans hx123_0
               replace p123 := eq_true p123
               replace q123 := eq_true q123
               have hnb27 := NB122_120.out
               have hnc27 := NB120_122.out
               have hcz28_0 : wr.cell? ⟨gb122, 0, none⟩ = some (.slice (some ad123) ((rd_T65 l0_0 x12_1).f0).length c121_0) := (blk_cell BK122.out 0).trans rfl
               have hcz28_1 := Op.c1 BK122.out
               have hfz28_0 := Op.bf BK122.out 0
               have hfz28_1 := Op.bf BK122.out 1
               go_wp2
               go_ret
               exact ⟨by first | rfl | (simp [errW_none, errW_some] <;> rfl) | (simp [*, errW_none, errW_some] <;> rfl), Op.ht HB.out⟩
              ·rw [if_neg c26] at H
               have c26b0 : decide (x12_1 ≤ (rd ((rd_T65 l0_0 x12_1).f0) x20_2)) = false := decide_eq_false c26
               clear c26
               by_cases c29 : 0 ≤ (rd ((rd_T65 l0_0 x12_1).f0) x20_2)
               ·rw [if_pos c29] at H
                have c29b0 : decide (0 ≤ (rd ((rd_T65 l0_0 x12_1).f0) x20_2)) = true := decide_eq_true c29
                clear c29
                by_cases c30 : (rd ((rd_T65 l0_0 x12_1).f0) x20_2) < (l0_0.length : Int)
                ·rw [if_pos c30] at H
                 have c30b0 : decide ((rd ((rd_T65 l0_0 x12_1).f0) x20_2) < (l0_0.length : Int)) = true := decide_eq_true c30
                 clear c30
                 obtain ⟨bq31, hbq31⟩ : ∃ b_ : Bool, b_ = ((rd_T65 l0_0 (rd ((rd_T65 l0_0 x12_1).f0) x20_2)).f1) := ⟨_, rfl⟩
                 replace H : (if (bq31 = true) then (spec_GoodPool.l1 k2 x12_1 l0_0 (l0_0.length : Int) x12_1 ((rd_T65 l0_0 x12_1).f0) (((rd_T65 l0_0 x12_1).f0).length : Int) (wrap64 (x20_2 + 1)) l0_0 l0_1 ((rd_T65 l0_0 x12_1).f0) false) else (some false)) = some r := by rw [← hbq31] at H; exact H
                 have Nbq31 := Op.k hbq31
                 clear hbq31
                 by_cases c32 : (bq31 = true)
                 ·subst c32
                  have H1 : (spec_GoodPool.l1 k2 x12_1 l0_0 (l0_0.length : Int) x12_1 ((rd_T65 l0_0 x12_1).f0) (((rd_T65 l0_0 x12_1).f0).length : Int) (wrap64 (x20_2 + 1)) l0_0 l0_1 ((rd_T65 l0_0 x12_1).f0) false) = some r := by rw [if_pos rfl] at H; exact H
                  clear H
                  have H := H1
                  clear H1
                  have H' := Op.k H
                  clear H
                  have p123 : 0 ≤ (x20_2 : Int) := Op.dt
                  have q123 : x20_2 < (((rd_T65 l0_0 x12_1).f0).length : Int) := Op.dt
                  obtain ⟨ad123, e123, hx123_0⟩ := Kd.at_int HR121_0.out x20_2 p123 q123
                  cases e123
                  replace hx123_0 := (HB.out.cell (World.block_lt_of_cell? w _ hx123_0)).trans hx123_0
                  replace p123 := eq_true p123
                  replace q123 := eq_true q123
                  have hnb33 := NB122_120.out
                  have hnc33 := NB120_122.out
                  have hcz34_0 : wr.cell? ⟨gb122, 0, none⟩ = some (.slice (some ad123) ((rd_T65 l0_0 x12_1).f0).length c121_0) := (blk_cell BK122.out 0).trans rfl
                  have hcz34_1 := Op.c1 BK122.out
                  have hfz34_0 := Op.bf BK122.out 0
                  have hfz34_1 := Op.bf BK122.out 1
                  have hcz35_0 := Op.c0 BK120.out
                  have hcz35_1 := Op.c1 BK120.out
                  have hfz35_0 := Op.bf BK120.out 0
                  have hfz35_1 := Op.bf BK120.out 1
                  have p125 : 0 ≤ ((rd ((rd_T65 l0_0 x12_1).f0) x20_2) : Int) := Op.dt
                  have q125 : (rd ((rd_T65 l0_0 x12_1).f0) x20_2) < (l0_0.length : Int) := Op.dt
                  obtain ⟨ad125, A125_0, c125_0, e125, hx125_0, hx125_1, hl125_0, hi125_0⟩ := at_T65 HR0_0.out (rd ((rd_T65 l0_0 x12_1).f0) x20_2) p125 q125
                  (try rw [← Nbq31.out] at hx125_1)
                  obtain rfl : ad121 = ad125 := (by injection e125)
                  replace hx125_0 := (HB.out.cell (World.block_lt_of_cell? w _ hx125_0)).trans hx125_0
                  replace hx125_1 := (HB.out.cell (World.block_lt_of_cell? w _ hx125_1)).trans hx125_1
                  have HR125_0 := Op.k hi125_0
                  have HC125_0 := Op.k hl125_0
                  clear hi125_0 hl125_0
                  replace p125 := eq_true p125
                  replace q125 := eq_true q125
                  go_wp2
                  go_roundg k2
                  case measure => have := HK1.out; have := HK2.out; omega
                  case rel => (try rw [← Nbq31.out]); exact ⟨(wrap64 (x20_2 + 1)), (by first | rfl | (simp; done) | (simp [*]; done)), H', ⟨by have := HK1.out; have := HK2.out; omega⟩, ⟨Op.bt BK120.out⟩, ⟨Op.bt BK122.out⟩, ⟨Op.ht HB.out⟩⟩
                 ·replace c32 := Bool.eq_false_iff.mpr c32
                  subst c32
                  have H1 : (some false) = some r := by rw [if_neg (show ¬ (false = true) by decide)] at H; exact H
                  clear H
                  have H := H1
                  clear H1
                  obtain rfl := Option.some.inj H
                  have p123 : 0 ≤ (x20_2 : Int) := Op.dt
                  have q123 : x20_2 < (((rd_T65 l0_0 x12_1).f0).length : Int) := Op.dt
                  obtain ⟨ad123, e123, hx123_0⟩ := Kd.at_int HR121_0.out x20_2 p123 q123
                  cases e123
                  replace hx123_0 := (HB.out.cell (World.block_lt_of_cell? w _ hx123_0)).trans hx123_0
                  replace p123 := eq_true p123
                  replace q123 := eq_true q123
                  have hnb36 := NB122_120.out
                  have hnc36 := NB120_122.out
                  have hcz37_0 : wr.cell? ⟨gb122, 0, none⟩ = some (.slice (some ad123) ((rd_T65 l0_0 x12_1).f0).length c121_0) := (blk_cell BK122.out 0).trans rfl
                  have hcz37_1 := Op.c1 BK122.out
                  have hfz37_0 := Op.bf BK122.out 0
                  have hfz37_1 := Op.bf BK122.out 1
                  have hcz38_0 := Op.c0 BK120.out
                  have hcz38_1 := Op.c1 BK120.out
                  have hfz38_0 := Op.bf BK120.out 0
                  have hfz38_1 := Op.bf BK120.out 1
                  have p125 : 0 ≤ ((rd ((rd_T65 l0_0 x12_1).f0) x20_2) : Int) := Op.dt
                  have q125 : (rd ((rd_T65 l0_0 x12_1).f0) x20_2) < (l0_0.length : Int) := Op.dt
                  obtain ⟨ad125, A125_0, c125_0, e125, hx125_0, hx125_1, hl125_0, hi125_0⟩ := at_T65 HR0_0.out (rd ((rd_T65 l0_0 x12_1).f0) x20_2) p125 q125
                  (try rw [← Nbq31.out] at hx125_1)
                  obtain rfl : ad121 = ad125 := (by injection e125)
                  replace hx125_0 := (HB.out.cell (World.block_lt_of_cell? w _ hx125_0)).trans hx125_0
                  replace hx125_1 := (HB.out.cell (World.block_lt_of_cell? w _ hx125_1)).trans hx125_1
                  have HR125_0 := Op.k hi125_0
                  have HC125_0 := Op.k hl125_0
                  clear hi125_0 hl125_0
                  replace p125 := eq_true p125
                  replace q125 := eq_true q125
                  go_wp2
                  go_ret
                  exact ⟨by first | rfl | (simp [errW_none, errW_some] <;> rfl) | (simp [*, errW_none, errW_some] <;> rfl), Op.ht HB.out⟩
                ·rw [if_neg c30] at H
                 exact absurd H (by simp)
               ·rw [if_neg c29] at H
                exact absurd H (by simp)
          ·rw [if_neg c12] at H
           exact absurd H (by simp)
         ·rw [if_neg c11] at H
          exact absurd H (by simp)
        ·rw [if_neg c10] at H
         have c10b0 : decide (x20_2 < (((rd_T65 l0_0 x12_1).f0).length : Int)) = false := decide_eq_false c10
         clear c10
         by_cases c39 : (((rd_T65 l0_0 x12_1).f0).length : Int) = 4
         ·rw [if_pos c39] at H
          have c39b0 : ((((rd_T65 l0_0 x12_1).f0).length : Int) == 4) = true := beq_iff_eq.mpr c39
          have c39b1 : ((((rd_T65 l0_0 x12_1).f0).length : Int) != 4) = false := bne_eq_false_iff_eq.mpr c39
          clear c39
          have H' := Op.k H
          clear H
          have hnb40 := NB122_120.out
          have hnc40 := NB120_122.out
          have hcz41_0 : wr.cell? ⟨gb122, 0, none⟩ = some (.slice A121_0 ((rd_T65 l0_0 x12_1).f0).length c121_0) := (blk_cell BK122.out 0).trans rfl
          have hcz41_1 := Op.c1 BK122.out
          have hfz41_0 := Op.bf BK122.out 0
          have hfz41_1 := Op.bf BK122.out 1
          go_wp2
          go_roundg k2
          case measure => have := HK1.out; have := HK2.out; omega
          case rel => exact ⟨(wrap64 (x12_1 + 1)), (by first | rfl | (simp; done) | (simp [*]; done)), H', ⟨by have := HK1.out; have := HK2.out; omega⟩, ⟨Op.bt BK120.out⟩, ⟨Op.ht HB.out⟩⟩
         ·rw [if_neg c39] at H
          have c39b0 : ((((rd_T65 l0_0 x12_1).f0).length : Int) == 4) = false := beq_eq_false_iff_ne.mpr c39
          have c39b1 : ((((rd_T65 l0_0 x12_1).f0).length : Int) != 4) = true := bne_iff_ne.mpr c39
          obtain rfl := Option.some.inj H
          have hnb42 := NB122_120.out
          have hnc42 := NB120_122.out
          have hcz43_0 : wr.cell? ⟨gb122, 0, none⟩ = some (.slice A121_0 ((rd_T65 l0_0 x12_1).f0).length c121_0) := (blk_cell BK122.out 0).trans rfl
          have hcz43_1 := Op.c1 BK122.out
          have hfz43_0 := Op.bf BK122.out 0
          have hfz43_1 := Op.bf BK122.out 1
          go_wp2
          go_ret
          exact ⟨by first | rfl | (simp [errW_none, errW_some] <;> rfl) | (simp [*, errW_none, errW_some] <;> rfl), Op.ht HB.out⟩
     ·rw [if_neg c6] at H
      exact absurd H (by simp)
    ·rw [if_neg c5] at H
     exact absurd H (by simp)
   ·rw [if_neg c4] at H
    have c4b0 : decide (x12_1 < (l0_0.length : Int)) = false := decide_eq_false c4
    clear c4
    have H' := Op.k H
    clear H
    have hcz44_0 := Op.c0 BK120.out
    have hcz44_1 := Op.c1 BK120.out
    have hfz44_0 := Op.bf BK120.out 0
    have hfz44_1 := Op.bf BK120.out 1
    go_wp2
    go_loopg [67] k1 (fun kq v67 w' => ∃ (x67_2 : Int), v67 = .int .i64 x67_2 ∧ Aside0 (spec_GoodPool.l2 kq l0_1 (l0_1.length : Int) x67_2 l0_0 l0_1 = some r) ∧ Aside0 (kq ≤ k1) ∧ Aside0 (w'.heap[gb120]? = some (.cells #[(.slice A0_0 l0_0.length c0_0), (.slice A0_1 l0_1.length c0_1)] 25 (0, 0))) ∧ Aside0 (Below w.heap.size w w'))
    case atStart => exact ⟨(0), (by first | rfl | (simp; done) | (simp [*]; done)), H', ⟨Nat.le_refl _⟩, ⟨Op.bt BK120.out⟩, ⟨Op.ht HB.out⟩⟩
    case round =>
     clear H'
     try clear c1
     try clear p1
     try clear q1
     try clear hx1
     try clear c2
     try clear p2
     try clear c3
     try clear q3
     try clear c4
     try clear c4b0
     try clear c5
     try clear c5b0
     try clear c6
     try clear c6b0
     try clear p6
     try clear c8
     try clear c10
     try clear c10b0
     try clear c11
     try clear c11b0
     try clear c12
     try clear c12b0
     try clear p12
     try clear q12
     try clear hx12
     try clear c13
     try clear c13b0
     try clear c15
     try clear c16
     try clear c18
     try clear c19
     try clear c20
     try clear c20b0
     try clear c20b1
     try clear c21
     try clear c23
     try clear c23b0
     try clear c24
     try clear c26
     try clear c26b0
     try clear c27
     try clear c29
     try clear c29b0
     try clear c30
     try clear c30b0
     try clear q31
     try clear c32
     try clear c33
     try clear c36
     try clear c39
     try clear c39b0
     try clear c39b1
     try clear c40
     try clear c42
     try clear hcz17_0
     try clear hcz17_1
     try clear hcz19_0
     try clear hcz19_1
     try clear hcz22_0
     try clear hcz22_1
     try clear hcz25_0
     try clear hcz25_1
     try clear hcz28_0
     try clear hcz28_1
     try clear hcz34_0
     try clear hcz34_1
     try clear hcz35_0
     try clear hcz35_1
     try clear hcz37_0
     try clear hcz37_1
     try clear hcz38_0
     try clear hcz38_1
     try clear hcz3_0
     try clear hcz3_1
     try clear hcz41_0
     try clear hcz41_1
     try clear hcz43_0
     try clear hcz43_1
     try clear hcz44_0
     try clear hcz44_1
     try clear hcz9_0
     try clear hcz9_1
     try clear hfz17_0
     try clear hfz17_1
     try clear hfz19_0
     try clear hfz19_1
     try clear hfz22_0
     try clear hfz22_1
     try clear hfz25_0
     try clear hfz25_1
     try clear hfz28_0
     try clear hfz28_1
     try clear hfz34_0
     try clear hfz34_1
     try clear hfz35_0
     try clear hfz35_1
     try clear hfz37_0
     try clear hfz37_1
     try clear hfz38_0
     try clear hfz38_1
     try clear hfz3_0
     try clear hfz3_1
     try clear hfz41_0
     try clear hfz41_1
     try clear hfz43_0
     try clear hfz43_1
     try clear hfz44_0
     try clear hfz44_1
     try clear hfz9_0
     try clear hfz9_1
     try clear hx121_0
     try clear hx121_1
     try clear hx123_0
     try clear hx125_0
     try clear hx125_1
     try clear p1
     try clear p121
     try clear p123
     try clear p125
     try clear p2
     try clear q1
     try clear q121
     try clear q123
     try clear q125
     obtain ⟨x67_2, rfl, HA, HK2, BK120, HB⟩ := hrel
     cases gk with
     | zero => exact absurd HA.out (by simp [spec_GoodPool.l2])
     | succ k2 =>
      have H := HA.out
      clear HA
      simp only [spec_GoodPool.l2] at H
      by_cases c45 : x67_2 < (l0_1.length : Int)
      ·rw [if_pos c45] at H
       have c45b0 : decide (x67_2 < (l0_1.length : Int)) = true := decide_eq_true c45
       clear c45
       by_cases c46 : 0 ≤ x67_2
       ·rw [if_pos c46] at H
        have c46b0 : decide (0 ≤ x67_2) = true := decide_eq_true c46
        clear c46
        by_cases c47 : x67_2 < (l0_1.length : Int)
        ·rw [if_pos c47] at H
         have c47b0 : decide (x67_2 < (l0_1.length : Int)) = true := decide_eq_true c47
         clear c47
         by_cases c48 : (rd l0_1 x67_2) = (-1)
         ·rw [if_pos c48] at H
          have c48b0 : ((rd l0_1 x67_2) == (-1)) = true := beq_iff_eq.mpr c48
          have c48b1 : ((rd l0_1 x67_2) != (-1)) = false := bne_eq_false_iff_eq.mpr c48
          clear c48
          have H' := Op.k H
          clear H
          have p126 : 0 ≤ (x67_2 : Int) := Op.dt
          have q126 : x67_2 < (l0_1.length : Int) := Op.dt
          obtain ⟨ad126, e126, hx126_0⟩ := Kd.at_int HR0_1.out x67_2 p126 q126
          cases e126
          replace hx126_0 := (HB.out.cell (World.block_lt_of_cell? w _ hx126_0)).trans hx126_0
          replace p126 := eq_true p126
          replace q126 := eq_true q126
          go_wp2
          go_roundg k2
          case measure => have := HK1.out; have := HK2.out; omega
          case rel => exact ⟨(wrap64 (x67_2 + 1)), (by first | rfl | (simp; done) | (simp [*]; done)), H', ⟨by have := HK1.out; have := HK2.out; omega⟩, ⟨Op.bt BK120.out⟩, ⟨Op.ht HB.out⟩⟩
         ·rw [if_neg c48] at H
          have c48b0 : ((rd l0_1 x67_2) == (-1)) = false := beq_eq_false_iff_ne.mpr c48
          have c48b1 : ((rd l0_1 x67_2) != (-1)) = true := bne_iff_ne.mpr c48
          by_cases c49 : (rd l0_1 x67_2) < 0
          ·rw [if_pos c49] at H
           have c49b0 : decide ((rd l0_1 x67_2) < 0) = true := decide_eq_true c49
           clear c49
           obtain rfl := Option.some.inj H
           have p126 : 0 ≤ (x67_2 : Int) := Op.dt
           have q126 : x67_2 < (l0_1.length : Int) := Op.dt
           obtain ⟨ad126, e126, hx126_0⟩ := Kd.at_int HR0_1.out x67_2 p126 q126
           cases e126
           replace hx126_0 := (HB.out.cell (World.block_lt_of_cell? w _ hx126_0)).trans hx126_0
           replace p126 := eq_true p126
           replace q126 := eq_true q126
           go_wp2
           go_ret
           exact ⟨by first | rfl | (simp [errW_none, errW_some] <;> rfl) | (simp [*, errW_none, errW_some] <;> rfl), Op.ht HB.out⟩
          ·rw [if_neg c49] at H
           have c49b0 : decide ((rd l0_1 x67_2) < 0) = false := decide_eq_false c49
           clear c49
           by_cases c50 : (rd l0_1 x67_2) ≥ (l0_0.length : Int)
           ·rw [if_pos c50] at H
            have c50b0 : decide ((l0_0.length : Int) ≤ (rd l0_1 x67_2)) = true := decide_eq_true c50
            clear c50
            obtain rfl := Option.some.inj H
            have p126 : 0 ≤ (x67_2 : Int) := Op.dt
            have q126 : x67_2 < (l0_1.length : Int) := Op.dt
            obtain ⟨ad126, e126, hx126_0⟩ := Kd.at_int HR0_1.out x67_2 p126 q126
            cases e126
            replace hx126_0 := (HB.out.cell (World.block_lt_of_cell? w _ hx126_0)).trans hx126_0
            replace p126 := eq_true p126
            replace q126 := eq_true q126
            have hcz51_0 := Op.c0 BK120.out
            have hcz51_1 := Op.c1 BK120.out
            have hfz51_0 := Op.bf BK120.out 0
            have hfz51_1 := Op.bf BK120.out 1
            go_wp2
            go_ret
            exact ⟨by first | rfl | (simp [errW_none, errW_some] <;> rfl) | (simp [*, errW_none, errW_some] <;> rfl), Op.ht HB.out⟩
           ·rw [if_neg c50] at H
            have c50b0 : decide ((l0_0.length : Int) ≤ (rd l0_1 x67_2)) = false := decide_eq_false c50
            clear c50
            by_cases c52 : 0 ≤ (rd l0_1 x67_2)
            ·rw [if_pos c52] at H
             have c52b0 : decide (0 ≤ (rd l0_1 x67_2)) = true := decide_eq_true c52
             clear c52
             by_cases c53 : (rd l0_1 x67_2) < (l0_0.length : Int)
             ·rw [if_pos c53] at H
              have c53b0 : decide ((rd l0_1 x67_2) < (l0_0.length : Int)) = true := decide_eq_true c53
              clear c53
              obtain ⟨bq54, hbq54⟩ : ∃ b_ : Bool, b_ = ((rd_T65 l0_0 (rd l0_1 x67_2)).f1) := ⟨_, rfl⟩
              replace H : (if bq54 = true then (some false) else (spec_GoodPool.l2 k2 l0_1 (l0_1.length : Int) (wrap64 (x67_2 + 1)) l0_0 l0_1)) = some r := by rw [← hbq54] at H; exact H
              have Nbq54 := Op.k hbq54
              clear hbq54
              by_cases c55 : bq54 = true
              ·subst c55
               have H1 : (some false) = some r := by rw [if_pos rfl] at H; exact H
               clear H
               have H := H1
               clear H1
               obtain rfl := Option.some.inj H
               have p126 : 0 ≤ (x67_2 : Int) := Op.dt
               have q126 : x67_2 < (l0_1.length : Int) := Op.dt
               obtain ⟨ad126, e126, hx126_0⟩ := Kd.at_int HR0_1.out x67_2 p126 q126
               cases e126
               replace hx126_0 := (HB.out.cell (World.block_lt_of_cell? w _ hx126_0)).trans hx126_0
               replace p126 := eq_true p126
               replace q126 := eq_true q126
               have hcz56_0 := Op.c0 BK120.out
               have hcz56_1 := Op.c1 BK120.out
               have hfz56_0 := Op.bf BK120.out 0
               have hfz56_1 := Op.bf BK120.out 1
               have p127 : 0 ≤ ((rd l0_1 x67_2) : Int) := Op.dt
               have q127 : (rd l0_1 x67_2) < (l0_0.length : Int) := Op.dt
               obtain ⟨ad127, A127_0, c127_0, e127, hx127_0, hx127_1, hl127_0, hi127_0⟩ := at_T65 HR0_0.out (rd l0_1 x67_2) p127 q127
               (try rw [← Nbq54.out] at hx127_1)
               cases e127
               replace hx127_0 := (HB.out.cell (World.block_lt_of_cell? w _ hx127_0)).trans hx127_0
               replace hx127_1 := (HB.out.cell (World.block_lt_of_cell? w _ hx127_1)).trans hx127_1
               have HR127_0 := Op.k hi127_0
               have HC127_0 := Op.k hl127_0
               clear hi127_0 hl127_0
               replace p127 := eq_true p127
               replace q127 := eq_true q127
               go_wp2
               go_ret
               exact ⟨by first | rfl | (simp [errW_none, errW_some] <;> rfl) | (simp [*, errW_none, errW_some] <;> rfl), Op.ht HB.out⟩
              ·replace c55 := Bool.eq_false_iff.mpr c55
               subst c55
               have H1 : (spec_GoodPool.l2 k2 l0_1 (l0_1.length : Int) (wrap64 (x67_2 + 1)) l0_0 l0_1) = some r := by rw [if_neg (show ¬ (false = true) by decide)] at H; exact H
               clear H
               have H := H1
               clear H1
               have H' := Op.k H
               clear H
               have p126 : 0 ≤ (x67_2 : Int) := Op.dt
               have q126 : x67_2 < (l0_1.length : Int) := Op.dt
               obtain ⟨ad126, e126, hx126_0⟩ := Kd.at_int HR0_1.out x67_2 p126 q126
               cases e126
               replace hx126_0 := (HB.out.cell (World.block_lt_of_cell? w _ hx126_0)).trans hx126_0
               replace p126 := eq_true p126
               replace q126 := eq_true q126
               have hcz57_0 := Op.c0 BK120.out
               have hcz57_1 := Op.c1 BK120.out
               have hfz57_0 := Op.bf BK120.out 0
               have hfz57_1 := Op.bf BK120.out 1
               have p127 : 0 ≤ ((rd l0_1 x67_2) : Int) := Op.dt
               have q127 : (rd l0_1 x67_2) < (l0_0.length : Int) := Op.dt
               obtain ⟨ad127, A127_0, c127_0, e127, hx127_0, hx127_1, hl127_0, hi127_0⟩ := at_T65 HR0_0.out (rd l0_1 x67_2) p127 q127
               (try rw [← Nbq54.out] at hx127_1)
               cases e127
               replace hx127_0 := (HB.out.cell (World.block_lt_of_cell? w _ hx127_0)).trans hx127_0
               replace hx127_1 := (HB.out.cell (World.block_lt_of_cell? w _ hx127_1)).trans hx127_1
               have HR127_0 := Op.k hi127_0
               have HC127_0 := Op.k hl127_0
               clear hi127_0 hl127_0
               replace p127 := eq_true p127
               replace q127 := eq_true q127
               go_wp2
               go_roundg k2
               case measure => have := HK1.out; have := HK2.out; omega
               case rel => (try rw [← Nbq54.out]); exact ⟨(wrap64 (x67_2 + 1)), (by first | rfl | (simp; done) | (simp [*]; done)), H', ⟨by have := HK1.out; have := HK2.out; omega⟩, ⟨Op.bt BK120.out⟩, ⟨Op.ht HB.out⟩⟩
             ·rw [if_neg c53] at H
              exact absurd H (by simp)
            ·rw [if_neg c52] at H
             exact absurd H (by simp)
        ·rw [if_neg c47] at H
         exact absurd H (by simp)
       ·rw [if_neg c46] at H
        exact absurd H (by simp)
      ·rw [if_neg c45] at H
       have c45b0 : decide (x67_2 < (l0_1.length : Int)) = false := decide_eq_false c45
       clear c45
       by_cases c58 : (l0_0.length : Int) ≤ 200
       ·rw [if_pos c58] at H
        have c58b0 : decide ((l0_0.length : Int) ≤ 200) = true := decide_eq_true c58
        have c58b1 : decide (l0_0.length ≤ 200) = true := decide_eq_true (by omega)
        clear c58
        obtain rfl := Option.some.inj H
        have hcz59_0 := Op.c0 BK120.out
        have hcz59_1 := Op.c1 BK120.out
        have hfz59_0 := Op.bf BK120.out 0
        have hfz59_1 := Op.bf BK120.out 1
        go_wp2
        go_ret
        exact ⟨by first | rfl | (simp [errW_none, errW_some] <;> rfl) | (simp [*, errW_none, errW_some] <;> rfl), Op.ht HB.out⟩
       ·rw [if_neg c58] at H
        have c58b0 : decide ((l0_0.length : Int) ≤ 200) = false := decide_eq_false c58
        have c58b1 : decide (l0_0.length ≤ 200) = false := decide_eq_false (by omega)
        clear c58
        obtain rfl := Option.some.inj H
        have hcz60_0 := Op.c0 BK120.out
        have hcz60_1 := Op.c1 BK120.out
        have hfz60_0 := Op.bf BK120.out 0
        have hfz60_1 := Op.bf BK120.out 1
        go_wp2
        go_ret
        exact ⟨by first | rfl | (simp [errW_none, errW_some] <;> rfl) | (simp [*, errW_none, errW_some] <;> rfl), Op.ht HB.out⟩



/-! ### slices_IndexFunc_int_int: function 78 -/
theorem slices_IndexFunc_int_int.calls (A0 : Option Addr) (c0 : Nat) (l0 : List Int) (g : Nat) (lb : Array Value) (p : Int → Option Bool) (r : Int) (w : World)
  (eg : ∀ args W, (callFunc g args).run Try.prog W = .ok (.enter g args) W)
  (hp : ∀ (W : World) (x : Int) (b : Bool), x ∈ l0 → Below w.heap.size w W → p x = some b → Calls Try.prog g (#[.int .i64 x] ++ lb) W fun e W' => e = .returned (.bool b) ∧ Below W.heap.size W W')
  (hr0 : Kd.C (Kd.int .i64) w A0 l0.length l0) (h : Op.indexO p l0 0 = some r) :
  Calls Try.prog 78 #[.slice A0 l0.length c0, .func (.func g) #[] lb] w fun e w' => e = .returned (.int .i64 r) ∧ Below w.heap.size w w' := by
 have HR0 := Op.k hr0
 have HP := Op.k hp
 have HL : (l0.length : Int) ≤ 9223372036854775807 := by have := hr0.2.1; omega
 have H' := Op.k h
 clear hr0 hp h
 go_enter Try.func78, Try.ntmps78
 go_wp2
 go_loopg [5, 8] l0.length (fun gg v5 v8 wr => ∃ n : Nat, n ≤ l0.length ∧ l0.length - n ≤ gg ∧ v8 = .int .i64 n ∧ Aside0 (Op.indexO p (l0.drop n) n = some r) ∧ Aside0 (Below w.heap.size w wr))
 case atStart => exact ⟨0, Nat.zero_le _, by omega, rfl, ⟨by simpa using H'.out⟩, ⟨Below.refl _ _⟩⟩
 case round =>
  clear H'
  obtain ⟨n, hn, hg, rfl, HA, HB⟩ := hrel
  by_cases hlt : n < l0.length
  ·have hltz : (n : Int) < (l0.length : Int) := by omega
   obtain ⟨ad, rfl, hcell⟩ := Kd.at_int (Kd.C_below HR0.out HB.out) (n : Int) (by omega) hltz
   rw [Int.toNat_natCast] at hcell
   have hd : Aside0 (l0.drop n = rd l0 n :: l0.drop (n + 1)) := ⟨by rw [List.drop_eq_getElem_cons hlt]; simp [rd, List.getD_eq_getElem?_getD, hlt]⟩
   have hm : Aside0 (rd l0 n ∈ l0) := ⟨by simp [rd, List.getD_eq_getElem?_getD, hlt]⟩
   generalize rd l0 n = y at *
   have HA2 : ∃ b, p y = some b ∧ Aside0 ((if b then some (n : Int) else Op.indexO p (l0.drop (n + 1)) ((n : Int) + 1)) = some r) := by
    have h1 := HA.out
    rw [hd.out] at h1
    obtain ⟨b, hb, h2⟩ := Option.bind_eq_some_iff.1 h1
    exact ⟨b, hb, ⟨h2⟩⟩
   clear HA
   obtain ⟨b, hb, HA⟩ := HA2
   have hcall := fun W hB => HP.out W y b hm.out hB hb
   have HC := Op.k hcall
   clear hcall hb hd hm
   cases b with
   | true =>
    go_wp2_with (go_at_fn g; refine (HC.out _ HB.out).mono ?_; rintro e w' ⟨rfl, hb2⟩)
    go_ret
    exact ⟨by have h1 := HA.out; simp only [if_true, Option.some.injEq] at h1; rw [h1]; rfl, below_step HB.out hb2⟩
   | false =>
    go_wp2_with (go_at_fn g; refine (HC.out _ HB.out).mono ?_; rintro e w' ⟨rfl, hb2⟩)
    go_roundg (l0.length - (n + 1))
    case measure => omega
    case rel => exact ⟨n + 1, by omega, by omega, by go_num, ⟨by have h1 := HA.out; simpa using h1⟩, ⟨below_step HB.out hb2⟩⟩
  ·have hltz : ¬ (n : Int) < (l0.length : Int) := by omega
   have e : n = l0.length := by omega
   have HA2 : Aside0 (r = -1) := ⟨by have h1 := HA.out; rw [e, List.drop_length] at h1; simpa [Op.indexO] using h1.symm⟩
   clear HA e
   go_wp2
   go_ret
   exact ⟨by rw [HA2.out]; rfl, HB.out⟩


/-! ### slices_ContainsFunc_int_int: function 53 -/
theorem slices_ContainsFunc_int_int.calls (A0 : Option Addr) (c0 : Nat) (l0 : List Int) (g : Nat) (lb : Array Value) (p : Int → Option Bool) (r : Bool) (w : World)
  (eg : ∀ args W, (callFunc g args).run Try.prog W = .ok (.enter g args) W)
  (hp : ∀ (W : World) (x : Int) (b : Bool), x ∈ l0 → Below w.heap.size w W → p x = some b → Calls Try.prog g (#[.int .i64 x] ++ lb) W fun e W' => e = .returned (.bool b) ∧ Below W.heap.size W W')
  (hr0 : Kd.C (Kd.int .i64) w A0 l0.length l0) (h : Op.anyO p l0 = some r) :
  Calls Try.prog 53 #[.slice A0 l0.length c0, .func (.func g) #[] lb] w fun e w' => e = .returned (.bool r) ∧ Below w.heap.size w w' := by
 obtain ⟨i, hi, hr⟩ := Op.indexO_of_anyO (i := 0) (by omega) h
 have hc := slices_IndexFunc_int_int.calls A0 c0 l0 g lb p i w eg hp hr0 hi
 have HC := Op.k hc
 have HI := Op.k hr
 clear hc hp hr0 h hi hr
 go_enter Try.func53, Try.ntmps53
 go_wp2_with (go_at_call 78; refine HC.out.mono ?_; rintro e w' ⟨rfl, hb⟩)
 go_ret
 exact ⟨by rw [← HI.out]; rfl, hb⟩


end Go.Proofs.Ytnafnpoflheonaa.PFnVersions
