/- Contracts of functions of the translation, written by a program of this repo (a changed copy of the printer). Not trusted: Lean checks it. -/
-- squeezed
-- compact
import Derived.Test.YtnafnpoflheonaaCc
import Derived.Test.YtnafnpoflheonaaPFnVersionsx0
import Derived.Test.YtnafnpoflheonaaPFnVersionsx1
import Derived.Test.YtnafnpoflheonaaPFnVersionsx2
import Derived.Test.YtnafnpoflheonaaPFnVersionsx4
namespace Go.Proofs.Ytnafnpoflheonaa.PFnVersions
open Go.RowKit Go.Proofs.YtnafnpoflheonaaW.PrintWords Go.Proofs.YtnafnpoflheonaaW.PrintLast Go.Proofs.YtnafnpoflheonaaW.PrintMore
attribute [local go_sem] max2_int min2_int max_two min_two max_three min_three max_four min_four   -- for this text's walks alone
set_option linter.unusedVariables false
set_option linter.unusedSimpArgs false

/-! ### impl_ownPool: function 66 -/
def impl_ownPool.l0 : Nat → List (S65) → Int → Int → List (S65) → List Int → Option ((List (S65)) × List Int)
 | 0, _, _, _, _, _ => none
 | k + 1, x11, x12, x13, x203000, x203001 => if x13 < x12 then (if 0 ≤ x13 then (if x13 < (x11.length : Int) then ((slices_Clone_int_int.f ((rd_T65 x11 x13).f0)).bind fun t205 => (if x203000.length < 4398046511104 then (impl_ownPool.l0 k x11 x12 (wrap64 (x13 + 1)) (x203000 ++ [(⟨t205, (rd_T65 x11 x13).f1⟩ : S65)]) x203001) else (none))) else (none)) else (none)) else (some (x203000, x203001))
def impl_ownPool.f (k : Nat) (l0_0 : List (S65)) (l0_1 : List Int) : Option ((List (S65)) × List Int) := (slices_Clone_int_int.f l0_1).bind fun t199 => (impl_ownPool.l0 k l0_0 (l0_0.length : Int) 0 ([] : List (S65)) t199)
theorem impl_ownPool.mono_l : ∀ k, (∀ y0 y1 y2 y3 y4, LeO (impl_ownPool.l0 k y0 y1 y2 y3 y4) (impl_ownPool.l0 (k + 1) y0 y1 y2 y3 y4))
 | 0 => fun _ _ _ _ _ r h => by simp [impl_ownPool.l0] at h
 | k + 1 => by
  have ih0 := impl_ownPool.mono_l k
  ·intro y0 y1 y2 y3 y4
   unfold impl_ownPool.l0
   repeat' first
   | (with_reducible exact ih0 _ _ _ _ _)
   | (with_reducible exact LeO.refl _)
   | (with_reducible exact LeO.none _)
   | (with_reducible refine LeO.ite ?_ ?_)
   | (with_reducible refine LeO.bind ?_ (fun _ => ?_))
   | exact ih0 _ _ _ _ _
   | exact LeO.none _
   | refine LeO.ite ?_ ?_
   | refine LeO.bind ?_ (fun _ => ?_)
theorem impl_ownPool.mono : ∀ a0 a1 k, LeO (impl_ownPool.f k a0 a1) (impl_ownPool.f (k + 1) a0 a1) := by
 intro a0 a1 k
 have ih0 := impl_ownPool.mono_l k
 unfold impl_ownPool.f
 repeat' first
   | (with_reducible exact ih0 _ _ _ _ _)
   | (with_reducible exact LeO.refl _)
   | (with_reducible exact LeO.none _)
   | (with_reducible refine LeO.ite ?_ ?_)
   | (with_reducible refine LeO.bind ?_ (fun _ => ?_))
   | exact ih0 _ _ _ _ _
   | exact LeO.none _
   | refine LeO.ite ?_ ?_
   | refine LeO.bind ?_ (fun _ => ?_)
def impl_ownPool.T5 : Bool × List (List Nat × List Nat) := (true, [([], []), ([0], [0]), ([], []), ([2], [2]), ([3], [3]), ([], []), ([5], [5]), ([4, 6], [4, 6]), ([7], [7]), ([1, 8, 4], [1, 8]), ([0, 1, 2, 3, 4, 5, 6, 7, 8, 9], []), ([10, 9, 9, 0, 1, 2, 3, 4, 5, 6, 7, 8, 9], [9, 10])])
def impl_ownPool.B5 : List Nat := [0, 1, 0, 4, 12, 0, 32, 124, 252, 511, 1023, 2047]
theorem impl_ownPool.tab5 : rtab .any (opsOf Try.f66 5) = impl_ownPool.T5 := by kernel_rfl
theorem impl_ownPool.bits5 : waitsOk impl_ownPool.T5.2 impl_ownPool.B5 = true := by kernel_rfl
set_option maxHeartbeats 8000000 in
set_option maxRecDepth 100000 in
theorem impl_ownPool.calls (k : Nat) (A0_0 : Option Addr) (c0_0 : Nat) (l0_0 : List (S65)) (A0_1 : Option Addr) (c0_1 : Nat) (l0_1 : List Int) (r1 : List (S65)) (r2 : List Int) (w : World) (hr0_0 : Kd.C k65 w A0_0 l0_0.length l0_0) (hc0_0 : l0_0.length ≤ c0_0) (hr0_1 : Kd.C (Kd.int .i64) w A0_1 l0_1.length l0_1) (hc0_1 : l0_1.length ≤ c0_1) (h : impl_ownPool.f k l0_0 l0_1 = some (r1, r2)) :
  Calls Try.prog 66 #[.agg #[.slice A0_0 l0_0.length c0_0, .slice A0_1 l0_1.length c0_1]] w fun e w' => ∃ v0_ v1_ : Value, e = .returned (.agg #[v0_, v1_]) ∧ Kd.S k65 65 w' w.heap.size (fun k_ => some k_ ≠ (v1_ : Value).ownBlock) v0_ r1 ∧ Kd.R (Kd.int .i64) 3 w' w.heap.size (fun _ => True) v1_ r2 ∧ Below w.heap.size w w' := by
 have hu25 := Try.underlying25
 have hu65 := Try.underlying65
 have HR0_0 := Op.k hr0_0
 have HC0_0 := Op.k hc0_0
 clear hr0_0 hc0_0
 have HR0_1 := Op.k hr0_1
 have HC0_1 := Op.k hc0_1
 clear hr0_1 hc0_1
 have HB := Op.k (Below.refl w.heap.size w)
 have H : ((slices_Clone_int_int.f l0_1).bind fun t199 => (impl_ownPool.l0 k l0_0 (l0_0.length : Int) 0 ([] : List (S65)) t199)) = some (r1, r2) := h
 clear h
 replace H := Option.bind_eq_some_iff.mp H
 obtain ⟨t199, A20, H⟩ := H
 try dsimp only at H
 have A2 := Op.k A20
 clear A20
 have H' := Op.k H
 clear H
 go_enter Try.func66, Try.ntmps66
 go_wp2_with (first | ((with_reducible refine gate_dst (N := 1) rfl ?_); refine box_event ?hg (N := 1) ?hd (cs := #[.slice A0_0 l0_0.length c0_0, .slice A0_1 l0_1.length c0_1]) (t := 25) ?hr ?_; (case hd => rfl); (case hg => rfl); (case hr => first | (go_simp; done) | (go_simp; rfl)); intro gb197 hg w3 hbox hb; have BK197 := Op.k (hbox); have GW197 := Op.k ((Op.nz hg (Op.ht HB.out) : w.heap.size ≤ gb197)); have GE197 := Op.k ((Op.nz hg (Op.ht HB.out) : w.heap.size ≤ gb197)); replace HB := Op.k (Op.a5 (Op.ht HB.out) hb); clear hb hbox hg) | ((with_reducible refine gate_dst (N := 2) rfl ?_); refine box_event ?hg (N := 2) ?hd (cs := #[.slice none 0 0, .slice none 0 0]) (t := 25) ?hr ?_; (case hd => rfl); (case hg => rfl); (case hr => first | (go_simp; done) | (go_simp; rfl)); intro gb198 hg w4 hbox hb; have BK198 := Op.k (hbox); have GW198 := Op.k ((Op.nz hg (Op.ht HB.out) : w.heap.size ≤ gb198)); have GE198 := Op.k ((Op.nz hg (Op.ht HB.out) : w.heap.size ≤ gb198)); replace HB := Op.k (Op.a5 (Op.ht HB.out) hb); have NB197_198 := Op.k ((Op.nl hg (Op.bt BK197.out) : gb197 ≠ gb198)); have NB198_197 := Op.k ((Op.ng hg (Op.bt BK197.out) : gb198 ≠ gb197)); replace BK197 := Op.k (Op.b4 (Op.bt BK197.out) hb); clear hb hbox hg; have hnb5 := NB197_198.out; have hnc5 := NB198_197.out; have hcz6_0 := Op.c0 BK197.out; have hcz6_1 := Op.c1 BK197.out; have hfz6_0 := Op.bf BK197.out 0; have hfz6_1 := Op.bf BK197.out 1) | ((with_reducible refine gate_callee (f := 68) rfl ?_); refine goesL_ (some 8) rfl rfl Try.func68 (by kernel_rfl) rfl #[.slice A0_1 l0_1.length c0_1] rfl (by (try simp only [List.map_toArray, List.map_cons, List.map_nil]); first | done | rfl | (simp only [List.length_drop, List.length_take]; rfl)) ?_; (with_reducible refine (slices_Clone_int_int.calls _ _ l0_1 t199 _ ?side1 ?side2 A2.out).mono ?_); (case side1 => exact Op.ct (Kd.C_below HR0_1.out HB.out)); (case side2 => exact HC0_1.out); rintro e w7 ⟨v200, rfl, ho0, hb⟩; refine ⟨_, rfl, ?_⟩; have HO201 := Op.k (Kd.R_lower ho0 (Op.a6 (Op.ht HB.out))); replace BK197 := Op.k (Op.b4 (Op.bt BK197.out) hb); replace BK198 := Op.k (Op.b4 (Op.bt BK198.out) hb); replace HB := Op.k (Op.a5 (Op.ht HB.out) hb); (try clear hb); (try clear hb2); (try clear hk); (try clear hi); (try clear ho0); obtain ⟨Ao8, co8, eo8⟩ := Kd.R_slice HO201.out; subst eo8) | ((with_reducible refine gate_dst (N := 3) rfl ?_); refine box_event ?hg (N := 3) ?hd (cs := #[.slice none 0 0, .slice none 0 0]) (t := 25) ?hr ?_; (case hd => rfl); (case hg => rfl); (case hr => first | (go_simp; done) | (go_simp; rfl)); intro gb202 hg w9 hbox hb; replace HO201 := Op.k (Kd.R_below (Op.rt HO201.out) hb); have BK202 := Op.k (hbox); have GW202 := Op.k ((Op.nz hg (Op.ht HB.out) : w.heap.size ≤ gb202)); have GE202 := Op.k ((Op.nz hg (Op.ht HB.out) : w.heap.size ≤ gb202)); replace HB := Op.k (Op.a5 (Op.ht HB.out) hb); have NB197_202 := Op.k ((Op.nl hg (Op.bt BK197.out) : gb197 ≠ gb202)); have NB202_197 := Op.k ((Op.ng hg (Op.bt BK197.out) : gb202 ≠ gb197)); replace BK197 := Op.k (Op.b4 (Op.bt BK197.out) hb); have NB198_202 := Op.k ((Op.nl hg (Op.bt BK198.out) : gb198 ≠ gb202)); have NB202_198 := Op.k ((Op.ng hg (Op.bt BK198.out) : gb202 ≠ gb198)); replace BK198 := Op.k (Op.b4 (Op.bt BK198.out) hb); clear hb hbox hg; have hnb10 := NB202_197.out; have hnc10 := NB197_202.out; have hnb11 := NB202_198.out; have hnc11 := NB198_202.out; have hcz12_0 := Op.c0 BK202.out; have hcz12_1 := Op.c1 BK202.out; have hfz12_0 := Op.bf BK202.out 0; have hfz12_1 := Op.bf BK202.out 1; have hcz13_0 := Op.c0 BK197.out; have hcz13_1 := Op.c1 BK197.out; have hfz13_0 := Op.bf BK197.out 0; have hfz13_1 := Op.bf BK197.out 1))
 go_loopg [13] k (fun kq v13 w' => ∃ (x13_1 : Int) (x203000_1 : List (S65)) (u203000 : Value), v13 = .int .i64 x13_1 ∧ Aside0 (impl_ownPool.l0 kq l0_0 (l0_0.length : Int) x13_1 x203000_1 t199 = some (r1, r2)) ∧ Aside0 (kq ≤ k) ∧ Aside0 (Kd.S k65 65 w' w.heap.size (fun k_ => some k_ ≠ ((.slice Ao8 t199.length co8) : Value).ownBlock) u203000 x203000_1) ∧ Aside0 (Kd.R (Kd.int .i64) 3 w' w.heap.size (fun _ => True) (.slice Ao8 t199.length co8) t199) ∧ Aside0 (w'.heap[gb197]? = some (.cells #[(.slice A0_0 l0_0.length c0_0), (.slice A0_1 l0_1.length c0_1)] 25 (0, 0))) ∧ Aside0 (w'.heap[gb198]? = some (.cells #[(.slice none 0 0), (.slice none 0 0)] 25 (0, 0))) ∧ Aside0 (w'.heap[gb202]? = some (.cells #[u203000, (.slice Ao8 t199.length co8)] 25 (0, 0))) ∧ Aside0 (Below w.heap.size w w'))
 case atStart => exact ⟨(0), (([] : List (S65))), (.slice none 0 0), (by first | rfl | (simp; done) | (simp [*]; done)), H', ⟨Nat.le_refl _⟩, ⟨by first | exact Kd.S_nil _ _ _ _ _ | exact Kd.N_nil _ _ _ _ _ | exact Kd.V_nil _ _ _ _ _ | exact Kd.Q_nil _ _ _ _ _ | exact Kd.R_nil _ _ _ _ _⟩, ⟨Kd.R_mono (Op.rf HO201.out BK202.out) (fun _ hk => trivial)⟩, ⟨Op.bt BK197.out⟩, ⟨Op.bt BK198.out⟩, ⟨Op.bv BK202.out⟩, ⟨Op.ht HB.out⟩⟩
 case round =>
  clear H'
  try clear c1
  try clear p2
  try clear c5
  try clear c6
  try clear c10
  try clear c11
  try clear hcz12_0
  try clear hcz12_1
  try clear hcz13_0
  try clear hcz13_1
  try clear hcz6_0
  try clear hcz6_1
  try clear hfz12_0
  try clear hfz12_1
  try clear hfz13_0
  try clear hfz13_1
  try clear hfz6_0
  try clear hfz6_1
  obtain ⟨x13_1, x203000_1, u203000, rfl, HA, HK1, HO_203000, HO_203001, BK197, BK198, BK202, HB⟩ := hrel
  cases gk with
  | zero => exact absurd HA.out (by simp [impl_ownPool.l0])
  | succ k1 =>
   have H := HA.out
   clear HA
   simp only [impl_ownPool.l0] at H
   by_cases c14 : x13_1 < (l0_0.length : Int)
   ·rw [if_pos c14] at H
    have c14b0 : decide (x13_1 < (l0_0.length : Int)) = true := decide_eq_true c14
    clear c14
    by_cases c15 : 0 ≤ x13_1
    ·rw [if_pos c15] at H
     have c15b0 : decide (0 ≤ x13_1) = true := decide_eq_true c15
     clear c15
     by_cases c16 : x13_1 < (l0_0.length : Int)
     ·rw [if_pos c16] at H
      have c16b0 : decide (x13_1 < (l0_0.length : Int)) = true := decide_eq_true c16
      clear c16
      replace H := Option.bind_eq_some_iff.mp H
      obtain ⟨t205, A170, H⟩ := H
      try dsimp only at H
      have A17 := Op.k A170
      clear A170
      by_cases c18 : x203000_1.length < 4398046511104
      ·rw [if_pos c18] at H
       have LMc18 := Op.k c18
       clear c18
       obtain ⟨y208, hy208⟩ : ∃ y_ : List (S65), y_ = (x203000_1 ++ [(⟨t205, (rd_T65 l0_0 x13_1).f1⟩ : S65)]) := ⟨_, rfl⟩
       replace H : (impl_ownPool.l0 k1 l0_0 (l0_0.length : Int) (wrap64 (x13_1 + 1)) y208 t199) = some (r1, r2) := by first | (rw [hy208]; with_reducible exact H) | (have H2_ := (Option.bind_some _ _).symm.trans H; rw [hy208]; with_reducible exact H2_) | (have H2_ := (Option.bind_some _ _).symm.trans H; with_reducible exact H2_) | with_reducible exact H | (rw [hy208]; exact H) | exact H
       have Ny208 := Op.k hy208
       clear hy208
       have H' := Op.k H
       clear H
       have p203 : 0 ≤ (x13_1 : Int) := Op.dt
       have q203 : x13_1 < (l0_0.length : Int) := Op.dt
       obtain ⟨ad203, A203_0, c203_0, e203, hx203_0, hx203_1, hl203_0, hi203_0⟩ := at_T65 HR0_0.out x13_1 p203 q203
       cases e203
       replace hx203_0 := (HB.out.cell (World.block_lt_of_cell? w _ hx203_0)).trans hx203_0
       replace hx203_1 := (HB.out.cell (World.block_lt_of_cell? w _ hx203_1)).trans hx203_1
       have HR203_0 := Op.k hi203_0
       have HC203_0 := Op.k hl203_0
       clear hi203_0 hl203_0
       replace p203 := eq_true p203
       replace q203 := eq_true q203
       try go_wp2_with (first | ((with_reducible refine gate_dst (N := 5) rfl ?_); refine box_event ?hg (N := 5) ?hd (cs := #[.slice none 0 0, .bool false]) (t := 65) ?hr ?_; (case hd => rfl); (case hg => rfl); (case hr => first | (go_simp; done) | (go_simp; rfl)); intro gb204 hg w19 hbox hb; replace HO_203000 := Op.k (Kd.S_below (Kd.S_elderB (Op.st HO_203000.out) gb204 (Nat.le_of_eq hg.symm)) hb); replace HO_203001 := Op.k (Kd.R_below (Op.rt HO_203001.out) hb); have BK204 := Op.k (hbox); have GW204 := Op.k ((Op.nz hg (Op.ht HB.out) : w.heap.size ≤ gb204)); have GE204 := Op.k ((Op.nz hg (Op.ht HB.out) : w.heap.size ≤ gb204)); replace HB := Op.k (Op.a5 (Op.ht HB.out) hb); have NB197_204 := Op.k ((by rw [hg]; exact Nat.ne_of_lt (blk_lt (Op.bt BK197.out)) : gb197 ≠ gb204)); have NB204_197 := Op.k ((by rw [hg]; exact Nat.ne_of_gt (blk_lt (Op.bt BK197.out)) : gb204 ≠ gb197)); replace BK197 := Op.k (Op.b4 (Op.bt BK197.out) hb); have NB198_204 := Op.k ((Op.nl hg (Op.bt BK198.out) : gb198 ≠ gb204)); have NB204_198 := Op.k ((Op.ng hg (Op.bt BK198.out) : gb204 ≠ gb198)); replace BK198 := Op.k (Op.b4 (Op.bt BK198.out) hb); have NB202_204 := Op.k ((Op.nl hg (Op.bt BK202.out) : gb202 ≠ gb204)); have NB204_202 := Op.k ((Op.ng hg (Op.bt BK202.out) : gb204 ≠ gb202)); replace BK202 := Op.k (Op.b4 (Op.bt BK202.out) hb); clear hb hbox hg; have hnb20 := NB204_197.out; have hnc20 := NB197_204.out; have hnb21 := NB204_198.out; have hnc21 := NB198_204.out; have hnb22 := NB204_202.out; have hnc22 := NB202_204.out; have hcz23_0 := Op.c0 BK204.out; have hcz23_1 := Op.c1 BK204.out; have hfz23_0 := Op.bf BK204.out 0; have hfz23_1 := Op.bf BK204.out 1))
       have n0_ : Aside0 (Kd.S k65 65 ((w19.setCell ⟨gb204, 0, none⟩ (.slice A203_0 ((rd_T65 l0_0 x13_1).f0).length c203_0)).setCell ⟨gb204, 1, none⟩ (.bool ((rd_T65 l0_0 x13_1).f1))) w.heap.size (fun k_ => some k_ ≠ (.slice Ao8 t199.length co8 : Value).ownBlock ∧ k_ ≠ gb204) u203000 x203000_1) := ⟨by (with_reducible repeat (first | apply Kd.S_alloc | apply Kd.S_drewN | apply Kd.S_drew)); exact Kd.S_mono (Kd.S_far (p := ⟨gb204, 1, none⟩) (Kd.S_far (p := ⟨gb204, 0, none⟩) (Kd.S_mono HO_203000.out (fun k_ hk => (⟨hk, hk.2⟩ : _ ∧ k_ ≠ gb204))) (fun _ hk => hk.2) (.slice A203_0 ((rd_T65 l0_0 x13_1).f0).length c203_0)) (fun _ hk => hk.2) (.bool ((rd_T65 l0_0 x13_1).f1))) (fun _ hk => ⟨hk.1.1, hk.1.2⟩)⟩
       have n1_ : Aside0 (Kd.R (Kd.int .i64) 3 ((w19.setCell ⟨gb204, 0, none⟩ (.slice A203_0 ((rd_T65 l0_0 x13_1).f0).length c203_0)).setCell ⟨gb204, 1, none⟩ (.bool ((rd_T65 l0_0 x13_1).f1))) w.heap.size (fun _ => True) (.slice Ao8 t199.length co8) t199) := ⟨Kd.R_mono (Op.rf HO_203001.out BK204.out) (fun _ hk => trivial)⟩
       have n2_ : Aside0 (((w19.setCell ⟨gb204, 0, none⟩ (.slice A203_0 ((rd_T65 l0_0 x13_1).f0).length c203_0)).setCell ⟨gb204, 1, none⟩ (.bool ((rd_T65 l0_0 x13_1).f1))).heap[gb197]? = some (.cells #[.slice (some ad203) l0_0.length c0_0, .slice A0_1 l0_1.length c0_1] 25 (0, 0))) := ⟨Op.bt BK197.out⟩
       have n3_ : Aside0 (((w19.setCell ⟨gb204, 0, none⟩ (.slice A203_0 ((rd_T65 l0_0 x13_1).f0).length c203_0)).setCell ⟨gb204, 1, none⟩ (.bool ((rd_T65 l0_0 x13_1).f1))).heap[gb198]? = some (.cells #[.slice none 0 0, .slice none 0 0] 25 (0, 0))) := ⟨Op.bt BK198.out⟩
       have n4_ : Aside0 (((w19.setCell ⟨gb204, 0, none⟩ (.slice A203_0 ((rd_T65 l0_0 x13_1).f0).length c203_0)).setCell ⟨gb204, 1, none⟩ (.bool ((rd_T65 l0_0 x13_1).f1))).heap[gb202]? = some (.cells #[u203000, .slice Ao8 t199.length co8] 25 (0, 0))) := ⟨Op.bt BK202.out⟩
       have n5_ : Aside0 (((w19.setCell ⟨gb204, 0, none⟩ (.slice A203_0 ((rd_T65 l0_0 x13_1).f0).length c203_0)).setCell ⟨gb204, 1, none⟩ (.bool ((rd_T65 l0_0 x13_1).f1))).heap[gb204]? = some (.cells #[.slice A203_0 ((rd_T65 l0_0 x13_1).f0).length c203_0, .bool ((rd_T65 l0_0 x13_1).f1)] 65 (0, 0))) := ⟨Op.bv BK204.out⟩
       have n6_ : Aside0 (Below w.heap.size w ((w19.setCell ⟨gb204, 0, none⟩ (.slice A203_0 ((rd_T65 l0_0 x13_1).f0).length c203_0)).setCell ⟨gb204, 1, none⟩ (.bool ((rd_T65 l0_0 x13_1).f1)))) := ⟨Op.ht HB.out⟩
       (try clear HO_203000)
       (try clear HO_203001)
       (try clear BK197)
       (try clear BK198)
       (try clear BK202)
       (try clear BK204)
       (try clear HB)
       generalize ((w19.setCell ⟨gb204, 0, none⟩ (.slice A203_0 ((rd_T65 l0_0 x13_1).f0).length c203_0)).setCell ⟨gb204, 1, none⟩ (.bool ((rd_T65 l0_0 x13_1).f1))) = w24 at n0_ n1_ n2_ n3_ n4_ n5_ n6_ ⊢
       have HO_203000 := n0_
       have HO_203001 := n1_
       have BK197 := n2_
       have BK198 := n3_
       have BK202 := n4_
       have BK204 := n5_
       have HB := n6_
       clear n0_ n1_ n2_ n3_ n4_ n5_ n6_
       replace HO_203000 := Op.k (Kd.S_drew HO_203000.out)
       replace HO_203001 := Op.k (Kd.R_drew HO_203001.out)
       replace BK197 := Op.k (Op.b2 BK197.out)
       replace BK198 := Op.k (Op.b2 BK198.out)
       replace BK202 := Op.k (Op.b2 BK202.out)
       replace BK204 := Op.k (Op.b2 BK204.out)
       replace HB := Op.k (Op.a3 HB.out)
       refine start_ (n := 12) (S := fun w' => w'.cell? ⟨gb202, 0, none⟩ = some (u203000) ∧ w'.cell? ⟨gb202, 1, none⟩ = some (.slice Ao8 t199.length co8) ∧ w'.cell? ⟨gb204, 0, none⟩ = some (.slice A203_0 ((rd_T65 l0_0 x13_1).f0).length c203_0) ∧ w'.cell? ⟨gb204, 1, none⟩ = some (.bool ((rd_T65 l0_0 x13_1).f1))) (ds := [11]) #[false, false, false, false, false, false, false, false, false, false, false, false] (by kernel_rfl) rfl rfl ⟨(blk_cell BK202.out 0).trans rfl, (blk_cell BK202.out 1).trans rfl, (blk_cell BK204.out 0).trans rfl, (blk_cell BK204.out 1).trans rfl⟩ (fun hHeld => ?_); refine with_tabW impl_ownPool.tab5 impl_ownPool.bits5 (fun HT_ HW_ => ?_)
       generalize w24.drew = w25 at HO_203000 HO_203001 BK197 BK198 BK202 BK204 HB hHeld ⊢
       refine pure_ (i := 0) (N := some 17) (v := ?_) (a' := ?_) #[true, false, false, false, false, false, false, false, false, false, false, false] rfl rfl (any_of HT_.out (by kernel_rfl)) (fun _ _ _ h => h) (Or.inl ⟨by rfl, ?_⟩) ?_ ?_
       rotate_left
       ·intro w'
        go_simp
        with_reducible rfl
       rotate_left
       ·simp only [Act.put, List.setIfInBounds_toArray, List.set_cons_zero, List.set_cons_succ, i64_w, i32_w]
        rfl
       refine pure_ (i := 2) (N := some 19) (v := ?_) (a' := ?_) #[true, false, true, false, false, false, false, false, false, false, false, false] rfl rfl (any_of HT_.out (by kernel_rfl)) (fun _ _ _ h => h) (Or.inl ⟨by rfl, ?_⟩) ?_ ?_
       rotate_left
       ·intro w'
        go_simp
        with_reducible rfl
       rotate_left
       ·simp only [Act.put, List.setIfInBounds_toArray, List.set_cons_zero, List.set_cons_succ, i64_w, i32_w]
        rfl
       refine pure_ (i := 5) (N := some 22) (v := ?_) (a' := ?_) #[true, false, true, false, false, true, false, false, false, false, false, false] rfl rfl (any_of HT_.out (by kernel_rfl)) (fun _ _ _ h => h) (Or.inl ⟨by rfl, ?_⟩) ?_ ?_
       rotate_left
       ·intro w'
        go_simp
        with_reducible rfl
       rotate_left
       ·simp only [Act.put, List.setIfInBounds_toArray, List.set_cons_zero, List.set_cons_succ, i64_w, i32_w]
        rfl
       refine take_ (i := 1) (N := some 18) (v := ?_) (a' := ?_) #[true, true, true, false, false, true, false, false, false, false, false, false] rfl rfl (take_ofW HT_.out HW_.out (by kernel_rfl)) (fun _ _ _ h => h) (Or.inl ⟨by rfl, ?_⟩) hHeld ?_ ?_
       rotate_left
       ·rintro w' ⟨s0, s1, s2, s3⟩
        go_simp
        with_reducible rfl
       rotate_left
       ·simp only [Act.put, List.setIfInBounds_toArray, List.set_cons_zero, List.set_cons_succ, i64_w, i32_w]
        rfl
       refine take_ (i := 3) (N := some 20) (v := ?_) (a' := ?_) #[true, true, true, true, false, true, false, false, false, false, false, false] rfl rfl (take_ofW HT_.out HW_.out (by kernel_rfl)) (fun _ _ _ h => h) (Or.inl ⟨by rfl, ?_⟩) hHeld ?_ ?_
       rotate_left
       ·rintro w' ⟨s0, s1, s2, s3⟩
        go_simp
        with_reducible rfl
       rotate_left
       ·simp only [Act.put, List.setIfInBounds_toArray, List.set_cons_zero, List.set_cons_succ, i64_w, i32_w]
        rfl
       refine take_ (i := 6) (N := some 23) (v := ?_) (a' := ?_) #[true, true, true, true, false, true, true, false, false, false, false, false] rfl rfl (take_ofW HT_.out HW_.out (by kernel_rfl)) (fun _ _ _ h => h) (Or.inl ⟨by rfl, ?_⟩) hHeld ?_ ?_
       rotate_left
       ·rintro w' ⟨s0, s1, s2, s3⟩
        go_simp
        with_reducible rfl
       rotate_left
       ·simp only [Act.put, List.setIfInBounds_toArray, List.set_cons_zero, List.set_cons_succ, i64_w, i32_w]
        rfl
       refine one_ (i := 4) (N := some 21) #[true, true, true, true, true, true, true, false, false, false, false, false] rfl rfl (one_of HT_.out (by kernel_rfl)) (by decide) (fun K hK => ?_)
       refine goes_ Try.func68 (by kernel_rfl) rfl #[.slice A203_0 ((rd_T65 l0_0 x13_1).f0).length c203_0] (by rfl) rfl rfl (by (try simp only [List.map_toArray, List.map_cons, List.map_nil]); first | done | rfl | (simp only [List.length_drop, List.length_take]; rfl)) ?_
       with_reducible refine (slices_Clone_int_int.calls _ _ ((rd_T65 l0_0 x13_1).f0) t205 _ ?side1 ?side2 A17.out).mono ?_
       (case side1 => exact Op.ct (Kd.C_below HR203_0.out HB.out))
       (case side2 => exact HC203_0.out)
       rintro e w26 ⟨v206, rfl, ho0, hb⟩
       refine ⟨_, rfl, ?_⟩
       replace HO_203000 := Op.k (Kd.S_elder' (Op.st HO_203000.out) (Kd.R_base ho0) hb)
       have HO207 := Op.k (Kd.R_lower (Kd.R_new' ho0 (Kd.R_lt (Op.rt HO_203001.out))) (Op.a6 (Op.ht HB.out)))
       replace HO_203001 := Op.k (Kd.R_elder' (Op.rt HO_203001.out) (Kd.R_base ho0) hb)
       replace BK197 := Op.k (Op.b4 (Op.bt BK197.out) hb)
       replace BK198 := Op.k (Op.b4 (Op.bt BK198.out) hb)
       replace BK202 := Op.k (Op.b4 (Op.bt BK202.out) hb)
       replace BK204 := Op.k (Op.b4 (Op.bt BK204.out) hb)
       replace HB := Op.k (Op.a5 (Op.ht HB.out) hb)
       (try clear hb)
       (try clear hb2)
       (try clear hk)
       (try clear hi)
       (try clear ho0)
       obtain ⟨Ao27, co27, eo27⟩ := Kd.R_slice HO207.out
       (first | subst eo27 | (injection eo27 with f1_ f2_ f3_; have f4_ := f1_.symm; have f5_ := f3_.symm; clear f1_ f2_ f3_; subst f4_; subst f5_))
       refine hK.out _ _ ⟨(blk_cell BK202.out 0).trans rfl, (blk_cell BK202.out 1).trans rfl, (blk_cell BK204.out 0).trans rfl, (blk_cell BK204.out 1).trans rfl⟩ (fun hHeld => ?_)
       clear hK K
       refine norm_ (a' := ?_) ?_ ?_
       rotate_left
       ·show Act.put _ (some 21) _ = _
        simp only [Act.put, List.setIfInBounds_toArray, List.set_cons_zero, List.set_cons_succ, i64_w, i32_w]
        rfl
       refine pure_ (i := 7) (N := some 24) (v := ?_) (a' := ?_) #[true, true, true, true, true, true, true, true, false, false, false, false] rfl rfl (any_of HT_.out (by kernel_rfl)) (fun _ _ _ h => h) (Or.inl ⟨by rfl, ?_⟩) ?_ ?_
       rotate_left
       ·intro w'
        go_simp
        with_reducible rfl
       rotate_left
       ·simp only [Act.put, List.setIfInBounds_toArray, List.set_cons_zero, List.set_cons_succ, i64_w, i32_w]
        rfl
       refine one_ (i := 8) (N := some 25) #[true, true, true, true, true, true, true, true, true, false, false, false] rfl rfl (one_of HT_.out (by kernel_rfl)) (by decide) (fun K hK => ?_)
       refine value_ (w1 := ?_) (v := ?_) (by rfl) rfl ?_ ?_
       rotate_left 2
       ·go_simp
        constructor
        ·rfl
        ·rfl
       refine hK.out _ _ ⟨(blk_cell (Op.b3 BK202.out _) 0).trans rfl, (blk_cell (Op.b3 BK202.out _) 1).trans rfl, (blk_cell (Op.b3 BK204.out _) 0).trans rfl, (blk_cell (Op.b3 BK204.out _) 1).trans rfl⟩ (fun hHeld => ?_)
       clear hK K
       refine norm_ (a' := ?_) ?_ ?_
       rotate_left
       ·show Act.put _ (some 25) _ = _
        simp only [Act.put, List.setIfInBounds_toArray, List.set_cons_zero, List.set_cons_succ, i64_w, i32_w]
        rfl
       refine one_ (i := 9) (N := some 26) #[true, true, true, true, true, true, true, true, true, true, false, false] rfl rfl (one_of HT_.out (by kernel_rfl)) (by decide) (fun K hK => ?_)
       refine Kd.S_append_step k65 (w0 := w) w.heap.size (by rfl) (.tmp 18) (.tmp 25) 22 65 (.agg #[(.slice none 0 0), (.bool false)]) 32 rfl Try.underlying22 info65 rfl (by decide) (by omega) u203000 x203000_1 (⟨t205, (rd_T65 l0_0 x13_1).f1⟩ : S65) [.slice Ao27 t205.length co27, .bool ((rd_T65 l0_0 x13_1).f1)] (fun k_ => some k_ ≠ (.slice Ao8 t199.length co8 : Value).ownBlock ∧ k_ ≠ gb204) (fun k_ => some k_ = (.slice Ao27 t205.length co27 : Value).ownBlock) rfl rfl ?aP (fun k_ hk_ => ((Kd.R_mono (ok' := fun k_ => ((fun k_ => some k_ ≠ (.slice Ao8 t199.length co8 : Value).ownBlock ∧ k_ ≠ gb204)) k_ ∧ some k_ ≠ (u203000 : Value).ownBlock) (Kd.R_types (Kd.R_apart' (HO207.out) (Kd.S_typed HO_203000.out) (by decide)) BK204.out (by decide)) (fun k_ hk => ⟨⟨hk.1.1.2, hk.2⟩, hk.1.2⟩))).1 k_ hk_.symm) ?aF ?aO ?aB ?aS ?aL ?_
       (case aP => exact k65_mkM _ _ _ (⟨t205, (rd_T65 l0_0 x13_1).f1⟩ : S65) (Kd.R_mono (Kd.R_tight rfl (Kd.R_mono (ok' := fun k_ => ((fun k_ => some k_ ≠ (.slice Ao8 t199.length co8 : Value).ownBlock ∧ k_ ≠ gb204)) k_ ∧ some k_ ≠ (u203000 : Value).ownBlock) (Kd.R_types (Kd.R_apart' (HO207.out) (Kd.S_typed HO_203000.out) (by decide)) BK204.out (by decide)) (fun k_ hk => ⟨⟨hk.1.1.2, hk.2⟩, hk.1.2⟩))) (fun _ h_ => h_)))
       (case aB => exact (Op.ht HB.out))
       (case aF => exact (fun k_ hk => ⟨Kd.fresh' (Kd.R_lt (Op.rt HO_203001.out)) k_ hk, Kd.freshB (Op.bt BK204.out) k_ hk⟩))
       (case aO => exact (Kd.S_mono (Op.st HO_203000.out) (fun k_ hk => ⟨⟨hk.1.1, hk.1.2⟩, fun e_ => hk.2 e_⟩)))
       (case aS => exact (Op.a6 (Op.ht HB.out)))
       (case aL => have := LMc18.out; omega)
       intro v209 w28 ho hb hg hat
       rw [← Ny208.out] at ho
       have n0_ := Op.k (Kd.R_over' (Op.rt HO_203001.out) (Kd.S_typed (Op.st HO_203000.out)) (by decide) hg)
       have n1_ := Op.k (blk_grown (Op.bt BK197.out) hg (Kd.S_ne HO_203000.out BK197.out (by decide)))
       have n2_ := Op.k (blk_grown (Op.bt BK198.out) hg (Kd.S_ne HO_203000.out BK198.out (by decide)))
       have n3_ := Op.k (blk_grown (Op.bt BK202.out) hg (Kd.S_ne HO_203000.out BK202.out (by decide)))
       have n4_ := Op.k (blk_grown (Op.bt BK204.out) hg (Kd.S_away HO_203000.out (fun _ hk => hk.1.2)))
       have n5_ := Op.k (hb)
       have n6_ := Op.k (ho)
       clear HO_203001
       clear BK197
       clear BK198
       clear BK202
       clear BK204
       clear HB
       clear HO_203000
       clear HO207
       have HO_203001 := n0_
       have BK197 := n1_
       have BK198 := n2_
       have BK202 := n3_
       have BK204 := n4_
       have HB := n5_
       have HO210 := n6_
       clear n0_ n1_ n2_ n3_ n4_ n5_ n6_
       clear ho hb hg hat
       obtain ⟨Ao29, co29, eo29⟩ := Kd.S_slice HO210.out
       (first | subst eo29 | (injection eo29 with f1_ f2_ f3_; have f4_ := f1_.symm; have f5_ := f3_.symm; clear f1_ f2_ f3_; subst f4_; subst f5_))
       refine hK.out _ _ ⟨(blk_cell BK202.out 0).trans rfl, (blk_cell BK202.out 1).trans rfl, (blk_cell BK204.out 0).trans rfl, (blk_cell BK204.out 1).trans rfl⟩ (fun hHeld => ?_)
       clear hK K
       refine norm_ (a' := ?_) ?_ ?_
       rotate_left
       ·show Act.put _ (some 26) _ = _
        simp only [Act.put, List.setIfInBounds_toArray, List.set_cons_zero, List.set_cons_succ, i64_w, i32_w]
        rfl
       refine pure_ (i := 10) (N := some 27) (v := ?_) (a' := ?_) #[true, true, true, true, true, true, true, true, true, true, true, false] rfl rfl (any_of HT_.out (by kernel_rfl)) (fun _ _ _ h => h) (Or.inl ⟨by rfl, ?_⟩) ?_ ?_
       rotate_left
       ·intro w'
        go_simp
        with_reducible rfl
       rotate_left
       ·simp only [Act.put, List.setIfInBounds_toArray, List.set_cons_zero, List.set_cons_succ, i64_w, i32_w]
        rfl
       refine last_ (i := 11) (N := none) #[true, true, true, true, true, true, true, true, true, true, true, true] rfl rfl (one_of HT_.out (by kernel_rfl)) (by decide) (fun K hK => ?_)
       have hs30 : w28.cell? ⟨gb202, 0, none⟩ = some (u203000) := (blk_cell BK202.out 0).trans rfl
       have hfs30 := Op.bf BK202.out 0
       have hns30_0 := NB197_202.out
       have hns30_1 := NB198_202.out
       have hns30_3 := NB204_202.out
       have hms30_0 := NB202_197.out
       have hms30_1 := NB202_198.out
       have hms30_3 := NB202_204.out
       refine skip_ (w1 := ?_) (by rfl) rfl ?_ ?_
       rotate_left
       ·go_simp
        rfl
       refine hK.out _ _ ?_
       clear hK K
       refine done_ (done_of HT_.out (by kernel_rfl)) ?_
       try go_wp2
       go_roundg k1
       case measure => have := HK1.out; omega
       case rel => exact ⟨(wrap64 (x13_1 + 1)), (y208), (.slice Ao29 y208.length co29), (by first | rfl | (simp; done) | (simp [*]; done)), H', ⟨by have := HK1.out; omega⟩, ⟨Kd.S_mono (Op.sf HO210.out BK202.out) (fun _ hk => hk.1)⟩, ⟨Kd.R_mono (Op.rf HO_203001.out BK202.out) (fun _ hk => trivial)⟩, ⟨Op.bt BK197.out⟩, ⟨Op.bt BK198.out⟩, ⟨Op.bv BK202.out⟩, ⟨Op.ht HB.out⟩⟩
      ·rw [if_neg c18] at H
       exact absurd H (by simp)
     ·rw [if_neg c16] at H
      exact absurd H (by simp)
    ·rw [if_neg c15] at H
     exact absurd H (by simp)
   ·rw [if_neg c14] at H
    have c14b0 : decide (x13_1 < (l0_0.length : Int)) = false := decide_eq_false c14
    clear c14
    simp only [Option.some.injEq, Prod.mk.injEq] at H
    obtain ⟨rfl, rfl⟩ := H
    have hnb31 := NB202_197.out
    have hnc31 := NB197_202.out
    have hnb32 := NB202_198.out
    have hnc32 := NB198_202.out
    have hcz33_0 := Op.c0 BK202.out
    have hcz33_1 := Op.c1 BK202.out
    have hfz33_0 := Op.bf BK202.out 0
    have hfz33_1 := Op.bf BK202.out 1
    obtain ⟨Ao34, co34, eo34⟩ := Kd.S_slice HO_203000.out
    subst eo34
    have hnb35 := NB198_197.out
    have hnc35 := NB197_198.out
    have hcz36_0 := Op.c0 BK198.out
    have hcz36_1 := Op.c1 BK198.out
    have hfz36_0 := Op.bf BK198.out 0
    have hfz36_1 := Op.bf BK198.out 1
    go_wp2
    refine bodyPost_ret (results_cell_row rfl _ _ gb198 25 #[.slice Ao34 x203000_1.length co34, .slice Ao8 t199.length co8] (0, 0) _ rfl (Op.bv BK198.out) Try.underlying25 rfl (by kernel_rfl)) rfl ?_
    exact ⟨_, _, by first | rfl | (simp [errW_none, errW_some] <;> rfl) | (simp [*, errW_none, errW_some] <;> rfl), Op.sm (Op.sf HO_203000.out BK198.out), Op.rm (Op.rf HO_203001.out BK198.out), Op.ht HB.out⟩

/-! ### impl_CloneOf: function 32 -/
def impl_CloneOf.f (k : Nat) (l0_0 : List (S65)) (l0_1 : List Int) (a1 : Int) : Option ((List (S65)) × List Int × Bool) := (impl_isVersion.f l0_0 l0_1 (([a1] : List Int))).bind fun t216 => (if t216 = true then (if (l0_1.length : Int) = 40 then (some (([] : List (S65)), ([] : List Int), false)) else ((impl_ownPool.f k l0_0 l0_1).bind fun bt217 => (if 0 ≤ a1 then (if a1 < (l0_1.length : Int) then (if bt217.2.length < 17592186044416 then (some (bt217.1, (bt217.2 ++ [rd l0_1 a1]), true)) else (none)) else (none)) else (none)))) else (some (([] : List (S65)), ([] : List Int), false)))
theorem impl_CloneOf.mono : ∀ a0 a1 a2 k, LeO (impl_CloneOf.f k a0 a1 a2) (impl_CloneOf.f (k + 1) a0 a1 a2) := by
 intro a0 a1 a2 k
 unfold impl_CloneOf.f
 repeat' first
   | (with_reducible exact impl_ownPool.mono _ _ _)
   | (with_reducible exact LeO.refl _)
   | (with_reducible exact LeO.none _)
   | (with_reducible refine LeO.ite ?_ ?_)
   | (with_reducible refine LeO.bind ?_ (fun _ => ?_))
   | exact impl_ownPool.mono _ _ _
   | exact LeO.none _
   | refine LeO.ite ?_ ?_
   | refine LeO.bind ?_ (fun _ => ?_)
def impl_CloneOf.T4 : Bool × List (List Nat × List Nat) := (true, [([], []), ([0], [0]), ([], []), ([2], [2]), ([], []), ([3, 4], [3, 4]), ([5], [5]), ([6], [6]), ([1, 7], [1, 7]), ([0, 1, 2, 3, 4, 5, 6, 7, 8], []), ([9, 8, 8, 0, 1, 2, 3, 4, 5, 6, 7, 8], [8, 9])])
def impl_CloneOf.B4 : List Nat := [0, 1, 0, 4, 0, 28, 60, 124, 255, 511, 1023]
theorem impl_CloneOf.tab4 : rtab .any (opsOf Try.f32 4) = impl_CloneOf.T4 := by kernel_rfl
theorem impl_CloneOf.bits4 : waitsOk impl_CloneOf.T4.2 impl_CloneOf.B4 = true := by kernel_rfl
set_option maxHeartbeats 8000000 in
set_option maxRecDepth 100000 in
theorem impl_CloneOf.calls (k : Nat) (A0_0 : Option Addr) (c0_0 : Nat) (l0_0 : List (S65)) (A0_1 : Option Addr) (c0_1 : Nat) (l0_1 : List Int) (a1 : Int) (r1 : List (S65)) (r2 : List Int) (r3 : Bool) (w : World) (hr0_0 : Kd.C k65 w A0_0 l0_0.length l0_0) (hc0_0 : l0_0.length ≤ c0_0) (hr0_1 : Kd.C (Kd.int .i64) w A0_1 l0_1.length l0_1) (hc0_1 : l0_1.length ≤ c0_1) (h : impl_CloneOf.f k l0_0 l0_1 a1 = some (r1, r2, r3)) :
  Calls Try.prog 32 #[.agg #[.slice A0_0 l0_0.length c0_0, .slice A0_1 l0_1.length c0_1], .int .i64 a1] w fun e w' => ∃ v0_ v1_ : Value, e = .returned (.tuple #[.agg #[v0_, v1_], .bool r3]) ∧ Kd.S k65 65 w' w.heap.size (fun k_ => some k_ ≠ (v1_ : Value).ownBlock) v0_ r1 ∧ Kd.R (Kd.int .i64) 3 w' w.heap.size (fun _ => True) v1_ r2 ∧ Below w.heap.size w w' := by
 have hu25 := Try.underlying25
 have HR0_0 := Op.k hr0_0
 have HC0_0 := Op.k hc0_0
 clear hr0_0 hc0_0
 have HR0_1 := Op.k hr0_1
 have HC0_1 := Op.k hc0_1
 clear hr0_1 hc0_1
 have HB := Op.k (Below.refl w.heap.size w)
 have H : ((impl_isVersion.f l0_0 l0_1 (([a1] : List Int))).bind fun t216 => (if t216 = true then (if (l0_1.length : Int) = 40 then (some (([] : List (S65)), ([] : List Int), false)) else ((impl_ownPool.f k l0_0 l0_1).bind fun bt217 => (if 0 ≤ a1 then (if a1 < (l0_1.length : Int) then (if bt217.2.length < 17592186044416 then (some (bt217.1, (bt217.2 ++ [rd l0_1 a1]), true)) else (none)) else (none)) else (none)))) else (some (([] : List (S65)), ([] : List Int), false)))) = some (r1, r2, r3) := h
 clear h
 obtain ⟨y213, hy213⟩ : ∃ y_ : List Int, y_ = (([a1] : List Int)) := ⟨_, rfl⟩
 replace H : ((impl_isVersion.f l0_0 l0_1 y213).bind fun t216 => (if t216 = true then (if (l0_1.length : Int) = 40 then (some (([] : List (S65)), ([] : List Int), false)) else ((impl_ownPool.f k l0_0 l0_1).bind fun bt217 => (if 0 ≤ a1 then (if a1 < (l0_1.length : Int) then (if bt217.2.length < 17592186044416 then (some (bt217.1, (bt217.2 ++ [rd l0_1 a1]), true)) else (none)) else (none)) else (none)))) else (some (([] : List (S65)), ([] : List Int), false)))) = some (r1, r2, r3) := by first | (rw [hy213]; with_reducible exact H) | (have H2_ := (Option.bind_some _ _).symm.trans H; rw [hy213]; with_reducible exact H2_) | (have H2_ := (Option.bind_some _ _).symm.trans H; with_reducible exact H2_) | with_reducible exact H | (rw [hy213]; exact H) | exact H
 have Ny213 := Op.k hy213
 clear hy213
 replace H := Option.bind_eq_some_iff.mp H
 obtain ⟨t216, A30, H⟩ := H
 try dsimp only at H
 have A3 := Op.k A30
 clear A30
 by_cases c4 : t216 = true
 ·subst c4
  have H1 : (if (l0_1.length : Int) = 40 then (some (([] : List (S65)), ([] : List Int), false)) else ((impl_ownPool.f k l0_0 l0_1).bind fun bt217 => (if 0 ≤ a1 then (if a1 < (l0_1.length : Int) then (if bt217.2.length < 17592186044416 then (some (bt217.1, (bt217.2 ++ [rd l0_1 a1]), true)) else (none)) else (none)) else (none)))) = some (r1, r2, r3) := by rw [if_pos rfl] at H; exact H
  clear H
  have H := H1
  clear H1
  by_cases c5 : (l0_1.length : Int) = 40
  ·rw [if_pos c5] at H
   have c5b0 : ((l0_1.length : Int) == 40) = true := beq_iff_eq.mpr c5
   have c5b1 : ((l0_1.length : Int) != 40) = false := bne_eq_false_iff_eq.mpr c5
   clear c5
   simp only [Option.some.injEq, Prod.mk.injEq] at H
   obtain ⟨rfl, rfl, rfl⟩ := H
   go_enter Try.func32, Try.ntmps32
   go_wp2_with (first | ((with_reducible refine gate_dst (N := 2) rfl ?_); (try (refine gate_guard (by rfl) ?_; dsimp only)); refine box_event ?hg (N := 2) ?hd (cs := #[.slice A0_0 l0_0.length c0_0, .slice A0_1 l0_1.length c0_1]) (t := 25) ?hr ?_; (case hd => rfl); (case hg => rfl); (case hr => first | (go_simp; done) | (go_simp; rfl)); intro gb211 hg w6 hbox hb; have BK211 := Op.k (hbox); have GW211 := Op.k ((Op.nz hg (Op.ht HB.out) : w.heap.size ≤ gb211)); have GE211 := Op.k ((Op.nz hg (Op.ht HB.out) : w.heap.size ≤ gb211)); replace HB := Op.k (Op.a5 (Op.ht HB.out) hb); clear hb hbox hg) | ((with_reducible refine gate_dst (N := 4) rfl ?_); (try (refine gate_guard (by rfl) ?_; dsimp only)); refine box_event ?hg (N := 4) ?hd (cs := #[.slice none 0 0, .slice none 0 0]) (t := 25) ?hr ?_; (case hd => rfl); (case hg => rfl); (case hr => first | (go_simp; done) | (go_simp; rfl)); intro gb212 hg w7 hbox hb; have BK212 := Op.k (hbox); have GW212 := Op.k ((Op.nz hg (Op.ht HB.out) : w.heap.size ≤ gb212)); have GE212 := Op.k ((Op.nz hg (Op.ht HB.out) : w.heap.size ≤ gb212)); replace HB := Op.k (Op.a5 (Op.ht HB.out) hb); have NB211_212 := Op.k ((Op.nl hg (Op.bt BK211.out) : gb211 ≠ gb212)); have NB212_211 := Op.k ((Op.ng hg (Op.bt BK211.out) : gb212 ≠ gb211)); replace BK211 := Op.k (Op.b4 (Op.bt BK211.out) hb); clear hb hbox hg; have hnb8 := NB211_212.out; have hnc8 := NB212_211.out; have hcz9_0 := Op.c0 BK211.out; have hcz9_1 := Op.c1 BK211.out; have hfz9_0 := Op.bf BK211.out 0; have hfz9_1 := Op.bf BK211.out 1) | ((with_reducible refine gate_dst (N := 9) rfl ?_); (try (refine gate_guard (by rfl) ?_; dsimp only)); refine Kd.R_lit (Kd.int .i64) _ 3 ?hg (N := 9) ?hd (xs := ([a1] : List Int)) (inner := [.int .i64 a1]) (ok := fun _ => True) (okp := fun _ => True) ?hr ?hp (fun _ hk => hk) trivial (Below.refl _ _) (Nat.le_refl _) (by simp) ?_; (case hd => rfl); (case hg => rfl); (case hr => first | (go_simp; done) | (go_simp; rfl)); (case hp => exact (Reps.one (show Kd.M (Kd.int .i64) _ _ _ a1 [.int .i64 a1] from rfl) (Reps.none _ _))); intro v214 w10 ho11 hb hg_ hnew_; clear hg_ hnew_; (first | rw [← Ny213.out] at ho11 | (simp only [Int.reduceToNat] at ho11; rw [← Ny213.out] at ho11)); have HO215 := Op.k (Kd.R_lower ho11 (Op.a6 (Op.ht HB.out))); replace BK211 := Op.k (Op.b4 (Op.bt BK211.out) hb); replace BK212 := Op.k (Op.b4 (Op.bt BK212.out) hb); replace HB := Op.k (Op.a5 (Op.ht HB.out) hb); clear hb ho11; obtain ⟨Ao12, co12, eo12⟩ := Kd.R_slice HO215.out; subst eo12) | ((with_reducible refine gate_callee (f := 61) rfl ?_); refine goesL_ (some 10) rfl rfl Try.func61 (by kernel_rfl) rfl #[.agg #[.slice A0_0 l0_0.length c0_0, .slice A0_1 l0_1.length c0_1], .slice Ao12 y213.length co12] rfl (by (try simp only [List.map_toArray, List.map_cons, List.map_nil]); first | done | rfl | (simp only [List.length_drop, List.length_take]; rfl)) ?_; (with_reducible refine (impl_isVersion.calls _ _ l0_0 _ _ l0_1 _ _ y213 true _ ?side1 ?side2 ?side3 ?side4 ?side5 ?side6 A3.out).mono ?_); (case side1 => exact Op.ct (Kd.C_below HR0_0.out HB.out)); (case side2 => exact HC0_0.out); (case side3 => exact Op.ct (Kd.C_below HR0_1.out HB.out)); (case side4 => exact HC0_1.out); (case side5 => exact Op.ct (Kd.R_reads' HO215.out).2.2); (case side6 => exact (Kd.R_reads' HO215.out).2.1); rintro e w13 ⟨rfl, hb⟩; refine ⟨_, rfl, ?_⟩; replace HO215 := Op.k (Kd.R_below (Op.rt HO215.out) hb); replace BK211 := Op.k (Op.b4 (Op.bt BK211.out) hb); replace BK212 := Op.k (Op.b4 (Op.bt BK212.out) hb); replace HB := Op.k (Op.a5 (Op.ht HB.out) hb); (try clear hb); (try clear hb2); (try clear hk); (try clear hi); have hcz14_0 := Op.c0 BK211.out; have hcz14_1 := Op.c1 BK211.out; have hfz14_0 := Op.bf BK211.out 0; have hfz14_1 := Op.bf BK211.out 1; have hcz15_0 := Op.c0 BK212.out; have hcz15_1 := Op.c1 BK212.out; have hfz15_0 := Op.bf BK212.out 0; have hfz15_1 := Op.bf BK212.out 1))
   refine bodyPost_ret (results_ct rfl _ _ gb212 25 #[.slice none 0 0, .slice none 0 0] (0, 0) _ rfl (Op.bv BK212.out) Try.underlying25 rfl (by kernel_rfl)) rfl ?_
   exact ⟨_, _, by first | rfl | (simp [errW_none, errW_some] <;> rfl) | (simp [*, errW_none, errW_some] <;> rfl), by first | exact Kd.S_nil _ _ _ _ _ | exact Kd.N_nil _ _ _ _ _ | exact Kd.V_nil _ _ _ _ _ | exact Kd.Q_nil _ _ _ _ _ | exact Kd.R_nil _ _ _ _ _, by first | exact Kd.R_nil _ _ _ _ _ | exact Kd.N_nil _ _ _ _ _ | exact Kd.V_nil _ _ _ _ _ | exact Kd.Q_nil _ _ _ _ _ | exact Kd.S_nil _ _ _ _ _, Op.ht HB.out⟩
  ·rw [if_neg c5] at H
   have c5b0 : ((l0_1.length : Int) == 40) = false := beq_eq_false_iff_ne.mpr c5
   have c5b1 : ((l0_1.length : Int) != 40) = true := bne_iff_ne.mpr c5
   replace H := Option.bind_eq_some_iff.mp H
   obtain ⟨⟨t217, t220⟩, A160, H⟩ := H
   try dsimp only at H
   have A16 := Op.k A160
   clear A160
   by_cases c17 : 0 ≤ a1
   ·rw [if_pos c17] at H
    have c17b0 : decide (0 ≤ a1) = true := decide_eq_true c17
    clear c17
    by_cases c18 : a1 < (l0_1.length : Int)
    ·rw [if_pos c18] at H
     have c18b0 : decide (a1 < (l0_1.length : Int)) = true := decide_eq_true c18
     clear c18
     by_cases c19 : t220.length < 17592186044416
     ·rw [if_pos c19] at H
      have LMc19 := Op.k c19
      clear c19
      obtain ⟨y225, hy225⟩ : ∃ y_ : List Int, y_ = (t220 ++ [rd l0_1 a1]) := ⟨_, rfl⟩
      replace H : (some (t217, y225, true)) = some (r1, r2, r3) := by first | (rw [hy225]; with_reducible exact H) | (have H2_ := (Option.bind_some _ _).symm.trans H; rw [hy225]; with_reducible exact H2_) | (have H2_ := (Option.bind_some _ _).symm.trans H; with_reducible exact H2_) | with_reducible exact H | (rw [hy225]; exact H) | exact H
      have Ny225 := Op.k hy225
      clear hy225
      simp only [Option.some.injEq, Prod.mk.injEq] at H
      obtain ⟨rfl, rfl, rfl⟩ := H
      go_enter Try.func32, Try.ntmps32
      try go_wp2_with (first | ((with_reducible refine gate_dst (N := 2) rfl ?_); (try (refine gate_guard (by rfl) ?_; dsimp only)); refine box_event ?hg (N := 2) ?hd (cs := #[.slice A0_0 l0_0.length c0_0, .slice A0_1 l0_1.length c0_1]) (t := 25) ?hr ?_; (case hd => rfl); (case hg => rfl); (case hr => first | (go_simp; done) | (go_simp; rfl)); intro gb211 hg w20 hbox hb; have BK211 := Op.k (hbox); have GW211 := Op.k ((Op.nz hg (Op.ht HB.out) : w.heap.size ≤ gb211)); have GE211 := Op.k ((Op.nz hg (Op.ht HB.out) : w.heap.size ≤ gb211)); replace HB := Op.k (Op.a5 (Op.ht HB.out) hb); clear hb hbox hg) | ((with_reducible refine gate_dst (N := 4) rfl ?_); (try (refine gate_guard (by rfl) ?_; dsimp only)); refine box_event ?hg (N := 4) ?hd (cs := #[.slice none 0 0, .slice none 0 0]) (t := 25) ?hr ?_; (case hd => rfl); (case hg => rfl); (case hr => first | (go_simp; done) | (go_simp; rfl)); intro gb212 hg w21 hbox hb; have BK212 := Op.k (hbox); have GW212 := Op.k ((Op.nz hg (Op.ht HB.out) : w.heap.size ≤ gb212)); have GE212 := Op.k ((Op.nz hg (Op.ht HB.out) : w.heap.size ≤ gb212)); replace HB := Op.k (Op.a5 (Op.ht HB.out) hb); have NB211_212 := Op.k ((Op.nl hg (Op.bt BK211.out) : gb211 ≠ gb212)); have NB212_211 := Op.k ((Op.ng hg (Op.bt BK211.out) : gb212 ≠ gb211)); replace BK211 := Op.k (Op.b4 (Op.bt BK211.out) hb); clear hb hbox hg; have hnb22 := NB211_212.out; have hnc22 := NB212_211.out; have hcz23_0 := Op.c0 BK211.out; have hcz23_1 := Op.c1 BK211.out; have hfz23_0 := Op.bf BK211.out 0; have hfz23_1 := Op.bf BK211.out 1) | ((with_reducible refine gate_dst (N := 9) rfl ?_); (try (refine gate_guard (by rfl) ?_; dsimp only)); refine Kd.R_lit (Kd.int .i64) _ 3 ?hg (N := 9) ?hd (xs := ([a1] : List Int)) (inner := [.int .i64 a1]) (ok := fun _ => True) (okp := fun _ => True) ?hr ?hp (fun _ hk => hk) trivial (Below.refl _ _) (Nat.le_refl _) (by simp) ?_; (case hd => rfl); (case hg => rfl); (case hr => first | (go_simp; done) | (go_simp; rfl)); (case hp => exact (Reps.one (show Kd.M (Kd.int .i64) _ _ _ a1 [.int .i64 a1] from rfl) (Reps.none _ _))); intro v214 w24 ho25 hb hg_ hnew_; clear hg_ hnew_; (first | rw [← Ny213.out] at ho25 | (simp only [Int.reduceToNat] at ho25; rw [← Ny213.out] at ho25)); have HO215 := Op.k (Kd.R_lower ho25 (Op.a6 (Op.ht HB.out))); replace BK211 := Op.k (Op.b4 (Op.bt BK211.out) hb); replace BK212 := Op.k (Op.b4 (Op.bt BK212.out) hb); replace HB := Op.k (Op.a5 (Op.ht HB.out) hb); clear hb ho25; obtain ⟨Ao26, co26, eo26⟩ := Kd.R_slice HO215.out; subst eo26) | ((with_reducible refine gate_callee (f := 61) rfl ?_); refine goesL_ (some 10) rfl rfl Try.func61 (by kernel_rfl) rfl #[.agg #[.slice A0_0 l0_0.length c0_0, .slice A0_1 l0_1.length c0_1], .slice Ao26 y213.length co26] rfl (by (try simp only [List.map_toArray, List.map_cons, List.map_nil]); first | done | rfl | (simp only [List.length_drop, List.length_take]; rfl)) ?_; (with_reducible refine (impl_isVersion.calls _ _ l0_0 _ _ l0_1 _ _ y213 true _ ?side1 ?side2 ?side3 ?side4 ?side5 ?side6 A3.out).mono ?_); (case side1 => exact Op.ct (Kd.C_below HR0_0.out HB.out)); (case side2 => exact HC0_0.out); (case side3 => exact Op.ct (Kd.C_below HR0_1.out HB.out)); (case side4 => exact HC0_1.out); (case side5 => exact Op.ct (Kd.R_reads' HO215.out).2.2); (case side6 => exact (Kd.R_reads' HO215.out).2.1); rintro e w27 ⟨rfl, hb⟩; refine ⟨_, rfl, ?_⟩; replace HO215 := Op.k (Kd.R_below (Op.rt HO215.out) hb); replace BK211 := Op.k (Op.b4 (Op.bt BK211.out) hb); replace BK212 := Op.k (Op.b4 (Op.bt BK212.out) hb); replace HB := Op.k (Op.a5 (Op.ht HB.out) hb); (try clear hb); (try clear hb2); (try clear hk); (try clear hi); have hcz28_0 := Op.c0 BK211.out; have hcz28_1 := Op.c1 BK211.out; have hfz28_0 := Op.bf BK211.out 0; have hfz28_1 := Op.bf BK211.out 1) | ((with_reducible refine gate_callee (f := 66) rfl ?_); refine goesL_ (some 20) rfl rfl Try.func66 (by kernel_rfl) rfl #[.agg #[.slice A0_0 l0_0.length c0_0, .slice A0_1 l0_1.length c0_1]] rfl (by (try simp only [List.map_toArray, List.map_cons, List.map_nil]); first | done | rfl | (simp only [List.length_drop, List.length_take]; rfl)) ?_; (with_reducible refine (impl_ownPool.calls k _ _ l0_0 _ _ l0_1 t217 t220 _ ?side1 ?side2 ?side3 ?side4 A16.out).mono ?_); (case side1 => exact Op.ct (Kd.C_below HR0_0.out HB.out)); (case side2 => exact HC0_0.out); (case side3 => exact Op.ct (Kd.C_below HR0_1.out HB.out)); (case side4 => exact HC0_1.out); rintro e w29 ⟨v218, v221, rfl, ho0, ho1, hb⟩; refine ⟨_, rfl, ?_⟩; have HO219 := Op.k (Kd.S_lower (Kd.S_new' ho0 (Kd.R_lt (Op.rt HO215.out))) (Op.a6 (Op.ht HB.out))); have HO222 := Op.k (Kd.R_lower (Kd.R_new' ho1 (Kd.R_lt (Op.rt HO215.out))) (Op.a6 (Op.ht HB.out))); replace HO215 := Op.k (Kd.R_elder' (Op.rt HO215.out) (Kd.R_base ho1) hb); replace BK211 := Op.k (Op.b4 (Op.bt BK211.out) hb); replace BK212 := Op.k (Op.b4 (Op.bt BK212.out) hb); replace HB := Op.k (Op.a5 (Op.ht HB.out) hb); (try clear hb); (try clear hb2); (try clear hk); (try clear hi); (try clear ho0); (try clear ho1)) | ((with_reducible refine gate_dst (N := 6) rfl ?_); (try (refine gate_guard (by rfl) ?_; dsimp only)); refine box_event ?hg (N := 6) ?hd (cs := #[.slice none 0 0, .slice none 0 0]) (t := 25) ?hr ?_; (case hd => rfl); (case hg => rfl); (case hr => first | (go_simp; done) | (go_simp; rfl)); intro gb223 hg w30 hbox hb; replace HO215 := Op.k (Kd.R_below (Op.rt HO215.out) hb); replace HO219 := Op.k (Kd.S_below (Op.st HO219.out) hb); replace HO222 := Op.k (Kd.R_below (Op.rt HO222.out) hb); have BK223 := Op.k (hbox); have GW223 := Op.k ((Op.nz hg (Op.ht HB.out) : w.heap.size ≤ gb223)); have GE223 := Op.k ((Op.nz hg (Op.ht HB.out) : w.heap.size ≤ gb223)); replace HB := Op.k (Op.a5 (Op.ht HB.out) hb); have NB211_223 := Op.k ((Op.nl hg (Op.bt BK211.out) : gb211 ≠ gb223)); have NB223_211 := Op.k ((Op.ng hg (Op.bt BK211.out) : gb223 ≠ gb211)); replace BK211 := Op.k (Op.b4 (Op.bt BK211.out) hb); have NB212_223 := Op.k ((Op.nl hg (Op.bt BK212.out) : gb212 ≠ gb223)); have NB223_212 := Op.k ((Op.ng hg (Op.bt BK212.out) : gb223 ≠ gb212)); replace BK212 := Op.k (Op.b4 (Op.bt BK212.out) hb); clear hb hbox hg; obtain ⟨Ao31, co31, eo31⟩ := Kd.S_slice HO219.out; subst eo31; have hnb32 := NB223_211.out; have hnc32 := NB211_223.out; have hnb33 := NB223_212.out; have hnc33 := NB212_223.out; have hcz34_0 := Op.c0 BK223.out; have hcz34_1 := Op.c1 BK223.out; have hfz34_0 := Op.bf BK223.out 0; have hfz34_1 := Op.bf BK223.out 1; obtain ⟨Ao35, co35, eo35⟩ := Kd.R_slice HO222.out; subst eo35))
      have n0_ : Aside0 (Kd.R (Kd.int .i64) 3 ((w30.setCell ⟨gb223, 0, none⟩ (.slice Ao31 t217.length co31)).setCell ⟨gb223, 1, none⟩ (.slice Ao35 t220.length co35)) w.heap.size (fun k_ => some k_ ≠ (.slice Ao35 t220.length co35 : Value).ownBlock) (.slice Ao26 y213.length co26) y213) := ⟨Kd.R_mono (Op.rf HO215.out BK223.out) (fun _ hk => hk.2)⟩
      have n1_ : Aside0 (Kd.S k65 65 ((w30.setCell ⟨gb223, 0, none⟩ (.slice Ao31 t217.length co31)).setCell ⟨gb223, 1, none⟩ (.slice Ao35 t220.length co35)) w.heap.size (fun k_ => some k_ ≠ (.slice Ao26 y213.length co26 : Value).ownBlock ∧ some k_ ≠ (.slice Ao35 t220.length co35 : Value).ownBlock) (.slice Ao31 t217.length co31) t217) := ⟨Kd.S_mono (Op.sf HO219.out BK223.out) (fun _ hk => ⟨hk.2, hk.1⟩)⟩
      have n2_ : Aside0 (Kd.R (Kd.int .i64) 3 ((w30.setCell ⟨gb223, 0, none⟩ (.slice Ao31 t217.length co31)).setCell ⟨gb223, 1, none⟩ (.slice Ao35 t220.length co35)) w.heap.size (fun k_ => some k_ ≠ (.slice Ao26 y213.length co26 : Value).ownBlock) (.slice Ao35 t220.length co35) t220) := ⟨Kd.R_mono (Op.rf HO222.out BK223.out) (fun _ hk => hk.2)⟩
      have n3_ : Aside0 (((w30.setCell ⟨gb223, 0, none⟩ (.slice Ao31 t217.length co31)).setCell ⟨gb223, 1, none⟩ (.slice Ao35 t220.length co35)).heap[gb211]? = some (.cells #[.slice A0_0 l0_0.length c0_0, .slice A0_1 l0_1.length c0_1] 25 (0, 0))) := ⟨Op.bt BK211.out⟩
      have n4_ : Aside0 (((w30.setCell ⟨gb223, 0, none⟩ (.slice Ao31 t217.length co31)).setCell ⟨gb223, 1, none⟩ (.slice Ao35 t220.length co35)).heap[gb212]? = some (.cells #[.slice none 0 0, .slice none 0 0] 25 (0, 0))) := ⟨Op.bt BK212.out⟩
      have n5_ : Aside0 (((w30.setCell ⟨gb223, 0, none⟩ (.slice Ao31 t217.length co31)).setCell ⟨gb223, 1, none⟩ (.slice Ao35 t220.length co35)).heap[gb223]? = some (.cells #[.slice Ao31 t217.length co31, .slice Ao35 t220.length co35] 25 (0, 0))) := ⟨Op.bv BK223.out⟩
      have n6_ : Aside0 (Below w.heap.size w ((w30.setCell ⟨gb223, 0, none⟩ (.slice Ao31 t217.length co31)).setCell ⟨gb223, 1, none⟩ (.slice Ao35 t220.length co35))) := ⟨Op.ht HB.out⟩
      (try clear HO215)
      (try clear HO219)
      (try clear HO222)
      (try clear BK211)
      (try clear BK212)
      (try clear BK223)
      (try clear HB)
      generalize ((w30.setCell ⟨gb223, 0, none⟩ (.slice Ao31 t217.length co31)).setCell ⟨gb223, 1, none⟩ (.slice Ao35 t220.length co35)) = w36 at n0_ n1_ n2_ n3_ n4_ n5_ n6_ ⊢
      have HO215 := n0_
      have HO219 := n1_
      have HO222 := n2_
      have BK211 := n3_
      have BK212 := n4_
      have BK223 := n5_
      have HB := n6_
      clear n0_ n1_ n2_ n3_ n4_ n5_ n6_
      replace HO215 := Op.k (Kd.R_drew HO215.out)
      replace HO219 := Op.k (Kd.S_drew HO219.out)
      replace HO222 := Op.k (Kd.R_drew HO222.out)
      replace BK211 := Op.k (Op.b2 BK211.out)
      replace BK212 := Op.k (Op.b2 BK212.out)
      replace BK223 := Op.k (Op.b2 BK223.out)
      replace HB := Op.k (Op.a3 HB.out)
      have p224 : 0 ≤ (a1 : Int) := Op.dt
      have q224 : a1 < (l0_1.length : Int) := Op.dt
      obtain ⟨ad224, e224, hx224_0⟩ := Kd.at_int HR0_1.out a1 p224 q224
      have hw224_0 := hx224_0
      cases e224
      replace hx224_0 := (HB.out.cell (World.block_lt_of_cell? w _ hx224_0)).trans hx224_0
      replace p224 := eq_true p224
      replace q224 := eq_true q224
      refine start_ (n := 11) (S := fun w' => w'.cell? ⟨gb223, 0, none⟩ = some (.slice Ao31 t217.length co31) ∧ w'.cell? ⟨gb223, 1, none⟩ = some (.slice Ao35 t220.length co35) ∧ w'.cell? ⟨gb211, 0, none⟩ = some (.slice A0_0 l0_0.length c0_0) ∧ w'.cell? ⟨gb211, 1, none⟩ = some (.slice (some ad224) l0_1.length c0_1) ∧ w'.cell? (ad224.add (a1).toNat) = some (.int .i64 (rd l0_1 a1))) (ds := [10]) #[false, false, false, false, false, false, false, false, false, false, false] (by kernel_rfl) rfl rfl ⟨(blk_cell BK223.out 0).trans rfl, (blk_cell BK223.out 1).trans rfl, (blk_cell BK211.out 0).trans rfl, (blk_cell BK211.out 1).trans rfl, ((HB.out.cell (World.block_lt_of_cell? w _ hw224_0)).trans hw224_0)⟩ (fun hHeld => ?_); refine with_tabW impl_CloneOf.tab4 impl_CloneOf.bits4 (fun HT_ HW_ => ?_)
      generalize w36.drew = w37 at HO215 HO219 HO222 BK211 BK212 BK223 HB hx224_0 hHeld ⊢
      refine pure_ (i := 0) (N := some 21) (v := ?_) (a' := ?_) #[true, false, false, false, false, false, false, false, false, false, false] rfl rfl (any_of HT_.out (by kernel_rfl)) (fun _ _ _ h => h) (Or.inl ⟨by rfl, ?_⟩) ?_ ?_
      rotate_left
      ·intro w'
       go_simp
       with_reducible rfl
      rotate_left
      ·simp only [Act.put, List.setIfInBounds_toArray, List.set_cons_zero, List.set_cons_succ, i64_w, i32_w]
       rfl
      refine pure_ (i := 2) (N := some 23) (v := ?_) (a' := ?_) #[true, false, true, false, false, false, false, false, false, false, false] rfl rfl (any_of HT_.out (by kernel_rfl)) (fun _ _ _ h => h) (Or.inl ⟨by rfl, ?_⟩) ?_ ?_
      rotate_left
      ·intro w'
       go_simp
       with_reducible rfl
      rotate_left
      ·simp only [Act.put, List.setIfInBounds_toArray, List.set_cons_zero, List.set_cons_succ, i64_w, i32_w]
       rfl
      refine pure_ (i := 4) (N := some 25) (v := ?_) (a' := ?_) #[true, false, true, false, true, false, false, false, false, false, false] rfl rfl (any_of HT_.out (by kernel_rfl)) (fun _ _ _ h => h) (Or.inl ⟨by rfl, ?_⟩) ?_ ?_
      rotate_left
      ·intro w'
       go_simp
       with_reducible rfl
      rotate_left
      ·simp only [Act.put, List.setIfInBounds_toArray, List.set_cons_zero, List.set_cons_succ, i64_w, i32_w]
       rfl
      refine take_ (i := 1) (N := some 22) (v := ?_) (a' := ?_) #[true, true, true, false, true, false, false, false, false, false, false] rfl rfl (take_ofW HT_.out HW_.out (by kernel_rfl)) (fun _ _ _ h => h) (Or.inl ⟨by rfl, ?_⟩) hHeld ?_ ?_
      rotate_left
      ·rintro w' ⟨s0, s1, s2, s3, s4⟩
       go_simp
       with_reducible rfl
      rotate_left
      ·simp only [Act.put, List.setIfInBounds_toArray, List.set_cons_zero, List.set_cons_succ, i64_w, i32_w]
       rfl
      refine take_ (i := 3) (N := some 24) (v := ?_) (a' := ?_) #[true, true, true, true, true, false, false, false, false, false, false] rfl rfl (take_ofW HT_.out HW_.out (by kernel_rfl)) (fun _ _ _ h => h) (Or.inl ⟨by rfl, ?_⟩) hHeld ?_ ?_
      rotate_left
      ·rintro w' ⟨s0, s1, s2, s3, s4⟩
       go_simp
       with_reducible rfl
      rotate_left
      ·simp only [Act.put, List.setIfInBounds_toArray, List.set_cons_zero, List.set_cons_succ, i64_w, i32_w]
       rfl
      refine pure_ (i := 5) (N := some 26) (v := ?_) (a' := ?_) #[true, true, true, true, true, true, false, false, false, false, false] rfl rfl (any_of HT_.out (by kernel_rfl)) (fun _ _ _ h => h) (Or.inl ⟨by rfl, ?_⟩) ?_ ?_
      rotate_left
      ·intro w'
       go_simp
       with_reducible rfl
      rotate_left
      ·simp only [Act.put, List.setIfInBounds_toArray, List.set_cons_zero, List.set_cons_succ, i64_w, i32_w]
       rfl
      refine take_ (i := 6) (N := some 27) (v := ?_) (a' := ?_) #[true, true, true, true, true, true, true, false, false, false, false] rfl rfl (take_ofW HT_.out HW_.out (by kernel_rfl)) (fun _ _ _ h => h) (Or.inl ⟨by rfl, ?_⟩) hHeld ?_ ?_
      rotate_left
      ·rintro w' ⟨s0, s1, s2, s3, s4⟩
       go_simp
       with_reducible rfl
      rotate_left
      ·simp only [Act.put, List.setIfInBounds_toArray, List.set_cons_zero, List.set_cons_succ, i64_w, i32_w]
       rfl
      refine one_ (i := 7) (N := some 28) #[true, true, true, true, true, true, true, true, false, false, false] rfl rfl (one_of HT_.out (by kernel_rfl)) (by decide) (fun K hK => ?_)
      refine value_ (w1 := ?_) (v := ?_) (by rfl) rfl ?_ ?_
      rotate_left 2
      ·go_simp
       constructor
       ·rfl
       ·rfl
      refine hK.out _ _ ⟨(blk_cell (Op.b3 BK223.out _) 0).trans rfl, (blk_cell (Op.b3 BK223.out _) 1).trans rfl, (blk_cell (Op.b3 BK211.out _) 0).trans rfl, (blk_cell (Op.b3 BK211.out _) 1).trans rfl, (World.cell?_alloc_lt _ _ _ (World.block_lt_of_cell? _ _ (((HB.out.cell (World.block_lt_of_cell? w _ hw224_0)).trans hw224_0)))).trans (((HB.out.cell (World.block_lt_of_cell? w _ hw224_0)).trans hw224_0))⟩ (fun hHeld => ?_)
      clear hK K
      refine norm_ (a' := ?_) ?_ ?_
      rotate_left
      ·show Act.put _ (some 28) _ = _
       simp only [Act.put, List.setIfInBounds_toArray, List.set_cons_zero, List.set_cons_succ, i64_w, i32_w]
       rfl
      refine one_ (i := 8) (N := some 29) #[true, true, true, true, true, true, true, true, true, false, false] rfl rfl (one_of HT_.out (by kernel_rfl)) (by decide) (fun K hK => ?_)
      refine Kd.R_append_step (Kd.int .i64) (w0 := w) w.heap.size (by rfl) (.tmp 22) (.tmp 28) 23 3 (.int .i64 0) 8 rfl Try.underlying23 info3 rfl (by decide) (by omega) (.slice Ao35 t220.length co35) t220 (rd l0_1 a1) [.int .i64 (rd l0_1 a1)] (fun k_ => some k_ ≠ (.slice Ao26 y213.length co26 : Value).ownBlock) (fun _ => False) rfl rfl ?aP (fun _ hk => hk.elim) ?aF ?aO ?aB ?aS ?aL ?_
      (case aP => exact rfl)
      (case aB => exact (Op.ht HB.out))
      (case aF => exact (fun k_ hk => Kd.fresh' (Kd.R_lt (Op.rt HO215.out)) k_ hk))
      (case aO => exact (Op.rt HO222.out))
      (case aS => exact (Op.a6 (Op.ht HB.out)))
      (case aL => have := LMc19.out; omega)
      intro v226 w38 ho hb hg hat
      rw [← Ny225.out] at ho
      have n0_ := Op.k (blk_grown (Op.bt BK211.out) hg (Kd.R_ne HO222.out BK211.out (by decide)))
      have n1_ := Op.k (blk_grown (Op.bt BK212.out) hg (Kd.R_ne HO222.out BK212.out (by decide)))
      have n2_ := Op.k (Kd.R_after (ok := (fun _ => True)) (Kd.R_mono (Op.rt HO215.out) (fun _ hk => ⟨trivial, hk⟩)) hg hat)
      have n3_ := Op.k (Kd.S_after (ok := (fun k_ => some k_ ≠ (.slice Ao26 y213.length co26 : Value).ownBlock)) (Op.st HO219.out) hg hat)
      have n4_ := Op.k (blk_grown (Op.bt BK223.out) hg (Kd.R_ne HO222.out BK223.out (by decide)))
      have n5_ := Op.k (hb)
      have n6_ := Op.k (ho)
      clear BK211
      clear BK212
      clear HO215
      clear HO219
      clear BK223
      clear HB
      clear HO222
      have BK211 := n0_
      have BK212 := n1_
      have HO215 := n2_
      have HO219 := n3_
      have BK223 := n4_
      have HB := n5_
      have HO227 := n6_
      clear n0_ n1_ n2_ n3_ n4_ n5_ n6_
      clear ho hb hg hat
      obtain ⟨Ao39, co39, eo39⟩ := Kd.R_slice HO227.out
      (first | subst eo39 | (injection eo39 with f1_ f2_ f3_; have f4_ := f1_.symm; have f5_ := f3_.symm; clear f1_ f2_ f3_; subst f4_; subst f5_))
      refine hK.out _ _ ⟨(blk_cell BK223.out 0).trans rfl, (blk_cell BK223.out 1).trans rfl, (blk_cell BK211.out 0).trans rfl, (blk_cell BK211.out 1).trans rfl, ((HB.out.cell (World.block_lt_of_cell? w _ hw224_0)).trans hw224_0)⟩ (fun hHeld => ?_)
      clear hK K
      refine norm_ (a' := ?_) ?_ ?_
      rotate_left
      ·show Act.put _ (some 29) _ = _
       simp only [Act.put, List.setIfInBounds_toArray, List.set_cons_zero, List.set_cons_succ, i64_w, i32_w]
       rfl
      refine pure_ (i := 9) (N := some 30) (v := ?_) (a' := ?_) #[true, true, true, true, true, true, true, true, true, true, false] rfl rfl (any_of HT_.out (by kernel_rfl)) (fun _ _ _ h => h) (Or.inl ⟨by rfl, ?_⟩) ?_ ?_
      rotate_left
      ·intro w'
       go_simp
       with_reducible rfl
      rotate_left
      ·simp only [Act.put, List.setIfInBounds_toArray, List.set_cons_zero, List.set_cons_succ, i64_w, i32_w]
       rfl
      refine last_ (i := 10) (N := none) #[true, true, true, true, true, true, true, true, true, true, true] rfl rfl (one_of HT_.out (by kernel_rfl)) (by decide) (fun K hK => ?_)
      have hs40 : w38.cell? ⟨gb223, 1, none⟩ = some (.slice Ao35 t220.length co35) := (blk_cell BK223.out 1).trans rfl
      have hfs40 := Op.bf BK223.out 1
      have hns40_0 := NB211_223.out
      have hns40_1 := NB212_223.out
      have hms40_0 := NB223_211.out
      have hms40_1 := NB223_212.out
      refine skip_ (w1 := ?_) (by rfl) rfl ?_ ?_
      rotate_left
      ·go_simp
       rfl
      refine hK.out _ _ ?_
      clear hK K
      refine done_ (done_of HT_.out (by kernel_rfl)) ?_
      have hcz41_0 := Op.c0 BK223.out
      have hcz41_1 := Op.c1 BK223.out
      have hfz41_0 := Op.bf BK223.out 0
      have hfz41_1 := Op.bf BK223.out 1
      have hcz42_0 := Op.c0 BK212.out
      have hcz42_1 := Op.c1 BK212.out
      have hfz42_0 := Op.bf BK212.out 0
      have hfz42_1 := Op.bf BK212.out 1
      try go_wp2
      refine bodyPost_ret (results_ct rfl _ _ gb212 25 #[.slice Ao31 t217.length co31, .slice Ao39 y225.length co39] (0, 0) _ rfl (Op.bv BK212.out) Try.underlying25 rfl (by kernel_rfl)) rfl ?_
      exact ⟨_, _, by first | rfl | (simp [errW_none, errW_some] <;> rfl) | (simp [*, errW_none, errW_some] <;> rfl), by (with_reducible repeat (first | apply Kd.S_alloc | apply Kd.S_drewN | apply Kd.S_drew)); exact Kd.S_mono (Kd.S_far (p := ⟨gb212, 1, none⟩) (Kd.S_far (p := ⟨gb212, 0, none⟩) (Kd.S_far (p := ⟨gb223, 1, none⟩) (Kd.S_types (Kd.S_types HO219.out BK223.out (by decide)) BK212.out (by decide)) (fun _ hk => hk.1.2) (.slice Ao39 y225.length co39)) (fun _ hk => hk.2) (.slice Ao31 t217.length co31)) (fun _ hk => hk.2) (.slice Ao39 y225.length co39)) (fun _ hk => hk.1.1.2), by (with_reducible repeat (first | apply Kd.R_alloc | apply Kd.R_drewN | apply Kd.R_drew)); exact Kd.R_mono (Kd.R_far (p := ⟨gb212, 1, none⟩) (Kd.R_far (p := ⟨gb212, 0, none⟩) (Kd.R_far (p := ⟨gb223, 1, none⟩) (Kd.R_types (Kd.R_types HO227.out BK223.out (by decide)) BK212.out (by decide)) (fun _ hk => hk.1.2) (.slice Ao39 y225.length co39)) (fun _ hk => hk.2) (.slice Ao31 t217.length co31)) (fun _ hk => hk.2) (.slice Ao39 y225.length co39)) (fun _ hk => trivial), Op.ht HB.out⟩
     ·rw [if_neg c19] at H
      exact absurd H (by simp)
    ·rw [if_neg c18] at H
     exact absurd H (by simp)
   ·rw [if_neg c17] at H
    exact absurd H (by simp)
 ·replace c4 := Bool.eq_false_iff.mpr c4
  subst c4
  have H1 : (some (([] : List (S65)), ([] : List Int), false)) = some (r1, r2, r3) := by rw [if_neg (show ¬ (false = true) by decide)] at H; exact H
  clear H
  have H := H1
  clear H1
  simp only [Option.some.injEq, Prod.mk.injEq] at H
  obtain ⟨rfl, rfl, rfl⟩ := H
  go_enter Try.func32, Try.ntmps32
  go_wp2_with (first | ((with_reducible refine gate_dst (N := 2) rfl ?_); (try (refine gate_guard (by rfl) ?_; dsimp only)); refine box_event ?hg (N := 2) ?hd (cs := #[.slice A0_0 l0_0.length c0_0, .slice A0_1 l0_1.length c0_1]) (t := 25) ?hr ?_; (case hd => rfl); (case hg => rfl); (case hr => first | (go_simp; done) | (go_simp; rfl)); intro gb211 hg w43 hbox hb; have BK211 := Op.k (hbox); have GW211 := Op.k ((Op.nz hg (Op.ht HB.out) : w.heap.size ≤ gb211)); have GE211 := Op.k ((Op.nz hg (Op.ht HB.out) : w.heap.size ≤ gb211)); replace HB := Op.k (Op.a5 (Op.ht HB.out) hb); clear hb hbox hg) | ((with_reducible refine gate_dst (N := 4) rfl ?_); (try (refine gate_guard (by rfl) ?_; dsimp only)); refine box_event ?hg (N := 4) ?hd (cs := #[.slice none 0 0, .slice none 0 0]) (t := 25) ?hr ?_; (case hd => rfl); (case hg => rfl); (case hr => first | (go_simp; done) | (go_simp; rfl)); intro gb212 hg w44 hbox hb; have BK212 := Op.k (hbox); have GW212 := Op.k ((Op.nz hg (Op.ht HB.out) : w.heap.size ≤ gb212)); have GE212 := Op.k ((Op.nz hg (Op.ht HB.out) : w.heap.size ≤ gb212)); replace HB := Op.k (Op.a5 (Op.ht HB.out) hb); have NB211_212 := Op.k ((Op.nl hg (Op.bt BK211.out) : gb211 ≠ gb212)); have NB212_211 := Op.k ((Op.ng hg (Op.bt BK211.out) : gb212 ≠ gb211)); replace BK211 := Op.k (Op.b4 (Op.bt BK211.out) hb); clear hb hbox hg; have hnb45 := NB211_212.out; have hnc45 := NB212_211.out; have hcz46_0 := Op.c0 BK211.out; have hcz46_1 := Op.c1 BK211.out; have hfz46_0 := Op.bf BK211.out 0; have hfz46_1 := Op.bf BK211.out 1) | ((with_reducible refine gate_dst (N := 9) rfl ?_); (try (refine gate_guard (by rfl) ?_; dsimp only)); refine Kd.R_lit (Kd.int .i64) _ 3 ?hg (N := 9) ?hd (xs := ([a1] : List Int)) (inner := [.int .i64 a1]) (ok := fun _ => True) (okp := fun _ => True) ?hr ?hp (fun _ hk => hk) trivial (Below.refl _ _) (Nat.le_refl _) (by simp) ?_; (case hd => rfl); (case hg => rfl); (case hr => first | (go_simp; done) | (go_simp; rfl)); (case hp => exact (Reps.one (show Kd.M (Kd.int .i64) _ _ _ a1 [.int .i64 a1] from rfl) (Reps.none _ _))); intro v214 w47 ho48 hb hg_ hnew_; clear hg_ hnew_; (first | rw [← Ny213.out] at ho48 | (simp only [Int.reduceToNat] at ho48; rw [← Ny213.out] at ho48)); have HO215 := Op.k (Kd.R_lower ho48 (Op.a6 (Op.ht HB.out))); replace BK211 := Op.k (Op.b4 (Op.bt BK211.out) hb); replace BK212 := Op.k (Op.b4 (Op.bt BK212.out) hb); replace HB := Op.k (Op.a5 (Op.ht HB.out) hb); clear hb ho48; obtain ⟨Ao49, co49, eo49⟩ := Kd.R_slice HO215.out; subst eo49) | ((with_reducible refine gate_callee (f := 61) rfl ?_); refine goesL_ (some 10) rfl rfl Try.func61 (by kernel_rfl) rfl #[.agg #[.slice A0_0 l0_0.length c0_0, .slice A0_1 l0_1.length c0_1], .slice Ao49 y213.length co49] rfl (by (try simp only [List.map_toArray, List.map_cons, List.map_nil]); first | done | rfl | (simp only [List.length_drop, List.length_take]; rfl)) ?_; (with_reducible refine (impl_isVersion.calls _ _ l0_0 _ _ l0_1 _ _ y213 false _ ?side1 ?side2 ?side3 ?side4 ?side5 ?side6 A3.out).mono ?_); (case side1 => exact Op.ct (Kd.C_below HR0_0.out HB.out)); (case side2 => exact HC0_0.out); (case side3 => exact Op.ct (Kd.C_below HR0_1.out HB.out)); (case side4 => exact HC0_1.out); (case side5 => exact Op.ct (Kd.R_reads' HO215.out).2.2); (case side6 => exact (Kd.R_reads' HO215.out).2.1); rintro e w50 ⟨rfl, hb⟩; refine ⟨_, rfl, ?_⟩; replace HO215 := Op.k (Kd.R_below (Op.rt HO215.out) hb); replace BK211 := Op.k (Op.b4 (Op.bt BK211.out) hb); replace BK212 := Op.k (Op.b4 (Op.bt BK212.out) hb); replace HB := Op.k (Op.a5 (Op.ht HB.out) hb); (try clear hb); (try clear hb2); (try clear hk); (try clear hi); have hcz51_0 := Op.c0 BK212.out; have hcz51_1 := Op.c1 BK212.out; have hfz51_0 := Op.bf BK212.out 0; have hfz51_1 := Op.bf BK212.out 1))
  refine bodyPost_ret (results_ct rfl _ _ gb212 25 #[.slice none 0 0, .slice none 0 0] (0, 0) _ rfl (Op.bv BK212.out) Try.underlying25 rfl (by kernel_rfl)) rfl ?_
  exact ⟨_, _, by first | rfl | (simp [errW_none, errW_some] <;> rfl) | (simp [*, errW_none, errW_some] <;> rfl), by first | exact Kd.S_nil _ _ _ _ _ | exact Kd.N_nil _ _ _ _ _ | exact Kd.V_nil _ _ _ _ _ | exact Kd.Q_nil _ _ _ _ _ | exact Kd.R_nil _ _ _ _ _, by first | exact Kd.R_nil _ _ _ _ _ | exact Kd.N_nil _ _ _ _ _ | exact Kd.V_nil _ _ _ _ _ | exact Kd.Q_nil _ _ _ _ _ | exact Kd.S_nil _ _ _ _ _, Op.ht HB.out⟩

/-! ### spec_l11Key: function 59 -/
def spec_l11Key.f (a0 : Int) : Option (Bool) := (spec_l1In.f a0 0 15).bind fun t228 => (some t228)
set_option maxHeartbeats 8000000 in
set_option maxRecDepth 100000 in
theorem spec_l11Key.calls (a0 : Int) (r : Bool) (w : World) (h : spec_l11Key.f a0 = some r) :
  Calls Try.prog 59 #[.int .i64 a0] w fun e w' => e = .returned (.bool r) ∧ Drawn0 w w' := by
 have H : ((spec_l1In.f a0 0 15).bind fun t228 => (some t228)) = some r := h
 clear h
 replace H := Option.bind_eq_some_iff.mp H
 obtain ⟨t228, A20, H⟩ := H
 replace H : (some t228) = some r := H
 have A2 := Op.k A20
 clear A20
 obtain rfl := Option.some.inj H
 go_enter Try.func59, Try.ntmps59
 go_wp2_with (first | ((with_reducible refine gate_callee (f := 50) rfl ?_); refine goesL_ (some 4) rfl rfl Try.func50 (by kernel_rfl) rfl #[.int .i64 a0, .int .i64 0, .int .i64 15] rfl (by (try simp only [List.map_toArray, List.map_cons, List.map_nil]); first | done | rfl | (simp only [List.length_drop, List.length_take]; rfl)) ?_; (with_reducible refine (spec_l1In.calls a0 0 15 t228 _ A2.out).mono ?_); rintro e w' ⟨rfl, ⟨nd, rfl⟩⟩; refine ⟨_, rfl, ?_⟩))
 go_ret
 exact ⟨by first | rfl | (simp; done) | (simp [*]; done), by repeat (first | exact Drawn0.refl _ | apply Drawn0.step)⟩

end Go.Proofs.Ytnafnpoflheonaa.PFnVersions
