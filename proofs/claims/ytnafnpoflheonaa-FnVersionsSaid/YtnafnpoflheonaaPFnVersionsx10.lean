/- Contracts of functions of the translation, written by a program of this repo (a changed copy of the printer). Not trusted: Lean checks it. -/
-- squeezed
-- compact
import Derived.Test.YtnafnpoflheonaaCc
import Derived.Test.YtnafnpoflheonaaPFnVersionsx0
import Derived.Test.YtnafnpoflheonaaPFnVersionsx8
import Derived.Test.YtnafnpoflheonaaPFnVersionsx9
namespace Go.Proofs.Ytnafnpoflheonaa.PFnVersions
open Go.RowKit Go.Proofs.YtnafnpoflheonaaW.PrintWords Go.Proofs.YtnafnpoflheonaaW.PrintLast Go.Proofs.YtnafnpoflheonaaW.PrintMore
attribute [local go_sem] max2_int min2_int max_two min_two max_three min_three max_four min_four   -- for this text's walks alone
set_option linter.unusedVariables false
set_option linter.unusedSimpArgs false

/-! ### spec_DrawPutIn: function 35 -/
def spec_DrawPutIn.f (k : Nat) (l0 : List Int) : Option ((List (S65)) × List Int × Int × Int × Int) := (spec_l1Cur_pool.f k l0 0 0).bind fun bt426 => ((spec_l1Cur_pick.f l0 bt426.2.2.1 bt426.2.2.2 (wrap64 ((bt426.2.1.length : Int) + 1))).bind fun bt435 => ((spec_l1Cur_pick.f l0 bt435.2.1 bt435.2.2 18).bind fun bt438 => ((spec_l1Cur_among.f l0 bt438.2.1 bt438.2.2 (([0, 5, 9999, 10000] : List Int))).bind fun bt444 => (some (bt426.1, bt426.2.1, bt435.1, wrap64 (bt438.1 - 1), bt444.1)))))
theorem spec_DrawPutIn.mono : ∀ a0 k, LeO (spec_DrawPutIn.f k a0) (spec_DrawPutIn.f (k + 1) a0) := by
 intro a0 k
 unfold spec_DrawPutIn.f
 repeat' first
   | (with_reducible exact spec_l1Cur_pool.mono _ _ _ _)
   | (with_reducible exact LeO.refl _)
   | (with_reducible exact LeO.none _)
   | (with_reducible refine LeO.ite ?_ ?_)
   | (with_reducible refine LeO.bind ?_ (fun _ => ?_))
   | exact spec_l1Cur_pool.mono _ _ _ _
   | exact LeO.none _
   | refine LeO.ite ?_ ?_
   | refine LeO.bind ?_ (fun _ => ?_)
def spec_DrawPutIn.T3 : Bool × List (List Nat × List Nat) := (true, [([], []), ([], []), ([], []), ([2], [2]), ([3], [3]), ([4], [4]), ([1, 5], [1, 5]), ([], []), ([7, 6], [7]), ([8], [8]), ([], []), ([], []), ([10, 11, 8], [10, 11]), ([0, 12, 0], [0]), ([6, 13, 0, 1, 2, 3, 4, 5, 6, 13], [6]), ([9, 14, 0, 1, 2, 3, 4, 5, 6, 7, 8, 9, 13, 14], [9]), ([12, 15, 0, 1, 2, 3, 4, 5, 6, 7, 8, 9, 10, 11, 12, 13, 14, 15], [12])])
def spec_DrawPutIn.B3 : List Nat := [0, 0, 0, 4, 12, 28, 62, 0, 254, 510, 0, 0, 3582, 7679, 15871, 32767, 65535]
theorem spec_DrawPutIn.tab3 : rtab .any (opsOf Try.f35 3) = spec_DrawPutIn.T3 := by kernel_rfl
theorem spec_DrawPutIn.bits3 : waitsOk spec_DrawPutIn.T3.2 spec_DrawPutIn.B3 = true := by kernel_rfl
set_option maxHeartbeats 8000000 in
set_option maxRecDepth 100000 in
theorem spec_DrawPutIn.calls (k : Nat) (A0 : Option Addr) (c0 : Nat) (l0 : List Int) (r1 : List (S65)) (r2 : List Int) (r3 : Int) (r4 : Int) (r5 : Int) (w : World) (hr0 : Kd.C (Kd.int .u8) w A0 l0.length l0) (hc0 : l0.length ≤ c0) (h : spec_DrawPutIn.f k l0 = some (r1, r2, r3, r4, r5)) :
  Calls Try.prog 35 #[.slice A0 l0.length c0] w fun e w' => ∃ v0_ v1_ : Value, e = .returned (.tuple #[.agg #[v0_, v1_], .int .i64 r3, .int .i64 r4, .int .i64 r5]) ∧ Kd.S k65 65 w' w.heap.size (fun k_ => some k_ ≠ (v1_ : Value).ownBlock) v0_ r1 ∧ Kd.R (Kd.int .i64) 3 w' w.heap.size (fun _ => True) v1_ r2 ∧ Below w.heap.size w w' := by
 have hu25 := Try.underlying25
 have hu80 := Try.underlying80
 have HR0 := Op.k hr0
 have HC0 := Op.k hc0
 clear hr0 hc0
 have HB := Op.k (Below.refl w.heap.size w)
 have H : ((spec_l1Cur_pool.f k l0 0 0).bind fun bt426 => ((spec_l1Cur_pick.f l0 bt426.2.2.1 bt426.2.2.2 (wrap64 ((bt426.2.1.length : Int) + 1))).bind fun bt435 => ((spec_l1Cur_pick.f l0 bt435.2.1 bt435.2.2 18).bind fun bt438 => ((spec_l1Cur_among.f l0 bt438.2.1 bt438.2.2 (([0, 5, 9999, 10000] : List Int))).bind fun bt444 => (some (bt426.1, bt426.2.1, bt435.1, wrap64 (bt438.1 - 1), bt444.1)))))) = some (r1, r2, r3, r4, r5) := h
 clear h
 replace H := Option.bind_eq_some_iff.mp H
 obtain ⟨⟨t426, t429, t432, t433⟩, A20, H⟩ := H
 replace H : ((spec_l1Cur_pick.f l0 t432 t433 (wrap64 ((t429.length : Int) + 1))).bind fun bt435 => ((spec_l1Cur_pick.f l0 bt435.2.1 bt435.2.2 18).bind fun bt438 => ((spec_l1Cur_among.f l0 bt438.2.1 bt438.2.2 (([0, 5, 9999, 10000] : List Int))).bind fun bt444 => (some (t426, t429, bt435.1, wrap64 (bt438.1 - 1), bt444.1))))) = some (r1, r2, r3, r4, r5) := H
 have A2 := Op.k A20
 clear A20
 replace H := Option.bind_eq_some_iff.mp H
 obtain ⟨⟨t435, t436, t437⟩, A30, H⟩ := H
 replace H : ((spec_l1Cur_pick.f l0 t436 t437 18).bind fun bt438 => ((spec_l1Cur_among.f l0 bt438.2.1 bt438.2.2 (([0, 5, 9999, 10000] : List Int))).bind fun bt444 => (some (t426, t429, t435, wrap64 (bt438.1 - 1), bt444.1)))) = some (r1, r2, r3, r4, r5) := H
 have A3 := Op.k A30
 clear A30
 replace H := Option.bind_eq_some_iff.mp H
 obtain ⟨⟨t438, t439, t440⟩, A40, H⟩ := H
 try dsimp only at H
 have A4 := Op.k A40
 clear A40
 obtain ⟨y441, hy441⟩ : ∃ y_ : List Int, y_ = (([0, 5, 9999, 10000] : List Int)) := ⟨_, rfl⟩
 replace H : ((spec_l1Cur_among.f l0 t439 t440 y441).bind fun bt444 => (some (t426, t429, t435, wrap64 (t438 - 1), bt444.1))) = some (r1, r2, r3, r4, r5) := by first | (rw [hy441]; with_reducible exact H) | (have H2_ := (Option.bind_some _ _).symm.trans H; rw [hy441]; with_reducible exact H2_) | (have H2_ := (Option.bind_some _ _).symm.trans H; with_reducible exact H2_) | with_reducible exact H | (rw [hy441]; exact H) | exact H
 have Ny441 := Op.k hy441
 clear hy441
 replace H := Option.bind_eq_some_iff.mp H
 obtain ⟨⟨t444, t445, t446⟩, A50, H⟩ := H
 try dsimp only at H
 have A5 := Op.k A50
 clear A50
 simp only [Option.some.injEq, Prod.mk.injEq] at H
 obtain ⟨rfl, rfl, rfl, rfl, rfl⟩ := H
 go_enter Try.func35, Try.ntmps35
 try go_wp2_with (first | ((with_reducible refine gate_dst (N := 2) rfl ?_); refine box_event ?hg (N := 2) ?hd (cs := #[.slice none 0 0, .slice none 0 0]) (t := 25) ?hr ?_; (case hd => rfl); (case hg => rfl); (case hr => first | (go_simp; done) | (go_simp; rfl)); intro gb424 hg w6 hbox hb; have BK424 := Op.k (hbox); have GW424 := Op.k ((Op.nz hg (Op.ht HB.out) : w.heap.size ≤ gb424)); have GE424 := Op.k ((Op.nz hg (Op.ht HB.out) : w.heap.size ≤ gb424)); replace HB := Op.k (Op.a5 (Op.ht HB.out) hb); clear hb hbox hg) | ((with_reducible refine gate_dst (N := 10) rfl ?_); refine box_event ?hg (N := 10) ?hd (cs := #[.slice A0 l0.length c0, .int .i64 0, .int .u64 0]) (t := 80) ?hr ?_; (case hd => rfl); (case hg => rfl); (case hr => first | (go_simp; done) | (go_simp; rfl)); intro gb425 hg w7 hbox hb; have BK425 := Op.k (hbox); have GW425 := Op.k ((Op.nz hg (Op.ht HB.out) : w.heap.size ≤ gb425)); have GE425 := Op.k ((Op.nz hg (Op.ht HB.out) : w.heap.size ≤ gb425)); replace HB := Op.k (Op.a5 (Op.ht HB.out) hb); have NB424_425 := Op.k ((Op.nl hg (Op.bt BK424.out) : gb424 ≠ gb425)); have NB425_424 := Op.k ((Op.ng hg (Op.bt BK424.out) : gb425 ≠ gb424)); replace BK424 := Op.k (Op.b4 (Op.bt BK424.out) hb); clear hb hbox hg) | (have HI425 := Op.k (show IsS80 w _ gb425 l0 0 0 from ⟨_, _, BK425.out, GE425.out, HR0.out⟩); go_at_call 69; (with_reducible refine (spec_l1Cur_pool.calls k gb425 l0 0 0 t426 t429 t432 t433 w _ ?side1 ?side2 A2.out).mono ?_); (case side1 => exact IsS80.it HI425.out); (case side2 => exact Op.hu HB.out (IsS80.ge HI425.out)); rintro e w8 ⟨v427, v430, rfl, ho0, ho1, hi, hb, hk⟩; have n0_ := Op.k (KeepBut.blk hk (Op.bt BK424.out) NB424_425.out (by simp)); have n1_ := Op.k (Kd.S_lower ho0 (Op.a6 (Op.hu HB.out (IsS80.ge HI425.out)))); have n2_ := Op.k (Kd.R_lower ho1 (Op.a6 (Op.hu HB.out (IsS80.ge HI425.out)))); have n3_ := Op.k (hb); have n4_ := Op.k (hi); clear BK424; clear HB; clear HI425; clear BK425; have BK424 := n0_; have HO428 := n1_; have HO431 := n2_; have HB := n3_; have HI425 := n4_; clear n0_ n1_ n2_ n3_ n4_; (try clear hb); (try clear hb2); (try clear hk); (try clear hi); (try clear ho0); (try clear ho1)) | ((with_reducible refine gate_dst (N := 7) rfl ?_); refine box_event ?hg (N := 7) ?hd (cs := #[.slice none 0 0, .slice none 0 0]) (t := 25) ?hr ?_; (case hd => rfl); (case hg => rfl); (case hr => first | (go_simp; done) | (go_simp; rfl)); intro gb434 hg w9 hbox hb; replace HO428 := Op.k (Kd.S_below (Op.st HO428.out) hb); replace HO431 := Op.k (Kd.R_below (Op.rt HO431.out) hb); have BK434 := Op.k (hbox); have GW434 := Op.k ((Op.nz hg (Op.hu HB.out (IsS80.ge HI425.out)) : w.heap.size ≤ gb434)); have GE434 := Op.k ((Op.nz hg (Op.hu HB.out (IsS80.ge HI425.out)) : w.heap.size ≤ gb434)); replace HB := Op.k (Op.a5 (Op.hu HB.out (IsS80.ge HI425.out)) hb); have NB424_434 := Op.k ((Op.nl hg (Op.bt BK424.out) : gb424 ≠ gb434)); have NB434_424 := Op.k ((Op.ng hg (Op.bt BK424.out) : gb434 ≠ gb424)); replace BK424 := Op.k (Op.b4 (Op.bt BK424.out) hb); have NB425_434 := Op.k ((by rw [hg]; exact Nat.ne_of_lt (IsS80.lt (show IsS80 w _ gb425 l0 t432 t433 from IsS80.it HI425.out)) : gb425 ≠ gb434)); have NB434_425 := Op.k ((by rw [hg]; exact Nat.ne_of_gt (IsS80.lt (show IsS80 w _ gb425 l0 t432 t433 from IsS80.it HI425.out)) : gb434 ≠ gb425)); replace HI425 := Op.k (IsS80.below (IsS80.it HI425.out) hb); clear hb hbox hg; obtain ⟨Ao10, co10, eo10⟩ := Kd.S_slice HO428.out; subst eo10; have hnb11 := NB434_424.out; have hnc11 := NB424_434.out; have hnb12 := NB434_425.out; have hnc12 := NB425_434.out; have hcz13_0 := Op.c0 BK434.out; have hcz13_1 := Op.c1 BK434.out; have hfz13_0 := Op.bf BK434.out 0; have hfz13_1 := Op.bf BK434.out 1; obtain ⟨Ao14, co14, eo14⟩ := Kd.R_slice HO431.out; subst eo14))
 have n0_ : Aside0 (Kd.S k65 65 ((w9.setCell ⟨gb434, 0, none⟩ (.slice Ao10 t426.length co10)).setCell ⟨gb434, 1, none⟩ (.slice Ao14 t429.length co14)) w.heap.size (fun k_ => some k_ ≠ (.slice Ao14 t429.length co14 : Value).ownBlock) (.slice Ao10 t426.length co10) t426) := ⟨Kd.S_mono (Op.sf HO428.out BK434.out) (fun _ hk => hk)⟩
 have n1_ : Aside0 (Kd.R (Kd.int .i64) 3 ((w9.setCell ⟨gb434, 0, none⟩ (.slice Ao10 t426.length co10)).setCell ⟨gb434, 1, none⟩ (.slice Ao14 t429.length co14)) w.heap.size (fun _ => True) (.slice Ao14 t429.length co14) t429) := ⟨Kd.R_mono (Op.rf HO431.out BK434.out) (fun _ hk => trivial)⟩
 have n2_ : Aside0 (((w9.setCell ⟨gb434, 0, none⟩ (.slice Ao10 t426.length co10)).setCell ⟨gb434, 1, none⟩ (.slice Ao14 t429.length co14)).heap[gb424]? = some (.cells #[.slice none 0 0, .slice none 0 0] 25 (0, 0))) := ⟨Op.bt BK424.out⟩
 have n3_ : Aside0 (((w9.setCell ⟨gb434, 0, none⟩ (.slice Ao10 t426.length co10)).setCell ⟨gb434, 1, none⟩ (.slice Ao14 t429.length co14)).heap[gb434]? = some (.cells #[.slice Ao10 t426.length co10, .slice Ao14 t429.length co14] 25 (0, 0))) := ⟨Op.bv BK434.out⟩
 have n4_ : Aside0 (IsS80 w ((w9.setCell ⟨gb434, 0, none⟩ (.slice Ao10 t426.length co10)).setCell ⟨gb434, 1, none⟩ (.slice Ao14 t429.length co14)) gb425 l0 t432 t433) := ⟨IsS80.it HI425.out⟩
 have n5_ : Aside0 (Below w.heap.size w ((w9.setCell ⟨gb434, 0, none⟩ (.slice Ao10 t426.length co10)).setCell ⟨gb434, 1, none⟩ (.slice Ao14 t429.length co14))) := ⟨Op.hu HB.out (IsS80.ge HI425.out)⟩
 (try clear HO428)
 (try clear HO431)
 (try clear BK424)
 (try clear BK434)
 (try clear HI425)
 (try clear HB)
 generalize ((w9.setCell ⟨gb434, 0, none⟩ (.slice Ao10 t426.length co10)).setCell ⟨gb434, 1, none⟩ (.slice Ao14 t429.length co14)) = w15 at n0_ n1_ n2_ n3_ n4_ n5_ ⊢
 have HO428 := n0_
 have HO431 := n1_
 have BK424 := n2_
 have BK434 := n3_
 have HI425 := n4_
 have HB := n5_
 clear n0_ n1_ n2_ n3_ n4_ n5_
 replace HO428 := Op.k (Kd.S_drew HO428.out)
 replace HO431 := Op.k (Kd.R_drew HO431.out)
 replace BK424 := Op.k (Op.b2 BK424.out)
 replace BK434 := Op.k (Op.b2 BK434.out)
 replace HI425 := Op.k (IsS80.drew HI425.out)
 replace HB := Op.k (Op.a3 HB.out)
 refine start_ (n := 17) (S := fun w' => True) (ds := []) #[false, false, false, false, false, false, false, false, false, false, false, false, false, false, false, false, false] (by kernel_rfl) rfl rfl trivial (fun hHeld => ?_); refine with_tabW spec_DrawPutIn.tab3 spec_DrawPutIn.bits3 (fun HT_ HW_ => ?_)
 generalize w15.drew = w16 at HO428 HO431 BK424 BK434 HI425 HB hHeld ⊢
 refine pure_ (i := 1) (N := some 14) (v := ?_) (a' := ?_) #[false, true, false, false, false, false, false, false, false, false, false, false, false, false, false, false, false] rfl rfl (any_of HT_.out (by kernel_rfl)) (fun _ _ _ h => h) (Or.inl ⟨by rfl, ?_⟩) ?_ ?_
 rotate_left
 ·intro w'
  go_simp
  with_reducible rfl
 rotate_left
 ·simp only [Act.put, List.setIfInBounds_toArray, List.set_cons_zero, List.set_cons_succ, i64_w, i32_w]
  rfl
 refine pure_ (i := 2) (N := some 15) (v := ?_) (a' := ?_) #[false, true, true, false, false, false, false, false, false, false, false, false, false, false, false, false, false] rfl rfl (any_of HT_.out (by kernel_rfl)) (fun _ _ _ h => h) (Or.inl ⟨by rfl, ?_⟩) ?_ ?_
 rotate_left
 ·intro w'
  go_simp
  with_reducible rfl
 rotate_left
 ·simp only [Act.put, List.setIfInBounds_toArray, List.set_cons_zero, List.set_cons_succ, i64_w, i32_w]
  rfl
 refine pure_ (i := 7) (N := some 20) (v := ?_) (a' := ?_) #[false, true, true, false, false, false, false, true, false, false, false, false, false, false, false, false, false] rfl rfl (any_of HT_.out (by kernel_rfl)) (fun _ _ _ h => h) (Or.inl ⟨by rfl, ?_⟩) ?_ ?_
 rotate_left
 ·intro w'
  go_simp
  with_reducible rfl
 rotate_left
 ·simp only [Act.put, List.setIfInBounds_toArray, List.set_cons_zero, List.set_cons_succ, i64_w, i32_w]
  rfl
 refine pure_ (i := 10) (N := some 23) (v := ?_) (a' := ?_) #[false, true, true, false, false, false, false, true, false, false, true, false, false, false, false, false, false] rfl rfl (any_of HT_.out (by kernel_rfl)) (fun _ _ _ h => h) (Or.inl ⟨by rfl, ?_⟩) ?_ ?_
 rotate_left
 ·intro w'
  go_simp
  with_reducible rfl
 rotate_left
 ·simp only [Act.put, List.setIfInBounds_toArray, List.set_cons_zero, List.set_cons_succ, i64_w, i32_w]
  rfl
 refine inv_at [0, 3, 4, 5, 6, 8, 9, 11, 12, 13, 14, 15, 16] (fun a0_ b a w' => ∃ (v442 : Value), a = putSel a0_ b [(0, 13, .agg #[.slice Ao10 t426.length co10, .slice Ao14 t429.length co14]), (3, 16, .slice Ao14 t429.length co14), (4, 17, .int .i64 (t429.length : Int)), (5, 18, .int .i64 (wrap64 ((t429.length : Int) + 1))), (6, 19, .int .i64 t435), (8, 21, .int .i64 t438), (9, 22, .int .i64 (wrap64 (t438 - 1))), (11, 24, v442), (12, 25, .int .i64 t444), (14, 3, .int .i64 t435), (15, 4, .int .i64 (wrap64 (t438 - 1))), (16, 5, .int .i64 t444)] ∧ (Kd.S k65 65 w' w.heap.size (fun k_ => some k_ ≠ (.slice Ao14 t429.length co14 : Value).ownBlock) (.slice Ao10 t426.length co10) t426) ∧ (Kd.R (Kd.int .i64) 3 w' w.heap.size (fun _ => True) (.slice Ao14 t429.length co14) t429) ∧ (b 13 = false → w'.heap[gb424]? = some (.cells #[.slice none 0 0, .slice none 0 0] 25 (0, 0))) ∧ (w'.heap[gb434]? = some (.cells #[.slice Ao10 t426.length co10, .slice Ao14 t429.length co14] 25 (0, 0))) ∧ (b 6 = false → IsS80 w w' gb425 l0 t432 t433) ∧ (Below w.heap.size w w') ∧ (b 6 = true → b 8 = false → IsS80 w w' gb425 l0 t436 t437) ∧ (b 8 = true → b 12 = false → IsS80 w w' gb425 l0 t439 t440) ∧ (b 11 = true → Kd.R (Kd.int .i64) 3 w' w.heap.size (fun k_ => some k_ ≠ (.slice Ao14 t429.length co14 : Value).ownBlock) v442 y441) ∧ (b 12 = true → IsS80 w w' gb425 l0 t445 t446) ∧ (b 13 = true → w'.heap[gb424]? = some (.cells #[.slice Ao10 t426.length co10, .slice Ao14 t429.length co14] 25 (0, 0)))) HT_.out HW_.out (by kernel_rfl) (by kernel_rfl) ?_ ?_ ?_
 ·exact ⟨.bool false, by simp only [putSel, Bool.false_eq_true, if_false], HO428.out, HO431.out, fun _ => BK424.out, BK434.out, fun _ => HI425.out, HB.out, fun h_ => absurd h_ (by decide), fun h_ => absurd h_ (by decide), fun h_ => absurd h_ (by decide), fun h_ => absurd h_ (by decide), fun h_ => absurd h_ (by decide)⟩
 ·skip
  clear BK424 BK434 HB HI425 HO428 HO431
  refine steps_cons ?_ ?_
  ·rintro b a w' ⟨v442, ha, Q_HO428, Q_HO431, Q_BK424, Q_BK434, Q_HI425, Q_HB, Q_HI425_e6, Q_HI425_e8, Q_HO443, Q_HI425_e12, Q_BK424_e13⟩ hb_ hon hoff
   refine ⟨_, rfl, fun K hK => ?_⟩
   have e7 : a.tmps[7]? = some (.pointer (some ⟨gb434, 0, none⟩)) := by rw [ha]; exact (putSel_off rfl).trans rfl
   replace ha := Op.k ha
   have HO428 := Op.k Q_HO428
   have HO431 := Op.k Q_HO431
   have BK424 := Op.k (Q_BK424 (hoff 13 (by kernel_rfl)))
   have BK434 := Op.k Q_BK434
   have HB := Op.k Q_HB
   have hc0_ : w'.cell? ⟨gb434, 0, none⟩ = some (.slice Ao10 t426.length co10) := (blk_cell BK434.out 0).trans rfl
   have hc1_ : w'.cell? ⟨gb434, 1, none⟩ = some (.slice Ao14 t429.length co14) := (blk_cell BK434.out 1).trans rfl
   refine value_ (w1 := w') (v := .agg #[.slice Ao10 t426.length co10, .slice Ao14 t429.length co14]) (by rfl) rfl ?_ ?_
   ·go_simp
    (try simp only [i64_w])
    try rfl
   refine hK.out _ _ ⟨v442, (by rw [ha.out]; exact putSel_upk 0 hb_ rfl rfl rfl), Q_HO428, Q_HO431, Q_BK424, Q_BK434, Q_HI425, Q_HB, Q_HI425_e6, Q_HI425_e8, Q_HO443, Q_HI425_e12, fun h0_ => absurd ((hoff 13 (by kernel_rfl)).symm.trans h0_) (by decide)⟩
  refine steps_cons ?_ ?_
  ·rintro b a w' ⟨v442, ha, Q_HO428, Q_HO431, Q_BK424, Q_BK434, Q_HI425, Q_HB, Q_HI425_e6, Q_HI425_e8, Q_HO443, Q_HI425_e12, Q_BK424_e13⟩ hb_ hon hoff
   refine ⟨_, rfl, fun K hK => ?_⟩
   have e15 : a.tmps[15]? = some (.pointer (some ⟨gb434, 1, none⟩)) := by rw [ha]; exact (putSel_off rfl).trans rfl
   replace ha := Op.k ha
   have HO428 := Op.k Q_HO428
   have HO431 := Op.k Q_HO431
   have BK424 := Op.k (Q_BK424 (hoff 13 (by kernel_rfl)))
   have BK434 := Op.k Q_BK434
   have HI425 := Op.k (Q_HI425 (hoff 6 (by kernel_rfl)))
   have HB := Op.k Q_HB
   have hc0_ : w'.cell? ⟨gb434, 0, none⟩ = some (.slice Ao10 t426.length co10) := (blk_cell BK434.out 0).trans rfl
   have hc1_ : w'.cell? ⟨gb434, 1, none⟩ = some (.slice Ao14 t429.length co14) := (blk_cell BK434.out 1).trans rfl
   refine value_ (w1 := w') (v := .slice Ao14 t429.length co14) (by rfl) rfl ?_ ?_
   ·go_simp
    (try simp only [i64_w])
    try rfl
   refine hK.out _ _ ⟨v442, (by rw [ha.out]; exact putSel_upk 1 hb_ rfl rfl rfl), Q_HO428, Q_HO431, Q_BK424, Q_BK434, Q_HI425, Q_HB, fun h0_ _ => absurd ((hoff 6 (by kernel_rfl)).symm.trans h0_) (by decide), fun h0_ _ => absurd ((hoff 8 (by kernel_rfl)).symm.trans h0_) (by decide), Q_HO443, fun h0_ => absurd ((hoff 12 (by kernel_rfl)).symm.trans h0_) (by decide), fun h0_ => absurd ((hoff 13 (by kernel_rfl)).symm.trans h0_) (by decide)⟩
  refine steps_cons ?_ ?_
  ·rintro b a w' ⟨v442, ha, Q_HO428, Q_HO431, Q_BK424, Q_BK434, Q_HI425, Q_HB, Q_HI425_e6, Q_HI425_e8, Q_HO443, Q_HI425_e12, Q_BK424_e13⟩ hb_ hon hoff
   refine ⟨_, rfl, fun K hK => ?_⟩
   have e16 : a.tmps[16]? = some (.slice Ao14 t429.length co14) := by rw [ha]; exact putSel_on (e := (3, 16, .slice Ao14 t429.length co14)) 1 rfl rfl (hon 3 (by kernel_rfl)) rfl
   replace ha := Op.k ha
   have HO428 := Op.k Q_HO428
   have HO431 := Op.k Q_HO431
   have BK424 := Op.k (Q_BK424 (hoff 13 (by kernel_rfl)))
   have BK434 := Op.k Q_BK434
   have HI425 := Op.k (Q_HI425 (hoff 6 (by kernel_rfl)))
   have HB := Op.k Q_HB
   refine value_ (w1 := w') (v := .int .i64 (t429.length : Int)) (by rfl) rfl ?_ ?_
   ·go_simp
    (try simp only [i64_w])
    try rfl
   refine hK.out _ _ ⟨v442, (by rw [ha.out]; exact putSel_upk 2 hb_ rfl rfl rfl), Q_HO428, Q_HO431, Q_BK424, Q_BK434, Q_HI425, Q_HB, fun h0_ _ => absurd ((hoff 6 (by kernel_rfl)).symm.trans h0_) (by decide), fun h0_ _ => absurd ((hoff 8 (by kernel_rfl)).symm.trans h0_) (by decide), Q_HO443, fun h0_ => absurd ((hoff 12 (by kernel_rfl)).symm.trans h0_) (by decide), fun h0_ => absurd ((hoff 13 (by kernel_rfl)).symm.trans h0_) (by decide)⟩
  refine steps_cons ?_ ?_
  ·rintro b a w' ⟨v442, ha, Q_HO428, Q_HO431, Q_BK424, Q_BK434, Q_HI425, Q_HB, Q_HI425_e6, Q_HI425_e8, Q_HO443, Q_HI425_e12, Q_BK424_e13⟩ hb_ hon hoff
   refine ⟨_, rfl, fun K hK => ?_⟩
   have e17 : a.tmps[17]? = some (.int .i64 (t429.length : Int)) := by rw [ha]; exact putSel_on (e := (4, 17, .int .i64 (t429.length : Int))) 2 rfl rfl (hon 4 (by kernel_rfl)) rfl
   replace ha := Op.k ha
   have HO428 := Op.k Q_HO428
   have HO431 := Op.k Q_HO431
   have BK424 := Op.k (Q_BK424 (hoff 13 (by kernel_rfl)))
   have BK434 := Op.k Q_BK434
   have HI425 := Op.k (Q_HI425 (hoff 6 (by kernel_rfl)))
   have HB := Op.k Q_HB
   refine value_ (w1 := w') (v := .int .i64 (wrap64 ((t429.length : Int) + 1))) (by rfl) rfl ?_ ?_
   ·go_simp
    (try simp only [i64_w])
    try rfl
   refine hK.out _ _ ⟨v442, (by rw [ha.out]; exact putSel_upk 3 hb_ rfl rfl rfl), Q_HO428, Q_HO431, Q_BK424, Q_BK434, Q_HI425, Q_HB, fun h0_ _ => absurd ((hoff 6 (by kernel_rfl)).symm.trans h0_) (by decide), fun h0_ _ => absurd ((hoff 8 (by kernel_rfl)).symm.trans h0_) (by decide), Q_HO443, fun h0_ => absurd ((hoff 12 (by kernel_rfl)).symm.trans h0_) (by decide), fun h0_ => absurd ((hoff 13 (by kernel_rfl)).symm.trans h0_) (by decide)⟩
  refine steps_cons ?_ ?_
  ·rintro b a w' ⟨v442, ha, Q_HO428, Q_HO431, Q_BK424, Q_BK434, Q_HI425, Q_HB, Q_HI425_e6, Q_HI425_e8, Q_HO443, Q_HI425_e12, Q_BK424_e13⟩ hb_ hon hoff
   refine ⟨_, rfl, fun K hK => ?_⟩
   have e14 : a.tmps[14]? = some (.pointer (some ⟨gb425, 0, none⟩)) := by rw [ha]; exact (putSel_off rfl).trans rfl
   have e18 : a.tmps[18]? = some (.int .i64 (wrap64 ((t429.length : Int) + 1))) := by rw [ha]; exact putSel_on (e := (5, 18, .int .i64 (wrap64 ((t429.length : Int) + 1)))) 3 rfl rfl (hon 5 (by kernel_rfl)) rfl
   replace ha := Op.k ha
   have HO428 := Op.k Q_HO428
   have HO431 := Op.k Q_HO431
   have BK424 := Op.k (Q_BK424 (hoff 13 (by kernel_rfl)))
   have BK434 := Op.k Q_BK434
   have HI425 := Op.k (Q_HI425 hb_)
   have HB := Op.k Q_HB
   refine goes_ Try.func70 (by kernel_rfl) rfl #[.pointer (some ⟨gb425, 0, none⟩), .int .i64 (wrap64 ((t429.length : Int) + 1))] (by rfl) rfl rfl (by first | (simp only [List.map_toArray, List.map_cons, List.map_nil, Act.eval, Array.getD_eq_getD_getElem?, Option.getD_some, e14, e18]; done) | (simp only [List.map_toArray, List.map_cons, List.map_nil, Act.eval, Array.getD_eq_getD_getElem?, Option.getD_some, e14, e18]; rfl)) ?_
   with_reducible refine (spec_l1Cur_pick.calls gb425 l0 t432 t433 (wrap64 ((t429.length : Int) + 1)) t435 t436 t437 w _ ?side1 ?side2 A3.out).mono ?_
   (case side1 => exact IsS80.it HI425.out)
   (case side2 => exact Op.hu HB.out (IsS80.ge HI425.out))
   rintro e w17 ⟨rfl, hi, hb, hk⟩
   refine ⟨_, rfl, ?_⟩
   have n0_ := Op.k (KeepBut.blk hk (Op.bt BK424.out) NB424_425.out (by simp))
   have n1_ := Op.k (Kd.S_mono (Kd.S_keep (IsS80.apartS (show IsS80 w _ gb425 l0 t432 t433 from IsS80.it HI425.out) (Op.st HO428.out) (by decide)) hk (fun _ h => h.2)) (fun _ h => h.1))
   have n2_ := Op.k (Kd.R_mono (Kd.R_keep (IsS80.apart (show IsS80 w _ gb425 l0 t432 t433 from IsS80.it HI425.out) (Op.rt HO431.out) (by decide)) hk (fun _ h => h.2)) (fun _ h => h.1))
   have n3_ := Op.k (KeepBut.blk hk (Op.bt BK434.out) NB434_425.out (by simp))
   have n4_ := Op.k (hb)
   have n5_ := Op.k (hi)
   have z_HO443 := fun (h0_ : b 11 = true) => (show Kd.R (Kd.int .i64) 3 w17 w.heap.size (fun k_ => some k_ ≠ (.slice Ao14 t429.length co14 : Value).ownBlock) v442 y441 from by first | exact (Kd.R_mono (Kd.R_keep (IsS80.apart (show IsS80 w _ gb425 l0 t432 t433 from IsS80.it HI425.out) (by (with_reducible repeat (first | apply Kd.R_alloc | apply Kd.R_drewN | apply Kd.R_drew)); exact (Q_HO443 h0_)) (by decide)) hk (fun _ h => h.2)) (fun _ h => h.1)) | exact Kd.R_mono (Kd.R_mono (Kd.R_keep (IsS80.apart (show IsS80 w _ gb425 l0 t432 t433 from IsS80.it HI425.out) (by (with_reducible repeat (first | apply Kd.R_alloc | apply Kd.R_drewN | apply Kd.R_drew)); exact (Q_HO443 h0_)) (by decide)) hk (fun _ h => h.2)) (fun _ h => h.1)) (fun _ h_ => by first | trivial | exact h_ | exact h_.1))
   clear BK424
   clear HO428
   clear HO431
   clear BK434
   clear HB
   clear HI425
   have BK424 := n0_
   have HO428 := n1_
   have HO431 := n2_
   have BK434 := n3_
   have HB := n4_
   have HI425 := n5_
   clear n0_ n1_ n2_ n3_ n4_ n5_
   (try clear hb)
   (try clear hb2)
   (try clear hk)
   (try clear hi)
   refine hK.out _ _ ⟨v442, (by rw [ha.out]; exact putSel_upk 4 hb_ rfl rfl rfl), (Op.sm (Op.st HO428.out)), (Op.rm (Op.rt HO431.out)), fun _ => (Op.bt BK424.out), (Op.bt BK434.out), fun h0_ => absurd ((up_self b 6).symm.trans h0_) (by decide), (Op.hu HB.out (IsS80.ge HI425.out)), fun _ _ => (IsS80.it HI425.out), fun h0_ _ => absurd ((hoff 8 (by kernel_rfl)).symm.trans h0_) (by decide), z_HO443, fun h0_ => absurd ((hoff 12 (by kernel_rfl)).symm.trans h0_) (by decide), fun h0_ => absurd ((hoff 13 (by kernel_rfl)).symm.trans h0_) (by decide)⟩
  refine steps_cons ?_ ?_
  ·rintro b a w' ⟨v442, ha, Q_HO428, Q_HO431, Q_BK424, Q_BK434, Q_HI425, Q_HB, Q_HI425_e6, Q_HI425_e8, Q_HO443, Q_HI425_e12, Q_BK424_e13⟩ hb_ hon hoff
   refine ⟨_, rfl, fun K hK => ?_⟩
   have e20 : a.tmps[20]? = some (.pointer (some ⟨gb425, 0, none⟩)) := by rw [ha]; exact (putSel_off rfl).trans rfl
   replace ha := Op.k ha
   have HO428 := Op.k Q_HO428
   have HO431 := Op.k Q_HO431
   have BK424 := Op.k (Q_BK424 (hoff 13 (by kernel_rfl)))
   have BK434 := Op.k Q_BK434
   have HB := Op.k Q_HB
   have HI425 := Op.k (Q_HI425_e6 (hon 6 (by kernel_rfl)) hb_)
   refine goes_ Try.func70 (by kernel_rfl) rfl #[.pointer (some ⟨gb425, 0, none⟩), .int .i64 18] (by rfl) rfl rfl (by first | (simp only [List.map_toArray, List.map_cons, List.map_nil, Act.eval, Array.getD_eq_getD_getElem?, Option.getD_some, e20]; done) | (simp only [List.map_toArray, List.map_cons, List.map_nil, Act.eval, Array.getD_eq_getD_getElem?, Option.getD_some, e20]; rfl)) ?_
   with_reducible refine (spec_l1Cur_pick.calls gb425 l0 t436 t437 18 t438 t439 t440 w _ ?side1 ?side2 A4.out).mono ?_
   (case side1 => exact IsS80.it HI425.out)
   (case side2 => exact Op.hu HB.out (IsS80.ge HI425.out))
   rintro e w19 ⟨rfl, hi, hb, hk⟩
   refine ⟨_, rfl, ?_⟩
   have n0_ := Op.k (KeepBut.blk hk (Op.bt BK424.out) NB424_425.out (by simp))
   have n1_ := Op.k (Kd.S_mono (Kd.S_keep (IsS80.apartS (show IsS80 w _ gb425 l0 t436 t437 from IsS80.it HI425.out) (Op.st HO428.out) (by decide)) hk (fun _ h => h.2)) (fun _ h => h.1))
   have n2_ := Op.k (Kd.R_mono (Kd.R_keep (IsS80.apart (show IsS80 w _ gb425 l0 t436 t437 from IsS80.it HI425.out) (Op.rt HO431.out) (by decide)) hk (fun _ h => h.2)) (fun _ h => h.1))
   have n3_ := Op.k (KeepBut.blk hk (Op.bt BK434.out) NB434_425.out (by simp))
   have n4_ := Op.k (hb)
   have n5_ := Op.k (hi)
   have z_HO443 := fun (h0_ : b 11 = true) => (show Kd.R (Kd.int .i64) 3 w19 w.heap.size (fun k_ => some k_ ≠ (.slice Ao14 t429.length co14 : Value).ownBlock) v442 y441 from by first | exact (Kd.R_mono (Kd.R_keep (IsS80.apart (show IsS80 w _ gb425 l0 t436 t437 from IsS80.it HI425.out) (by (with_reducible repeat (first | apply Kd.R_alloc | apply Kd.R_drewN | apply Kd.R_drew)); exact (Q_HO443 h0_)) (by decide)) hk (fun _ h => h.2)) (fun _ h => h.1)) | exact Kd.R_mono (Kd.R_mono (Kd.R_keep (IsS80.apart (show IsS80 w _ gb425 l0 t436 t437 from IsS80.it HI425.out) (by (with_reducible repeat (first | apply Kd.R_alloc | apply Kd.R_drewN | apply Kd.R_drew)); exact (Q_HO443 h0_)) (by decide)) hk (fun _ h => h.2)) (fun _ h => h.1)) (fun _ h_ => by first | trivial | exact h_ | exact h_.1))
   clear BK424
   clear HO428
   clear HO431
   clear BK434
   clear HB
   clear HI425
   have BK424 := n0_
   have HO428 := n1_
   have HO431 := n2_
   have BK434 := n3_
   have HB := n4_
   have HI425 := n5_
   clear n0_ n1_ n2_ n3_ n4_ n5_
   (try clear hb)
   (try clear hb2)
   (try clear hk)
   (try clear hi)
   refine hK.out _ _ ⟨v442, (by rw [ha.out]; exact putSel_upk 5 hb_ rfl rfl rfl), (Op.sm (Op.st HO428.out)), (Op.rm (Op.rt HO431.out)), fun _ => (Op.bt BK424.out), (Op.bt BK434.out), fun h0_ => absurd ((hon 6 (by kernel_rfl)).symm.trans h0_) (by decide), (Op.hu HB.out (IsS80.ge HI425.out)), fun _ h1_ => absurd ((up_self b 8).symm.trans h1_) (by decide), fun _ _ => (IsS80.it HI425.out), z_HO443, fun h0_ => absurd ((hoff 12 (by kernel_rfl)).symm.trans h0_) (by decide), fun h0_ => absurd ((hoff 13 (by kernel_rfl)).symm.trans h0_) (by decide)⟩
  refine steps_cons ?_ ?_
  ·rintro b a w' ⟨v442, ha, Q_HO428, Q_HO431, Q_BK424, Q_BK434, Q_HI425, Q_HB, Q_HI425_e6, Q_HI425_e8, Q_HO443, Q_HI425_e12, Q_BK424_e13⟩ hb_ hon hoff
   refine ⟨_, rfl, fun K hK => ?_⟩
   have e21 : a.tmps[21]? = some (.int .i64 t438) := by rw [ha]; exact putSel_on (e := (8, 21, .int .i64 t438)) 5 rfl rfl (hon 8 (by kernel_rfl)) rfl
   replace ha := Op.k ha
   have HO428 := Op.k Q_HO428
   have HO431 := Op.k Q_HO431
   have BK434 := Op.k Q_BK434
   have HB := Op.k Q_HB
   refine value_ (w1 := w') (v := .int .i64 (wrap64 (t438 - 1))) (by rfl) rfl ?_ ?_
   ·go_simp
    (try simp only [i64_w])
    try rfl
   refine hK.out _ _ ⟨v442, (by rw [ha.out]; exact putSel_upk 6 hb_ rfl rfl rfl), Q_HO428, Q_HO431, Q_BK424, Q_BK434, fun h0_ => absurd ((hon 6 (by kernel_rfl)).symm.trans h0_) (by decide), Q_HB, fun _ h1_ => absurd ((hon 8 (by kernel_rfl)).symm.trans h1_) (by decide), Q_HI425_e8, Q_HO443, Q_HI425_e12, Q_BK424_e13⟩
  refine steps_cons ?_ ?_
  ·rintro b a w' ⟨v442, ha, Q_HO428, Q_HO431, Q_BK424, Q_BK434, Q_HI425, Q_HB, Q_HI425_e6, Q_HI425_e8, Q_HO443, Q_HI425_e12, Q_BK424_e13⟩ hb_ hon hoff
   refine ⟨_, rfl, fun K hK => ?_⟩
   replace ha := Op.k ha
   have HO428 := Op.k Q_HO428
   have HO431 := Op.k Q_HO431
   have BK424 := Op.k (Q_BK424 (hoff 13 (by kernel_rfl)))
   have BK434 := Op.k Q_BK434
   have HB := Op.k Q_HB
   refine Kd.R_lit_step (Kd.int .i64) _ 3 ?hg (N := 24) ?hd (xs := ([0, 5, 9999, 10000] : List Int)) (inner := [.int .i64 0, .int .i64 5, .int .i64 9999, .int .i64 10000]) (ok := fun _ => True) (okp := fun _ => True) ?hr ?hp (fun _ hk => hk) trivial (Below.refl _ _) (Nat.le_refl _) (by simp) ?_; (case hd => rfl); (case hg => rfl); (case hr => first | (go_simp; done) | (go_simp; rfl)); (case hp => exact (Reps.one (show Kd.M (Kd.int .i64) _ _ _ 0 [.int .i64 0] from rfl) (Reps.one (show Kd.M (Kd.int .i64) _ _ _ 5 [.int .i64 5] from rfl) (Reps.one (show Kd.M (Kd.int .i64) _ _ _ 9999 [.int .i64 9999] from rfl) (Reps.one (show Kd.M (Kd.int .i64) _ _ _ 10000 [.int .i64 10000] from rfl) (Reps.none _ _))))))
   intro v442 w17 ho18 hb hg_ hnew_
   clear hg_ hnew_
   (first | rw [← Ny441.out] at ho18 | (simp only [Int.reduceToNat] at ho18; rw [← Ny441.out] at ho18))
   have n0_ := Op.k (Kd.S_elder' (Op.st HO428.out) (Kd.R_base ho18) hb)
   have n1_ := Op.k (Kd.R_elder' (Op.rt HO431.out) (Kd.R_base ho18) hb)
   have n2_ := Op.k (Kd.R_lower (Kd.R_new' ho18 (Kd.R_lt (Op.rt HO431.out))) (Op.a6 (Op.ht HB.out)))
   have n3_ := Op.k (Op.b4 (Op.bt BK424.out) hb)
   have n5_ := Op.k (Op.b4 (Op.bt BK434.out) hb)
   have n6_ := Op.k (Op.a5 (Op.ht HB.out) hb)
   have z_HI425 := fun (h0_ : b 6 = false) => (show IsS80 w w17 gb425 l0 t432 t433 from by first | exact (IsS80.below (by repeat (first | (with_reducible first | exact (Q_HI425 h0_) | apply IsS80.alloc | apply IsS80.drewN | apply IsS80.drew | apply IsS80.set_1 | apply IsS80.set_2 | refine IsS80.far ?_ NB425_424.out _ | refine IsS80.far ?_ NB425_434.out _) | exact (Q_HI425 h0_))) hb))
   have z_HI425_e6 := fun (h0_ : b 6 = true) (h1_ : b 8 = false) => (show IsS80 w w17 gb425 l0 t436 t437 from by first | exact (IsS80.below (by repeat (first | (with_reducible first | exact (Q_HI425_e6 h0_ h1_) | apply IsS80.alloc | apply IsS80.drewN | apply IsS80.drew | apply IsS80.set_1 | apply IsS80.set_2 | refine IsS80.far ?_ NB425_424.out _ | refine IsS80.far ?_ NB425_434.out _) | exact (Q_HI425_e6 h0_ h1_))) hb))
   have z_HI425_e8 := fun (h0_ : b 8 = true) (h1_ : b 12 = false) => (show IsS80 w w17 gb425 l0 t439 t440 from by first | exact (IsS80.below (by repeat (first | (with_reducible first | exact (Q_HI425_e8 h0_ h1_) | apply IsS80.alloc | apply IsS80.drewN | apply IsS80.drew | apply IsS80.set_1 | apply IsS80.set_2 | refine IsS80.far ?_ NB425_424.out _ | refine IsS80.far ?_ NB425_434.out _) | exact (Q_HI425_e8 h0_ h1_))) hb))
   clear HO428
   clear HO431
   clear BK424
   clear BK434
   clear HB
   have HO428 := n0_
   have HO431 := n1_
   have HO443 := n2_
   have BK424 := n3_
   have BK434 := n5_
   have HB := n6_
   clear n0_ n1_ n2_ n3_ n5_ n6_
   clear hb ho18
   refine hK.out _ _ ⟨v442, (by rw [ha.out]; exact putSel_upk 7 hb_ rfl rfl rfl), (Op.sm (Op.st HO428.out)), (Op.rm (Op.rt HO431.out)), fun _ => (Op.bt BK424.out), (Op.bt BK434.out), z_HI425, (Op.ht HB.out), z_HI425_e6, z_HI425_e8, fun _ => (Op.rm (Op.rt HO443.out)), fun h0_ => absurd ((hoff 12 (by kernel_rfl)).symm.trans h0_) (by decide), fun h0_ => absurd ((hoff 13 (by kernel_rfl)).symm.trans h0_) (by decide)⟩
  refine steps_cons ?_ ?_
  ·rintro b a w' ⟨v442, ha, Q_HO428, Q_HO431, Q_BK424, Q_BK434, Q_HI425, Q_HB, Q_HI425_e6, Q_HI425_e8, Q_HO443, Q_HI425_e12, Q_BK424_e13⟩ hb_ hon hoff
   refine ⟨_, rfl, fun K hK => ?_⟩
   have e23 : a.tmps[23]? = some (.pointer (some ⟨gb425, 0, none⟩)) := by rw [ha]; exact (putSel_off rfl).trans rfl
   have e24 : a.tmps[24]? = some (v442) := by rw [ha]; exact putSel_on (e := (11, 24, v442)) 7 rfl rfl (hon 11 (by kernel_rfl)) rfl
   replace ha := Op.k ha
   have HO428 := Op.k Q_HO428
   have HO431 := Op.k Q_HO431
   have BK424 := Op.k (Q_BK424 (hoff 13 (by kernel_rfl)))
   have BK434 := Op.k Q_BK434
   have HB := Op.k Q_HB
   have HI425 := Op.k (Q_HI425_e8 (hon 8 (by kernel_rfl)) hb_)
   have HO443 := Op.k (Q_HO443 (hon 11 (by kernel_rfl)))
   obtain ⟨Ao22, co22, eo22⟩ := Kd.R_slice HO443.out
   (first | subst eo22 | (injection eo22 with f1_ f2_ f3_; have f4_ := f1_.symm; have f5_ := f3_.symm; clear f1_ f2_ f3_; subst f4_; subst f5_))
   refine goes_ Try.func71 (by kernel_rfl) rfl #[.pointer (some ⟨gb425, 0, none⟩), .slice Ao22 y441.length co22] (by rfl) rfl rfl (by first | (simp only [List.map_toArray, List.map_cons, List.map_nil, Act.eval, Array.getD_eq_getD_getElem?, Option.getD_some, e23, e24]; done) | (simp only [List.map_toArray, List.map_cons, List.map_nil, Act.eval, Array.getD_eq_getD_getElem?, Option.getD_some, e23, e24]; rfl)) ?_
   with_reducible refine (spec_l1Cur_among.calls gb425 l0 t439 t440 _ _ y441 t444 t445 t446 w _ ?side1 ?side2 ?side3 ?side4 ?side5 A5.out).mono ?_
   (case side1 => exact IsS80.it HI425.out)
   (case side2 => exact Op.hu HB.out (IsS80.ge HI425.out))
   (case side3 => exact Op.ct (Kd.R_reads' HO443.out).2.2)
   (case side4 => exact (Kd.R_reads' HO443.out).2.1)
   (case side5 => exact far_slice (IsS80.own_ne HI425.out HO443.out (by decide)))
   rintro e w23 ⟨rfl, hi, hb, hk⟩
   refine ⟨_, rfl, ?_⟩
   replace BK424 := Op.k (KeepBut.blk hk (Op.bt BK424.out) NB424_425.out (by simp))
   replace HO428 := Op.k (Kd.S_mono (Kd.S_keep (IsS80.apartS (show IsS80 w _ gb425 l0 t439 t440 from IsS80.it HI425.out) (Op.st HO428.out) (by decide)) hk (fun _ h => h.2)) (fun _ h => h.1))
   replace HO431 := Op.k (Kd.R_mono (Kd.R_keep (IsS80.apart (show IsS80 w _ gb425 l0 t439 t440 from IsS80.it HI425.out) (Op.rt HO431.out) (by decide)) hk (fun _ h => h.2)) (fun _ h => h.1))
   replace BK434 := Op.k (KeepBut.blk hk (Op.bt BK434.out) NB434_425.out (by simp))
   replace HO443 := Op.k (Kd.R_mono (Kd.R_keep (IsS80.apart (show IsS80 w _ gb425 l0 t439 t440 from IsS80.it HI425.out) (Op.rt HO443.out) (by decide)) hk (fun _ h => h.2)) (fun _ h => h.1))
   replace HB := Op.k (hb)
   replace HI425 := Op.k (hi)
   (try clear hb)
   (try clear hb2)
   (try clear hk)
   (try clear hi)
   refine hK.out _ _ ⟨.slice Ao22 y441.length co22, (by rw [ha.out]; exact putSel_upk 8 hb_ rfl rfl rfl), (Op.sm (Op.st HO428.out)), (Op.rm (Op.rt HO431.out)), fun _ => (Op.bt BK424.out), (Op.bt BK434.out), fun h0_ => absurd ((hon 6 (by kernel_rfl)).symm.trans h0_) (by decide), (Op.hu HB.out (IsS80.ge HI425.out)), fun _ h1_ => absurd ((hon 8 (by kernel_rfl)).symm.trans h1_) (by decide), fun _ h1_ => absurd ((up_self b 12).symm.trans h1_) (by decide), fun _ => (Op.rm (Op.rt HO443.out)), fun _ => (IsS80.it HI425.out), fun h0_ => absurd ((hoff 13 (by kernel_rfl)).symm.trans h0_) (by decide)⟩
  refine steps_cons ?_ ?_
  ·rintro b a w' ⟨v442, ha, Q_HO428, Q_HO431, Q_BK424, Q_BK434, Q_HI425, Q_HB, Q_HI425_e6, Q_HI425_e8, Q_HO443, Q_HI425_e12, Q_BK424_e13⟩ hb_ hon hoff
   refine ⟨_, rfl, fun K hK => ?_⟩
   have e2 : a.tmps[2]? = some (.pointer (some ⟨gb424, 0, none⟩)) := by rw [ha]; exact (putSel_off rfl).trans rfl
   have e13 : a.tmps[13]? = some (.agg #[.slice Ao10 t426.length co10, .slice Ao14 t429.length co14]) := by rw [ha]; exact putSel_on (e := (0, 13, .agg #[.slice Ao10 t426.length co10, .slice Ao14 t429.length co14])) 0 rfl rfl (hon 0 (by kernel_rfl)) rfl
   replace ha := Op.k ha
   have HO428 := Op.k Q_HO428
   have HO431 := Op.k Q_HO431
   have BK424 := Op.k (Q_BK424 hb_)
   have BK434 := Op.k Q_BK434
   have HB := Op.k Q_HB
   have HO443 := Op.k (Q_HO443 (hon 11 (by kernel_rfl)))
   have HI425 := Op.k (Q_HI425_e12 (hon 12 (by kernel_rfl)))
   have hs24 : w'.cell? ⟨gb424, 0, none⟩ = some (.slice none 0 0) := (blk_cell BK424.out 0).trans rfl
   have hfs24 := Op.bf BK424.out 0
   have hns24_1 := NB434_424.out
   have hms24_1 := NB424_434.out
   have hs25 : w'.cell? ⟨gb424, 1, none⟩ = some (.slice none 0 0) := (blk_cell BK424.out 1).trans rfl
   have hfs25 := Op.bf BK424.out 1
   have hns25_1 := NB434_424.out
   have hms25_1 := NB424_434.out
   refine skip_ (w1 := ?_) (by rfl) rfl ?_ ?_
   rotate_left
   ·go_simp
    rfl
   refine hK.out _ _ ⟨v442, (by rw [ha.out]; exact putSel_none (v := undef) rfl), (Op.sm (Op.sf HO428.out BK424.out)), (Op.rm (Op.rf HO431.out BK424.out)), fun h0_ => absurd ((up_self b 13).symm.trans h0_) (by decide), (Op.bt BK434.out), fun h0_ => absurd ((hon 6 (by kernel_rfl)).symm.trans h0_) (by decide), (Op.hu HB.out (IsS80.ge HI425.out)), fun _ h1_ => absurd ((hon 8 (by kernel_rfl)).symm.trans h1_) (by decide), fun _ h1_ => absurd ((hon 12 (by kernel_rfl)).symm.trans h1_) (by decide), fun _ => (Op.rm (Op.rf HO443.out BK424.out)), fun _ => (IsS80.it HI425.out), fun _ => (Op.bv BK424.out)⟩
  refine steps_cons ?_ ?_
  ·rintro b a w' ⟨v442, ha, Q_HO428, Q_HO431, Q_BK424, Q_BK434, Q_HI425, Q_HB, Q_HI425_e6, Q_HI425_e8, Q_HO443, Q_HI425_e12, Q_BK424_e13⟩ hb_ hon hoff
   refine ⟨_, rfl, fun K hK => ?_⟩
   have e19 : a.tmps[19]? = some (.int .i64 t435) := by rw [ha]; exact putSel_on (e := (6, 19, .int .i64 t435)) 4 rfl rfl (hon 6 (by kernel_rfl)) rfl
   replace ha := Op.k ha
   have HO428 := Op.k Q_HO428
   have HO431 := Op.k Q_HO431
   have BK434 := Op.k Q_BK434
   have HB := Op.k Q_HB
   have HO443 := Op.k (Q_HO443 (hon 11 (by kernel_rfl)))
   have HI425 := Op.k (Q_HI425_e12 (hon 12 (by kernel_rfl)))
   have BK424 := Op.k (Q_BK424_e13 (hon 13 (by kernel_rfl)))
   refine value_ (w1 := w') (v := .int .i64 t435) (by rfl) rfl ?_ ?_
   ·go_simp
    (try simp only [i64_w])
    try rfl
   refine hK.out _ _ ⟨v442, (by rw [ha.out]; exact putSel_upk 9 hb_ rfl rfl rfl), Q_HO428, Q_HO431, fun h0_ => absurd ((hon 13 (by kernel_rfl)).symm.trans h0_) (by decide), Q_BK434, fun h0_ => absurd ((hon 6 (by kernel_rfl)).symm.trans h0_) (by decide), Q_HB, fun _ h1_ => absurd ((hon 8 (by kernel_rfl)).symm.trans h1_) (by decide), fun _ h1_ => absurd ((hon 12 (by kernel_rfl)).symm.trans h1_) (by decide), Q_HO443, Q_HI425_e12, Q_BK424_e13⟩
  refine steps_cons ?_ ?_
  ·rintro b a w' ⟨v442, ha, Q_HO428, Q_HO431, Q_BK424, Q_BK434, Q_HI425, Q_HB, Q_HI425_e6, Q_HI425_e8, Q_HO443, Q_HI425_e12, Q_BK424_e13⟩ hb_ hon hoff
   refine ⟨_, rfl, fun K hK => ?_⟩
   have e22 : a.tmps[22]? = some (.int .i64 (wrap64 (t438 - 1))) := by rw [ha]; exact putSel_on (e := (9, 22, .int .i64 (wrap64 (t438 - 1)))) 6 rfl rfl (hon 9 (by kernel_rfl)) rfl
   replace ha := Op.k ha
   have HO428 := Op.k Q_HO428
   have HO431 := Op.k Q_HO431
   have BK434 := Op.k Q_BK434
   have HB := Op.k Q_HB
   have HO443 := Op.k (Q_HO443 (hon 11 (by kernel_rfl)))
   have HI425 := Op.k (Q_HI425_e12 (hon 12 (by kernel_rfl)))
   have BK424 := Op.k (Q_BK424_e13 (hon 13 (by kernel_rfl)))
   refine value_ (w1 := w') (v := .int .i64 (wrap64 (t438 - 1))) (by rfl) rfl ?_ ?_
   ·go_simp
    (try simp only [i64_w])
    try rfl
   refine hK.out _ _ ⟨v442, (by rw [ha.out]; exact putSel_upk 10 hb_ rfl rfl rfl), Q_HO428, Q_HO431, fun h0_ => absurd ((hon 13 (by kernel_rfl)).symm.trans h0_) (by decide), Q_BK434, fun h0_ => absurd ((hon 6 (by kernel_rfl)).symm.trans h0_) (by decide), Q_HB, fun _ h1_ => absurd ((hon 8 (by kernel_rfl)).symm.trans h1_) (by decide), fun _ h1_ => absurd ((hon 12 (by kernel_rfl)).symm.trans h1_) (by decide), Q_HO443, Q_HI425_e12, Q_BK424_e13⟩
  refine steps_cons ?_ ?_
  ·rintro b a w' ⟨v442, ha, Q_HO428, Q_HO431, Q_BK424, Q_BK434, Q_HI425, Q_HB, Q_HI425_e6, Q_HI425_e8, Q_HO443, Q_HI425_e12, Q_BK424_e13⟩ hb_ hon hoff
   refine ⟨_, rfl, fun K hK => ?_⟩
   have e25 : a.tmps[25]? = some (.int .i64 t444) := by rw [ha]; exact putSel_on (e := (12, 25, .int .i64 t444)) 8 rfl rfl (hon 12 (by kernel_rfl)) rfl
   replace ha := Op.k ha
   have HO428 := Op.k Q_HO428
   have HO431 := Op.k Q_HO431
   have BK434 := Op.k Q_BK434
   have HB := Op.k Q_HB
   have HO443 := Op.k (Q_HO443 (hon 11 (by kernel_rfl)))
   have HI425 := Op.k (Q_HI425_e12 (hon 12 (by kernel_rfl)))
   have BK424 := Op.k (Q_BK424_e13 (hon 13 (by kernel_rfl)))
   refine value_ (w1 := w') (v := .int .i64 t444) (by rfl) rfl ?_ ?_
   ·go_simp
    (try simp only [i64_w])
    try rfl
   refine hK.out _ _ ⟨v442, (by rw [ha.out]; exact putSel_upk 11 hb_ rfl rfl rfl), Q_HO428, Q_HO431, fun h0_ => absurd ((hon 13 (by kernel_rfl)).symm.trans h0_) (by decide), Q_BK434, fun h0_ => absurd ((hon 6 (by kernel_rfl)).symm.trans h0_) (by decide), Q_HB, fun _ h1_ => absurd ((hon 8 (by kernel_rfl)).symm.trans h1_) (by decide), fun _ h1_ => absurd ((hon 12 (by kernel_rfl)).symm.trans h1_) (by decide), Q_HO443, Q_HI425_e12, Q_BK424_e13⟩
  exact steps_nil
 rintro b a w25 hall ⟨v442, ha, Q_HO428, Q_HO431, Q_BK424, Q_BK434, Q_HI425, Q_HB, Q_HI425_e6, Q_HI425_e8, Q_HO443, Q_HI425_e12, Q_BK424_e13⟩
 clear BK424 BK434 HB HI425 HO428 HO431
 have hb0_ := hall 0 (by kernel_rfl)
 have hb3_ := hall 3 (by kernel_rfl)
 have hb4_ := hall 4 (by kernel_rfl)
 have hb5_ := hall 5 (by kernel_rfl)
 have hb6_ := hall 6 (by kernel_rfl)
 have hb8_ := hall 8 (by kernel_rfl)
 have hb9_ := hall 9 (by kernel_rfl)
 have hb11_ := hall 11 (by kernel_rfl)
 have hb12_ := hall 12 (by kernel_rfl)
 have hb13_ := hall 13 (by kernel_rfl)
 have hb14_ := hall 14 (by kernel_rfl)
 have hb15_ := hall 15 (by kernel_rfl)
 have hb16_ := hall 16 (by kernel_rfl)
 subst ha
 simp only [putSel, hb0_, hb3_, hb4_, hb5_, hb6_, hb8_, hb9_, hb11_, hb12_, hb13_, hb14_, hb15_, hb16_, if_true, Act.put, List.setIfInBounds_toArray, List.set_cons_zero, List.set_cons_succ]
 have HO428 := Op.k Q_HO428
 clear Q_HO428
 have HO431 := Op.k Q_HO431
 clear Q_HO431
 clear Q_BK424
 have BK434 := Op.k Q_BK434
 clear Q_BK434
 clear Q_HI425
 have HB := Op.k Q_HB
 clear Q_HB
 clear Q_HI425_e6
 clear Q_HI425_e8
 have HO443 := Op.k (Q_HO443 hb11_)
 clear Q_HO443
 have HI425 := Op.k (Q_HI425_e12 hb12_)
 clear Q_HI425_e12
 have BK424 := Op.k (Q_BK424_e13 hb13_)
 clear Q_BK424_e13
 clear hall hb0_ hb3_ hb4_ hb5_ hb6_ hb8_ hb9_ hb11_ hb12_ hb13_ hb14_ hb15_ hb16_
 try go_wp2
 refine bodyPost_ret (results_list (rs := [.cell 2 25, .tmp 3, .tmp 4, .tmp 5]) rfl (by simp) (.cell gb424 25 #[.slice Ao10 t426.length co10, .slice Ao14 t429.length co14] (0, 0) _ rfl (Op.bt BK424.out) Try.underlying25 rfl (by kernel_rfl) (.tmp (.tmp (.tmp .nil))))) rfl ?_
 exact ⟨_, _, by first | rfl | (simp [errW_none, errW_some] <;> rfl) | (simp [*, errW_none, errW_some] <;> rfl), Op.sm (Op.st HO428.out), Op.rm (Op.rt HO431.out), Op.hu HB.out (IsS80.ge HI425.out)⟩

/-! ### laws_sameInts: function 37 -/
def laws_sameInts.l0 : Nat → List Int → List Int → Int → Int → Option (Bool)
 | 0, _, _, _, _ => none
 | k + 1, x0, x1, x12, x13 => if x13 < x12 then (if 0 ≤ x13 then (if x13 < (x0.length : Int) then (if x13 < (x1.length : Int) then (if (rd x0 x13) = (rd x1 x13) then (laws_sameInts.l0 k x0 x1 x12 (wrap64 (x13 + 1))) else (some false)) else (none)) else (none)) else (none)) else (some true)
def laws_sameInts.f (k : Nat) (l0 : List Int) (l1 : List Int) : Option (Bool) := if (l0.length : Int) = (l1.length : Int) then (laws_sameInts.l0 k l0 l1 (l0.length : Int) 0) else (some false)
theorem laws_sameInts.mono_l : ∀ k, (∀ y0 y1 y2 y3, LeO (laws_sameInts.l0 k y0 y1 y2 y3) (laws_sameInts.l0 (k + 1) y0 y1 y2 y3))
 | 0 => fun _ _ _ _ r h => by simp [laws_sameInts.l0] at h
 | k + 1 => by
  have ih0 := laws_sameInts.mono_l k
  ·intro y0 y1 y2 y3
   unfold laws_sameInts.l0
   repeat' first
   | (with_reducible exact ih0 _ _ _ _)
   | (with_reducible exact LeO.refl _)
   | (with_reducible exact LeO.none _)
   | (with_reducible refine LeO.ite ?_ ?_)
   | (with_reducible refine LeO.bind ?_ (fun _ => ?_))
   | exact ih0 _ _ _ _
   | exact LeO.none _
   | refine LeO.ite ?_ ?_
   | refine LeO.bind ?_ (fun _ => ?_)
theorem laws_sameInts.mono : ∀ a0 a1 k, LeO (laws_sameInts.f k a0 a1) (laws_sameInts.f (k + 1) a0 a1) := by
 intro a0 a1 k
 have ih0 := laws_sameInts.mono_l k
 unfold laws_sameInts.f
 repeat' first
   | (with_reducible exact ih0 _ _ _ _)
   | (with_reducible exact LeO.refl _)
   | (with_reducible exact LeO.none _)
   | (with_reducible refine LeO.ite ?_ ?_)
   | (with_reducible refine LeO.bind ?_ (fun _ => ?_))
   | exact ih0 _ _ _ _
   | exact LeO.none _
   | refine LeO.ite ?_ ?_
   | refine LeO.bind ?_ (fun _ => ?_)
set_option maxHeartbeats 8000000 in
set_option maxRecDepth 100000 in
theorem laws_sameInts.calls (k : Nat) (A0 : Option Addr) (c0 : Nat) (l0 : List Int) (A1 : Option Addr) (c1 : Nat) (l1 : List Int) (r : Bool) (w : World) (hr0 : Kd.C (Kd.int .i64) w A0 l0.length l0) (hc0 : l0.length ≤ c0) (hr1 : Kd.C (Kd.int .i64) w A1 l1.length l1) (hc1 : l1.length ≤ c1) (h : laws_sameInts.f k l0 l1 = some r) :
  Calls Try.prog 37 #[.slice A0 l0.length c0, .slice A1 l1.length c1] w fun e w' => e = .returned (.bool r) ∧ Drawn0 w w' := by
 have HR0 := Op.k hr0
 have HC0 := Op.k hc0
 clear hr0 hc0
 have HR1 := Op.k hr1
 have HC1 := Op.k hc1
 clear hr1 hc1
 have H : (if (l0.length : Int) = (l1.length : Int) then (laws_sameInts.l0 k l0 l1 (l0.length : Int) 0) else (some false)) = some r := h
 clear h
 by_cases c3 : (l0.length : Int) = (l1.length : Int)
 ·rw [if_pos c3] at H
  have c3b0 : ((l0.length : Int) == (l1.length : Int)) = true := beq_iff_eq.mpr c3
  have c3b1 : ((l0.length : Int) != (l1.length : Int)) = false := bne_eq_false_iff_eq.mpr c3
  have c3b2 : (l0.length == l1.length) = true := by first | simpa using c3 | (simp at c3 ⊢; omega)
  clear c3
  have H' := Op.k H
  clear H
  go_enter Try.func37, Try.ntmps37
  go_wp2
  repeat (go_quiet (fail); try go_wp2)
  go_loopg [13] k (fun kq v13 w' => ∃ (x13_1 : Int), v13 = .int .i64 x13_1 ∧ Aside0 (laws_sameInts.l0 kq l0 l1 (l0.length : Int) x13_1 = some r) ∧ Aside0 (kq ≤ k) ∧ Drawn0 w w')
  case atStart => exact ⟨(0), (by first | rfl | (simp; done) | (simp [*]; done)), H', ⟨Nat.le_refl _⟩, by repeat (first | exact Drawn0.refl _ | apply Drawn0.step)⟩
  case round =>
   clear H'
   try clear c1
   try clear p2
   try clear c3
   try clear c3b0
   try clear c3b1
   try clear c3b2
   obtain ⟨x13_1, rfl, HA, HK1, ⟨m1, rfl⟩⟩ := hrel
   cases gk with
   | zero => exact absurd HA.out (by simp [laws_sameInts.l0])
   | succ k1 =>
    have H := HA.out
    clear HA
    simp only [laws_sameInts.l0] at H
    by_cases c4 : x13_1 < (l0.length : Int)
    ·rw [if_pos c4] at H
     have c4b0 : decide (x13_1 < (l0.length : Int)) = true := decide_eq_true c4
     clear c4
     by_cases c5 : 0 ≤ x13_1
     ·rw [if_pos c5] at H
      have c5b0 : decide (0 ≤ x13_1) = true := decide_eq_true c5
      clear c5
      by_cases c6 : x13_1 < (l0.length : Int)
      ·rw [if_pos c6] at H
       have c6b0 : decide (x13_1 < (l0.length : Int)) = true := decide_eq_true c6
       clear c6
       by_cases c7 : x13_1 < (l1.length : Int)
       ·rw [if_pos c7] at H
        have c7b0 : decide (x13_1 < (l1.length : Int)) = true := decide_eq_true c7
        clear c7
        by_cases c8 : (rd l0 x13_1) = (rd l1 x13_1)
        ·rw [if_pos c8] at H
         have c8b0 : ((rd l0 x13_1) == (rd l1 x13_1)) = true := beq_iff_eq.mpr c8
         have c8b1 : ((rd l0 x13_1) != (rd l1 x13_1)) = false := bne_eq_false_iff_eq.mpr c8
         clear c8
         have H' := Op.k H
         clear H
         have p447 : 0 ≤ (x13_1 : Int) := Op.dt
         have q447 : x13_1 < (l0.length : Int) := Op.dt
         obtain ⟨ad447, e447, hx447_0⟩ := Kd.at_int HR0.out x13_1 p447 q447
         cases e447
         replace p447 := eq_true p447
         replace q447 := eq_true q447
         have p448 : 0 ≤ (x13_1 : Int) := Op.dt
         have q448 : x13_1 < (l1.length : Int) := Op.dt
         obtain ⟨ad448, e448, hx448_0⟩ := Kd.at_int HR1.out x13_1 p448 q448
         cases e448
         replace p448 := eq_true p448
         replace q448 := eq_true q448
         go_wp2
         repeat (go_quiet (fail); try go_wp2)
         go_roundg k1
         case measure => have := HK1.out; omega
         case rel => exact ⟨(wrap64 (x13_1 + 1)), (by first | rfl | (simp; done) | (simp [*]; done)), H', ⟨by have := HK1.out; omega⟩, by repeat (first | exact Drawn0.refl _ | apply Drawn0.step)⟩
        ·rw [if_neg c8] at H
         have c8b0 : ((rd l0 x13_1) == (rd l1 x13_1)) = false := beq_eq_false_iff_ne.mpr c8
         have c8b1 : ((rd l0 x13_1) != (rd l1 x13_1)) = true := bne_iff_ne.mpr c8
         obtain rfl := Option.some.inj H
         have p447 : 0 ≤ (x13_1 : Int) := Op.dt
         have q447 : x13_1 < (l0.length : Int) := Op.dt
         obtain ⟨ad447, e447, hx447_0⟩ := Kd.at_int HR0.out x13_1 p447 q447
         cases e447
         replace p447 := eq_true p447
         replace q447 := eq_true q447
         have p448 : 0 ≤ (x13_1 : Int) := Op.dt
         have q448 : x13_1 < (l1.length : Int) := Op.dt
         obtain ⟨ad448, e448, hx448_0⟩ := Kd.at_int HR1.out x13_1 p448 q448
         cases e448
         replace p448 := eq_true p448
         replace q448 := eq_true q448
         go_wp2
         repeat (go_quiet (fail); try go_wp2)
         go_ret
         exact ⟨by first | rfl | (simp; done) | (simp [*]; done), by repeat (first | exact Drawn0.refl _ | apply Drawn0.step)⟩
       ·rw [if_neg c7] at H
        exact absurd H (by simp)
      ·rw [if_neg c6] at H
       exact absurd H (by simp)
     ·rw [if_neg c5] at H
      exact absurd H (by simp)
    ·rw [if_neg c4] at H
     have c4b0 : decide (x13_1 < (l0.length : Int)) = false := decide_eq_false c4
     clear c4
     obtain rfl := Option.some.inj H
     go_wp2
     repeat (go_quiet (fail); try go_wp2)
     go_ret
     exact ⟨by first | rfl | (simp; done) | (simp [*]; done), by repeat (first | exact Drawn0.refl _ | apply Drawn0.step)⟩
 ·rw [if_neg c3] at H
  have c3b0 : ((l0.length : Int) == (l1.length : Int)) = false := beq_eq_false_iff_ne.mpr c3
  have c3b1 : ((l0.length : Int) != (l1.length : Int)) = true := bne_iff_ne.mpr c3
  have c3b2 : (l0.length == l1.length) = false := by first | simpa using c3 | (simp at c3 ⊢; omega)
  obtain rfl := Option.some.inj H
  go_enter Try.func37, Try.ntmps37
  go_wp2
  repeat (go_quiet (fail); try go_wp2)
  go_ret
  exact ⟨by first | rfl | (simp; done) | (simp [*]; done), by repeat (first | exact Drawn0.refl _ | apply Drawn0.step)⟩

end Go.Proofs.Ytnafnpoflheonaa.PFnVersions
