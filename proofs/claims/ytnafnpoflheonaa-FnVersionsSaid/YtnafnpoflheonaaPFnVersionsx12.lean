/- Contracts of functions of the translation, written by a program of this repo (a changed copy of the printer). Not trusted: Lean checks it. -/
-- squeezed
-- compact
import Derived.Test.YtnafnpoflheonaaCc
import Derived.Test.YtnafnpoflheonaaPFnVersionsx0
import Derived.Test.YtnafnpoflheonaaPFnVersionsx8
import Derived.Test.YtnafnpoflheonaaPFnVersionsx9
namespace Go.Proofs.Ytnafnpoflheonaa.PFnVersions
open Go.RowKit Go.Proofs.YtnafnpoflheonaaW.PrintWords Go.Proofs.YtnafnpoflheonaaW.PrintLast Go.Proofs.YtnafnpoflheonaaW.PrintMore
attribute [local go_sem] max2_int min2_int max_two min_two max_three min_three max_four min_four   -- for this text's walks alone
set_option linter.unusedVariables false
set_option linter.unusedSimpArgs false

/-! ### spec_DrawCloneOf: function 39 -/
def spec_DrawCloneOf.f (k : Nat) (l0 : List Int) : Option ((List (S65)) × List Int × Int) := (spec_l1Cur_pool.f k l0 0 0).bind fun bt476 => ((spec_l1Cur_pick.f l0 bt476.2.2.1 bt476.2.2.2 (wrap64 ((bt476.2.1.length : Int) + 1))).bind fun bt485 => (some (bt476.1, bt476.2.1, bt485.1)))
theorem spec_DrawCloneOf.mono : ∀ a0 k, LeO (spec_DrawCloneOf.f k a0) (spec_DrawCloneOf.f (k + 1) a0) := by
 intro a0 k
 unfold spec_DrawCloneOf.f
 repeat' first
   | (with_reducible exact spec_l1Cur_pool.mono _ _ _ _)
   | (with_reducible exact LeO.refl _)
   | (with_reducible exact LeO.none _)
   | (with_reducible refine LeO.ite ?_ ?_)
   | (with_reducible refine LeO.bind ?_ (fun _ => ?_))
   | exact spec_l1Cur_pool.mono _ _ _ _
   | exact LeO.none _
   | refine LeO.ite ?_ ?_
   | refine LeO.bind ?_ (fun _ => ?_)
def spec_DrawCloneOf.T3 : Bool × List (List Nat × List Nat) := (true, [([], []), ([], []), ([], []), ([2], [2]), ([3], [3]), ([4], [4]), ([1, 5], [1, 5]), ([0, 6, 0], [0]), ([6, 7, 0, 1, 2, 3, 4, 5, 6, 7], [6])])
def spec_DrawCloneOf.B3 : List Nat := [0, 0, 0, 4, 12, 28, 62, 127, 255]
theorem spec_DrawCloneOf.tab3 : rtab .any (opsOf Try.f39 3) = spec_DrawCloneOf.T3 := by kernel_rfl
theorem spec_DrawCloneOf.bits3 : waitsOk spec_DrawCloneOf.T3.2 spec_DrawCloneOf.B3 = true := by kernel_rfl
set_option maxHeartbeats 8000000 in
set_option maxRecDepth 100000 in
theorem spec_DrawCloneOf.calls (k : Nat) (A0 : Option Addr) (c0 : Nat) (l0 : List Int) (r1 : List (S65)) (r2 : List Int) (r3 : Int) (w : World) (hr0 : Kd.C (Kd.int .u8) w A0 l0.length l0) (hc0 : l0.length ≤ c0) (h : spec_DrawCloneOf.f k l0 = some (r1, r2, r3)) :
  Calls Try.prog 39 #[.slice A0 l0.length c0] w fun e w' => ∃ v0_ v1_ : Value, e = .returned (.tuple #[.agg #[v0_, v1_], .int .i64 r3]) ∧ Kd.S k65 65 w' w.heap.size (fun k_ => some k_ ≠ (v1_ : Value).ownBlock) v0_ r1 ∧ Kd.R (Kd.int .i64) 3 w' w.heap.size (fun _ => True) v1_ r2 ∧ Below w.heap.size w w' := by
 have hu25 := Try.underlying25
 have hu80 := Try.underlying80
 have HR0 := Op.k hr0
 have HC0 := Op.k hc0
 clear hr0 hc0
 have HB := Op.k (Below.refl w.heap.size w)
 have H : ((spec_l1Cur_pool.f k l0 0 0).bind fun bt476 => ((spec_l1Cur_pick.f l0 bt476.2.2.1 bt476.2.2.2 (wrap64 ((bt476.2.1.length : Int) + 1))).bind fun bt485 => (some (bt476.1, bt476.2.1, bt485.1)))) = some (r1, r2, r3) := h
 clear h
 replace H := Option.bind_eq_some_iff.mp H
 obtain ⟨⟨t476, t479, t482, t483⟩, A20, H⟩ := H
 try dsimp only at H
 have A2 := Op.k A20
 clear A20
 replace H := Option.bind_eq_some_iff.mp H
 obtain ⟨⟨t485, t486, t487⟩, A30, H⟩ := H
 replace H : (some (t476, t479, t485)) = some (r1, r2, r3) := H
 have A3 := Op.k A30
 clear A30
 simp only [Option.some.injEq, Prod.mk.injEq] at H
 obtain ⟨rfl, rfl, rfl⟩ := H
 go_enter Try.func39, Try.ntmps39
 try go_wp2_with (first | ((with_reducible refine gate_dst (N := 2) rfl ?_); refine box_event ?hg (N := 2) ?hd (cs := #[.slice none 0 0, .slice none 0 0]) (t := 25) ?hr ?_; (case hd => rfl); (case hg => rfl); (case hr => first | (go_simp; done) | (go_simp; rfl)); intro gb474 hg w4 hbox hb; have BK474 := Op.k (hbox); have GW474 := Op.k ((Op.nz hg (Op.ht HB.out) : w.heap.size ≤ gb474)); have GE474 := Op.k ((Op.nz hg (Op.ht HB.out) : w.heap.size ≤ gb474)); replace HB := Op.k (Op.a5 (Op.ht HB.out) hb); clear hb hbox hg) | ((with_reducible refine gate_dst (N := 8) rfl ?_); refine box_event ?hg (N := 8) ?hd (cs := #[.slice A0 l0.length c0, .int .i64 0, .int .u64 0]) (t := 80) ?hr ?_; (case hd => rfl); (case hg => rfl); (case hr => first | (go_simp; done) | (go_simp; rfl)); intro gb475 hg w5 hbox hb; have BK475 := Op.k (hbox); have GW475 := Op.k ((Op.nz hg (Op.ht HB.out) : w.heap.size ≤ gb475)); have GE475 := Op.k ((Op.nz hg (Op.ht HB.out) : w.heap.size ≤ gb475)); replace HB := Op.k (Op.a5 (Op.ht HB.out) hb); have NB474_475 := Op.k ((Op.nl hg (Op.bt BK474.out) : gb474 ≠ gb475)); have NB475_474 := Op.k ((Op.ng hg (Op.bt BK474.out) : gb475 ≠ gb474)); replace BK474 := Op.k (Op.b4 (Op.bt BK474.out) hb); clear hb hbox hg) | (have HI475 := Op.k (show IsS80 w _ gb475 l0 0 0 from ⟨_, _, BK475.out, GE475.out, HR0.out⟩); go_at_call 69; (with_reducible refine (spec_l1Cur_pool.calls k gb475 l0 0 0 t476 t479 t482 t483 w _ ?side1 ?side2 A2.out).mono ?_); (case side1 => exact IsS80.it HI475.out); (case side2 => exact Op.hu HB.out (IsS80.ge HI475.out)); rintro e w6 ⟨v477, v480, rfl, ho0, ho1, hi, hb, hk⟩; have n0_ := Op.k (KeepBut.blk hk (Op.bt BK474.out) NB474_475.out (by simp)); have n1_ := Op.k (Kd.S_lower ho0 (Op.a6 (Op.hu HB.out (IsS80.ge HI475.out)))); have n2_ := Op.k (Kd.R_lower ho1 (Op.a6 (Op.hu HB.out (IsS80.ge HI475.out)))); have n3_ := Op.k (hb); have n4_ := Op.k (hi); clear BK474; clear HB; clear HI475; clear BK475; have BK474 := n0_; have HO478 := n1_; have HO481 := n2_; have HB := n3_; have HI475 := n4_; clear n0_ n1_ n2_ n3_ n4_; (try clear hb); (try clear hb2); (try clear hk); (try clear hi); (try clear ho0); (try clear ho1)) | ((with_reducible refine gate_dst (N := 5) rfl ?_); refine box_event ?hg (N := 5) ?hd (cs := #[.slice none 0 0, .slice none 0 0]) (t := 25) ?hr ?_; (case hd => rfl); (case hg => rfl); (case hr => first | (go_simp; done) | (go_simp; rfl)); intro gb484 hg w7 hbox hb; replace HO478 := Op.k (Kd.S_below (Op.st HO478.out) hb); replace HO481 := Op.k (Kd.R_below (Op.rt HO481.out) hb); have BK484 := Op.k (hbox); have GW484 := Op.k ((Op.nz hg (Op.hu HB.out (IsS80.ge HI475.out)) : w.heap.size ≤ gb484)); have GE484 := Op.k ((Op.nz hg (Op.hu HB.out (IsS80.ge HI475.out)) : w.heap.size ≤ gb484)); replace HB := Op.k (Op.a5 (Op.hu HB.out (IsS80.ge HI475.out)) hb); have NB474_484 := Op.k ((Op.nl hg (Op.bt BK474.out) : gb474 ≠ gb484)); have NB484_474 := Op.k ((Op.ng hg (Op.bt BK474.out) : gb484 ≠ gb474)); replace BK474 := Op.k (Op.b4 (Op.bt BK474.out) hb); have NB475_484 := Op.k ((by rw [hg]; exact Nat.ne_of_lt (IsS80.lt (show IsS80 w _ gb475 l0 t482 t483 from IsS80.it HI475.out)) : gb475 ≠ gb484)); have NB484_475 := Op.k ((by rw [hg]; exact Nat.ne_of_gt (IsS80.lt (show IsS80 w _ gb475 l0 t482 t483 from IsS80.it HI475.out)) : gb484 ≠ gb475)); replace HI475 := Op.k (IsS80.below (IsS80.it HI475.out) hb); clear hb hbox hg; obtain ⟨Ao8, co8, eo8⟩ := Kd.S_slice HO478.out; subst eo8; have hnb9 := NB484_474.out; have hnc9 := NB474_484.out; have hnb10 := NB484_475.out; have hnc10 := NB475_484.out; have hcz11_0 := Op.c0 BK484.out; have hcz11_1 := Op.c1 BK484.out; have hfz11_0 := Op.bf BK484.out 0; have hfz11_1 := Op.bf BK484.out 1; obtain ⟨Ao12, co12, eo12⟩ := Kd.R_slice HO481.out; subst eo12))
 have n0_ : Aside0 (Kd.S k65 65 ((w7.setCell ⟨gb484, 0, none⟩ (.slice Ao8 t476.length co8)).setCell ⟨gb484, 1, none⟩ (.slice Ao12 t479.length co12)) w.heap.size (fun k_ => some k_ ≠ (.slice Ao12 t479.length co12 : Value).ownBlock) (.slice Ao8 t476.length co8) t476) := ⟨Kd.S_mono (Op.sf HO478.out BK484.out) (fun _ hk => hk)⟩
 have n1_ : Aside0 (Kd.R (Kd.int .i64) 3 ((w7.setCell ⟨gb484, 0, none⟩ (.slice Ao8 t476.length co8)).setCell ⟨gb484, 1, none⟩ (.slice Ao12 t479.length co12)) w.heap.size (fun _ => True) (.slice Ao12 t479.length co12) t479) := ⟨Kd.R_mono (Op.rf HO481.out BK484.out) (fun _ hk => trivial)⟩
 have n2_ : Aside0 (((w7.setCell ⟨gb484, 0, none⟩ (.slice Ao8 t476.length co8)).setCell ⟨gb484, 1, none⟩ (.slice Ao12 t479.length co12)).heap[gb474]? = some (.cells #[.slice none 0 0, .slice none 0 0] 25 (0, 0))) := ⟨Op.bt BK474.out⟩
 have n3_ : Aside0 (((w7.setCell ⟨gb484, 0, none⟩ (.slice Ao8 t476.length co8)).setCell ⟨gb484, 1, none⟩ (.slice Ao12 t479.length co12)).heap[gb484]? = some (.cells #[.slice Ao8 t476.length co8, .slice Ao12 t479.length co12] 25 (0, 0))) := ⟨Op.bv BK484.out⟩
 have n4_ : Aside0 (IsS80 w ((w7.setCell ⟨gb484, 0, none⟩ (.slice Ao8 t476.length co8)).setCell ⟨gb484, 1, none⟩ (.slice Ao12 t479.length co12)) gb475 l0 t482 t483) := ⟨IsS80.it HI475.out⟩
 have n5_ : Aside0 (Below w.heap.size w ((w7.setCell ⟨gb484, 0, none⟩ (.slice Ao8 t476.length co8)).setCell ⟨gb484, 1, none⟩ (.slice Ao12 t479.length co12))) := ⟨Op.hu HB.out (IsS80.ge HI475.out)⟩
 (try clear HO478)
 (try clear HO481)
 (try clear BK474)
 (try clear BK484)
 (try clear HI475)
 (try clear HB)
 generalize ((w7.setCell ⟨gb484, 0, none⟩ (.slice Ao8 t476.length co8)).setCell ⟨gb484, 1, none⟩ (.slice Ao12 t479.length co12)) = w13 at n0_ n1_ n2_ n3_ n4_ n5_ ⊢
 have HO478 := n0_
 have HO481 := n1_
 have BK474 := n2_
 have BK484 := n3_
 have HI475 := n4_
 have HB := n5_
 clear n0_ n1_ n2_ n3_ n4_ n5_
 replace HO478 := Op.k (Kd.S_drew HO478.out)
 replace HO481 := Op.k (Kd.R_drew HO481.out)
 replace BK474 := Op.k (Op.b2 BK474.out)
 replace BK484 := Op.k (Op.b2 BK484.out)
 replace HI475 := Op.k (IsS80.drew HI475.out)
 replace HB := Op.k (Op.a3 HB.out)
 refine start_ (n := 9) (S := fun w' => w'.cell? ⟨gb484, 0, none⟩ = some (.slice Ao8 t476.length co8) ∧ w'.cell? ⟨gb484, 1, none⟩ = some (.slice Ao12 t479.length co12)) (ds := []) #[false, false, false, false, false, false, false, false, false] (by kernel_rfl) rfl rfl ⟨(blk_cell BK484.out 0).trans rfl, (blk_cell BK484.out 1).trans rfl⟩ (fun hHeld => ?_); refine with_tabW spec_DrawCloneOf.tab3 spec_DrawCloneOf.bits3 (fun HT_ HW_ => ?_)
 generalize w13.drew = w14 at HO478 HO481 BK474 BK484 HI475 HB hHeld ⊢
 refine pure_ (i := 1) (N := some 12) (v := ?_) (a' := ?_) #[false, true, false, false, false, false, false, false, false] rfl rfl (any_of HT_.out (by kernel_rfl)) (fun _ _ _ h => h) (Or.inl ⟨by rfl, ?_⟩) ?_ ?_
 rotate_left
 ·intro w'
  go_simp
  with_reducible rfl
 rotate_left
 ·simp only [Act.put, List.setIfInBounds_toArray, List.set_cons_zero, List.set_cons_succ, i64_w, i32_w]
  rfl
 refine pure_ (i := 2) (N := some 13) (v := ?_) (a' := ?_) #[false, true, true, false, false, false, false, false, false] rfl rfl (any_of HT_.out (by kernel_rfl)) (fun _ _ _ h => h) (Or.inl ⟨by rfl, ?_⟩) ?_ ?_
 rotate_left
 ·intro w'
  go_simp
  with_reducible rfl
 rotate_left
 ·simp only [Act.put, List.setIfInBounds_toArray, List.set_cons_zero, List.set_cons_succ, i64_w, i32_w]
  rfl
 refine take_ (i := 0) (N := some 11) (v := ?_) (a' := ?_) #[true, true, true, false, false, false, false, false, false] rfl rfl (take_ofW HT_.out HW_.out (by kernel_rfl)) (fun _ _ _ h => h) (Or.inl ⟨by rfl, ?_⟩) hHeld ?_ ?_
 rotate_left
 ·rintro w' ⟨s0, s1⟩
  go_simp
  with_reducible rfl
 rotate_left
 ·simp only [Act.put, List.setIfInBounds_toArray, List.set_cons_zero, List.set_cons_succ, i64_w, i32_w]
  rfl
 refine take_ (i := 3) (N := some 14) (v := ?_) (a' := ?_) #[true, true, true, true, false, false, false, false, false] rfl rfl (take_ofW HT_.out HW_.out (by kernel_rfl)) (fun _ _ _ h => h) (Or.inl ⟨by rfl, ?_⟩) hHeld ?_ ?_
 rotate_left
 ·rintro w' ⟨s0, s1⟩
  go_simp
  with_reducible rfl
 rotate_left
 ·simp only [Act.put, List.setIfInBounds_toArray, List.set_cons_zero, List.set_cons_succ, i64_w, i32_w]
  rfl
 refine pure_ (i := 4) (N := some 15) (v := ?_) (a' := ?_) #[true, true, true, true, true, false, false, false, false] rfl rfl (any_of HT_.out (by kernel_rfl)) (fun _ _ _ h => h) (Or.inl ⟨by rfl, ?_⟩) ?_ ?_
 rotate_left
 ·intro w'
  go_simp
  with_reducible rfl
 rotate_left
 ·simp only [Act.put, List.setIfInBounds_toArray, List.set_cons_zero, List.set_cons_succ, i64_w, i32_w]
  rfl
 refine pure_ (i := 5) (N := some 16) (v := ?_) (a' := ?_) #[true, true, true, true, true, true, false, false, false] rfl rfl (any_of HT_.out (by kernel_rfl)) (fun _ _ _ h => h) (Or.inl ⟨by rfl, ?_⟩) ?_ ?_
 rotate_left
 ·intro w'
  go_simp
  with_reducible rfl
 rotate_left
 ·simp only [Act.put, List.setIfInBounds_toArray, List.set_cons_zero, List.set_cons_succ, i64_w, i32_w]
  rfl
 refine one_ (i := 6) (N := some 17) #[true, true, true, true, true, true, true, false, false] rfl rfl (one_of HT_.out (by kernel_rfl)) (by decide) (fun K hK => ?_)
 refine goes_ Try.func70 (by kernel_rfl) rfl #[.pointer (some ⟨gb475, 0, none⟩), .int .i64 (wrap64 ((t479.length : Int) + 1))] (by rfl) rfl rfl (by (try simp only [List.map_toArray, List.map_cons, List.map_nil]); first | done | rfl | (simp only [List.length_drop, List.length_take]; rfl)) ?_
 with_reducible refine (spec_l1Cur_pick.calls gb475 l0 t482 t483 (wrap64 ((t479.length : Int) + 1)) t485 t486 t487 w _ ?side1 ?side2 A3.out).mono ?_
 (case side1 => exact IsS80.it HI475.out)
 (case side2 => exact Op.hu HB.out (IsS80.ge HI475.out))
 rintro e w15 ⟨rfl, hi, hb, hk⟩
 refine ⟨_, rfl, ?_⟩
 replace BK474 := Op.k (KeepBut.blk hk (Op.bt BK474.out) NB474_475.out (by simp))
 replace HO478 := Op.k (Kd.S_mono (Kd.S_keep (IsS80.apartS (show IsS80 w _ gb475 l0 t482 t483 from IsS80.it HI475.out) (Op.st HO478.out) (by decide)) hk (fun _ h => h.2)) (fun _ h => h.1))
 replace HO481 := Op.k (Kd.R_mono (Kd.R_keep (IsS80.apart (show IsS80 w _ gb475 l0 t482 t483 from IsS80.it HI475.out) (Op.rt HO481.out) (by decide)) hk (fun _ h => h.2)) (fun _ h => h.1))
 replace BK484 := Op.k (KeepBut.blk hk (Op.bt BK484.out) NB484_475.out (by simp))
 replace HB := Op.k (hb)
 replace HI475 := Op.k (hi)
 (try clear hb)
 (try clear hb2)
 (try clear hk)
 (try clear hi)
 refine hK.out _ _ ⟨(blk_cell BK484.out 0).trans rfl, (blk_cell BK484.out 1).trans rfl⟩ (fun hHeld => ?_)
 clear hK K
 refine norm_ (a' := ?_) ?_ ?_
 rotate_left
 ·show Act.put _ (some 17) _ = _
  simp only [Act.put, List.setIfInBounds_toArray, List.set_cons_zero, List.set_cons_succ, i64_w, i32_w]
  rfl
 refine one_ (i := 7) (N := none) #[true, true, true, true, true, true, true, true, false] rfl rfl (one_of HT_.out (by kernel_rfl)) (by decide) (fun K hK => ?_)
 have hs16 : w15.cell? ⟨gb474, 0, none⟩ = some (.slice none 0 0) := (blk_cell BK474.out 0).trans rfl
 have hfs16 := Op.bf BK474.out 0
 have hns16_1 := NB484_474.out
 have hms16_1 := NB474_484.out
 have hs17 : w15.cell? ⟨gb474, 1, none⟩ = some (.slice none 0 0) := (blk_cell BK474.out 1).trans rfl
 have hfs17 := Op.bf BK474.out 1
 have hns17_1 := NB484_474.out
 have hms17_1 := NB474_484.out
 refine skip_ (w1 := ?_) (by rfl) rfl ?_ ?_
 rotate_left
 ·go_simp
  rfl
 refine hK.out _ _ ⟨((cell_far (p := ⟨gb474, _, none⟩) NB484_474.out _).trans (((cell_far (p := ⟨gb474, _, none⟩) NB484_474.out _).trans (hHeld.1)))), ((cell_far (p := ⟨gb474, _, none⟩) NB484_474.out _).trans (((cell_far (p := ⟨gb474, _, none⟩) NB484_474.out _).trans (hHeld.2))))⟩ (fun hHeld => ?_)
 clear hK K
 refine pure_ (i := 8) (N := some 3) (v := ?_) (a' := ?_) #[true, true, true, true, true, true, true, true, true] rfl rfl (any_of HT_.out (by kernel_rfl)) (fun _ _ _ h => h) (Or.inl ⟨by rfl, ?_⟩) ?_ ?_
 rotate_left
 ·intro w'
  go_simp
  with_reducible rfl
 rotate_left
 ·simp only [Act.put, List.setIfInBounds_toArray, List.set_cons_zero, List.set_cons_succ, i64_w, i32_w]
  rfl
 refine done_ (done_of HT_.out (by kernel_rfl)) ?_
 try go_wp2
 refine bodyPost_ret (results_ct rfl _ _ gb474 25 #[.slice Ao8 t476.length co8, .slice Ao12 t479.length co12] (0, 0) _ rfl (Op.bv BK474.out) Try.underlying25 rfl (by kernel_rfl)) rfl ?_
 exact ⟨_, _, by first | rfl | (simp [errW_none, errW_some] <;> rfl) | (simp [*, errW_none, errW_some] <;> rfl), Op.sm (Op.sf HO478.out BK474.out), Op.rm (Op.rf HO481.out BK474.out), Op.hu HB.out (IsS80.ge HI475.out)⟩

end Go.Proofs.Ytnafnpoflheonaa.PFnVersions
