/- Contracts of functions of the translation, written by a program of this repo (a changed copy of the printer). Not trusted: Lean checks it. -/
-- squeezed
import Derived.Test.YtdhclelfnbjikaaPFnExactLinkNodex0
import Derived.Test.YtdhclelfnbjikaaPFnExactLinkNodex8
namespace Go.Proofs.Ytdhclelfnbjikaa.PFnExactLinkNode
open Go.RowKit Go.Proofs.YtdhclelfnbjikaaW.PrintWords Go.Proofs.YtdhclelfnbjikaaW.PrintLast Go.Proofs.YtdhclelfnbjikaaW.PrintMore
attribute [local go_sem] max2_int min2_int max_two min_two max_three min_three max_four min_four   -- for this text's walks alone
set_option linter.unusedVariables false
set_option linter.unusedSimpArgs false

/-! ### impl_ownGraph: function 66 -/
def impl_ownGraph.f (k : Nat) (l0_0 : List (S60)) (l0_1 : List Int) (l0_2 : List Int) : Option ((List (S60)) × List Int × List Int) := (impl_ownNodes.f k l0_0).bind fun t255 => ((slices_Clone_int_int.f l0_1).bind fun t258 => ((slices_Clone_int_int.f l0_2).bind fun t261 => (some (t255, t258, t261))))
theorem impl_ownGraph.mono : ∀ a0 a1 a2 k, LeO (impl_ownGraph.f k a0 a1 a2) (impl_ownGraph.f (k + 1) a0 a1 a2) := by
 intro a0 a1 a2 k
 unfold impl_ownGraph.f
 repeat' first
   | (with_reducible exact impl_ownNodes.mono _ _)
   | (with_reducible exact LeO.refl _)
   | (with_reducible exact LeO.none _)
   | (with_reducible refine LeO.ite ?_ ?_)
   | (with_reducible refine LeO.bind ?_ (fun _ => ?_))
   | exact impl_ownNodes.mono _ _
   | exact LeO.none _
   | refine LeO.ite ?_ ?_
   | refine LeO.bind ?_ (fun _ => ?_)
def impl_ownGraph.T1 : Bool × List (List Nat × List Nat) := (true, [([], []), ([0], [0]), ([1], [1]), ([], []), ([3], [3]), ([4, 2], [4]), ([], []), ([6], [6]), ([7, 5], [7]), ([2, 5, 8], [2, 5, 8]), ([9, 8, 0, 1, 2, 3, 4, 5, 6, 7, 8, 9], [9])])
def impl_ownGraph.B1 : List Nat := [0, 1, 3, 0, 8, 31, 0, 64, 255, 511, 1023]
theorem impl_ownGraph.tab1 : rtab .any (opsOf Try.f66 1) = impl_ownGraph.T1 := by kernel_rfl
theorem impl_ownGraph.bits1 : waitsOk impl_ownGraph.T1.2 impl_ownGraph.B1 = true := by kernel_rfl
set_option maxHeartbeats 8000000 in
set_option maxRecDepth 100000 in
theorem impl_ownGraph.calls (k : Nat) (A0_0 : Option Addr) (c0_0 : Nat) (l0_0 : List (S60)) (A0_1 : Option Addr) (c0_1 : Nat) (l0_1 : List Int) (A0_2 : Option Addr) (c0_2 : Nat) (l0_2 : List Int) (r1 : List (S60)) (r2 : List Int) (r3 : List Int) (w : World) (hr0_0 : Kd.C k60 w A0_0 l0_0.length l0_0) (hc0_0 : l0_0.length ≤ c0_0) (hr0_1 : Kd.C (Kd.int .i64) w A0_1 l0_1.length l0_1) (hc0_1 : l0_1.length ≤ c0_1) (hr0_2 : Kd.C (Kd.int .i64) w A0_2 l0_2.length l0_2) (hc0_2 : l0_2.length ≤ c0_2) (h : impl_ownGraph.f k l0_0 l0_1 l0_2 = some (r1, r2, r3)) :
  Calls Try.prog 66 #[.agg #[.slice A0_0 l0_0.length c0_0, .slice A0_1 l0_1.length c0_1, .slice A0_2 l0_2.length c0_2]] w fun e w' => ∃ v0_ v1_ v2_ : Value, e = .returned (.agg #[v0_, v1_, v2_]) ∧ Kd.S k60 60 w' w.heap.size (fun k_ => some k_ ≠ (v1_ : Value).ownBlock ∧ some k_ ≠ (v2_ : Value).ownBlock) v0_ r1 ∧ Kd.R (Kd.int .i64) 3 w' w.heap.size (fun k_ => some k_ ≠ (v2_ : Value).ownBlock) v1_ r2 ∧ Kd.R (Kd.int .i64) 3 w' w.heap.size (fun k_ => some k_ ≠ (v1_ : Value).ownBlock) v2_ r3 ∧ Below w.heap.size w w' := by
 have hu40 := Try.underlying40
 have HR0_0 := Aside0.mk hr0_0
 have HC0_0 := Aside0.mk hc0_0
 clear hr0_0 hc0_0
 have HR0_1 := Aside0.mk hr0_1
 have HC0_1 := Aside0.mk hc0_1
 clear hr0_1 hc0_1
 have HR0_2 := Aside0.mk hr0_2
 have HC0_2 := Aside0.mk hc0_2
 clear hr0_2 hc0_2
 have HB := Aside0.mk (Below.refl w.heap.size w)
 have H : ((impl_ownNodes.f k l0_0).bind fun t255 => ((slices_Clone_int_int.f l0_1).bind fun t258 => ((slices_Clone_int_int.f l0_2).bind fun t261 => (some (t255, t258, t261))))) = some (r1, r2, r3) := h
 clear h
 replace H := Option.bind_eq_some_iff.mp H
 obtain ⟨t255, A20, H⟩ := H
 replace H : ((slices_Clone_int_int.f l0_1).bind fun t258 => ((slices_Clone_int_int.f l0_2).bind fun t261 => (some (t255, t258, t261)))) = some (r1, r2, r3) := H
 have A2 := Aside0.mk A20
 clear A20
 replace H := Option.bind_eq_some_iff.mp H
 obtain ⟨t258, A30, H⟩ := H
 replace H : ((slices_Clone_int_int.f l0_2).bind fun t261 => (some (t255, t258, t261))) = some (r1, r2, r3) := H
 have A3 := Aside0.mk A30
 clear A30
 replace H := Option.bind_eq_some_iff.mp H
 obtain ⟨t261, A40, H⟩ := H
 replace H : (some (t255, t258, t261)) = some (r1, r2, r3) := H
 have A4 := Aside0.mk A40
 clear A40
 simp only [Option.some.injEq, Prod.mk.injEq] at H
 obtain ⟨rfl, rfl, rfl⟩ := H
 go_enter Try.func66, Try.ntmps66
 try go_wp2_with (first | ((with_reducible refine gate_dst (N := 1) rfl ?_); refine box_event ?hg (N := 1) ?hd (cs := #[.slice A0_0 l0_0.length c0_0, .slice A0_1 l0_1.length c0_1, .slice A0_2 l0_2.length c0_2]) (t := 40) ?hr ?_; (case hd => rfl); (case hg => rfl); (case hr => first | (go_simp; done) | (go_simp; rfl)); intro gb253 hg w5 hbox hb; have n0_ := Aside0.mk (Op.a5 (by repeat (first | (with_reducible first | exact HB.out | apply Op.a1 | apply Op.a2 | apply Op.a3) | exact HB.out)) hb); have n1_ := Aside0.mk (hbox); have n2_ := Aside0.mk ((by rw [hg]; exact (Op.a6 (by repeat (first | (with_reducible first | exact HB.out | apply Op.a1 | apply Op.a2 | apply Op.a3) | exact HB.out))) : w.heap.size ≤ gb253)); have n3_ := Aside0.mk ((by rw [hg]; exact (Op.a6 (by repeat (first | (with_reducible first | exact HB.out | apply Op.a1 | apply Op.a2 | apply Op.a3) | exact HB.out))) : w.heap.size ≤ gb253)); clear HB; have HB := n0_; have BK253 := n1_; have GW253 := n2_; have GE253 := n3_; clear n0_ n1_ n2_ n3_; clear hb hbox hg) | ((with_reducible refine gate_dst (N := 2) rfl ?_); refine box_event ?hg (N := 2) ?hd (cs := #[.slice none 0 0, .slice none 0 0, .slice none 0 0]) (t := 40) ?hr ?_; (case hd => rfl); (case hg => rfl); (case hr => first | (go_simp; done) | (go_simp; rfl)); intro gb254 hg w6 hbox hb; have n0_ := Aside0.mk (Op.b4 (g := gb253) (o := .cells #[.slice A0_0 l0_0.length c0_0, .slice A0_1 l0_1.length c0_1, .slice A0_2 l0_2.length c0_2] 40 (0, 0)) (by (with_reducible repeat (first | refine Op.b1 ?_ _ | refine Op.b2 ?_ | refine Op.b3 ?_ _)); exact BK253.out) hb); have n1_ := Aside0.mk (Op.a5 (by repeat (first | (with_reducible first | exact HB.out | apply Op.a1 | apply Op.a2 | apply Op.a3 | refine Op.a4 ?_ GE253.out) | exact HB.out)) hb); have n2_ := Aside0.mk (hbox); have n3_ := Aside0.mk ((by rw [hg]; exact (Op.a6 (by repeat (first | (with_reducible first | exact HB.out | apply Op.a1 | apply Op.a2 | apply Op.a3 | refine Op.a4 ?_ GE253.out) | exact HB.out))) : w.heap.size ≤ gb254)); have n4_ := Aside0.mk ((by rw [hg]; exact (Op.a6 (by repeat (first | (with_reducible first | exact HB.out | apply Op.a1 | apply Op.a2 | apply Op.a3 | refine Op.a4 ?_ GE253.out) | exact HB.out))) : w.heap.size ≤ gb254)); have n5_ := Aside0.mk ((by rw [hg]; exact Nat.ne_of_lt (blk_lt (g := gb253) (o := .cells #[.slice A0_0 l0_0.length c0_0, .slice A0_1 l0_1.length c0_1, .slice A0_2 l0_2.length c0_2] 40 (0, 0)) (by (with_reducible repeat (first | refine Op.b1 ?_ _ | refine Op.b2 ?_ | refine Op.b3 ?_ _)); exact BK253.out)) : gb253 ≠ gb254)); have n6_ := Aside0.mk ((by rw [hg]; exact Nat.ne_of_gt (blk_lt (g := gb253) (o := .cells #[.slice A0_0 l0_0.length c0_0, .slice A0_1 l0_1.length c0_1, .slice A0_2 l0_2.length c0_2] 40 (0, 0)) (by (with_reducible repeat (first | refine Op.b1 ?_ _ | refine Op.b2 ?_ | refine Op.b3 ?_ _)); exact BK253.out)) : gb254 ≠ gb253)); clear BK253; clear HB; have BK253 := n0_; have HB := n1_; have BK254 := n2_; have GW254 := n3_; have GE254 := n4_; have NB253_254 := n5_; have NB254_253 := n6_; clear n0_ n1_ n2_ n3_ n4_ n5_ n6_; clear hb hbox hg))
 have n0_ := Aside0.mk (Op.b2 BK253.out)
 have n1_ := Aside0.mk (Op.b2 BK254.out)
 have n2_ := Aside0.mk (Op.a3 HB.out)
 clear BK253
 clear BK254
 clear HB
 have BK253 := n0_
 have BK254 := n1_
 have HB := n2_
 clear n0_ n1_ n2_
 refine start_ (n := 11) (S := fun w' => w'.cell? ⟨gb253, 0, none⟩ = some (.slice A0_0 l0_0.length c0_0) ∧ w'.cell? ⟨gb253, 1, none⟩ = some (.slice A0_1 l0_1.length c0_1) ∧ w'.cell? ⟨gb253, 2, none⟩ = some (.slice A0_2 l0_2.length c0_2)) (ds := []) #[false, false, false, false, false, false, false, false, false, false, false] (by kernel_rfl) rfl rfl ⟨(blk_cell BK253.out 0).trans rfl, (blk_cell BK253.out 1).trans rfl, (blk_cell BK253.out 2).trans rfl⟩ (fun hHeld => ?_); refine with_tabW impl_ownGraph.tab1 impl_ownGraph.bits1 (fun HT_ HW_ => ?_)
 generalize w6.drew = w7 at BK253 BK254 HB hHeld ⊢
 refine pure_ (i := 0) (N := some 3) (v := ?_) (a' := ?_) #[true, false, false, false, false, false, false, false, false, false, false] rfl rfl (any_of HT_.out (by kernel_rfl)) (fun _ _ _ h => h) (Or.inl ⟨by rfl, ?_⟩) ?_ ?_
 rotate_left
 ·intro w'
  go_simp
  with_reducible rfl
 rotate_left
 ·simp only [Act.put, List.setIfInBounds_toArray, List.set_cons_zero, List.set_cons_succ, i64_w, i32_w]
  rfl
 refine pure_ (i := 3) (N := some 6) (v := ?_) (a' := ?_) #[true, false, false, true, false, false, false, false, false, false, false] rfl rfl (any_of HT_.out (by kernel_rfl)) (fun _ _ _ h => h) (Or.inl ⟨by rfl, ?_⟩) ?_ ?_
 rotate_left
 ·intro w'
  go_simp
  with_reducible rfl
 rotate_left
 ·simp only [Act.put, List.setIfInBounds_toArray, List.set_cons_zero, List.set_cons_succ, i64_w, i32_w]
  rfl
 refine pure_ (i := 6) (N := some 9) (v := ?_) (a' := ?_) #[true, false, false, true, false, false, true, false, false, false, false] rfl rfl (any_of HT_.out (by kernel_rfl)) (fun _ _ _ h => h) (Or.inl ⟨by rfl, ?_⟩) ?_ ?_
 rotate_left
 ·intro w'
  go_simp
  with_reducible rfl
 rotate_left
 ·simp only [Act.put, List.setIfInBounds_toArray, List.set_cons_zero, List.set_cons_succ, i64_w, i32_w]
  rfl
 refine take_ (i := 1) (N := some 4) (v := ?_) (a' := ?_) #[true, true, false, true, false, false, true, false, false, false, false] rfl rfl (take_ofW HT_.out HW_.out (by kernel_rfl)) (fun _ _ _ h => h) (Or.inl ⟨by rfl, ?_⟩) hHeld ?_ ?_
 rotate_left
 ·rintro w' ⟨s0, s1, s2⟩
  go_simp
  with_reducible rfl
 rotate_left
 ·simp only [Act.put, List.setIfInBounds_toArray, List.set_cons_zero, List.set_cons_succ, i64_w, i32_w]
  rfl
 refine take_ (i := 4) (N := some 7) (v := ?_) (a' := ?_) #[true, true, false, true, true, false, true, false, false, false, false] rfl rfl (take_ofW HT_.out HW_.out (by kernel_rfl)) (fun _ _ _ h => h) (Or.inl ⟨by rfl, ?_⟩) hHeld ?_ ?_
 rotate_left
 ·rintro w' ⟨s0, s1, s2⟩
  go_simp
  with_reducible rfl
 rotate_left
 ·simp only [Act.put, List.setIfInBounds_toArray, List.set_cons_zero, List.set_cons_succ, i64_w, i32_w]
  rfl
 refine take_ (i := 7) (N := some 10) (v := ?_) (a' := ?_) #[true, true, false, true, true, false, true, true, false, false, false] rfl rfl (take_ofW HT_.out HW_.out (by kernel_rfl)) (fun _ _ _ h => h) (Or.inl ⟨by rfl, ?_⟩) hHeld ?_ ?_
 rotate_left
 ·rintro w' ⟨s0, s1, s2⟩
  go_simp
  with_reducible rfl
 rotate_left
 ·simp only [Act.put, List.setIfInBounds_toArray, List.set_cons_zero, List.set_cons_succ, i64_w, i32_w]
  rfl
 refine one_ (i := 2) (N := some 5) #[true, true, true, true, true, false, true, true, false, false, false] rfl rfl (one_of HT_.out (by kernel_rfl)) (by decide) (fun K hK => ?_)
 refine goes_ Try.func85 (by kernel_rfl) rfl #[.slice A0_0 l0_0.length c0_0] (by rfl) rfl rfl (by (try simp only [List.map_toArray, List.map_cons, List.map_nil]); first | done | rfl | (simp only [List.length_drop, List.length_take]; rfl)) ?_
 with_reducible refine (impl_ownNodes.calls k _ _ l0_0 t255 _ ?side1 ?side2 A2.out).mono ?_
 (case side1 => repeat (first | exact (Kd.C_below HR0_0.out HB.out) | (with_reducible refine Kd.C_alloc ?_ _) | (with_reducible refine Kd.C_drewN ?_ _) | (with_reducible refine Kd.C_drew ?_)))
 (case side2 => exact HC0_0.out)
 rintro e w8 ⟨v256, rfl, ho0, hb⟩
 refine ⟨_, rfl, ?_⟩
 have n0_ := Aside0.mk (Kd.S_lower ho0 (Op.a6 (by repeat (first | (with_reducible first | exact HB.out | apply Op.a1 | apply Op.a2 | apply Op.a3 | refine Op.a4 ?_ GE253.out | refine Op.a4 ?_ GE254.out) | exact HB.out))))
 have n1_ := Aside0.mk (Op.b4 (g := gb253) (o := .cells #[.slice A0_0 l0_0.length c0_0, .slice A0_1 l0_1.length c0_1, .slice A0_2 l0_2.length c0_2] 40 (0, 0)) (by (with_reducible repeat (first | refine Op.b1 ?_ _ | refine Op.b2 ?_ | refine Op.b3 ?_ _)); exact BK253.out) hb)
 have n2_ := Aside0.mk (Op.b4 (g := gb254) (o := .cells #[.slice none 0 0, .slice none 0 0, .slice none 0 0] 40 (0, 0)) (by (with_reducible repeat (first | refine Op.b1 ?_ _ | refine Op.b2 ?_ | refine Op.b3 ?_ _)); exact BK254.out) hb)
 have n3_ := Aside0.mk (Op.a5 (by repeat (first | (with_reducible first | exact HB.out | apply Op.a1 | apply Op.a2 | apply Op.a3 | refine Op.a4 ?_ GE253.out | refine Op.a4 ?_ GE254.out) | exact HB.out)) hb)
 clear BK253
 clear BK254
 clear HB
 have HO257 := n0_
 have BK253 := n1_
 have BK254 := n2_
 have HB := n3_
 clear n0_ n1_ n2_ n3_
 (try clear hb)
 (try clear hb2)
 (try clear hk)
 (try clear hi)
 (try clear ho0)
 refine hK.out _ _ ⟨(blk_cell BK253.out 0).trans rfl, (blk_cell BK253.out 1).trans rfl, (blk_cell BK253.out 2).trans rfl⟩ (fun hHeld => ?_)
 clear hK K
 refine norm_ (a' := ?_) ?_ ?_
 rotate_left
 ·show Act.put _ (some 5) _ = _
  simp only [Act.put, List.setIfInBounds_toArray, List.set_cons_zero, List.set_cons_succ, i64_w, i32_w]
  rfl
 refine one_ (i := 5) (N := some 8) #[true, true, true, true, true, true, true, true, false, false, false] rfl rfl (one_of HT_.out (by kernel_rfl)) (by decide) (fun K hK => ?_)
 refine goes_ Try.func86 (by kernel_rfl) rfl #[.slice A0_1 l0_1.length c0_1] (by rfl) rfl rfl (by (try simp only [List.map_toArray, List.map_cons, List.map_nil]); first | done | rfl | (simp only [List.length_drop, List.length_take]; rfl)) ?_
 with_reducible refine (slices_Clone_int_int.calls _ _ l0_1 t258 _ ?side1 ?side2 A3.out).mono ?_
 (case side1 => repeat (first | exact (Kd.C_below HR0_1.out HB.out) | (with_reducible refine Kd.C_alloc ?_ _) | (with_reducible refine Kd.C_drewN ?_ _) | (with_reducible refine Kd.C_drew ?_)))
 (case side2 => exact HC0_1.out)
 rintro e w9 ⟨v259, rfl, ho0, hb⟩
 refine ⟨_, rfl, ?_⟩
 have n0_ := Aside0.mk (Kd.S_elder' (by (with_reducible repeat (first | apply Kd.S_alloc | apply Kd.S_drewN | apply Kd.S_drew)); exact HO257.out) (Kd.R_base ho0) hb)
 have n1_ := Aside0.mk (Kd.R_lower ho0 (Op.a6 (by repeat (first | (with_reducible first | exact HB.out | apply Op.a1 | apply Op.a2 | apply Op.a3 | refine Op.a4 ?_ GE253.out | refine Op.a4 ?_ GE254.out) | exact HB.out))))
 have n2_ := Aside0.mk (Op.b4 (g := gb253) (o := .cells #[.slice A0_0 l0_0.length c0_0, .slice A0_1 l0_1.length c0_1, .slice A0_2 l0_2.length c0_2] 40 (0, 0)) (by (with_reducible repeat (first | refine Op.b1 ?_ _ | refine Op.b2 ?_ | refine Op.b3 ?_ _)); exact BK253.out) hb)
 have n3_ := Aside0.mk (Op.b4 (g := gb254) (o := .cells #[.slice none 0 0, .slice none 0 0, .slice none 0 0] 40 (0, 0)) (by (with_reducible repeat (first | refine Op.b1 ?_ _ | refine Op.b2 ?_ | refine Op.b3 ?_ _)); exact BK254.out) hb)
 have n4_ := Aside0.mk (Op.a5 (by repeat (first | (with_reducible first | exact HB.out | apply Op.a1 | apply Op.a2 | apply Op.a3 | refine Op.a4 ?_ GE253.out | refine Op.a4 ?_ GE254.out) | exact HB.out)) hb)
 clear HO257
 clear BK253
 clear BK254
 clear HB
 have HO257 := n0_
 have HO260 := n1_
 have BK253 := n2_
 have BK254 := n3_
 have HB := n4_
 clear n0_ n1_ n2_ n3_ n4_
 (try clear hb)
 (try clear hb2)
 (try clear hk)
 (try clear hi)
 (try clear ho0)
 refine hK.out _ _ ⟨(blk_cell BK253.out 0).trans rfl, (blk_cell BK253.out 1).trans rfl, (blk_cell BK253.out 2).trans rfl⟩ (fun hHeld => ?_)
 clear hK K
 refine norm_ (a' := ?_) ?_ ?_
 rotate_left
 ·show Act.put _ (some 8) _ = _
  simp only [Act.put, List.setIfInBounds_toArray, List.set_cons_zero, List.set_cons_succ, i64_w, i32_w]
  rfl
 refine one_ (i := 8) (N := some 11) #[true, true, true, true, true, true, true, true, true, false, false] rfl rfl (one_of HT_.out (by kernel_rfl)) (by decide) (fun K hK => ?_)
 refine goes_ Try.func86 (by kernel_rfl) rfl #[.slice A0_2 l0_2.length c0_2] (by rfl) rfl rfl (by (try simp only [List.map_toArray, List.map_cons, List.map_nil]); first | done | rfl | (simp only [List.length_drop, List.length_take]; rfl)) ?_
 with_reducible refine (slices_Clone_int_int.calls _ _ l0_2 t261 _ ?side1 ?side2 A4.out).mono ?_
 (case side1 => repeat (first | exact (Kd.C_below HR0_2.out HB.out) | (with_reducible refine Kd.C_alloc ?_ _) | (with_reducible refine Kd.C_drewN ?_ _) | (with_reducible refine Kd.C_drew ?_)))
 (case side2 => exact HC0_2.out)
 rintro e w10 ⟨v262, rfl, ho0, hb⟩
 refine ⟨_, rfl, ?_⟩
 have n0_ := Aside0.mk (Kd.S_elder' (by (with_reducible repeat (first | apply Kd.S_alloc | apply Kd.S_drewN | apply Kd.S_drew)); exact HO257.out) (Kd.R_base ho0) hb)
 have n1_ := Aside0.mk (Kd.R_elder' (by (with_reducible repeat (first | apply Kd.R_alloc | apply Kd.R_drewN | apply Kd.R_drew)); exact HO260.out) (Kd.R_base ho0) hb)
 have n2_ := Aside0.mk (Kd.R_lower (Kd.R_new' ho0 (Kd.R_lt (by (with_reducible repeat (first | apply Kd.R_alloc | apply Kd.R_drewN | apply Kd.R_drew)); exact HO260.out))) (Op.a6 (by repeat (first | (with_reducible first | exact HB.out | apply Op.a1 | apply Op.a2 | apply Op.a3 | refine Op.a4 ?_ GE253.out | refine Op.a4 ?_ GE254.out) | exact HB.out))))
 have n3_ := Aside0.mk (Op.b4 (g := gb253) (o := .cells #[.slice A0_0 l0_0.length c0_0, .slice A0_1 l0_1.length c0_1, .slice A0_2 l0_2.length c0_2] 40 (0, 0)) (by (with_reducible repeat (first | refine Op.b1 ?_ _ | refine Op.b2 ?_ | refine Op.b3 ?_ _)); exact BK253.out) hb)
 have n4_ := Aside0.mk (Op.b4 (g := gb254) (o := .cells #[.slice none 0 0, .slice none 0 0, .slice none 0 0] 40 (0, 0)) (by (with_reducible repeat (first | refine Op.b1 ?_ _ | refine Op.b2 ?_ | refine Op.b3 ?_ _)); exact BK254.out) hb)
 have n5_ := Aside0.mk (Op.a5 (by repeat (first | (with_reducible first | exact HB.out | apply Op.a1 | apply Op.a2 | apply Op.a3 | refine Op.a4 ?_ GE253.out | refine Op.a4 ?_ GE254.out) | exact HB.out)) hb)
 clear HO257
 clear HO260
 clear BK253
 clear BK254
 clear HB
 have HO257 := n0_
 have HO260 := n1_
 have HO263 := n2_
 have BK253 := n3_
 have BK254 := n4_
 have HB := n5_
 clear n0_ n1_ n2_ n3_ n4_ n5_
 (try clear hb)
 (try clear hb2)
 (try clear hk)
 (try clear hi)
 (try clear ho0)
 obtain ⟨Ao11, co11, eo11⟩ := Kd.R_slice HO263.out
 (first | subst eo11 | (injection eo11 with f1_ f2_ f3_; have f4_ := f1_.symm; have f5_ := f3_.symm; clear f1_ f2_ f3_; subst f4_; subst f5_))
 obtain ⟨Ao12, co12, eo12⟩ := Kd.R_slice HO260.out
 (first | subst eo12 | (injection eo12 with f1_ f2_ f3_; have f4_ := f1_.symm; have f5_ := f3_.symm; clear f1_ f2_ f3_; subst f4_; subst f5_))
 obtain ⟨Ao13, co13, eo13⟩ := Kd.S_slice HO257.out
 (first | subst eo13 | (injection eo13 with f1_ f2_ f3_; have f4_ := f1_.symm; have f5_ := f3_.symm; clear f1_ f2_ f3_; subst f4_; subst f5_))
 refine hK.out _ _ ⟨(blk_cell BK253.out 0).trans rfl, (blk_cell BK253.out 1).trans rfl, (blk_cell BK253.out 2).trans rfl⟩ (fun hHeld => ?_)
 clear hK K
 refine norm_ (a' := ?_) ?_ ?_
 rotate_left
 ·show Act.put _ (some 11) _ = _
  simp only [Act.put, List.setIfInBounds_toArray, List.set_cons_zero, List.set_cons_succ, i64_w, i32_w]
  rfl
 refine pure_ (i := 9) (N := some 12) (v := ?_) (a' := ?_) #[true, true, true, true, true, true, true, true, true, true, false] rfl rfl (any_of HT_.out (by kernel_rfl)) (fun _ _ _ h => h) (Or.inl ⟨by rfl, ?_⟩) ?_ ?_
 rotate_left
 ·intro w'
  go_simp
  with_reducible rfl
 rotate_left
 ·simp only [Act.put, List.setIfInBounds_toArray, List.set_cons_zero, List.set_cons_succ, i64_w, i32_w]
  rfl
 refine one_ (i := 10) (N := none) #[true, true, true, true, true, true, true, true, true, true, true] rfl rfl (one_of HT_.out (by kernel_rfl)) (by decide) (fun K hK => ?_)
 have hs14 : w10.cell? ⟨gb254, 0, none⟩ = some (.slice none 0 0) := (blk_cell BK254.out 0).trans rfl
 have hfs14 := blk_frozen BK254.out 0
 have hns14_0 := NB253_254.out
 have hms14_0 := NB254_253.out
 have hs15 : w10.cell? ⟨gb254, 1, none⟩ = some (.slice none 0 0) := (blk_cell BK254.out 1).trans rfl
 have hfs15 := blk_frozen BK254.out 1
 have hns15_0 := NB253_254.out
 have hms15_0 := NB254_253.out
 have hs16 : w10.cell? ⟨gb254, 2, none⟩ = some (.slice none 0 0) := (blk_cell BK254.out 2).trans rfl
 have hfs16 := blk_frozen BK254.out 2
 have hns16_0 := NB253_254.out
 have hms16_0 := NB254_253.out
 refine skip_ (w1 := ?_) (by rfl) rfl ?_ ?_
 rotate_left
 ·go_simp
  rfl
 refine hK.out _ _ ⟨((cell_far (p := ⟨gb254, _, none⟩) NB253_254.out _).trans (((cell_far (p := ⟨gb254, _, none⟩) NB253_254.out _).trans (((cell_far (p := ⟨gb254, _, none⟩) NB253_254.out _).trans (hHeld.1)))))), ((cell_far (p := ⟨gb254, _, none⟩) NB253_254.out _).trans (((cell_far (p := ⟨gb254, _, none⟩) NB253_254.out _).trans (((cell_far (p := ⟨gb254, _, none⟩) NB253_254.out _).trans (hHeld.2.1)))))), ((cell_far (p := ⟨gb254, _, none⟩) NB253_254.out _).trans (((cell_far (p := ⟨gb254, _, none⟩) NB253_254.out _).trans (((cell_far (p := ⟨gb254, _, none⟩) NB253_254.out _).trans (hHeld.2.2))))))⟩ (fun hHeld => ?_)
 clear hK K
 refine done_ (done_of HT_.out (by kernel_rfl)) ?_
 try go_wp2
 refine bodyPost_ret (results_cell_row rfl _ _ gb254 40 #[.slice Ao13 t255.length co13, .slice Ao12 t258.length co12, .slice Ao11 t261.length co11] (0, 0) _ rfl (by (with_reducible repeat (first | refine Op.b1 ?_ _ | refine Op.b2 ?_ | refine Op.b3 ?_ _)); refine blk_put (cs := #[.slice Ao13 t255.length co13, .slice Ao12 t258.length co12, .slice none 0 0]) ?_ 2 _ rfl; (with_reducible repeat (first | refine Op.b1 ?_ _ | refine Op.b2 ?_ | refine Op.b3 ?_ _)); refine blk_put (cs := #[.slice Ao13 t255.length co13, .slice none 0 0, .slice none 0 0]) ?_ 1 _ rfl; (with_reducible repeat (first | refine Op.b1 ?_ _ | refine Op.b2 ?_ | refine Op.b3 ?_ _)); refine blk_put (cs := #[.slice none 0 0, .slice none 0 0, .slice none 0 0]) ?_ 0 _ rfl; (with_reducible repeat (first | refine Op.b1 ?_ _ | refine Op.b2 ?_ | refine Op.b3 ?_ _)); exact BK254.out) Try.underlying40 rfl (by kernel_rfl)) rfl ?_
 exact ⟨_, _, _, by first | rfl | (simp [errW_none, errW_some] <;> rfl) | (simp [*, errW_none, errW_some] <;> rfl), by (with_reducible repeat (first | apply Kd.S_alloc | apply Kd.S_drewN | apply Kd.S_drew)); exact Kd.S_mono (Kd.S_far (p := ⟨gb254, 2, none⟩) (Kd.S_far (p := ⟨gb254, 1, none⟩) (Kd.S_far (p := ⟨gb254, 0, none⟩) (Kd.S_types HO257.out BK254.out (by decide)) (fun _ hk => hk.2) (.slice Ao13 t255.length co13)) (fun _ hk => hk.2) (.slice Ao12 t258.length co12)) (fun _ hk => hk.2) (.slice Ao11 t261.length co11)) (fun _ hk => ⟨hk.1.1.2, hk.1.2⟩), by (with_reducible repeat (first | apply Kd.R_alloc | apply Kd.R_drewN | apply Kd.R_drew)); exact Kd.R_mono (Kd.R_far (p := ⟨gb254, 2, none⟩) (Kd.R_far (p := ⟨gb254, 1, none⟩) (Kd.R_far (p := ⟨gb254, 0, none⟩) (Kd.R_types HO260.out BK254.out (by decide)) (fun _ hk => hk.2) (.slice Ao13 t255.length co13)) (fun _ hk => hk.2) (.slice Ao12 t258.length co12)) (fun _ hk => hk.2) (.slice Ao11 t261.length co11)) (fun _ hk => hk.1.2), by (with_reducible repeat (first | apply Kd.R_alloc | apply Kd.R_drewN | apply Kd.R_drew)); exact Kd.R_mono (Kd.R_far (p := ⟨gb254, 2, none⟩) (Kd.R_far (p := ⟨gb254, 1, none⟩) (Kd.R_far (p := ⟨gb254, 0, none⟩) (Kd.R_types HO263.out BK254.out (by decide)) (fun _ hk => hk.2) (.slice Ao13 t255.length co13)) (fun _ hk => hk.2) (.slice Ao12 t258.length co12)) (fun _ hk => hk.2) (.slice Ao11 t261.length co11)) (fun _ hk => hk.1.2), by repeat (first | (with_reducible first | exact HB.out | apply Op.a1 | apply Op.a2 | apply Op.a3 | refine Op.a4 ?_ GE253.out | refine Op.a4 ?_ GE254.out) | exact HB.out)⟩

/-! ### impl_within: function 75 -/
def impl_within.f (a0 : Int) (a1 : Int) (a2 : Int) : Option (Bool) := if a0 ≥ a1 then (some (decide (a0 ≤ a2))) else (some false)
set_option maxHeartbeats 8000000 in
set_option maxRecDepth 100000 in
theorem impl_within.calls (a0 : Int) (a1 : Int) (a2 : Int) (r : Bool) (w : World) (h : impl_within.f a0 a1 a2 = some r) :
  Calls Try.prog 75 #[.int .i64 a0, .int .i64 a1, .int .i64 a2] w fun e w' => e = .returned (.bool r) ∧ Drawn0 w w' := by
 have H : (if a0 ≥ a1 then (some (decide (a0 ≤ a2))) else (some false)) = some r := h
 clear h
 by_cases c4 : a0 ≥ a1
 ·rw [if_pos c4] at H
  have c4b0 : decide (a1 ≤ a0) = true := decide_eq_true c4
  clear c4
  obtain rfl := Option.some.inj H
  go_enter Try.func75, Try.ntmps75
  go_wp2
  go_ret
  exact ⟨by first | rfl | (simp; done) | (simp [*]; done), by repeat (first | exact Drawn0.refl _ | apply Drawn0.step)⟩
 ·rw [if_neg c4] at H
  have c4b0 : decide (a1 ≤ a0) = false := decide_eq_false c4
  clear c4
  obtain rfl := Option.some.inj H
  go_enter Try.func75, Try.ntmps75
  go_wp2
  go_ret
  exact ⟨by first | rfl | (simp; done) | (simp [*]; done), by repeat (first | exact Drawn0.refl _ | apply Drawn0.step)⟩

/-! ### slices_IndexFunc_int_int: function 91 -/
theorem slices_IndexFunc_int_int.calls (A0 : Option Addr) (c0 : Nat) (l0 : List Int) (g : Nat) (lb : Array Value) (p : Int → Option Bool) (r : Int) (w : World)
  (eg : ∀ args W, (callFunc g args).run Try.prog W = .ok (.enter g args) W)
  (hp : ∀ (W : World) (x : Int) (b : Bool), x ∈ l0 → Below w.heap.size w W → p x = some b → Calls Try.prog g (#[.int .i64 x] ++ lb) W fun e W' => e = .returned (.bool b) ∧ Below W.heap.size W W')
  (hr0 : Kd.C (Kd.int .i64) w A0 l0.length l0) (h : Op.indexO p l0 0 = some r) :
  Calls Try.prog 91 #[.slice A0 l0.length c0, .func (.func g) #[] lb] w fun e w' => e = .returned (.int .i64 r) ∧ Below w.heap.size w w' := by
 have HR0 := Aside0.mk hr0
 have HP := Aside0.mk hp
 have HL : (l0.length : Int) ≤ 9223372036854775807 := by have := hr0.2.1; omega
 have H' := Aside0.mk h
 clear hr0 hp h
 go_enter Try.func91, Try.ntmps91
 go_wp2
 go_loopg [5, 8] l0.length (fun gg v5 v8 wr => ∃ n : Nat, n ≤ l0.length ∧ l0.length - n ≤ gg ∧ v8 = .int .i64 n ∧ Aside0 (Op.indexO p (l0.drop n) n = some r) ∧ Aside0 (Below w.heap.size w wr))
 case atStart => exact ⟨0, Nat.zero_le _, by omega, rfl, ⟨by simpa using H'.out⟩, ⟨Below.refl _ _⟩⟩
 case round =>
  clear H'
  obtain ⟨n, hn, hg, rfl, HA, HB⟩ := hrel
  by_cases hlt : n < l0.length
  ·have hltz : (n : Int) < (l0.length : Int) := by omega
   obtain ⟨ad, rfl, hcell⟩ := Kd.at_int (Kd.C_below HR0.out HB.out) (n : Int) (by omega) hltz
   rw [Int.toNat_natCast] at hcell
   have hd : Aside0 (l0.drop n = rd l0 n :: l0.drop (n + 1)) := ⟨by rw [List.drop_eq_getElem_cons hlt]; simp [rd, List.getD_eq_getElem?_getD, hlt]⟩
   have hm : Aside0 (rd l0 n ∈ l0) := ⟨by simp [rd, List.getD_eq_getElem?_getD, hlt]⟩
   generalize rd l0 n = y at *
   have HA2 : ∃ b, p y = some b ∧ Aside0 ((if b then some (n : Int) else Op.indexO p (l0.drop (n + 1)) ((n : Int) + 1)) = some r) := by
    have h1 := HA.out
    rw [hd.out] at h1
    obtain ⟨b, hb, h2⟩ := Option.bind_eq_some_iff.1 h1
    exact ⟨b, hb, ⟨h2⟩⟩
   clear HA
   obtain ⟨b, hb, HA⟩ := HA2
   have hcall := fun W hB => HP.out W y b hm.out hB hb
   have HC := Aside0.mk hcall
   clear hcall hb hd hm
   cases b with
   | true =>
    go_wp2_with (go_at_fn g; refine (HC.out _ HB.out).mono ?_; rintro e w' ⟨rfl, hb2⟩)
    go_ret
    exact ⟨by have h1 := HA.out; simp only [if_true, Option.some.injEq] at h1; rw [h1]; rfl, below_step HB.out hb2⟩
   | false =>
    go_wp2_with (go_at_fn g; refine (HC.out _ HB.out).mono ?_; rintro e w' ⟨rfl, hb2⟩)
    go_roundg (l0.length - (n + 1))
    case measure => omega
    case rel => exact ⟨n + 1, by omega, by omega, by go_num, ⟨by have h1 := HA.out; simpa using h1⟩, ⟨below_step HB.out hb2⟩⟩
  ·have hltz : ¬ (n : Int) < (l0.length : Int) := by omega
   have e : n = l0.length := by omega
   have HA2 : Aside0 (r = -1) := ⟨by have h1 := HA.out; rw [e, List.drop_length] at h1; simpa [Op.indexO] using h1.symm⟩
   clear HA e
   go_wp2
   go_ret
   exact ⟨by rw [HA2.out]; rfl, HB.out⟩


/-! ### slices_ContainsFunc_int_int: function 82 -/
theorem slices_ContainsFunc_int_int.calls (A0 : Option Addr) (c0 : Nat) (l0 : List Int) (g : Nat) (lb : Array Value) (p : Int → Option Bool) (r : Bool) (w : World)
  (eg : ∀ args W, (callFunc g args).run Try.prog W = .ok (.enter g args) W)
  (hp : ∀ (W : World) (x : Int) (b : Bool), x ∈ l0 → Below w.heap.size w W → p x = some b → Calls Try.prog g (#[.int .i64 x] ++ lb) W fun e W' => e = .returned (.bool b) ∧ Below W.heap.size W W')
  (hr0 : Kd.C (Kd.int .i64) w A0 l0.length l0) (h : Op.anyO p l0 = some r) :
  Calls Try.prog 82 #[.slice A0 l0.length c0, .func (.func g) #[] lb] w fun e w' => e = .returned (.bool r) ∧ Below w.heap.size w w' := by
 obtain ⟨i, hi, hr⟩ := Op.indexO_of_anyO (i := 0) (by omega) h
 have hc := slices_IndexFunc_int_int.calls A0 c0 l0 g lb p i w eg hp hr0 hi
 have HC := Aside0.mk hc
 have HI := Aside0.mk hr
 clear hc hp hr0 h hi hr
 go_enter Try.func82, Try.ntmps82
 go_wp2_with (go_at_call 91; refine HC.out.mono ?_; rintro e w' ⟨rfl, hb⟩)
 go_ret
 exact ⟨by rw [← HI.out]; rfl, hb⟩


/-! ### impl_areNodes: function 59 -/
/-- is what a number names gone, or none of these -/
def impl_areNodes.bad (ns : List S60) (hi k : Int) : Option Bool :=
 (impl_within.f k 0 hi).bind fun z => if z then (if 0 ≤ k then if k < ns.length then some (rd_T60 ns k).f1 else none else none) else some true
def impl_areNodes.all (ns : List S60) : List S60 → Int → Option Bool
 | [], _ => some true
 | b :: t, i => if (b.f0.length : Int) > 6 then some false else if b.f1 = true ∧ (b.f0.length : Int) > 0 then some false else (Op.anyO (impl_areNodes.bad ns (wrap64 (i - 1))) b.f0).bind fun x => if x then some false else impl_areNodes.all ns t (i + 1)
def impl_areNodes.f (l0 : List S60) (l1 : List Int) : Option Bool :=
 if (l0.length : Int) > 14 then some false else if (l1.length : Int) > 6 then some false else (impl_areNodes.all l0 l0 0).bind fun x => if x then (Op.anyO (impl_areNodes.bad l0 (wrap64 ((l0.length : Int) - 1))) l1).map (fun z => !z) else some false
theorem impl_areNodes.one (ns : List S60) (A0 : Option Addr) (c0 gn gi : Nat) (i x : Int) (b : Bool) (w : World)
  (hb : w.heap[gn]? = some (.cells #[.slice A0 ns.length c0] 27 (0, 0))) (hi : w.heap[gi]? = some (.cells #[.int .i64 i] 3 (0, 0)))
  (hr0 : Kd.C k60 w A0 ns.length ns) (h : impl_areNodes.bad ns (wrap64 (i - 1)) x = some b) :
  Calls Try.prog 83 #[.int .i64 x, .pointer (some ⟨gi, 0, none⟩), .pointer (some ⟨gn, 0, none⟩)] w fun e w' => e = .returned (.bool b) ∧ Below w.heap.size w w' := by
 have h0 : w.cell? ⟨gn, 0, none⟩ = some (.slice A0 ns.length c0) := (blk_cell hb 0).trans rfl
 have h1 : w.cell? ⟨gi, 0, none⟩ = some (.int .i64 i) := (blk_cell hi 0).trans rfl
 clear hb hi
 unfold impl_areNodes.bad at h
 obtain ⟨z, hz, h⟩ := Option.bind_eq_some_iff.1 h
 have HZ := Aside0.mk hz
 clear hz
 cases z with
 | false =>
  have hb : b = true := by simpa using h.symm
  subst hb
  clear h hr0
  go_enter Try.func83, Try.ntmps83
  go_wp2_with (go_at_call 75; refine (impl_within.calls _ _ _ false _ HZ.out).mono ?_; rintro e w' ⟨rfl, ⟨nd, rfl⟩⟩)
  go_ret
  exact ⟨rfl, pw_below_drewN (Below.refl _ _) _⟩
 | true =>
  simp only [if_true] at h
  by_cases h2 : 0 ≤ x
  ·rw [if_pos h2] at h
   by_cases h3 : x < ns.length
   ·rw [if_pos h3] at h
    obtain ⟨ad, A', c', rfl, hx0, hx1, _, _⟩ := at_T60 hr0 x h2 h3
    have hb := Option.some.inj h
    have HBB := Aside0.mk hb
    have h2b : decide (0 ≤ x) = true := decide_eq_true h2
    have h3b : decide (x < (ns.length : Int)) = true := decide_eq_true h3
    clear h hr0 hb
    go_enter Try.func83, Try.ntmps83
    go_wp2_with (go_at_call 75; refine (impl_within.calls _ _ _ true _ HZ.out).mono ?_; rintro e w' ⟨rfl, ⟨nd, rfl⟩⟩)
    go_ret
    exact ⟨by rw [← HBB.out]; rfl, pw_below_drewN (Below.refl _ _) _⟩
   ·rw [if_neg h3] at h; exact absurd h (by simp)
  ·rw [if_neg h2] at h; exact absurd h (by simp)
theorem impl_areNodes.two (ns : List S60) (A0 : Option Addr) (c0 gn : Nat) (x : Int) (b : Bool) (w : World)
  (hb : w.heap[gn]? = some (.cells #[.slice A0 ns.length c0] 27 (0, 0)))
  (hr0 : Kd.C k60 w A0 ns.length ns) (h : impl_areNodes.bad ns (wrap64 ((ns.length : Int) - 1)) x = some b) :
  Calls Try.prog 84 #[.int .i64 x, .pointer (some ⟨gn, 0, none⟩)] w fun e w' => e = .returned (.bool b) ∧ Below w.heap.size w w' := by
 have h0 : w.cell? ⟨gn, 0, none⟩ = some (.slice A0 ns.length c0) := (blk_cell hb 0).trans rfl
 clear hb
 unfold impl_areNodes.bad at h
 obtain ⟨z, hz, h⟩ := Option.bind_eq_some_iff.1 h
 have HZ := Aside0.mk hz
 clear hz
 cases z with
 | false =>
  have hb : b = true := by simpa using h.symm
  subst hb
  clear h hr0
  go_enter Try.func84, Try.ntmps84
  go_wp2_with (go_at_call 75; refine (impl_within.calls _ _ _ false _ HZ.out).mono ?_; rintro e w' ⟨rfl, ⟨nd, rfl⟩⟩)
  go_ret
  exact ⟨rfl, pw_below_drewN (Below.refl _ _) _⟩
 | true =>
  simp only [if_true] at h
  by_cases h2 : 0 ≤ x
  ·rw [if_pos h2] at h
   by_cases h3 : x < ns.length
   ·rw [if_pos h3] at h
    obtain ⟨ad, A', c', rfl, hx0, hx1, _, _⟩ := at_T60 hr0 x h2 h3
    have hb := Option.some.inj h
    have HBB := Aside0.mk hb
    have h2b : decide (0 ≤ x) = true := decide_eq_true h2
    have h3b : decide (x < (ns.length : Int)) = true := decide_eq_true h3
    clear h hr0 hb
    go_enter Try.func84, Try.ntmps84
    go_wp2_with (go_at_call 75; refine (impl_within.calls _ _ _ true _ HZ.out).mono ?_; rintro e w' ⟨rfl, ⟨nd, rfl⟩⟩)
    go_ret
    exact ⟨by rw [← HBB.out]; rfl, pw_below_drewN (Below.refl _ _) _⟩
   ·rw [if_neg h3] at h; exact absurd h (by simp)
  ·rw [if_neg h2] at h; exact absurd h (by simp)
set_option maxHeartbeats 2000000 in
set_option maxRecDepth 100000 in
theorem impl_areNodes.calls (A0 : Option Addr) (c0 : Nat) (l0 : List S60) (A1 : Option Addr) (c1 : Nat) (l1 : List Int) (r : Bool) (w : World)
  (hr0 : Kd.C k60 w A0 l0.length l0) (hc0 : l0.length ≤ c0) (hr1 : Kd.C (Kd.int .i64) w A1 l1.length l1) (hc1 : l1.length ≤ c1) (h : impl_areNodes.f l0 l1 = some r) :
  Calls Try.prog 59 #[.slice A0 l0.length c0, .slice A1 l1.length c1] w fun e w' => e = .returned (.bool r) ∧ Below w.heap.size w w' := by
 unfold impl_areNodes.f at h
 by_cases g1 : (l0.length : Int) > 14
 ·rw [if_pos g1] at h
  obtain rfl := Option.some.inj h
  have g1b : decide ((14 : Int) < l0.length) = true := decide_eq_true g1
  clear g1 h hr0 hr1
  go_enter Try.func59, Try.ntmps59
  go_wp2
  go_ret
  exact ⟨rfl, (Below.refl _ _).alloc (Nat.le_refl _) _⟩
 rw [if_neg g1] at h
 by_cases g2 : (l1.length : Int) > 6
 ·rw [if_pos g2] at h
  obtain rfl := Option.some.inj h
  have g1b : decide ((14 : Int) < l0.length) = false := decide_eq_false g1
  have g2b : decide ((6 : Int) < l1.length) = true := decide_eq_true g2
  clear g1 g2 h hr0 hr1
  go_enter Try.func59, Try.ntmps59
  go_wp2
  go_ret
  exact ⟨rfl, (Below.refl _ _).alloc (Nat.le_refl _) _⟩
 rw [if_neg g2] at h
 have g1b : decide ((14 : Int) < l0.length) = false := decide_eq_false g1
 have g2b : decide ((6 : Int) < l1.length) = false := decide_eq_false g2
 have H' := Aside0.mk h
 have HR0 := Aside0.mk hr0
 have HR1 := Aside0.mk hr1
 have HL : (l0.length : Int) ≤ 9223372036854775807 := by have := hr0.2.1; omega
 have e1 : ∀ args W, (callFunc 83 args).run Try.prog W = .ok (.enter 83 args) W := enters_of Try.func83 (by kernel_rfl) rfl
 have e2 : ∀ args W, (callFunc 84 args).run Try.prog W = .ok (.enter 84 args) W := enters_of Try.func84 (by kernel_rfl) rfl
 clear g1 g2 h hr0 hr1
 go_enter Try.func59, Try.ntmps59
 go_wp2_with fail
 have HB0 := Aside0.mk ((Below.refl w.heap.size w).alloc (Nat.le_refl _) (.cells #[.slice A0 l0.length c0] 27))
 have HG0 := Aside0.mk (heap_alloc_new w (.cells #[.slice A0 l0.length c0] 27))
 go_loopg [17] l0.length (fun gg v17 wr => ∃ n : Nat, n ≤ l0.length ∧ l0.length - n ≤ gg ∧ v17 = .int .i64 n ∧ Aside0 (((impl_areNodes.all l0 (l0.drop n) n).bind fun x => if x then (Op.anyO (impl_areNodes.bad l0 (wrap64 ((l0.length : Int) - 1))) l1).map (fun z => !z) else some false) = some r) ∧ Aside0 (Below w.heap.size w wr) ∧ Aside0 (wr.heap[w.heap.size]? = some (.cells #[.slice A0 l0.length c0] 27 (0, 0))))
 case atStart => exact ⟨0, Nat.zero_le _, by omega, rfl, ⟨by simpa using H'.out⟩, HB0, HG0⟩
 case round =>
  clear H' HB0 HG0
  obtain ⟨n, hn, hg, rfl, HA, HB, HG⟩ := hrel
  by_cases hlt : n < l0.length
  ·have hltz : (n : Int) < (l0.length : Int) := by omega
   obtain ⟨ad, A', c', rfl, hx0, hx1, hxl, hxr⟩ := at_T60 (Kd.C_below HR0.out HB.out) (n : Int) (by omega) hltz
   rw [Int.toNat_natCast] at hx0 hx1
   have hdr : Aside0 (l0.drop n = rd_T60 l0 n :: l0.drop (n + 1)) := ⟨by rw [List.drop_eq_getElem_cons hlt]; simp [rd_T60, List.getD_eq_getElem?_getD, hlt]⟩
   generalize rd_T60 l0 n = x at *
   rcases x with ⟨xk, xg⟩
   dsimp only at hx0 hx1 hxl hxr
   have HX := Aside0.mk hxr
   have hA := HA.out
   rw [hdr.out] at hA
   unfold impl_areNodes.all at hA
   dsimp only at hA
   clear hxr HA hdr
   by_cases k6 : (xk.length : Int) > 6
   ·rw [if_pos k6] at hA
    have HBA := Aside0.mk ((HB.out.alloc HB.out.size (.cells #[.int .i64 (n : Int)] 3)).alloc (by simp; have := HB.out.size; omega) (.cells #[.slice A' xk.length c', .bool xg] 60))
    have HA := Aside0.mk hA
    have k6b : decide ((6 : Int) < xk.length) = true := decide_eq_true k6
    clear hA k6
    go_wp2
    go_ret
    exact ⟨by have h1 := HA.out; simp only [Option.bind_some, Bool.false_eq_true, if_false, Option.some.injEq] at h1; rw [← h1]; rfl, HBA.out⟩
   rw [if_neg k6] at hA
   have k6b : decide ((6 : Int) < xk.length) = false := decide_eq_false k6
   by_cases kg : xg = true ∧ (xk.length : Int) > 0
   ·rw [if_pos kg] at hA
    obtain ⟨rfl, kz⟩ := kg
    have HBA := Aside0.mk ((HB.out.alloc HB.out.size (.cells #[.int .i64 (n : Int)] 3)).alloc (by simp; have := HB.out.size; omega) (.cells #[.slice A' xk.length c', .bool true] 60))
    have HA := Aside0.mk hA
    have kgc : decide ((0 : Int) < xk.length) = true := decide_eq_true kz
    have kgd : decide (0 < xk.length) = true := decide_eq_true (by omega)
    have kge : 0 < xk.length := by omega
    clear hA kz k6
    go_wp2
    go_ret
    exact ⟨by have h1 := HA.out; simp only [Option.bind_some, Bool.false_eq_true, if_false, Option.some.injEq] at h1; rw [← h1]; rfl, HBA.out⟩
   rw [if_neg kg, Option.bind_assoc] at hA
   obtain ⟨y, hy, hA⟩ := Option.bind_eq_some_iff.1 hA
   have HY := Aside0.mk hy
   have HA := Aside0.mk hA
   have kor : xg = false ∨ (xg = true ∧ decide ((0 : Int) < xk.length) = false ∧ decide (0 < xk.length) = false ∧ ¬ 0 < xk.length) := by
    cases xg with
    | false => exact .inl rfl
    | true => exact .inr ⟨rfl, decide_eq_false (fun h => kg ⟨rfl, h⟩), decide_eq_false (fun h => kg ⟨rfl, by omega⟩), fun h => kg ⟨rfl, by omega⟩⟩
   clear hA hy kg k6
   rcases kor with rfl | ⟨rfl, kz, kz2, kz3⟩
   ·have HBA := Aside0.mk ((HB.out.alloc HB.out.size (.cells #[.int .i64 (n : Int)] 3)).alloc (by simp; have := HB.out.size; omega) (.cells #[.slice A' xk.length c', .bool false] 60))
    have HBW := Aside0.mk (((Below.refl wr.heap.size wr).alloc (Nat.le_refl _) (.cells #[.int .i64 (n : Int)] 3)).alloc (by simp) (.cells #[.slice A' xk.length c', .bool false] 60))
    have HC := Aside0.mk (slices_ContainsFunc_int_int.calls A' c' xk 83 #[.pointer (some ⟨wr.heap.size, 0, none⟩), .pointer (some ⟨w.heap.size, 0, none⟩)] (impl_areNodes.bad l0 (wrap64 ((n : Int) - 1))) y
      ((wr.alloc (.cells #[.int .i64 (n : Int)] 3)).alloc (.cells #[.slice A' xk.length c', .bool false] 60)) e1
      (fun W k b _ hB hk => impl_areNodes.one l0 (some ad) c0 w.heap.size wr.heap.size n k b W
       (Op.b4 (Op.b3 (Op.b3 HG.out _) _) hB)
       (Op.b4 (Op.b3 (blk_new wr _) _) hB)
       (Kd.C_below HR0.out (Op.a5 HBA.out hB)) hk)
      (Kd.C_below HX.out HBW.out) HY.out)
    cases y with
    | true =>
     go_wp2_with (go_at_call 82; refine HC.out.mono ?_; rintro e w' ⟨rfl, hb2⟩)
     go_ret
     exact ⟨by have h1 := HA.out; simp only [if_true, Option.bind_some, Bool.false_eq_true, if_false, Option.some.injEq] at h1; rw [← h1]; rfl, below_step HBA.out hb2⟩
    | false =>
     go_wp2_with (go_at_call 82; refine HC.out.mono ?_; rintro e w' ⟨rfl, hb2⟩)
     go_roundg (l0.length - (n + 1))
     case measure => omega
     case rel => exact ⟨n + 1, by omega, by omega, by go_num, ⟨by have h1 := HA.out; simpa using h1⟩, ⟨below_step HBA.out hb2⟩, ⟨blk_below (Op.b3 (Op.b3 HG.out _) _) hb2⟩⟩
   ·have HBA := Aside0.mk ((HB.out.alloc HB.out.size (.cells #[.int .i64 (n : Int)] 3)).alloc (by simp; have := HB.out.size; omega) (.cells #[.slice A' xk.length c', .bool true] 60))
    have HBW := Aside0.mk (((Below.refl wr.heap.size wr).alloc (Nat.le_refl _) (.cells #[.int .i64 (n : Int)] 3)).alloc (by simp) (.cells #[.slice A' xk.length c', .bool true] 60))
    have HC := Aside0.mk (slices_ContainsFunc_int_int.calls A' c' xk 83 #[.pointer (some ⟨wr.heap.size, 0, none⟩), .pointer (some ⟨w.heap.size, 0, none⟩)] (impl_areNodes.bad l0 (wrap64 ((n : Int) - 1))) y
      ((wr.alloc (.cells #[.int .i64 (n : Int)] 3)).alloc (.cells #[.slice A' xk.length c', .bool true] 60)) e1
      (fun W k b _ hB hk => impl_areNodes.one l0 (some ad) c0 w.heap.size wr.heap.size n k b W
       (Op.b4 (Op.b3 (Op.b3 HG.out _) _) hB)
       (Op.b4 (Op.b3 (blk_new wr _) _) hB)
       (Kd.C_below HR0.out (Op.a5 HBA.out hB)) hk)
      (Kd.C_below HX.out HBW.out) HY.out)
    cases y with
    | true =>
     go_wp2_with (go_at_call 82; refine HC.out.mono ?_; rintro e w' ⟨rfl, hb2⟩)
     go_ret
     exact ⟨by have h1 := HA.out; simp only [if_true, Option.bind_some, Bool.false_eq_true, if_false, Option.some.injEq] at h1; rw [← h1]; rfl, below_step HBA.out hb2⟩
    | false =>
     go_wp2_with (go_at_call 82; refine HC.out.mono ?_; rintro e w' ⟨rfl, hb2⟩)
     go_roundg (l0.length - (n + 1))
     case measure => omega
     case rel => exact ⟨n + 1, by omega, by omega, by go_num, ⟨by have h1 := HA.out; simpa using h1⟩, ⟨below_step HBA.out hb2⟩, ⟨blk_below (Op.b3 (Op.b3 HG.out _) _) hb2⟩⟩
  ·have hltz : ¬ (n : Int) < (l0.length : Int) := by omega
   have e : n = l0.length := by omega
   have hA := HA.out
   rw [e, List.drop_length] at hA
   simp only [impl_areNodes.all, Option.bind_some, if_true] at hA
   obtain ⟨y, hy, hA⟩ := Option.map_eq_some_iff.1 hA
   have h0 : wr.cell? ⟨w.heap.size, 0, none⟩ = some (.slice A0 l0.length c0) := (blk_cell HG.out 0).trans rfl
   have HC := Aside0.mk (slices_ContainsFunc_int_int.calls A1 c1 l1 84 #[.pointer (some ⟨w.heap.size, 0, none⟩)] (impl_areNodes.bad l0 (wrap64 ((l0.length : Int) - 1))) y wr e2
    (fun W k b _ hB hk => impl_areNodes.two l0 A0 c0 w.heap.size k b W ((hB.block _ (blk_lt HG.out)).trans HG.out) (Kd.C_below HR0.out (Op.a5 HB.out hB)) hk)
    (Kd.C_below HR1.out HB.out) hy)
   have HA' := Aside0.mk hA
   clear HA hA hy e
   go_wp2_with (go_at_call 82; refine HC.out.mono ?_; rintro e w' ⟨rfl, hb2⟩)
   go_ret
   exact ⟨by rw [← HA'.out]; rfl, below_step HB.out hb2⟩


end Go.Proofs.Ytdhclelfnbjikaa.PFnExactLinkNode
