/- Contracts of functions of the translation, written by a program of this repo (a changed copy of the printer). Not trusted: Lean checks it. -/
-- squeezed
import Derived.Test.YtdhclelfnbjikaaPFnExactDropRootx0
import Derived.Test.YtdhclelfnbjikaaPFnExactDropRootx7
import Derived.Test.YtdhclelfnbjikaaPFnExactDropRootx9
namespace Go.Proofs.Ytdhclelfnbjikaa.PFnExactDropRoot
open Go.RowKit Go.Proofs.YtdhclelfnbjikaaW.PrintWords Go.Proofs.YtdhclelfnbjikaaW.PrintLast Go.Proofs.YtdhclelfnbjikaaW.PrintMore
attribute [local go_sem] max2_int min2_int max_two min_two max_three min_three max_four min_four   -- for this text's walks alone
set_option linter.unusedVariables false
set_option linter.unusedSimpArgs false

/-! ### impl_ownNodes: function 85 -/
def impl_ownNodes.l0 : Nat → List (S60) → List (S60) → Int → Int → Option ((List (S60)))
 | 0, _, _, _, _ => none
 | k + 1, x3, x7, x8, x9 => if x9 < x8 then (if 0 ≤ x9 then (if x9 < (x7.length : Int) then ((slices_Clone_int_int.f ((rd_T60 x7 x9).f0)).bind fun t255 => (if x3.length < 4398046511104 then (impl_ownNodes.l0 k (x3 ++ [(⟨t255, (rd_T60 x7 x9).f1⟩ : S60)]) x7 x8 (wrap64 (x9 + 1))) else (none))) else (none)) else (none)) else (some x3)
def impl_ownNodes.f (k : Nat) (l0 : List (S60)) : Option ((List (S60))) := impl_ownNodes.l0 k (([] : List (S60))) l0 (l0.length : Int) 0
theorem impl_ownNodes.mono_l : ∀ k, (∀ y0 y1 y2 y3, LeO (impl_ownNodes.l0 k y0 y1 y2 y3) (impl_ownNodes.l0 (k + 1) y0 y1 y2 y3))
 | 0 => fun _ _ _ _ r h => by simp [impl_ownNodes.l0] at h
 | k + 1 => by
  have ih0 := impl_ownNodes.mono_l k
  ·intro y0 y1 y2 y3
   unfold impl_ownNodes.l0
   repeat' first
   | (with_reducible exact ih0 _ _ _ _)
   | (with_reducible exact LeO.refl _)
   | (with_reducible exact LeO.none _)
   | (with_reducible refine LeO.ite ?_ ?_)
   | (with_reducible refine LeO.bind ?_ (fun _ => ?_))
   | exact ih0 _ _ _ _
   | exact LeO.none _
   | refine LeO.ite ?_ ?_
   | refine LeO.bind ?_ (fun _ => ?_)
theorem impl_ownNodes.mono : ∀ a0 k, LeO (impl_ownNodes.f k a0) (impl_ownNodes.f (k + 1) a0) := by
 intro a0 k
 have ih0 := impl_ownNodes.mono_l k
 unfold impl_ownNodes.f
 repeat' first
   | (with_reducible exact ih0 _ _ _ _)
   | (with_reducible exact LeO.refl _)
   | (with_reducible exact LeO.none _)
   | (with_reducible refine LeO.ite ?_ ?_)
   | (with_reducible refine LeO.bind ?_ (fun _ => ?_))
   | exact ih0 _ _ _ _
   | exact LeO.none _
   | refine LeO.ite ?_ ?_
   | refine LeO.bind ?_ (fun _ => ?_)
def impl_ownNodes.T5 : Bool × List (List Nat × List Nat) := (true, [([], []), ([], []), ([1], [1]), ([2], [2]), ([], []), ([4], [4]), ([3, 5], [3, 5]), ([6], [6]), ([0, 7, 3], [0, 7]), ([8, 8, 0, 1, 2, 3, 4, 5, 6, 7, 8], [0, 8])])
def impl_ownNodes.B5 : List Nat := [0, 0, 2, 6, 0, 16, 62, 126, 255, 511]
theorem impl_ownNodes.tab5 : rtab .any (opsOf Try.f85 5) = impl_ownNodes.T5 := by kernel_rfl
theorem impl_ownNodes.bits5 : waitsOk impl_ownNodes.T5.2 impl_ownNodes.B5 = true := by kernel_rfl
set_option maxHeartbeats 8000000 in
set_option maxRecDepth 100000 in
theorem impl_ownNodes.calls (k : Nat) (A0 : Option Addr) (c0 : Nat) (l0 : List (S60)) (r : List (S60)) (w : World) (hr0 : Kd.C k60 w A0 l0.length l0) (hc0 : l0.length ≤ c0) (h : impl_ownNodes.f k l0 = some r) :
  Calls Try.prog 85 #[.slice A0 l0.length c0] w fun e w' => ∃ v0_ : Value, e = .returned (v0_) ∧ Kd.S k60 60 w' w.heap.size (fun _ => True) v0_ r ∧ Below w.heap.size w w' := by
 have hu60 := Try.underlying60
 have HR0 := Aside0.mk hr0
 have HC0 := Aside0.mk hc0
 clear hr0 hc0
 have HB := Aside0.mk (Below.refl w.heap.size w)
 have H : (impl_ownNodes.l0 k (([] : List (S60))) l0 (l0.length : Int) 0) = some r := h
 clear h
 obtain ⟨y250, hy250⟩ : ∃ y_ : List (S60), y_ = (([] : List (S60))) := ⟨_, rfl⟩
 replace H : (impl_ownNodes.l0 k y250 l0 (l0.length : Int) 0) = some r := by first | (rw [hy250]; with_reducible exact H) | (have H2_ := (Option.bind_some _ _).symm.trans H; rw [hy250]; with_reducible exact H2_) | (have H2_ := (Option.bind_some _ _).symm.trans H; with_reducible exact H2_) | with_reducible exact H | (rw [hy250]; exact H) | exact H
 have Ny250 := Aside0.mk hy250
 clear hy250
 have H' := Aside0.mk H
 clear H
 go_enter Try.func85, Try.ntmps85
 go_wp2_with (first | ((with_reducible refine gate_dst (N := 6) rfl ?_); refine Kd.S_lit k60 _ 60 ?hg (N := 6) ?hd (xs := ([] : List (S60))) (inner := []) (ok := fun _ => True) (okp := fun _ => True) ?hr ?hp (fun _ hk => hk) trivial (Below.refl _ _) (Nat.le_refl _) (by simp) ?_; (case hd => rfl); (case hg => rfl); (case hr => first | (go_simp; done) | (go_simp; rfl)); (case hp => exact (Reps.none _ _)); intro v251 w2 ho3 hb hg_ hnew_; clear hg_ hnew_; (first | rw [← Ny250.out] at ho3 | (simp only [Int.reduceToNat] at ho3; rw [← Ny250.out] at ho3)); have n0_ := Aside0.mk (Kd.S_lower ho3 (Op.a6 (by repeat (first | (with_reducible first | exact HB.out | apply Op.a1 | apply Op.a2 | apply Op.a3) | exact HB.out)))); have n1_ := Aside0.mk (Op.a5 (by repeat (first | (with_reducible first | exact HB.out | apply Op.a1 | apply Op.a2 | apply Op.a3) | exact HB.out)) hb); clear HB; have HO252 := n0_; have HB := n1_; clear n0_ n1_; clear hb ho3))
 go_loopg [3, 9] k (fun kq v3 v9 w' => ∃ (x3_1 : List (S60)) (x9_1 : Int), v9 = .int .i64 x9_1 ∧ Aside0 (impl_ownNodes.l0 kq x3_1 l0 (l0.length : Int) x9_1 = some r) ∧ Aside0 (kq ≤ k) ∧ Aside0 (Kd.S k60 60 w' w.heap.size (fun _ => True) v3 x3_1) ∧ Aside0 (Below w.heap.size w w'))
 case atStart => exact ⟨(y250), (0), (by first | rfl | (simp; done) | (simp [*]; done)), H', ⟨Nat.le_refl _⟩, ⟨by (with_reducible repeat (first | apply Kd.S_alloc | apply Kd.S_drewN | apply Kd.S_drew)); exact HO252.out⟩, ⟨by repeat (first | (with_reducible first | exact HB.out | apply Op.a1 | apply Op.a2 | apply Op.a3) | exact HB.out)⟩⟩
 case round =>
  clear H'
  try clear p2
  obtain ⟨x3_1, x9_1, rfl, HA, HK1, HO_3, HB⟩ := hrel
  cases gk with
  | zero => exact absurd HA.out (by simp [impl_ownNodes.l0])
  | succ k1 =>
   have H := HA.out
   clear HA
   simp only [impl_ownNodes.l0] at H
   by_cases c4 : x9_1 < (l0.length : Int)
   ·rw [if_pos c4] at H
    have c4b0 : decide (x9_1 < (l0.length : Int)) = true := decide_eq_true c4
    clear c4
    by_cases c5 : 0 ≤ x9_1
    ·rw [if_pos c5] at H
     have c5b0 : decide (0 ≤ x9_1) = true := decide_eq_true c5
     clear c5
     by_cases c6 : x9_1 < (l0.length : Int)
     ·rw [if_pos c6] at H
      have c6b0 : decide (x9_1 < (l0.length : Int)) = true := decide_eq_true c6
      clear c6
      replace H := Option.bind_eq_some_iff.mp H
      obtain ⟨t255, A70, H⟩ := H
      replace H : (if x3_1.length < 4398046511104 then (impl_ownNodes.l0 k1 (x3_1 ++ [(⟨t255, (rd_T60 l0 x9_1).f1⟩ : S60)]) l0 (l0.length : Int) (wrap64 (x9_1 + 1))) else (none)) = some r := H
      have A7 := Aside0.mk A70
      clear A70
      by_cases c8 : x3_1.length < 4398046511104
      ·rw [if_pos c8] at H
       have LMc8 := Aside0.mk c8
       clear c8
       obtain ⟨y258, hy258⟩ : ∃ y_ : List (S60), y_ = (x3_1 ++ [(⟨t255, (rd_T60 l0 x9_1).f1⟩ : S60)]) := ⟨_, rfl⟩
       replace H : (impl_ownNodes.l0 k1 y258 l0 (l0.length : Int) (wrap64 (x9_1 + 1))) = some r := by first | (rw [hy258]; with_reducible exact H) | (have H2_ := (Option.bind_some _ _).symm.trans H; rw [hy258]; with_reducible exact H2_) | (have H2_ := (Option.bind_some _ _).symm.trans H; with_reducible exact H2_) | with_reducible exact H | (rw [hy258]; exact H) | exact H
       have Ny258 := Aside0.mk hy258
       clear hy258
       have H' := Aside0.mk H
       clear H
       have p253 : 0 ≤ (x9_1 : Int) := of_decide_eq_true (by first | (with_reducible assumption) | assumption)
       have q253 : x9_1 < (l0.length : Int) := of_decide_eq_true (by first | (with_reducible assumption) | assumption)
       obtain ⟨ad253, A253_0, c253_0, e253, hx253_0, hx253_1, hl253_0, hi253_0⟩ := at_T60 HR0.out x9_1 p253 q253
       cases e253
       replace hx253_0 := (HB.out.cell (World.block_lt_of_cell? w _ hx253_0)).trans hx253_0
       replace hx253_1 := (HB.out.cell (World.block_lt_of_cell? w _ hx253_1)).trans hx253_1
       have HR253_0 := Aside0.mk hi253_0
       have HC253_0 := Aside0.mk hl253_0
       clear hi253_0 hl253_0
       replace p253 := eq_true p253
       replace q253 := eq_true q253
       try go_wp2_with (first | ((with_reducible refine gate_dst (N := 5) rfl ?_); refine box_event ?hg (N := 5) ?hd (cs := #[.slice none 0 0, .bool false]) (t := 60) ?hr ?_; (case hd => rfl); (case hg => rfl); (case hr => first | (go_simp; done) | (go_simp; rfl)); intro gb254 hg w9 hbox hb; have n0_ := Aside0.mk (Kd.S_below (Kd.S_elderB (by (with_reducible repeat (first | apply Kd.S_alloc | apply Kd.S_drewN | apply Kd.S_drew)); exact HO_3.out) gb254 (Nat.le_of_eq hg.symm)) hb); have n1_ := Aside0.mk (Op.a5 (by repeat (first | (with_reducible first | exact HB.out | apply Op.a1 | apply Op.a2 | apply Op.a3) | exact HB.out)) hb); have n2_ := Aside0.mk (hbox); have n3_ := Aside0.mk ((by rw [hg]; exact (Op.a6 (by repeat (first | (with_reducible first | exact HB.out | apply Op.a1 | apply Op.a2 | apply Op.a3) | exact HB.out))) : w.heap.size ≤ gb254)); have n4_ := Aside0.mk ((by rw [hg]; exact (Op.a6 (by repeat (first | (with_reducible first | exact HB.out | apply Op.a1 | apply Op.a2 | apply Op.a3) | exact HB.out))) : w.heap.size ≤ gb254)); clear HO_3; clear HB; have HO_3 := n0_; have HB := n1_; have BK254 := n2_; have GW254 := n3_; have GE254 := n4_; clear n0_ n1_ n2_ n3_ n4_; clear hb hbox hg; have hcz10_0 : w9.cell? ⟨gb254, 0, none⟩ = some (.slice none 0 0) := (blk_cell BK254.out 0).trans rfl; have hcz10_1 : w9.cell? ⟨gb254, 1, none⟩ = some (.bool false) := (blk_cell BK254.out 1).trans rfl; have hfz10_0 := blk_frozen BK254.out 0; have hfz10_1 := blk_frozen BK254.out 1))
       have n0_ : Aside0 (Kd.S k60 60 ((w9.setCell ⟨gb254, 0, none⟩ (.slice A253_0 ((rd_T60 l0 x9_1).f0).length c253_0)).setCell ⟨gb254, 1, none⟩ (.bool ((rd_T60 l0 x9_1).f1))) w.heap.size (fun k_ => k_ ≠ gb254) u3 x3_1) := ⟨by (with_reducible repeat (first | apply Kd.S_alloc | apply Kd.S_drewN | apply Kd.S_drew)); exact Kd.S_mono (Kd.S_far (p := ⟨gb254, 1, none⟩) (Kd.S_far (p := ⟨gb254, 0, none⟩) (Kd.S_mono HO_3.out (fun k_ hk => (⟨hk, hk.2⟩ : _ ∧ k_ ≠ gb254))) (fun _ hk => hk.2) (.slice A253_0 ((rd_T60 l0 x9_1).f0).length c253_0)) (fun _ hk => hk.2) (.bool ((rd_T60 l0 x9_1).f1))) (fun _ hk => hk.1.2)⟩
       have n1_ : Aside0 (((w9.setCell ⟨gb254, 0, none⟩ (.slice A253_0 ((rd_T60 l0 x9_1).f0).length c253_0)).setCell ⟨gb254, 1, none⟩ (.bool ((rd_T60 l0 x9_1).f1))).heap[gb254]? = some (.cells #[.slice A253_0 ((rd_T60 l0 x9_1).f0).length c253_0, .bool ((rd_T60 l0 x9_1).f1)] 60 (0, 0))) := ⟨by (with_reducible repeat (first | refine Op.b1 ?_ _ | refine Op.b2 ?_ | refine Op.b3 ?_ _)); refine blk_put (cs := #[.slice A253_0 ((rd_T60 l0 x9_1).f0).length c253_0, .bool false]) ?_ 1 _ rfl; (with_reducible repeat (first | refine Op.b1 ?_ _ | refine Op.b2 ?_ | refine Op.b3 ?_ _)); refine blk_put (cs := #[.slice none 0 0, .bool false]) ?_ 0 _ rfl; (with_reducible repeat (first | refine Op.b1 ?_ _ | refine Op.b2 ?_ | refine Op.b3 ?_ _)); exact BK254.out⟩
       have n2_ : Aside0 (Below w.heap.size w ((w9.setCell ⟨gb254, 0, none⟩ (.slice A253_0 ((rd_T60 l0 x9_1).f0).length c253_0)).setCell ⟨gb254, 1, none⟩ (.bool ((rd_T60 l0 x9_1).f1)))) := ⟨by repeat (first | (with_reducible first | exact HB.out | apply Op.a1 | apply Op.a2 | apply Op.a3 | refine Op.a4 ?_ GE254.out) | exact HB.out)⟩
       (try clear HO_3)
       (try clear BK254)
       (try clear HB)
       generalize ((w9.setCell ⟨gb254, 0, none⟩ (.slice A253_0 ((rd_T60 l0 x9_1).f0).length c253_0)).setCell ⟨gb254, 1, none⟩ (.bool ((rd_T60 l0 x9_1).f1))) = w11 at n0_ n1_ n2_ ⊢
       have HO_3 := n0_
       have BK254 := n1_
       have HB := n2_
       clear n0_ n1_ n2_
       have n0_ := Aside0.mk (Kd.S_drew HO_3.out)
       have n1_ := Aside0.mk (Op.b2 BK254.out)
       have n2_ := Aside0.mk (Op.a3 HB.out)
       clear HO_3
       clear BK254
       clear HB
       have HO_3 := n0_
       have BK254 := n1_
       have HB := n2_
       clear n0_ n1_ n2_
       refine start_ (n := 10) (S := fun w' => w'.cell? ⟨gb254, 0, none⟩ = some (.slice A253_0 ((rd_T60 l0 x9_1).f0).length c253_0) ∧ w'.cell? ⟨gb254, 1, none⟩ = some (.bool ((rd_T60 l0 x9_1).f1))) (ds := []) #[false, false, false, false, false, false, false, false, false, false] (by kernel_rfl) rfl rfl ⟨(blk_cell BK254.out 0).trans rfl, (blk_cell BK254.out 1).trans rfl⟩ (fun hHeld => ?_); refine with_tabW impl_ownNodes.tab5 impl_ownNodes.bits5 (fun HT_ HW_ => ?_)
       generalize w11.drew = w12 at HO_3 BK254 HB hHeld ⊢
       refine pure_ (i := 0) (N := some 13) (v := ?_) (a' := ?_) #[true, false, false, false, false, false, false, false, false, false] rfl rfl (any_of HT_.out (by kernel_rfl)) (fun _ _ _ h => h) (Or.inl ⟨by rfl, ?_⟩) ?_ ?_
       rotate_left
       ·intro w'
        go_simp
        with_reducible rfl
       rotate_left
       ·simp only [Act.put, List.setIfInBounds_toArray, List.set_cons_zero, List.set_cons_succ, i64_w, i32_w]
        rfl
       refine pure_ (i := 1) (N := some 14) (v := ?_) (a' := ?_) #[true, true, false, false, false, false, false, false, false, false] rfl rfl (any_of HT_.out (by kernel_rfl)) (fun _ _ _ h => h) (Or.inl ⟨by rfl, ?_⟩) ?_ ?_
       rotate_left
       ·intro w'
        go_simp
        with_reducible rfl
       rotate_left
       ·simp only [Act.put, List.setIfInBounds_toArray, List.set_cons_zero, List.set_cons_succ, i64_w, i32_w]
        rfl
       refine pure_ (i := 4) (N := some 17) (v := ?_) (a' := ?_) #[true, true, false, false, true, false, false, false, false, false] rfl rfl (any_of HT_.out (by kernel_rfl)) (fun _ _ _ h => h) (Or.inl ⟨by rfl, ?_⟩) ?_ ?_
       rotate_left
       ·intro w'
        go_simp
        with_reducible rfl
       rotate_left
       ·simp only [Act.put, List.setIfInBounds_toArray, List.set_cons_zero, List.set_cons_succ, i64_w, i32_w]
        rfl
       refine take_ (i := 2) (N := some 15) (v := ?_) (a' := ?_) #[true, true, true, false, true, false, false, false, false, false] rfl rfl (take_ofW HT_.out HW_.out (by kernel_rfl)) (fun _ _ _ h => h) (Or.inl ⟨by rfl, ?_⟩) hHeld ?_ ?_
       rotate_left
       ·rintro w' ⟨s0, s1⟩
        go_simp
        with_reducible rfl
       rotate_left
       ·simp only [Act.put, List.setIfInBounds_toArray, List.set_cons_zero, List.set_cons_succ, i64_w, i32_w]
        rfl
       refine take_ (i := 5) (N := some 18) (v := ?_) (a' := ?_) #[true, true, true, false, true, true, false, false, false, false] rfl rfl (take_ofW HT_.out HW_.out (by kernel_rfl)) (fun _ _ _ h => h) (Or.inl ⟨by rfl, ?_⟩) hHeld ?_ ?_
       rotate_left
       ·rintro w' ⟨s0, s1⟩
        go_simp
        with_reducible rfl
       rotate_left
       ·simp only [Act.put, List.setIfInBounds_toArray, List.set_cons_zero, List.set_cons_succ, i64_w, i32_w]
        rfl
       refine one_ (i := 3) (N := some 16) #[true, true, true, true, true, true, false, false, false, false] rfl rfl (one_of HT_.out (by kernel_rfl)) (by decide) (fun K hK => ?_)
       refine goes_ Try.func86 (by kernel_rfl) rfl #[.slice A253_0 ((rd_T60 l0 x9_1).f0).length c253_0] (by rfl) rfl rfl (by (try simp only [List.map_toArray, List.map_cons, List.map_nil]); first | done | rfl | (simp only [List.length_drop, List.length_take]; rfl)) ?_
       with_reducible refine (slices_Clone_int_int.calls _ _ ((rd_T60 l0 x9_1).f0) t255 _ ?side1 ?side2 A7.out).mono ?_
       (case side1 => repeat (first | exact (Kd.C_below HR253_0.out HB.out) | (with_reducible refine Kd.C_alloc ?_ _) | (with_reducible refine Kd.C_drewN ?_ _) | (with_reducible refine Kd.C_drew ?_)))
       (case side2 => exact HC253_0.out)
       rintro e w13 ⟨v256, rfl, ho0, hb⟩
       refine ⟨_, rfl, ?_⟩
       have n0_ := Aside0.mk (Kd.S_elder' (by (with_reducible repeat (first | apply Kd.S_alloc | apply Kd.S_drewN | apply Kd.S_drew)); exact HO_3.out) (Kd.R_base ho0) hb)
       have n1_ := Aside0.mk (Kd.R_lower ho0 (Op.a6 (by repeat (first | (with_reducible first | exact HB.out | apply Op.a1 | apply Op.a2 | apply Op.a3 | refine Op.a4 ?_ GE254.out) | exact HB.out))))
       have n2_ := Aside0.mk (Op.b4 (g := gb254) (o := .cells #[.slice A253_0 ((rd_T60 l0 x9_1).f0).length c253_0, .bool ((rd_T60 l0 x9_1).f1)] 60 (0, 0)) (by (with_reducible repeat (first | refine Op.b1 ?_ _ | refine Op.b2 ?_ | refine Op.b3 ?_ _)); exact BK254.out) hb)
       have n3_ := Aside0.mk (Op.a5 (by repeat (first | (with_reducible first | exact HB.out | apply Op.a1 | apply Op.a2 | apply Op.a3 | refine Op.a4 ?_ GE254.out) | exact HB.out)) hb)
       clear HO_3
       clear BK254
       clear HB
       have HO_3 := n0_
       have HO257 := n1_
       have BK254 := n2_
       have HB := n3_
       clear n0_ n1_ n2_ n3_
       (try clear hb)
       (try clear hb2)
       (try clear hk)
       (try clear hi)
       (try clear ho0)
       obtain ⟨Ao14, co14, eo14⟩ := Kd.R_slice HO257.out
       (first | subst eo14 | (injection eo14 with f1_ f2_ f3_; have f4_ := f1_.symm; have f5_ := f3_.symm; clear f1_ f2_ f3_; subst f4_; subst f5_))
       refine hK.out _ _ ⟨(blk_cell BK254.out 0).trans rfl, (blk_cell BK254.out 1).trans rfl⟩ (fun hHeld => ?_)
       clear hK K
       refine norm_ (a' := ?_) ?_ ?_
       rotate_left
       ·show Act.put _ (some 16) _ = _
        simp only [Act.put, List.setIfInBounds_toArray, List.set_cons_zero, List.set_cons_succ, i64_w, i32_w]
        rfl
       refine pure_ (i := 6) (N := some 19) (v := ?_) (a' := ?_) #[true, true, true, true, true, true, true, false, false, false] rfl rfl (any_of HT_.out (by kernel_rfl)) (fun _ _ _ h => h) (Or.inl ⟨by rfl, ?_⟩) ?_ ?_
       rotate_left
       ·intro w'
        go_simp
        with_reducible rfl
       rotate_left
       ·simp only [Act.put, List.setIfInBounds_toArray, List.set_cons_zero, List.set_cons_succ, i64_w, i32_w]
        rfl
       refine one_ (i := 7) (N := some 20) #[true, true, true, true, true, true, true, true, false, false] rfl rfl (one_of HT_.out (by kernel_rfl)) (by decide) (fun K hK => ?_)
       refine value_ (w1 := ?_) (v := ?_) (by rfl) rfl ?_ ?_
       rotate_left 2
       ·go_simp
        constructor
        ·rfl
        ·rfl
       refine hK.out _ _ ⟨(blk_cell (Op.b3 BK254.out _) 0).trans rfl, (blk_cell (Op.b3 BK254.out _) 1).trans rfl⟩ (fun hHeld => ?_)
       clear hK K
       refine norm_ (a' := ?_) ?_ ?_
       rotate_left
       ·show Act.put _ (some 20) _ = _
        simp only [Act.put, List.setIfInBounds_toArray, List.set_cons_zero, List.set_cons_succ, i64_w, i32_w]
        rfl
       refine one_ (i := 8) (N := some 21) #[true, true, true, true, true, true, true, true, true, false] rfl rfl (one_of HT_.out (by kernel_rfl)) (by decide) (fun K hK => ?_)
       refine Kd.S_append_step k60 (w0 := w) w.heap.size (by rfl) (.tmp 13) (.tmp 20) 27 60 (.agg #[(.slice none 0 0), (.bool false)]) 32 rfl Try.underlying27 info60 rfl (by decide) (by omega) u3 x3_1 (⟨t255, (rd_T60 l0 x9_1).f1⟩ : S60) [.slice Ao14 t255.length co14, .bool ((rd_T60 l0 x9_1).f1)] (fun k_ => k_ ≠ gb254) (fun k_ => some k_ = (.slice Ao14 t255.length co14 : Value).ownBlock) rfl rfl ?aP (fun k_ hk_ => ((Kd.R_mono (ok' := fun k_ => ((fun k_ => k_ ≠ gb254)) k_ ∧ some k_ ≠ (u3 : Value).ownBlock) (Kd.R_types (Kd.R_apart' (HO257.out) (Kd.S_typed HO_3.out) (by decide)) BK254.out (by decide)) (fun k_ hk => ⟨hk.2, hk.1.2⟩))).1 k_ hk_.symm) ?aF ?aO ?aB ?aS ?aL ?_
       (case aP => exact k60_mkM _ _ _ (⟨t255, (rd_T60 l0 x9_1).f1⟩ : S60) (Kd.R_mono (Kd.R_tight rfl (Kd.R_mono (ok' := fun k_ => ((fun k_ => k_ ≠ gb254)) k_ ∧ some k_ ≠ (u3 : Value).ownBlock) (Kd.R_types (Kd.R_apart' (HO257.out) (Kd.S_typed HO_3.out) (by decide)) BK254.out (by decide)) (fun k_ hk => ⟨hk.2, hk.1.2⟩))) (fun _ h_ => h_)))
       (case aB => exact (by repeat (first | (with_reducible first | exact HB.out | apply Op.a1 | apply Op.a2 | apply Op.a3 | refine Op.a4 ?_ GE254.out) | exact HB.out)))
       (case aF => exact (fun k_ hk => Kd.freshB (g := gb254) (o := .cells #[.slice A253_0 ((rd_T60 l0 x9_1).f0).length c253_0, .bool ((rd_T60 l0 x9_1).f1)] 60 (0, 0)) (by (with_reducible repeat (first | refine Op.b1 ?_ _ | refine Op.b2 ?_ | refine Op.b3 ?_ _)); exact BK254.out) k_ hk))
       (case aO => exact (by (with_reducible repeat (first | apply Kd.S_alloc | apply Kd.S_drewN | apply Kd.S_drew)); exact Kd.S_mono HO_3.out (fun k_ hk => ⟨hk.1, fun e_ => hk.2 e_⟩)))
       (case aS => exact (Op.a6 (by repeat (first | (with_reducible first | exact HB.out | apply Op.a1 | apply Op.a2 | apply Op.a3 | refine Op.a4 ?_ GE254.out) | exact HB.out))))
       (case aL => have := LMc8.out; omega)
       intro v259 w15 ho hb hg hat
       rw [← Ny258.out] at ho
       have n0_ := Aside0.mk (blk_grown (g := gb254) (o := .cells #[.slice A253_0 ((rd_T60 l0 x9_1).f0).length c253_0, .bool ((rd_T60 l0 x9_1).f1)] 60 (0, 0)) (by (with_reducible repeat (first | refine Op.b1 ?_ _ | refine Op.b2 ?_ | refine Op.b3 ?_ _)); exact BK254.out) hg (Kd.S_away HO_3.out (fun _ hk => hk.1)))
       have n1_ := Aside0.mk (hb)
       have n2_ := Aside0.mk (ho)
       clear BK254
       clear HB
       clear HO_3
       clear HO257
       have BK254 := n0_
       have HB := n1_
       have HO260 := n2_
       clear n0_ n1_ n2_
       clear ho hb hg hat
       refine hK.out _ _ ⟨(blk_cell BK254.out 0).trans rfl, (blk_cell BK254.out 1).trans rfl⟩ (fun hHeld => ?_)
       clear hK K
       refine norm_ (a' := ?_) ?_ ?_
       rotate_left
       ·show Act.put _ (some 21) _ = _
        simp only [Act.put, List.setIfInBounds_toArray, List.set_cons_zero, List.set_cons_succ, i64_w, i32_w]
        rfl
       refine pure_ (i := 9) (N := some 3) (v := ?_) (a' := ?_) #[true, true, true, true, true, true, true, true, true, true] rfl rfl (any_of HT_.out (by kernel_rfl)) (fun _ _ _ h => h) (Or.inl ⟨by rfl, ?_⟩) ?_ ?_
       rotate_left
       ·intro w'
        go_simp
        with_reducible rfl
       rotate_left
       ·simp only [Act.put, List.setIfInBounds_toArray, List.set_cons_zero, List.set_cons_succ, i64_w, i32_w]
        rfl
       refine done_ (done_of HT_.out (by kernel_rfl)) ?_
       try go_wp2
       go_roundg k1
       case measure => have := HK1.out; omega
       case rel => exact ⟨(y258), (wrap64 (x9_1 + 1)), (by first | rfl | (simp; done) | (simp [*]; done)), H', ⟨by have := HK1.out; omega⟩, ⟨by (with_reducible repeat (first | apply Kd.S_alloc | apply Kd.S_drewN | apply Kd.S_drew)); exact Kd.S_mono HO260.out (fun _ hk => trivial)⟩, ⟨by repeat (first | (with_reducible first | exact HB.out | apply Op.a1 | apply Op.a2 | apply Op.a3 | refine Op.a4 ?_ GE254.out) | exact HB.out)⟩⟩
      ·rw [if_neg c8] at H
       exact absurd H (by simp)
     ·rw [if_neg c6] at H
      exact absurd H (by simp)
    ·rw [if_neg c5] at H
     exact absurd H (by simp)
   ·rw [if_neg c4] at H
    have c4b0 : decide (x9_1 < (l0.length : Int)) = false := decide_eq_false c4
    clear c4
    obtain rfl := Option.some.inj H
    go_wp2
    go_ret
    exact ⟨_, by first | rfl | (simp [errW_none, errW_some] <;> rfl) | (simp [*, errW_none, errW_some] <;> rfl), by (with_reducible repeat (first | apply Kd.S_alloc | apply Kd.S_drewN | apply Kd.S_drew)); exact HO_3.out, by repeat (first | (with_reducible first | exact HB.out | apply Op.a1 | apply Op.a2 | apply Op.a3) | exact HB.out)⟩

/-! ### impl_ownGraph: function 66 -/
def impl_ownGraph.f (k : Nat) (l0_0 : List (S60)) (l0_1 : List Int) (l0_2 : List Int) : Option ((List (S60)) × List Int × List Int) := (impl_ownNodes.f k l0_0).bind fun t263 => ((slices_Clone_int_int.f l0_1).bind fun t266 => ((slices_Clone_int_int.f l0_2).bind fun t269 => (some (t263, t266, t269))))
theorem impl_ownGraph.mono : ∀ a0 a1 a2 k, LeO (impl_ownGraph.f k a0 a1 a2) (impl_ownGraph.f (k + 1) a0 a1 a2) := by
 intro a0 a1 a2 k
 unfold impl_ownGraph.f
 repeat' first
   | (with_reducible exact impl_ownNodes.mono _ _)
   | (with_reducible exact LeO.refl _)
   | (with_reducible exact LeO.none _)
   | (with_reducible refine LeO.ite ?_ ?_)
   | (with_reducible refine LeO.bind ?_ (fun _ => ?_))
   | exact impl_ownNodes.mono _ _
   | exact LeO.none _
   | refine LeO.ite ?_ ?_
   | refine LeO.bind ?_ (fun _ => ?_)
def impl_ownGraph.T1 : Bool × List (List Nat × List Nat) := (true, [([], []), ([0], [0]), ([1], [1]), ([], []), ([3], [3]), ([4, 2], [4]), ([], []), ([6], [6]), ([7, 5], [7]), ([2, 5, 8], [2, 5, 8]), ([9, 8, 0, 1, 2, 3, 4, 5, 6, 7, 8, 9], [9])])
def impl_ownGraph.B1 : List Nat := [0, 1, 3, 0, 8, 31, 0, 64, 255, 511, 1023]
theorem impl_ownGraph.tab1 : rtab .any (opsOf Try.f66 1) = impl_ownGraph.T1 := by kernel_rfl
theorem impl_ownGraph.bits1 : waitsOk impl_ownGraph.T1.2 impl_ownGraph.B1 = true := by kernel_rfl
set_option maxHeartbeats 8000000 in
set_option maxRecDepth 100000 in
theorem impl_ownGraph.calls (k : Nat) (A0_0 : Option Addr) (c0_0 : Nat) (l0_0 : List (S60)) (A0_1 : Option Addr) (c0_1 : Nat) (l0_1 : List Int) (A0_2 : Option Addr) (c0_2 : Nat) (l0_2 : List Int) (r1 : List (S60)) (r2 : List Int) (r3 : List Int) (w : World) (hr0_0 : Kd.C k60 w A0_0 l0_0.length l0_0) (hc0_0 : l0_0.length ≤ c0_0) (hr0_1 : Kd.C (Kd.int .i64) w A0_1 l0_1.length l0_1) (hc0_1 : l0_1.length ≤ c0_1) (hr0_2 : Kd.C (Kd.int .i64) w A0_2 l0_2.length l0_2) (hc0_2 : l0_2.length ≤ c0_2) (h : impl_ownGraph.f k l0_0 l0_1 l0_2 = some (r1, r2, r3)) :
  Calls Try.prog 66 #[.agg #[.slice A0_0 l0_0.length c0_0, .slice A0_1 l0_1.length c0_1, .slice A0_2 l0_2.length c0_2]] w fun e w' => ∃ v0_ v1_ v2_ : Value, e = .returned (.agg #[v0_, v1_, v2_]) ∧ Kd.S k60 60 w' w.heap.size (fun k_ => some k_ ≠ (v1_ : Value).ownBlock ∧ some k_ ≠ (v2_ : Value).ownBlock) v0_ r1 ∧ Kd.R (Kd.int .i64) 3 w' w.heap.size (fun k_ => some k_ ≠ (v2_ : Value).ownBlock) v1_ r2 ∧ Kd.R (Kd.int .i64) 3 w' w.heap.size (fun k_ => some k_ ≠ (v1_ : Value).ownBlock) v2_ r3 ∧ Below w.heap.size w w' := by
 have hu40 := Try.underlying40
 have HR0_0 := Aside0.mk hr0_0
 have HC0_0 := Aside0.mk hc0_0
 clear hr0_0 hc0_0
 have HR0_1 := Aside0.mk hr0_1
 have HC0_1 := Aside0.mk hc0_1
 clear hr0_1 hc0_1
 have HR0_2 := Aside0.mk hr0_2
 have HC0_2 := Aside0.mk hc0_2
 clear hr0_2 hc0_2
 have HB := Aside0.mk (Below.refl w.heap.size w)
 have H : ((impl_ownNodes.f k l0_0).bind fun t263 => ((slices_Clone_int_int.f l0_1).bind fun t266 => ((slices_Clone_int_int.f l0_2).bind fun t269 => (some (t263, t266, t269))))) = some (r1, r2, r3) := h
 clear h
 replace H := Option.bind_eq_some_iff.mp H
 obtain ⟨t263, A20, H⟩ := H
 replace H : ((slices_Clone_int_int.f l0_1).bind fun t266 => ((slices_Clone_int_int.f l0_2).bind fun t269 => (some (t263, t266, t269)))) = some (r1, r2, r3) := H
 have A2 := Aside0.mk A20
 clear A20
 replace H := Option.bind_eq_some_iff.mp H
 obtain ⟨t266, A30, H⟩ := H
 replace H : ((slices_Clone_int_int.f l0_2).bind fun t269 => (some (t263, t266, t269))) = some (r1, r2, r3) := H
 have A3 := Aside0.mk A30
 clear A30
 replace H := Option.bind_eq_some_iff.mp H
 obtain ⟨t269, A40, H⟩ := H
 replace H : (some (t263, t266, t269)) = some (r1, r2, r3) := H
 have A4 := Aside0.mk A40
 clear A40
 simp only [Option.some.injEq, Prod.mk.injEq] at H
 obtain ⟨rfl, rfl, rfl⟩ := H
 go_enter Try.func66, Try.ntmps66
 try go_wp2_with (first | ((with_reducible refine gate_dst (N := 1) rfl ?_); refine box_event ?hg (N := 1) ?hd (cs := #[.slice A0_0 l0_0.length c0_0, .slice A0_1 l0_1.length c0_1, .slice A0_2 l0_2.length c0_2]) (t := 40) ?hr ?_; (case hd => rfl); (case hg => rfl); (case hr => first | (go_simp; done) | (go_simp; rfl)); intro gb261 hg w5 hbox hb; have n0_ := Aside0.mk (Op.a5 (by repeat (first | (with_reducible first | exact HB.out | apply Op.a1 | apply Op.a2 | apply Op.a3) | exact HB.out)) hb); have n1_ := Aside0.mk (hbox); have n2_ := Aside0.mk ((by rw [hg]; exact (Op.a6 (by repeat (first | (with_reducible first | exact HB.out | apply Op.a1 | apply Op.a2 | apply Op.a3) | exact HB.out))) : w.heap.size ≤ gb261)); have n3_ := Aside0.mk ((by rw [hg]; exact (Op.a6 (by repeat (first | (with_reducible first | exact HB.out | apply Op.a1 | apply Op.a2 | apply Op.a3) | exact HB.out))) : w.heap.size ≤ gb261)); clear HB; have HB := n0_; have BK261 := n1_; have GW261 := n2_; have GE261 := n3_; clear n0_ n1_ n2_ n3_; clear hb hbox hg) | ((with_reducible refine gate_dst (N := 2) rfl ?_); refine box_event ?hg (N := 2) ?hd (cs := #[.slice none 0 0, .slice none 0 0, .slice none 0 0]) (t := 40) ?hr ?_; (case hd => rfl); (case hg => rfl); (case hr => first | (go_simp; done) | (go_simp; rfl)); intro gb262 hg w6 hbox hb; have n0_ := Aside0.mk (Op.b4 (g := gb261) (o := .cells #[.slice A0_0 l0_0.length c0_0, .slice A0_1 l0_1.length c0_1, .slice A0_2 l0_2.length c0_2] 40 (0, 0)) (by (with_reducible repeat (first | refine Op.b1 ?_ _ | refine Op.b2 ?_ | refine Op.b3 ?_ _)); exact BK261.out) hb); have n1_ := Aside0.mk (Op.a5 (by repeat (first | (with_reducible first | exact HB.out | apply Op.a1 | apply Op.a2 | apply Op.a3 | refine Op.a4 ?_ GE261.out) | exact HB.out)) hb); have n2_ := Aside0.mk (hbox); have n3_ := Aside0.mk ((by rw [hg]; exact (Op.a6 (by repeat (first | (with_reducible first | exact HB.out | apply Op.a1 | apply Op.a2 | apply Op.a3 | refine Op.a4 ?_ GE261.out) | exact HB.out))) : w.heap.size ≤ gb262)); have n4_ := Aside0.mk ((by rw [hg]; exact (Op.a6 (by repeat (first | (with_reducible first | exact HB.out | apply Op.a1 | apply Op.a2 | apply Op.a3 | refine Op.a4 ?_ GE261.out) | exact HB.out))) : w.heap.size ≤ gb262)); have n5_ := Aside0.mk ((by rw [hg]; exact Nat.ne_of_lt (blk_lt (g := gb261) (o := .cells #[.slice A0_0 l0_0.length c0_0, .slice A0_1 l0_1.length c0_1, .slice A0_2 l0_2.length c0_2] 40 (0, 0)) (by (with_reducible repeat (first | refine Op.b1 ?_ _ | refine Op.b2 ?_ | refine Op.b3 ?_ _)); exact BK261.out)) : gb261 ≠ gb262)); have n6_ := Aside0.mk ((by rw [hg]; exact Nat.ne_of_gt (blk_lt (g := gb261) (o := .cells #[.slice A0_0 l0_0.length c0_0, .slice A0_1 l0_1.length c0_1, .slice A0_2 l0_2.length c0_2] 40 (0, 0)) (by (with_reducible repeat (first | refine Op.b1 ?_ _ | refine Op.b2 ?_ | refine Op.b3 ?_ _)); exact BK261.out)) : gb262 ≠ gb261)); clear BK261; clear HB; have BK261 := n0_; have HB := n1_; have BK262 := n2_; have GW262 := n3_; have GE262 := n4_; have NB261_262 := n5_; have NB262_261 := n6_; clear n0_ n1_ n2_ n3_ n4_ n5_ n6_; clear hb hbox hg))
 have n0_ := Aside0.mk (Op.b2 BK261.out)
 have n1_ := Aside0.mk (Op.b2 BK262.out)
 have n2_ := Aside0.mk (Op.a3 HB.out)
 clear BK261
 clear BK262
 clear HB
 have BK261 := n0_
 have BK262 := n1_
 have HB := n2_
 clear n0_ n1_ n2_
 refine start_ (n := 11) (S := fun w' => w'.cell? ⟨gb261, 0, none⟩ = some (.slice A0_0 l0_0.length c0_0) ∧ w'.cell? ⟨gb261, 1, none⟩ = some (.slice A0_1 l0_1.length c0_1) ∧ w'.cell? ⟨gb261, 2, none⟩ = some (.slice A0_2 l0_2.length c0_2)) (ds := []) #[false, false, false, false, false, false, false, false, false, false, false] (by kernel_rfl) rfl rfl ⟨(blk_cell BK261.out 0).trans rfl, (blk_cell BK261.out 1).trans rfl, (blk_cell BK261.out 2).trans rfl⟩ (fun hHeld => ?_); refine with_tabW impl_ownGraph.tab1 impl_ownGraph.bits1 (fun HT_ HW_ => ?_)
 generalize w6.drew = w7 at BK261 BK262 HB hHeld ⊢
 refine pure_ (i := 0) (N := some 3) (v := ?_) (a' := ?_) #[true, false, false, false, false, false, false, false, false, false, false] rfl rfl (any_of HT_.out (by kernel_rfl)) (fun _ _ _ h => h) (Or.inl ⟨by rfl, ?_⟩) ?_ ?_
 rotate_left
 ·intro w'
  go_simp
  with_reducible rfl
 rotate_left
 ·simp only [Act.put, List.setIfInBounds_toArray, List.set_cons_zero, List.set_cons_succ, i64_w, i32_w]
  rfl
 refine pure_ (i := 3) (N := some 6) (v := ?_) (a' := ?_) #[true, false, false, true, false, false, false, false, false, false, false] rfl rfl (any_of HT_.out (by kernel_rfl)) (fun _ _ _ h => h) (Or.inl ⟨by rfl, ?_⟩) ?_ ?_
 rotate_left
 ·intro w'
  go_simp
  with_reducible rfl
 rotate_left
 ·simp only [Act.put, List.setIfInBounds_toArray, List.set_cons_zero, List.set_cons_succ, i64_w, i32_w]
  rfl
 refine pure_ (i := 6) (N := some 9) (v := ?_) (a' := ?_) #[true, false, false, true, false, false, true, false, false, false, false] rfl rfl (any_of HT_.out (by kernel_rfl)) (fun _ _ _ h => h) (Or.inl ⟨by rfl, ?_⟩) ?_ ?_
 rotate_left
 ·intro w'
  go_simp
  with_reducible rfl
 rotate_left
 ·simp only [Act.put, List.setIfInBounds_toArray, List.set_cons_zero, List.set_cons_succ, i64_w, i32_w]
  rfl
 refine take_ (i := 1) (N := some 4) (v := ?_) (a' := ?_) #[true, true, false, true, false, false, true, false, false, false, false] rfl rfl (take_ofW HT_.out HW_.out (by kernel_rfl)) (fun _ _ _ h => h) (Or.inl ⟨by rfl, ?_⟩) hHeld ?_ ?_
 rotate_left
 ·rintro w' ⟨s0, s1, s2⟩
  go_simp
  with_reducible rfl
 rotate_left
 ·simp only [Act.put, List.setIfInBounds_toArray, List.set_cons_zero, List.set_cons_succ, i64_w, i32_w]
  rfl
 refine take_ (i := 4) (N := some 7) (v := ?_) (a' := ?_) #[true, true, false, true, true, false, true, false, false, false, false] rfl rfl (take_ofW HT_.out HW_.out (by kernel_rfl)) (fun _ _ _ h => h) (Or.inl ⟨by rfl, ?_⟩) hHeld ?_ ?_
 rotate_left
 ·rintro w' ⟨s0, s1, s2⟩
  go_simp
  with_reducible rfl
 rotate_left
 ·simp only [Act.put, List.setIfInBounds_toArray, List.set_cons_zero, List.set_cons_succ, i64_w, i32_w]
  rfl
 refine take_ (i := 7) (N := some 10) (v := ?_) (a' := ?_) #[true, true, false, true, true, false, true, true, false, false, false] rfl rfl (take_ofW HT_.out HW_.out (by kernel_rfl)) (fun _ _ _ h => h) (Or.inl ⟨by rfl, ?_⟩) hHeld ?_ ?_
 rotate_left
 ·rintro w' ⟨s0, s1, s2⟩
  go_simp
  with_reducible rfl
 rotate_left
 ·simp only [Act.put, List.setIfInBounds_toArray, List.set_cons_zero, List.set_cons_succ, i64_w, i32_w]
  rfl
 refine one_ (i := 2) (N := some 5) #[true, true, true, true, true, false, true, true, false, false, false] rfl rfl (one_of HT_.out (by kernel_rfl)) (by decide) (fun K hK => ?_)
 refine goes_ Try.func85 (by kernel_rfl) rfl #[.slice A0_0 l0_0.length c0_0] (by rfl) rfl rfl (by (try simp only [List.map_toArray, List.map_cons, List.map_nil]); first | done | rfl | (simp only [List.length_drop, List.length_take]; rfl)) ?_
 with_reducible refine (impl_ownNodes.calls k _ _ l0_0 t263 _ ?side1 ?side2 A2.out).mono ?_
 (case side1 => repeat (first | exact (Kd.C_below HR0_0.out HB.out) | (with_reducible refine Kd.C_alloc ?_ _) | (with_reducible refine Kd.C_drewN ?_ _) | (with_reducible refine Kd.C_drew ?_)))
 (case side2 => exact HC0_0.out)
 rintro e w8 ⟨v264, rfl, ho0, hb⟩
 refine ⟨_, rfl, ?_⟩
 have n0_ := Aside0.mk (Kd.S_lower ho0 (Op.a6 (by repeat (first | (with_reducible first | exact HB.out | apply Op.a1 | apply Op.a2 | apply Op.a3 | refine Op.a4 ?_ GE261.out | refine Op.a4 ?_ GE262.out) | exact HB.out))))
 have n1_ := Aside0.mk (Op.b4 (g := gb261) (o := .cells #[.slice A0_0 l0_0.length c0_0, .slice A0_1 l0_1.length c0_1, .slice A0_2 l0_2.length c0_2] 40 (0, 0)) (by (with_reducible repeat (first | refine Op.b1 ?_ _ | refine Op.b2 ?_ | refine Op.b3 ?_ _)); exact BK261.out) hb)
 have n2_ := Aside0.mk (Op.b4 (g := gb262) (o := .cells #[.slice none 0 0, .slice none 0 0, .slice none 0 0] 40 (0, 0)) (by (with_reducible repeat (first | refine Op.b1 ?_ _ | refine Op.b2 ?_ | refine Op.b3 ?_ _)); exact BK262.out) hb)
 have n3_ := Aside0.mk (Op.a5 (by repeat (first | (with_reducible first | exact HB.out | apply Op.a1 | apply Op.a2 | apply Op.a3 | refine Op.a4 ?_ GE261.out | refine Op.a4 ?_ GE262.out) | exact HB.out)) hb)
 clear BK261
 clear BK262
 clear HB
 have HO265 := n0_
 have BK261 := n1_
 have BK262 := n2_
 have HB := n3_
 clear n0_ n1_ n2_ n3_
 (try clear hb)
 (try clear hb2)
 (try clear hk)
 (try clear hi)
 (try clear ho0)
 refine hK.out _ _ ⟨(blk_cell BK261.out 0).trans rfl, (blk_cell BK261.out 1).trans rfl, (blk_cell BK261.out 2).trans rfl⟩ (fun hHeld => ?_)
 clear hK K
 refine norm_ (a' := ?_) ?_ ?_
 rotate_left
 ·show Act.put _ (some 5) _ = _
  simp only [Act.put, List.setIfInBounds_toArray, List.set_cons_zero, List.set_cons_succ, i64_w, i32_w]
  rfl
 refine one_ (i := 5) (N := some 8) #[true, true, true, true, true, true, true, true, false, false, false] rfl rfl (one_of HT_.out (by kernel_rfl)) (by decide) (fun K hK => ?_)
 refine goes_ Try.func86 (by kernel_rfl) rfl #[.slice A0_1 l0_1.length c0_1] (by rfl) rfl rfl (by (try simp only [List.map_toArray, List.map_cons, List.map_nil]); first | done | rfl | (simp only [List.length_drop, List.length_take]; rfl)) ?_
 with_reducible refine (slices_Clone_int_int.calls _ _ l0_1 t266 _ ?side1 ?side2 A3.out).mono ?_
 (case side1 => repeat (first | exact (Kd.C_below HR0_1.out HB.out) | (with_reducible refine Kd.C_alloc ?_ _) | (with_reducible refine Kd.C_drewN ?_ _) | (with_reducible refine Kd.C_drew ?_)))
 (case side2 => exact HC0_1.out)
 rintro e w9 ⟨v267, rfl, ho0, hb⟩
 refine ⟨_, rfl, ?_⟩
 have n0_ := Aside0.mk (Kd.S_elder' (by (with_reducible repeat (first | apply Kd.S_alloc | apply Kd.S_drewN | apply Kd.S_drew)); exact HO265.out) (Kd.R_base ho0) hb)
 have n1_ := Aside0.mk (Kd.R_lower ho0 (Op.a6 (by repeat (first | (with_reducible first | exact HB.out | apply Op.a1 | apply Op.a2 | apply Op.a3 | refine Op.a4 ?_ GE261.out | refine Op.a4 ?_ GE262.out) | exact HB.out))))
 have n2_ := Aside0.mk (Op.b4 (g := gb261) (o := .cells #[.slice A0_0 l0_0.length c0_0, .slice A0_1 l0_1.length c0_1, .slice A0_2 l0_2.length c0_2] 40 (0, 0)) (by (with_reducible repeat (first | refine Op.b1 ?_ _ | refine Op.b2 ?_ | refine Op.b3 ?_ _)); exact BK261.out) hb)
 have n3_ := Aside0.mk (Op.b4 (g := gb262) (o := .cells #[.slice none 0 0, .slice none 0 0, .slice none 0 0] 40 (0, 0)) (by (with_reducible repeat (first | refine Op.b1 ?_ _ | refine Op.b2 ?_ | refine Op.b3 ?_ _)); exact BK262.out) hb)
 have n4_ := Aside0.mk (Op.a5 (by repeat (first | (with_reducible first | exact HB.out | apply Op.a1 | apply Op.a2 | apply Op.a3 | refine Op.a4 ?_ GE261.out | refine Op.a4 ?_ GE262.out) | exact HB.out)) hb)
 clear HO265
 clear BK261
 clear BK262
 clear HB
 have HO265 := n0_
 have HO268 := n1_
 have BK261 := n2_
 have BK262 := n3_
 have HB := n4_
 clear n0_ n1_ n2_ n3_ n4_
 (try clear hb)
 (try clear hb2)
 (try clear hk)
 (try clear hi)
 (try clear ho0)
 refine hK.out _ _ ⟨(blk_cell BK261.out 0).trans rfl, (blk_cell BK261.out 1).trans rfl, (blk_cell BK261.out 2).trans rfl⟩ (fun hHeld => ?_)
 clear hK K
 refine norm_ (a' := ?_) ?_ ?_
 rotate_left
 ·show Act.put _ (some 8) _ = _
  simp only [Act.put, List.setIfInBounds_toArray, List.set_cons_zero, List.set_cons_succ, i64_w, i32_w]
  rfl
 refine one_ (i := 8) (N := some 11) #[true, true, true, true, true, true, true, true, true, false, false] rfl rfl (one_of HT_.out (by kernel_rfl)) (by decide) (fun K hK => ?_)
 refine goes_ Try.func86 (by kernel_rfl) rfl #[.slice A0_2 l0_2.length c0_2] (by rfl) rfl rfl (by (try simp only [List.map_toArray, List.map_cons, List.map_nil]); first | done | rfl | (simp only [List.length_drop, List.length_take]; rfl)) ?_
 with_reducible refine (slices_Clone_int_int.calls _ _ l0_2 t269 _ ?side1 ?side2 A4.out).mono ?_
 (case side1 => repeat (first | exact (Kd.C_below HR0_2.out HB.out) | (with_reducible refine Kd.C_alloc ?_ _) | (with_reducible refine Kd.C_drewN ?_ _) | (with_reducible refine Kd.C_drew ?_)))
 (case side2 => exact HC0_2.out)
 rintro e w10 ⟨v270, rfl, ho0, hb⟩
 refine ⟨_, rfl, ?_⟩
 have n0_ := Aside0.mk (Kd.S_elder' (by (with_reducible repeat (first | apply Kd.S_alloc | apply Kd.S_drewN | apply Kd.S_drew)); exact HO265.out) (Kd.R_base ho0) hb)
 have n1_ := Aside0.mk (Kd.R_elder' (by (with_reducible repeat (first | apply Kd.R_alloc | apply Kd.R_drewN | apply Kd.R_drew)); exact HO268.out) (Kd.R_base ho0) hb)
 have n2_ := Aside0.mk (Kd.R_lower (Kd.R_new' ho0 (Kd.R_lt (by (with_reducible repeat (first | apply Kd.R_alloc | apply Kd.R_drewN | apply Kd.R_drew)); exact HO268.out))) (Op.a6 (by repeat (first | (with_reducible first | exact HB.out | apply Op.a1 | apply Op.a2 | apply Op.a3 | refine Op.a4 ?_ GE261.out | refine Op.a4 ?_ GE262.out) | exact HB.out))))
 have n3_ := Aside0.mk (Op.b4 (g := gb261) (o := .cells #[.slice A0_0 l0_0.length c0_0, .slice A0_1 l0_1.length c0_1, .slice A0_2 l0_2.length c0_2] 40 (0, 0)) (by (with_reducible repeat (first | refine Op.b1 ?_ _ | refine Op.b2 ?_ | refine Op.b3 ?_ _)); exact BK261.out) hb)
 have n4_ := Aside0.mk (Op.b4 (g := gb262) (o := .cells #[.slice none 0 0, .slice none 0 0, .slice none 0 0] 40 (0, 0)) (by (with_reducible repeat (first | refine Op.b1 ?_ _ | refine Op.b2 ?_ | refine Op.b3 ?_ _)); exact BK262.out) hb)
 have n5_ := Aside0.mk (Op.a5 (by repeat (first | (with_reducible first | exact HB.out | apply Op.a1 | apply Op.a2 | apply Op.a3 | refine Op.a4 ?_ GE261.out | refine Op.a4 ?_ GE262.out) | exact HB.out)) hb)
 clear HO265
 clear HO268
 clear BK261
 clear BK262
 clear HB
 have HO265 := n0_
 have HO268 := n1_
 have HO271 := n2_
 have BK261 := n3_
 have BK262 := n4_
 have HB := n5_
 clear n0_ n1_ n2_ n3_ n4_ n5_
 (try clear hb)
 (try clear hb2)
 (try clear hk)
 (try clear hi)
 (try clear ho0)
 obtain ⟨Ao11, co11, eo11⟩ := Kd.R_slice HO271.out
 (first | subst eo11 | (injection eo11 with f1_ f2_ f3_; have f4_ := f1_.symm; have f5_ := f3_.symm; clear f1_ f2_ f3_; subst f4_; subst f5_))
 obtain ⟨Ao12, co12, eo12⟩ := Kd.R_slice HO268.out
 (first | subst eo12 | (injection eo12 with f1_ f2_ f3_; have f4_ := f1_.symm; have f5_ := f3_.symm; clear f1_ f2_ f3_; subst f4_; subst f5_))
 obtain ⟨Ao13, co13, eo13⟩ := Kd.S_slice HO265.out
 (first | subst eo13 | (injection eo13 with f1_ f2_ f3_; have f4_ := f1_.symm; have f5_ := f3_.symm; clear f1_ f2_ f3_; subst f4_; subst f5_))
 refine hK.out _ _ ⟨(blk_cell BK261.out 0).trans rfl, (blk_cell BK261.out 1).trans rfl, (blk_cell BK261.out 2).trans rfl⟩ (fun hHeld => ?_)
 clear hK K
 refine norm_ (a' := ?_) ?_ ?_
 rotate_left
 ·show Act.put _ (some 11) _ = _
  simp only [Act.put, List.setIfInBounds_toArray, List.set_cons_zero, List.set_cons_succ, i64_w, i32_w]
  rfl
 refine pure_ (i := 9) (N := some 12) (v := ?_) (a' := ?_) #[true, true, true, true, true, true, true, true, true, true, false] rfl rfl (any_of HT_.out (by kernel_rfl)) (fun _ _ _ h => h) (Or.inl ⟨by rfl, ?_⟩) ?_ ?_
 rotate_left
 ·intro w'
  go_simp
  with_reducible rfl
 rotate_left
 ·simp only [Act.put, List.setIfInBounds_toArray, List.set_cons_zero, List.set_cons_succ, i64_w, i32_w]
  rfl
 refine one_ (i := 10) (N := none) #[true, true, true, true, true, true, true, true, true, true, true] rfl rfl (one_of HT_.out (by kernel_rfl)) (by decide) (fun K hK => ?_)
 have hs14 : w10.cell? ⟨gb262, 0, none⟩ = some (.slice none 0 0) := (blk_cell BK262.out 0).trans rfl
 have hfs14 := blk_frozen BK262.out 0
 have hns14_0 := NB261_262.out
 have hms14_0 := NB262_261.out
 have hs15 : w10.cell? ⟨gb262, 1, none⟩ = some (.slice none 0 0) := (blk_cell BK262.out 1).trans rfl
 have hfs15 := blk_frozen BK262.out 1
 have hns15_0 := NB261_262.out
 have hms15_0 := NB262_261.out
 have hs16 : w10.cell? ⟨gb262, 2, none⟩ = some (.slice none 0 0) := (blk_cell BK262.out 2).trans rfl
 have hfs16 := blk_frozen BK262.out 2
 have hns16_0 := NB261_262.out
 have hms16_0 := NB262_261.out
 refine skip_ (w1 := ?_) (by rfl) rfl ?_ ?_
 rotate_left
 ·go_simp
  rfl
 refine hK.out _ _ ⟨((cell_far (p := ⟨gb262, _, none⟩) NB261_262.out _).trans (((cell_far (p := ⟨gb262, _, none⟩) NB261_262.out _).trans (((cell_far (p := ⟨gb262, _, none⟩) NB261_262.out _).trans (hHeld.1)))))), ((cell_far (p := ⟨gb262, _, none⟩) NB261_262.out _).trans (((cell_far (p := ⟨gb262, _, none⟩) NB261_262.out _).trans (((cell_far (p := ⟨gb262, _, none⟩) NB261_262.out _).trans (hHeld.2.1)))))), ((cell_far (p := ⟨gb262, _, none⟩) NB261_262.out _).trans (((cell_far (p := ⟨gb262, _, none⟩) NB261_262.out _).trans (((cell_far (p := ⟨gb262, _, none⟩) NB261_262.out _).trans (hHeld.2.2))))))⟩ (fun hHeld => ?_)
 clear hK K
 refine done_ (done_of HT_.out (by kernel_rfl)) ?_
 try go_wp2
 refine bodyPost_ret (results_cell_row rfl _ _ gb262 40 #[.slice Ao13 t263.length co13, .slice Ao12 t266.length co12, .slice Ao11 t269.length co11] (0, 0) _ rfl (by (with_reducible repeat (first | refine Op.b1 ?_ _ | refine Op.b2 ?_ | refine Op.b3 ?_ _)); refine blk_put (cs := #[.slice Ao13 t263.length co13, .slice Ao12 t266.length co12, .slice none 0 0]) ?_ 2 _ rfl; (with_reducible repeat (first | refine Op.b1 ?_ _ | refine Op.b2 ?_ | refine Op.b3 ?_ _)); refine blk_put (cs := #[.slice Ao13 t263.length co13, .slice none 0 0, .slice none 0 0]) ?_ 1 _ rfl; (with_reducible repeat (first | refine Op.b1 ?_ _ | refine Op.b2 ?_ | refine Op.b3 ?_ _)); refine blk_put (cs := #[.slice none 0 0, .slice none 0 0, .slice none 0 0]) ?_ 0 _ rfl; (with_reducible repeat (first | refine Op.b1 ?_ _ | refine Op.b2 ?_ | refine Op.b3 ?_ _)); exact BK262.out) Try.underlying40 rfl (by kernel_rfl)) rfl ?_
 exact ⟨_, _, _, by first | rfl | (simp [errW_none, errW_some] <;> rfl) | (simp [*, errW_none, errW_some] <;> rfl), by (with_reducible repeat (first | apply Kd.S_alloc | apply Kd.S_drewN | apply Kd.S_drew)); exact Kd.S_mono (Kd.S_far (p := ⟨gb262, 2, none⟩) (Kd.S_far (p := ⟨gb262, 1, none⟩) (Kd.S_far (p := ⟨gb262, 0, none⟩) (Kd.S_types HO265.out BK262.out (by decide)) (fun _ hk => hk.2) (.slice Ao13 t263.length co13)) (fun _ hk => hk.2) (.slice Ao12 t266.length co12)) (fun _ hk => hk.2) (.slice Ao11 t269.length co11)) (fun _ hk => ⟨hk.1.1.2, hk.1.2⟩), by (with_reducible repeat (first | apply Kd.R_alloc | apply Kd.R_drewN | apply Kd.R_drew)); exact Kd.R_mono (Kd.R_far (p := ⟨gb262, 2, none⟩) (Kd.R_far (p := ⟨gb262, 1, none⟩) (Kd.R_far (p := ⟨gb262, 0, none⟩) (Kd.R_types HO268.out BK262.out (by decide)) (fun _ hk => hk.2) (.slice Ao13 t263.length co13)) (fun _ hk => hk.2) (.slice Ao12 t266.length co12)) (fun _ hk => hk.2) (.slice Ao11 t269.length co11)) (fun _ hk => hk.1.2), by (with_reducible repeat (first | apply Kd.R_alloc | apply Kd.R_drewN | apply Kd.R_drew)); exact Kd.R_mono (Kd.R_far (p := ⟨gb262, 2, none⟩) (Kd.R_far (p := ⟨gb262, 1, none⟩) (Kd.R_far (p := ⟨gb262, 0, none⟩) (Kd.R_types HO271.out BK262.out (by decide)) (fun _ hk => hk.2) (.slice Ao13 t263.length co13)) (fun _ hk => hk.2) (.slice Ao12 t266.length co12)) (fun _ hk => hk.2) (.slice Ao11 t269.length co11)) (fun _ hk => hk.1.2), by repeat (first | (with_reducible first | exact HB.out | apply Op.a1 | apply Op.a2 | apply Op.a3 | refine Op.a4 ?_ GE261.out | refine Op.a4 ?_ GE262.out) | exact HB.out)⟩

/-! ### slices_Delete_int_int: function 76 -/
/-- what is left where the places from i to j go -/
def slices_Delete_int_int.f (l0 : List Int) (i j : Int) : Option (List Int) := if 0 ≤ i then (if i < j then (if j ≤ (l0.length : Int) then some (l0.take i.toNat ++ l0.drop j.toNat) else none) else none) else none
theorem slices_Delete_int_int.sets {g cap n base : Nat} {ok : Nat → Prop} : ∀ (vs : List Int) (o : Nat) (w : World) (xs : List Int), Kd.R (Kd.int .i64) 3 w base ok (.slice (some ⟨g, 0, none⟩) n cap) xs → o + vs.length ≤ xs.length → Kd.R (Kd.int .i64) 3 (w.setCells g o (vs.map (Value.int .i64))) base ok (.slice (some ⟨g, 0, none⟩) n cap) (xs.take o ++ vs ++ xs.drop (o + vs.length))
 | [], o, w, xs, h, _ => by simpa [World.setCells] using h
 | v :: r, o, w, xs, h, hl => by
  simp only [List.length_cons] at hl
  have h1 := Kd.R_putn h (o : Int) v
  rw [Int.toNat_natCast] at h1
  have h2 := slices_Delete_int_int.sets r (o + 1) _ _ h1 (by rw [List.length_set]; omega)
  have e : (xs.set o v).take (o + 1) ++ r ++ (xs.set o v).drop (o + 1 + r.length) = xs.take o ++ (v :: r) ++ xs.drop (o + (v :: r).length) := by
   have e1 : (xs.set o v).take (o + 1) = xs.take o ++ [v] := by
    rw [List.set_eq_take_append_cons_drop, if_pos (by omega), List.take_append]
    have : (xs.take o).length = o := by rw [List.length_take]; omega
    have t : List.take (o + 1) (List.take o xs) = List.take o xs := List.take_of_length_le (by omega)
    simp [this, t]
   have e2 : (xs.set o v).drop (o + 1 + r.length) = xs.drop (o + 1 + r.length) := List.drop_set_of_lt (by omega)
   rw [e1, e2, List.length_cons, show o + 1 + r.length = o + (r.length + 1) by omega]
   simp
  rw [e] at h2
  exact h2
theorem slices_Delete_int_int.bel {g : Nat} {w0 : World} (hg : w0.heap.size ≤ g) : ∀ (vs : List Value) (o : Nat) (w : World), Below w0.heap.size w0 w → Below w0.heap.size w0 (w.setCells g o vs)
 | [], _, _, h => h
 | _ :: r, _, _, h => slices_Delete_int_int.bel hg r _ _ (Op.a4 h hg)
theorem slices_Delete_int_int.kep {g : Nat} {w1 : World} {P : Nat → Prop} (hg : P g) : ∀ (vs : List Value) (o : Nat) (w : World), Kept w1 w P → Kept w1 (w.setCells g o vs) P
 | [], _, _, h => h
 | v :: r, o, w, h => slices_Delete_int_int.kep hg r _ _ (Kept.setCell (p := ⟨g, o, none⟩) h (Or.inl (show P g from hg)) v)
theorem slices_Delete_int_int.calls (P : Nat → Prop) (A : Option Addr) (c : Nat) (l0 : List Int) (i j : Int) (r : List Int) (w0 w : World) (hB : Below w0.heap.size w0 w) (ho : Kd.R (Kd.int .i64) 3 w w0.heap.size P (.slice A l0.length c) l0) (h : slices_Delete_int_int.f l0 i j = some r) :
  Calls Try.prog 76 #[.slice A l0.length c, .int .i64 i, .int .i64 j] w fun e w' => e = .returned (.slice A r.length c) ∧ Kd.R (Kd.int .i64) 3 w' w0.heap.size P (.slice A r.length c) r ∧ Below w0.heap.size w0 w' ∧ Kept w w' P := by
 unfold slices_Delete_int_int.f at h
 by_cases q0 : 0 ≤ i
 case neg => rw [if_neg q0] at h; exact absurd h (by simp)
 rw [if_pos q0] at h
 by_cases q1 : i < j
 case neg => rw [if_neg q1] at h; exact absurd h (by simp)
 rw [if_pos q1] at h
 by_cases q2 : j ≤ (l0.length : Int)
 case neg => rw [if_neg q2] at h; exact absurd h (by simp)
 rw [if_pos q2] at h
 obtain rfl := Option.some.inj h
 obtain ⟨a, rfl⟩ := Int.eq_ofNat_of_zero_le q0
 obtain ⟨b, rfl⟩ := Int.eq_ofNat_of_zero_le (show 0 ≤ j by omega)
 rw [Int.toNat_natCast, Int.toNat_natCast]
 have hab : a < b := by omega
 have hbl : b ≤ l0.length := by omega
 obtain ⟨g, cap, eA, hg, hlt, _⟩ := Kd.R_form ho (by omega)
 injection eA with eA _ eC
 subst eA
 subst eC
 obtain ⟨inner, hown⟩ := Kd.R_own ho
 have hcap : l0.length ≤ c ∧ c ≤ 9223372036854775807 := by
  rcases hown.2 with ⟨h1, _⟩ | ⟨g', cap', cur, e1, _, _, hc1, hc2, _⟩
  ·injection h1 with h1; exact absurd h1 (by simp)
  ·injection e1 with _ _ e1; subst e1; exact ⟨hc1, hc2⟩
 have hm : (l0.take a ++ l0.drop b).length = l0.length - (b - a) := by simp only [List.length_append, List.length_take, List.length_drop]; omega
 refine (Try.slices_Delete_int_cells g 0 l0.length c a b l0 w (Nat.le_refl _) hcap.1 hcap.2 (by omega) hbl (fun m hm => ?_) (fun m hm => ?_)).mono ?_
 ·have := (Kd.R_celln 0 ho (m : Int) (by omega) (by omega)).1
  simpa [rdOf] using this
 ·have := (Kd.R_celln 0 ho (m : Int) (by omega) (by omega)).2
  simpa using this
 ·rintro e w' ⟨rfl, q, rfl⟩
  have hv : ((l0.take l0.length).take a ++ (l0.take l0.length).drop b ++ List.replicate (b - a) (0 : Int)).length = l0.length := by simp only [List.take_length, List.length_append, List.length_take, List.length_drop, List.length_replicate]; omega
  have h1 := slices_Delete_int_int.sets ((l0.take l0.length).take a ++ (l0.take l0.length).drop b ++ List.replicate (b - a) (0 : Int)) 0 (w.drewN q) l0 (Kd.R_drewN ho q) (by rw [hv]; omega)
  have h2 := Kd.R_take (m := l0.length - (b - a)) h1 (by simp only [List.length_append, List.length_take, List.length_drop, List.length_replicate]; omega)
  have e2 : (l0.take 0 ++ ((l0.take l0.length).take a ++ (l0.take l0.length).drop b ++ List.replicate (b - a) (0 : Int)) ++ l0.drop (0 + ((l0.take l0.length).take a ++ (l0.take l0.length).drop b ++ List.replicate (b - a) (0 : Int)).length)).take (l0.length - (b - a)) = l0.take a ++ l0.drop b := by
   rw [hv, ← hm]
   simp only [List.take_zero, List.nil_append, List.take_length, Nat.zero_add, List.drop_length, List.append_nil]
   rw [List.take_append_of_le_length (Nat.le_refl _), List.take_length]
  rw [e2] at h2
  rw [hm]
  have hPg : P g := ho.1 g rfl
  exact ⟨rfl, h2, slices_Delete_int_int.bel hg _ _ _ (Op.a2 hB q), slices_Delete_int_int.kep hPg _ _ _ (Kept.drewN (Kept.refl w P) q)⟩


/-! ### impl_release: function 77 -/
theorem impl_release.put {w : World} {base gn n cap : Nat} {ok oki : Nat → Prop} {v0 : Value} {b : Bool} {xs : List S60} {v : Int} (hH : Kd.H k60 60 w base ok (.slice (some ⟨gn, 0, none⟩) n cap) xs v oki [v0, .bool b]) (h0 : 0 ≤ v) (h1 : v < n) :
  Kd.S k60 60 ((w.setCell ⟨gn, v.toNat * 2, none⟩ (.slice none 0 0)).setCell ⟨gn, v.toNat * 2 + 1, none⟩ (.bool true)) base (fun k => ok k ∧ ¬ oki k) (.slice (some ⟨gn, 0, none⟩) n cap) (xs.set v.toNat ⟨[], true⟩) ∧ w.grownBy ((w.setCell ⟨gn, v.toNat * 2, none⟩ (.slice none 0 0)).setCell ⟨gn, v.toNat * 2 + 1, none⟩ (.bool true)) (some gn) := by
 have h2 : Kd.H k60 60 w base (fun k => (ok k ∧ ¬ oki k) ∧ ¬ (fun _ => False) k) (.slice (some ⟨gn, 0, none⟩) n cap) xs v (fun _ => False) [v0, .bool b] := ⟨fun _ h => h.elim, hH.2.elim fun f hf => ⟨f, Kd.R_mono hf (fun k hk => ⟨⟨hk, fun h => h⟩, fun h => h⟩)⟩⟩
 exact Kd.S_seg (okg := fun _ => False) (okp := fun _ => False) h2 h0 h1 (seg := [.slice none 0 0, .bool true]) (j := 0) (by exact Nat.le_refl 2) (x' := ⟨[], true⟩) (k60_mkM _ _ _ ⟨[], true⟩ (Kd.R_nil _ _ _ _ _)) (fun _ h => h.elim) (fun _ h => h.elim)
set_option maxHeartbeats 8000000 in
set_option maxRecDepth 100000 in
theorem impl_release.calls (k : Nat) : ∀ (PN PC PG : Nat → Prop) (A1 : Option Addr) (n1 c1 : Nat) (vn vc vg : Value) (ns : List S60) (cs gl : List Int) (v : Int) (ns' : List S60) (cs' gl' : List Int) (w0 w : World), Below w0.heap.size w0 w → Kd.S k60 60 w w0.heap.size PN vn ns → Kd.R (Kd.int .i64) 3 w w0.heap.size PC vc cs → Kd.R (Kd.int .i64) 3 w w0.heap.size PG vg gl →
  (∀ j, PN j → ¬ PC j) → (∀ j, PN j → ¬ PG j) → (∀ j, PC j → ¬ PG j) → spec_l10Less.f k ns cs gl v = some (ns', cs', gl') →
  Calls Try.prog 77 #[.agg #[vn, .slice A1 n1 c1, vc], .int .i64 v, vg] w fun e w' => ∃ vg' : Value, e = .returned vg' ∧ Kd.S k60 60 w' w0.heap.size PN vn ns' ∧ Kd.R (Kd.int .i64) 3 w' w0.heap.size PC vc cs' ∧ Kd.R (Kd.int .i64) 3 w' w0.heap.size (fun j => PG j ∨ w.heap.size ≤ j) vg' gl' ∧ Below w0.heap.size w0 w' ∧ Kept w w' (fun j => PN j ∨ PC j ∨ PG j) := by
 induction k with
 | zero =>
  intro _ _ _ _ _ _ _ _ _ _ _ _ _ _ _ _ _ _ _ _ _ _ _ _ _ h
  exact absurd h (by simp [spec_l10Less.f])
 | succ k ih =>
 intro PN PC PG A1 n1 c1 vn vc vg ns cs gl v ns' cs' gl' w0 w hB hN hC hG d1 d2 d3 h
 have hu40 := Try.underlying40
 have hu60 := Try.underlying60
 have IH := Aside0.mk ih
 unfold spec_l10Less.f at h
 by_cases q0 : 0 ≤ v
 case neg => rw [if_neg q0] at h; exact absurd h (by simp)
 rw [if_pos q0] at h
 by_cases q1 : v < cs.length
 case neg => rw [if_neg q1] at h; exact absurd h (by simp)
 rw [if_pos q1] at h
 obtain ⟨gc, cc, rfl, hgc, hgl, _⟩ := Kd.R_form hC (by omega)
 obtain ⟨An, cn, rfl⟩ := Kd.S_slice hN
 obtain ⟨Ag, cg, rfl⟩ := Kd.R_slice hG
 obtain ⟨hx0, hf0⟩ := Kd.R_celln 0 hC v q0 q1
 have hx0 : w.cell? ⟨gc, v.toNat, none⟩ = some (.int .i64 (rd cs v)) := hx0
 have D1 := Aside0.mk d1
 have D2 := Aside0.mk d2
 have D3 := Aside0.mk d3
 have HN := Aside0.mk (Op.bdS hN)
 have HC := Aside0.mk (Op.bdR hC)
 have HG := Aside0.mk (Op.bdR hG)
 have GC := Aside0.mk (And.intro hgc hgl)
 have HX := Aside0.mk hx0
 have HF := Aside0.mk hf0
 have HB := Aside0.mk hB
 have HK := Aside0.mk (Kept.refl w (fun j => PN j ∨ PC j ∨ PG j))
 have q0b : decide (0 ≤ v) = true := decide_eq_true q0
 have q0e := eq_true q0
 have q1e := eq_true q1
 have q1b : decide (v < (cs.length : Int)) = true := decide_eq_true q1
 have Q0 := Aside0.mk (And.intro q0 q1)
 clear ih hB hN hC hG d1 d2 d3 hgc hgl hx0 hf0 q0 q1
 by_cases c0 : 0 < wrap64 (rd cs v - 1)
 ·rw [if_pos c0] at h
  simp only [Option.some.injEq, Prod.mk.injEq] at h
  obtain ⟨rfl, rfl, rfl⟩ := h
  have c0b : decide (0 < wrap64 (rd cs v - 1)) = true := decide_eq_true c0
  clear c0
  go_enter Try.func77, Try.ntmps77
  go_wp2_with (first | ((with_reducible refine gate_dst (N := 3) rfl ?_); refine box_event ?hg (N := 3) ?hd (cs := #[.slice An ns.length cn, .slice A1 n1 c1, .slice (some ⟨gc, 0, none⟩) cs.length cc]) (t := 40) ?hr ?_; (case hd => rfl); (case hg => rfl); (case hr => first | (go_simp; done) | (go_simp; rfl)); intro g hg w1 hbox hb; subst hg; have hk1 := Kept.of_below hb (fun _ => False); replace HN := Aside0.mk (Op.mvS HN.out hk1 (fun _ _ h => h)); replace HC := Aside0.mk (Op.mvR HC.out hk1 (fun _ _ h => h)); replace HG := Aside0.mk (Op.mvR HG.out hk1 (fun _ _ h => h)); replace HK := Aside0.mk (Kept.then_ HK.out hk1 (fun j hj => hj.elim)); replace HB := Aside0.mk (Op.a5 HB.out hb); have BK := Aside0.mk hbox; have hx1 : w1.cell? ⟨gc, v.toNat, none⟩ = some (.int .i64 (rd cs v)) := (hb.cell (p := ⟨gc, v.toNat, none⟩) GC.out.2).trans HX.out; have hfx1 : w1.frozen? ⟨gc, v.toNat, none⟩ = false := (hb.frozen (p := ⟨gc, v.toNat, none⟩) GC.out.2).trans HF.out; clear hbox hb hk1; have hz0_w1 : w1.cell? ⟨w.heap.size, 0, none⟩ = some (.slice An ns.length cn) := (blk_cell BK.out 0).trans rfl; have hz1_w1 : w1.cell? ⟨w.heap.size, 1, none⟩ = some (.slice A1 n1 c1) := (blk_cell BK.out 1).trans rfl; have hz2_w1 : w1.cell? ⟨w.heap.size, 2, none⟩ = some (.slice (some ⟨gc, 0, none⟩) cs.length cc) := (blk_cell BK.out 2).trans rfl; have hf0_w1 := blk_frozen BK.out 0; have hf1_w1 := blk_frozen BK.out 1; have hf2_w1 := blk_frozen BK.out 2) | ((with_reducible refine gate_store (t := 3) (p := 16) rfl ?_); refine store_event (t := 3) (p := 16) (v := ?vo_a) (w1 := (w1.setCell ⟨gc, v.toNat, none⟩ (.int .i64 (wrap64 (rd cs v - 1))))) ?hg ?ho ?hn ?hr ?_; (case ho => rfl); (case hg => rfl); (case hn => rfl); (case hr => first | (go_simp; done) | (go_simp; rfl)); intro w2 hw; have hp := Kd.R_putg HC.out v (wrap64 (rd cs v - 1)); have hgr : w1.grownBy w2 (some gc) := (by rw [hw]; exact hp.2); have hc2 : Kd.R (Kd.int .i64) 3 w2 w0.heap.size (fun k => PC k ∧ k < w.heap.size) (.slice (some ⟨gc, 0, none⟩) cs.length cc) (cs.set v.toNat (wrap64 (rd cs v - 1))) := (by rw [hw]; exact hp.1); have hpc := HC.out.1 gc rfl; replace HK := Aside0.mk (Kept.of_grown hgr HK.out (fun j hj => .inl (.inr (.inl (by injection hj with hj; subst hj; exact hpc.1))))); replace HN := Aside0.mk (Kd.S_grown HN.out hgr (fun k hk e => by injection e with e; subst e; exact D1.out k hk.1 hpc.1)); replace HG := Aside0.mk (Kd.R_grown HG.out hgr (fun k hk e => by injection e with e; subst e; exact D3.out k hpc.1 hk.1)); replace BK := Aside0.mk (blk_grown BK.out hgr (fun e => by injection e with e; have h1 := hpc.2; omega)); replace HB := Aside0.mk (HB.out.grown hgr HB.out.size (fun j hj => by injection hj with hj; subst hj; exact GC.out.1)); replace HC := Aside0.mk hc2; have hx2 : w2.cell? ⟨gc, v.toNat, none⟩ = some (.int .i64 (wrap64 (rd cs v - 1))) := (by have h1 := (Kd.R_celln 0 hc2 v Q0.out.1 Q0.out.2).1; have h2 : rdOf 0 (cs.set v.toNat (wrap64 (rd cs v - 1))) v = wrap64 (rd cs v - 1) := (by have h3 := Q0.out; simp only [rdOf, List.getD_eq_getElem?_getD]; rw [List.getElem?_set_self (by omega)]; rfl); rw [h2] at h1; exact h1); clear hw hp hgr hc2 hpc; have hz0_w2 : w2.cell? ⟨w.heap.size, 0, none⟩ = some (.slice An ns.length cn) := (blk_cell BK.out 0).trans rfl; have hz1_w2 : w2.cell? ⟨w.heap.size, 1, none⟩ = some (.slice A1 n1 c1) := (blk_cell BK.out 1).trans rfl; have hz2_w2 : w2.cell? ⟨w.heap.size, 2, none⟩ = some (.slice (some ⟨gc, 0, none⟩) cs.length cc) := (blk_cell BK.out 2).trans rfl; have hf0_w2 := blk_frozen BK.out 0; have hf1_w2 := blk_frozen BK.out 1; have hf2_w2 := blk_frozen BK.out 2))
  go_ret
  exact ⟨_, rfl, Kd.S_mono HN.out (fun _ h => h.1), Kd.R_mono HC.out (fun _ h => h.1), Kd.R_mono HG.out (fun _ h => .inl h.1), HB.out, HK.out⟩
 ·rw [if_neg c0] at h
  by_cases q2 : v < ns.length
  case neg => rw [if_neg q2] at h; exact absurd h (by simp)
  rw [if_pos q2] at h
  by_cases q3 : gl.length < 17592186044416
  case neg => rw [if_neg q3] at h; exact absurd h (by simp)
  rw [if_pos q3] at h
  have c0b : decide (0 < wrap64 (rd cs v - 1)) = false := decide_eq_false c0
  have q2b : decide (v < (ns.length : Int)) = true := decide_eq_true q2
  have q2e := eq_true q2
  obtain ⟨hs, hhs⟩ : ∃ hs, hs = (rd_T60 ns v).f0 := ⟨_, rfl⟩
  rw [← hhs] at h
  have HH := Aside0.mk hhs
  have Q2 := Aside0.mk q2
  have Q3 := Aside0.mk q3
  have H' := Aside0.mk h
  obtain ⟨gn, cn2, en, hgn, hgn2, _⟩ := Kd.S_form HN.out (by have := Q0.out; omega)
  injection en with ea en2 ec
  subst ea
  clear c0 q2 q3 h ec en2 hgn hgn2 hhs
  go_enter Try.func77, Try.ntmps77
  go_wp2_with (first | ((with_reducible refine gate_dst (N := 3) rfl ?_); refine box_event ?hg (N := 3) ?hd (cs := #[.slice (some ⟨gn, 0, none⟩) ns.length cn, .slice A1 n1 c1, .slice (some ⟨gc, 0, none⟩) cs.length cc]) (t := 40) ?hr ?_; (case hd => rfl); (case hg => rfl); (case hr => first | (go_simp; done) | (go_simp; rfl)); intro g hg w1 hbox hb; subst hg; have hk1 := Kept.of_below hb (fun _ => False); replace HN := Aside0.mk (Op.mvS HN.out hk1 (fun _ _ h => h)); replace HC := Aside0.mk (Op.mvR HC.out hk1 (fun _ _ h => h)); replace HG := Aside0.mk (Op.mvR HG.out hk1 (fun _ _ h => h)); replace HK := Aside0.mk (Kept.then_ HK.out hk1 (fun j hj => hj.elim)); replace HB := Aside0.mk (Op.a5 HB.out hb); have BK := Aside0.mk hbox; have hx1 : w1.cell? ⟨gc, v.toNat, none⟩ = some (.int .i64 (rd cs v)) := (hb.cell (p := ⟨gc, v.toNat, none⟩) GC.out.2).trans HX.out; have hfx1 : w1.frozen? ⟨gc, v.toNat, none⟩ = false := (hb.frozen (p := ⟨gc, v.toNat, none⟩) GC.out.2).trans HF.out; clear hbox hb hk1; have hz0_w1 : w1.cell? ⟨w.heap.size, 0, none⟩ = some (.slice (some ⟨gn, 0, none⟩) ns.length cn) := (blk_cell BK.out 0).trans rfl; have hz1_w1 : w1.cell? ⟨w.heap.size, 1, none⟩ = some (.slice A1 n1 c1) := (blk_cell BK.out 1).trans rfl; have hz2_w1 : w1.cell? ⟨w.heap.size, 2, none⟩ = some (.slice (some ⟨gc, 0, none⟩) cs.length cc) := (blk_cell BK.out 2).trans rfl; have hf0_w1 := blk_frozen BK.out 0; have hf1_w1 := blk_frozen BK.out 1; have hf2_w1 := blk_frozen BK.out 2) | ((with_reducible refine gate_store (t := 3) (p := 16) rfl ?_); refine store_event (t := 3) (p := 16) (v := ?vo_a) (w1 := (w1.setCell ⟨gc, v.toNat, none⟩ (.int .i64 (wrap64 (rd cs v - 1))))) ?hg ?ho ?hn ?hr ?_; (case ho => rfl); (case hg => rfl); (case hn => rfl); (case hr => first | (go_simp; done) | (go_simp; rfl)); intro w2 hw; have hp := Kd.R_putg HC.out v (wrap64 (rd cs v - 1)); have hgr : w1.grownBy w2 (some gc) := (by rw [hw]; exact hp.2); have hc2 : Kd.R (Kd.int .i64) 3 w2 w0.heap.size (fun k => PC k ∧ k < w.heap.size) (.slice (some ⟨gc, 0, none⟩) cs.length cc) (cs.set v.toNat (wrap64 (rd cs v - 1))) := (by rw [hw]; exact hp.1); have hpc := HC.out.1 gc rfl; replace HK := Aside0.mk (Kept.of_grown hgr HK.out (fun j hj => .inl (.inr (.inl (by injection hj with hj; subst hj; exact hpc.1))))); replace HN := Aside0.mk (Kd.S_grown HN.out hgr (fun k hk e => by injection e with e; subst e; exact D1.out k hk.1 hpc.1)); replace HG := Aside0.mk (Kd.R_grown HG.out hgr (fun k hk e => by injection e with e; subst e; exact D3.out k hpc.1 hk.1)); replace BK := Aside0.mk (blk_grown BK.out hgr (fun e => by injection e with e; have h1 := hpc.2; omega)); replace HB := Aside0.mk (HB.out.grown hgr HB.out.size (fun j hj => by injection hj with hj; subst hj; exact GC.out.1)); replace HC := Aside0.mk hc2; have hx2 : w2.cell? ⟨gc, v.toNat, none⟩ = some (.int .i64 (wrap64 (rd cs v - 1))) := (by have h1 := (Kd.R_celln 0 hc2 v Q0.out.1 Q0.out.2).1; have h2 : rdOf 0 (cs.set v.toNat (wrap64 (rd cs v - 1))) v = wrap64 (rd cs v - 1) := (by have h3 := Q0.out; simp only [rdOf, List.getD_eq_getElem?_getD]; rw [List.getElem?_set_self (by omega)]; rfl); rw [h2] at h1; exact h1); clear hw hp hgr hc2 hpc; have hz0_w2 : w2.cell? ⟨w.heap.size, 0, none⟩ = some (.slice (some ⟨gn, 0, none⟩) ns.length cn) := (blk_cell BK.out 0).trans rfl; have hz1_w2 : w2.cell? ⟨w.heap.size, 1, none⟩ = some (.slice A1 n1 c1) := (blk_cell BK.out 1).trans rfl; have hz2_w2 : w2.cell? ⟨w.heap.size, 2, none⟩ = some (.slice (some ⟨gc, 0, none⟩) cs.length cc) := (blk_cell BK.out 2).trans rfl; have hf0_w2 := blk_frozen BK.out 0; have hf1_w2 := blk_frozen BK.out 1; have hf2_w2 := blk_frozen BK.out 2; obtain ⟨oki, ce, hcl, hM, hcc, hfr, hoki, hH⟩ := Kd.S_elem HN.out z60 v Q0.out.1 Q2.out; have hM2 : k60.M w2 w0.heap.size oki (rd_T60 ns v) ce := hM; obtain ⟨v0, rfl, hR⟩ := k60_openM hM2; rw [← HH.out] at hR; obtain ⟨Ah, ch, rfl⟩ := Kd.R_slice hR; have hv0 : w2.cell? ⟨gn, v.toNat * 2, none⟩ = some (.slice Ah hs.length ch) := hcc 0 _ rfl; have hv1 : w2.cell? ⟨gn, v.toNat * 2 + 1, none⟩ = some (.bool (rd_T60 ns v).f1) := hcc 1 _ rfl; have hg0 : w2.frozen? ⟨gn, v.toNat * 2, none⟩ = false := hfr 0; have hg1 : w2.frozen? ⟨gn, v.toNat * 2 + 1, none⟩ = false := hfr 1; have HR := Aside0.mk hR; have HO := Aside0.mk hoki; have HL := Aside0.mk hH; clear hcl hM hcc hfr hoki hH hM2 hR) | ((with_reducible refine gate_store (t := 60) (p := 34) rfl ?_); refine store_event (t := 60) (p := 34) (v := ?vo_b) (w1 := ((w2.setCell ⟨gn, v.toNat * 2, none⟩ (.slice none 0 0)).setCell ⟨gn, v.toNat * 2 + 1, none⟩ (.bool true))) ?hg ?ho ?hn ?hr ?_; (case ho => rfl); (case hg => rfl); (case hn => rfl); (case hr => first | (go_simp; done) | (go_simp; rfl)); intro w3 hw; have hp := impl_release.put HL.out Q0.out.1 Q2.out; have hgr : w2.grownBy w3 (some gn) := (by rw [hw]; exact hp.2); have hn3 : Kd.S k60 60 w3 w0.heap.size (fun k => (PN k ∧ k < w.heap.size) ∧ ¬ oki k) (.slice (some ⟨gn, 0, none⟩) ns.length cn) (ns.set v.toNat ⟨[], true⟩) := (by rw [hw]; exact hp.1); have hpn := (Kd.S_R HN.out).1 gn rfl; have hbn := Kd.S_base HN.out gn rfl; replace HK := Aside0.mk (Kept.of_grown hgr HK.out (fun j hj => .inl (.inl (by injection hj with hj; subst hj; exact hpn.1)))); replace HC := Aside0.mk (Kd.R_grown HC.out hgr (fun k hk e => by injection e with e; subst e; exact D1.out k hpn.1 hk.1)); replace HG := Aside0.mk (Kd.R_grown HG.out hgr (fun k hk e => by injection e with e; subst e; exact D2.out k hpn.1 hk.1)); replace HR := Aside0.mk (Kd.R_grown HR.out hgr (fun k hk e => by injection e with e; exact (HO.out k hk).2 e)); replace BK := Aside0.mk (blk_grown BK.out hgr (fun e => by injection e with e; have h1 := hpn.2; omega)); replace HB := Aside0.mk (HB.out.grown hgr HB.out.size (fun j hj => by injection hj with hj; subst hj; exact hbn)); replace HN := Aside0.mk hn3; clear hw hp hgr hn3 hpn hbn; have hz0_w3 : w3.cell? ⟨w.heap.size, 0, none⟩ = some (.slice (some ⟨gn, 0, none⟩) ns.length cn) := (blk_cell BK.out 0).trans rfl; have hz1_w3 : w3.cell? ⟨w.heap.size, 1, none⟩ = some (.slice A1 n1 c1) := (blk_cell BK.out 1).trans rfl; have hz2_w3 : w3.cell? ⟨w.heap.size, 2, none⟩ = some (.slice (some ⟨gc, 0, none⟩) cs.length cc) := (blk_cell BK.out 2).trans rfl; have hf0_w3 := blk_frozen BK.out 0; have hf1_w3 := blk_frozen BK.out 1; have hf2_w3 := blk_frozen BK.out 2) | ((with_reducible refine gate_builtin (b := .append) (xs := #[.tmp 35, .tmp 37]) rfl ?_); at_builtin; refine Kd.R_append (Kd.int .i64) (w0 := w0) w0.heap.size rfl (.tmp 35) (.tmp 37) 23 3 (.int .i64 0) 8 rfl Try.underlying23 info3 rfl (by decide) (by omega) (.slice Ag gl.length cg) gl v [.int .i64 v] (fun j => (PG j ∧ j < w.heap.size) ∨ w.heap.size < j) (fun _ => False) rfl rfl ?aP (fun _ hk => hk.elim) ?aF ?aO ?aB ?aS ?aL ?_; (case aP => exact rfl); (case aF => exact (fun k hk => .inr (Nat.lt_of_lt_of_le (blk_lt BK.out) hk))); (case aO => exact Kd.R_mono HG.out (fun _ h => .inl h)); (case aB => exact HB.out); (case aS => exact HB.out.size); (case aL => have h1 := Q3.out; omega); intro v4 w4 ho hb hg hat; have hGo := HG.out.1; replace HN := Aside0.mk (Kd.S_grown HN.out hg (fun k hk e => D2.out k hk.1.1 (hGo k e.symm).1)); replace HC := Aside0.mk (Kd.R_grown HC.out hg (fun k hk e => D3.out k hk.1 (hGo k e.symm).1)); replace HR := Aside0.mk (Kd.R_grown HR.out hg (fun k hk e => D2.out k (HO.out k hk).1.1 (hGo k e.symm).1)); replace BK := Aside0.mk (blk_grown BK.out hg (fun e => Nat.lt_irrefl _ (hGo _ e.symm).2)); replace HK := Aside0.mk (Kept.of_grown hg HK.out (fun k hk => .inl (.inr (.inr (hGo k hk).1)))); replace HB := Aside0.mk hb; replace HG := Aside0.mk ho; clear ho hb hg hat hGo; have hz0_w4 : w4.cell? ⟨w.heap.size, 0, none⟩ = some (.slice (some ⟨gn, 0, none⟩) ns.length cn) := (blk_cell BK.out 0).trans rfl; have hz1_w4 : w4.cell? ⟨w.heap.size, 1, none⟩ = some (.slice A1 n1 c1) := (blk_cell BK.out 1).trans rfl; have hz2_w4 : w4.cell? ⟨w.heap.size, 2, none⟩ = some (.slice (some ⟨gc, 0, none⟩) cs.length cc) := (blk_cell BK.out 2).trans rfl; have hf0_w4 := blk_frozen BK.out 0; have hf1_w4 := blk_frozen BK.out 1; have hf2_w4 := blk_frozen BK.out 2))
  go_loopg [2, 41] hs.length (fun gg v2 v41 wr => ∃ (n : Nat) (ni : List S60) (ci gi : List Int), v41 = .int .i64 n ∧ Aside0 (n ≤ hs.length ∧ hs.length - n ≤ gg) ∧ Aside0 (spec_l10Less.run (fun a b c d => spec_l10Less.f k a b c d) (hs.drop n) ni ci gi = some (ns', cs', gl')) ∧ Aside0 (Kd.S k60 60 wr w0.heap.size (fun k => (PN k ∧ k < w.heap.size) ∧ ¬ oki k) (.slice (some ⟨gn, 0, none⟩) ns.length cn) ni) ∧ Aside0 (Kd.R (Kd.int .i64) 3 wr w0.heap.size (fun k => PC k ∧ k < w.heap.size) (.slice (some ⟨gc, 0, none⟩) cs.length cc) ci) ∧ Aside0 (Kd.R (Kd.int .i64) 3 wr w0.heap.size (fun j => (PG j ∧ j < w.heap.size) ∨ w.heap.size < j) v2 gi) ∧ Aside0 (Kd.R (Kd.int .i64) 3 wr w0.heap.size oki (.slice Ah hs.length ch) hs) ∧ Aside0 (wr.heap[w.heap.size]? = some (.cells #[.slice (some ⟨gn, 0, none⟩) ns.length cn, .slice A1 n1 c1, .slice (some ⟨gc, 0, none⟩) cs.length cc] 40 (0, 0))) ∧ Aside0 (Below w0.heap.size w0 wr) ∧ Aside0 (Kept w wr (fun j => PN j ∨ PC j ∨ PG j)))
  case atStart => exact ⟨0, _, _, _, rfl, ⟨Nat.zero_le _, by omega⟩, ⟨by simpa using H'.out⟩, HN, HC, HG, HR, BK, HB, HK⟩
  case round =>
   clear H' HN HC HG HR BK HB HK
   obtain ⟨n, ni, ci, gi, rfl, HQ, HA, HN, HC, HG, HR, BK, HB, HK⟩ := hrel
   by_cases hlt : n < hs.length
   ·have hltz : (n : Int) < (hs.length : Int) := by omega
    have HD : hs.drop n = rd hs n :: hs.drop (n + 1) := by rw [List.drop_eq_getElem_cons hlt]; simp [rd, List.getD_eq_getElem?_getD, hlt]
    have hA := HA.out
    rw [HD] at hA
    obtain ⟨⟨n2, c2, g2⟩, e1, e2⟩ := Option.bind_eq_some_iff.1 hA
    have HE := Aside0.mk e1
    have HE2 := Aside0.mk e2
    have HLT := Aside0.mk hlt
    have hlm : (hs.length : Int) ≤ 9223372036854775807 := by have := (Kd.R_reads' HR.out).2.2.2.1; omega
    obtain ⟨ad, eA, hx⟩ := Kd.at_int (Kd.R_reads' HR.out).2.2 (n : Int) (by omega) hltz
    subst eA
    rw [Int.toNat_natCast] at hx
    clear HA HD hA e1 e2 hlt
    have hz0_wr : wr.cell? ⟨w.heap.size, 0, none⟩ = some (.slice (some ⟨gn, 0, none⟩) ns.length cn) := (blk_cell BK.out 0).trans rfl
    have hz1_wr : wr.cell? ⟨w.heap.size, 1, none⟩ = some (.slice A1 n1 c1) := (blk_cell BK.out 1).trans rfl
    have hz2_wr : wr.cell? ⟨w.heap.size, 2, none⟩ = some (.slice (some ⟨gc, 0, none⟩) cs.length cc) := (blk_cell BK.out 2).trans rfl
    have hf0_wr := blk_frozen BK.out 0
    have hf1_wr := blk_frozen BK.out 1
    have hf2_wr := blk_frozen BK.out 2
    go_wp2_with (first | (go_at_call 77; refine (IH.out (fun k => (PN k ∧ k < w.heap.size) ∧ ¬ oki k) (fun k => PC k ∧ k < w.heap.size) (fun j => (PG j ∧ j < w.heap.size) ∨ w.heap.size < j) A1 n1 c1 _ _ _ ni ci gi (rd hs n) n2 c2 g2 w0 _ HB.out HN.out HC.out HG.out (fun j a b => D1.out j a.1.1 b.1) (fun j a b => b.elim (fun b => D2.out j a.1.1 b.1) (fun b => Nat.lt_asymm a.1.2 b)) (fun j a b => b.elim (fun b => D3.out j a.1 b.1) (fun b => Nat.lt_asymm a.2 b)) HE.out).mono ?_; rintro e w8 ⟨vg8, rfl, hn8, hc8, hg8, hb8, hk8⟩; replace HK := Aside0.mk (Kept.then_ HK.out hk8 (fun j hj => hj.elim (fun h => .inl (.inl h.1.1)) (fun h => h.elim (fun h => .inl (.inr (.inl h.1))) (fun h => h.elim (fun h => .inl (.inr (.inr h.1))) (fun h => .inr (Nat.le_of_lt h)))))); replace HR := Aside0.mk (Kd.R_kept HR.out hk8 (fun j hj hs2 => hs2.elim (fun h => h.2 hj) (fun h => h.elim (fun h => D1.out j (HO.out j hj).1.1 h.1) (fun h => h.elim (fun h => D2.out j (HO.out j hj).1.1 h.1) (fun h => Nat.lt_asymm (HO.out j hj).1.2 h))))); have hlt8 := blk_lt BK.out; replace BK := Aside0.mk (blk_kept BK.out hk8 (fun hs2 => hs2.elim (fun h => Nat.lt_irrefl _ h.1.2) (fun h => h.elim (fun h => Nat.lt_irrefl _ h.2) (fun h => h.elim (fun h => Nat.lt_irrefl _ h.2) (fun h => Nat.lt_irrefl _ h))))); replace HG := Aside0.mk (Kd.R_mono hg8 (ok' := fun j => (PG j ∧ j < w.heap.size) ∨ w.heap.size < j) (fun j hj => hj.elim (fun h => h) (fun h => .inr (Nat.lt_of_lt_of_le hlt8 h)))); replace HN := Aside0.mk hn8; replace HC := Aside0.mk hc8; replace HB := Aside0.mk hb8; clear hn8 hc8 hg8 hb8 hk8 hlt8))
    go_roundg (hs.length - (n + 1))
    case measure => have h1 := HLT.out; have h2 := HQ.out; omega
    case rel => exact ⟨n + 1, n2, c2, g2, by first | rfl | (simp only [Int.natCast_add, Int.natCast_one]; done) | (rw [show wrap64 ((n : Int) + 1) = ((n + 1 : Nat) : Int) from by have := HLT.out; unfold wrap64; omega]), ⟨by have := HLT.out; omega, by have := HQ.out; omega⟩, HE2, HN, HC, HG, HR, BK, HB, HK⟩
   ·have e : n = hs.length := by have := HQ.out; omega
    have hltz : ¬ (n : Int) < (hs.length : Int) := by omega
    have hA := HA.out
    rw [e, List.drop_length] at hA
    simp only [spec_l10Less.run, Option.some.injEq, Prod.mk.injEq] at hA
    obtain ⟨rfl, rfl, rfl⟩ := hA
    clear e HA
    go_wp2
    go_ret
    exact ⟨_, rfl, Kd.S_mono HN.out (fun _ h => h.1.1), Kd.R_mono HC.out (fun _ h => h.1), Kd.R_mono HG.out (fun _ h => h.elim (fun h => .inl h.1) (fun h => .inr (Nat.le_of_lt h))), HB.out, HK.out⟩


end Go.Proofs.Ytdhclelfnbjikaa.PFnExactDropRoot
