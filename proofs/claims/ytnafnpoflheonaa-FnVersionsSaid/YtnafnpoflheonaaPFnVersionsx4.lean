/- Contracts of functions of the translation, written by a program of this repo (a changed copy of the printer). Not trusted: Lean checks it. -/
-- squeezed
-- compact
import Derived.Test.YtnafnpoflheonaaCc
import Derived.Test.YtnafnpoflheonaaPFnVersionsx0
import Derived.Test.YtnafnpoflheonaaPFnVersionsx2
namespace Go.Proofs.Ytnafnpoflheonaa.PFnVersions
open Go.RowKit Go.Proofs.YtnafnpoflheonaaW.PrintWords Go.Proofs.YtnafnpoflheonaaW.PrintLast Go.Proofs.YtnafnpoflheonaaW.PrintMore
attribute [local go_sem] max2_int min2_int max_two min_two max_three min_three max_four min_four   -- for this text's walks alone
set_option linter.unusedVariables false
set_option linter.unusedSimpArgs false

/-! ### impl_DiffIn: function 30 -/
def impl_DiffIn.l0 : Nat → Int → Int → List Int → Int → List (S65) → List Int → Option (List Int × Bool)
 | 0, _, _, _, _, _, _ => none
 | k + 1, x1, x2, x8, x17, x151000, x151001 => if x17 < 16 then ((impl_get.f x151000 x151001 x1 x17).bind fun t158 => ((impl_get.f x151000 x151001 x2 x17).bind fun t159 => (if t158 = t159 then (impl_DiffIn.l0 k x1 x2 x8 (wrap64 (x17 + 1)) x151000 x151001) else (if x8.length < 17592186044416 then (impl_DiffIn.l0 k x1 x2 (x8 ++ [x17]) (wrap64 (x17 + 1)) x151000 x151001) else (none))))) else (some (x8, true))
def impl_DiffIn.f (k : Nat) (l0_0 : List (S65)) (l0_1 : List Int) (a1 : Int) (a2 : Int) : Option (List Int × Bool) := (impl_isVersion.f l0_0 l0_1 (([a1, a2] : List Int))).bind fun t154 => (if t154 = true then (impl_DiffIn.l0 k a1 a2 (([] : List Int)) 0 l0_0 l0_1) else (some (([] : List Int), false)))
theorem impl_DiffIn.mono_l : ∀ k, (∀ y0 y1 y2 y3 y4 y5, LeO (impl_DiffIn.l0 k y0 y1 y2 y3 y4 y5) (impl_DiffIn.l0 (k + 1) y0 y1 y2 y3 y4 y5))
 | 0 => fun _ _ _ _ _ _ r h => by simp [impl_DiffIn.l0] at h
 | k + 1 => by
  have ih0 := impl_DiffIn.mono_l k
  ·intro y0 y1 y2 y3 y4 y5
   unfold impl_DiffIn.l0
   repeat' first
   | (with_reducible exact ih0 _ _ _ _ _ _)
   | (with_reducible exact LeO.refl _)
   | (with_reducible exact LeO.none _)
   | (with_reducible refine LeO.ite ?_ ?_)
   | (with_reducible refine LeO.bind ?_ (fun _ => ?_))
   | exact ih0 _ _ _ _ _ _
   | exact LeO.none _
   | refine LeO.ite ?_ ?_
   | refine LeO.bind ?_ (fun _ => ?_)
theorem impl_DiffIn.mono : ∀ a0 a1 a2 a3 k, LeO (impl_DiffIn.f k a0 a1 a2 a3) (impl_DiffIn.f (k + 1) a0 a1 a2 a3) := by
 intro a0 a1 a2 a3 k
 have ih0 := impl_DiffIn.mono_l k
 unfold impl_DiffIn.f
 repeat' first
   | (with_reducible exact ih0 _ _ _ _ _ _)
   | (with_reducible exact LeO.refl _)
   | (with_reducible exact LeO.none _)
   | (with_reducible refine LeO.ite ?_ ?_)
   | (with_reducible refine LeO.bind ?_ (fun _ => ?_))
   | exact ih0 _ _ _ _ _ _
   | exact LeO.none _
   | refine LeO.ite ?_ ?_
   | refine LeO.bind ?_ (fun _ => ?_)
def impl_DiffIn.T7 : Bool × List (List Nat × List Nat) := (true, [([], []), ([], []), ([], []), ([0, 1, 2], [0, 1, 2]), ([], []), ([], []), ([], []), ([4, 5, 6, 3], [4, 5, 6]), ([3, 7], [3, 7])])
def impl_DiffIn.B7 : List Nat := [0, 0, 0, 7, 0, 0, 0, 127, 255]
theorem impl_DiffIn.tab7 : rtab .any (opsOf Try.f30 7) = impl_DiffIn.T7 := by kernel_rfl
theorem impl_DiffIn.bits7 : waitsOk impl_DiffIn.T7.2 impl_DiffIn.B7 = true := by kernel_rfl
set_option maxHeartbeats 8000000 in
set_option maxRecDepth 100000 in
theorem impl_DiffIn.calls (k : Nat) (A0_0 : Option Addr) (c0_0 : Nat) (l0_0 : List (S65)) (A0_1 : Option Addr) (c0_1 : Nat) (l0_1 : List Int) (a1 : Int) (a2 : Int) (r1 : List Int) (r2 : Bool) (w : World) (hr0_0 : Kd.C k65 w A0_0 l0_0.length l0_0) (hc0_0 : l0_0.length ≤ c0_0) (hr0_1 : Kd.C (Kd.int .i64) w A0_1 l0_1.length l0_1) (hc0_1 : l0_1.length ≤ c0_1) (h : impl_DiffIn.f k l0_0 l0_1 a1 a2 = some (r1, r2)) :
  Calls Try.prog 30 #[.agg #[.slice A0_0 l0_0.length c0_0, .slice A0_1 l0_1.length c0_1], .int .i64 a1, .int .i64 a2] w fun e w' => ∃ v0_ : Value, e = .returned (.tuple #[v0_, .bool r2]) ∧ Kd.R (Kd.int .i64) 3 w' w.heap.size (fun _ => True) v0_ r1 ∧ Below w.heap.size w w' := by
 have hu25 := Try.underlying25
 have HR0_0 := Op.k hr0_0
 have HC0_0 := Op.k hc0_0
 clear hr0_0 hc0_0
 have HR0_1 := Op.k hr0_1
 have HC0_1 := Op.k hc0_1
 clear hr0_1 hc0_1
 have HB := Op.k (Below.refl w.heap.size w)
 have H : ((impl_isVersion.f l0_0 l0_1 (([a1, a2] : List Int))).bind fun t154 => (if t154 = true then (impl_DiffIn.l0 k a1 a2 (([] : List Int)) 0 l0_0 l0_1) else (some (([] : List Int), false)))) = some (r1, r2) := h
 clear h
 obtain ⟨y151, hy151⟩ : ∃ y_ : List Int, y_ = (([a1, a2] : List Int)) := ⟨_, rfl⟩
 replace H : ((impl_isVersion.f l0_0 l0_1 y151).bind fun t154 => (if t154 = true then (impl_DiffIn.l0 k a1 a2 (([] : List Int)) 0 l0_0 l0_1) else (some (([] : List Int), false)))) = some (r1, r2) := by first | (rw [hy151]; with_reducible exact H) | (have H2_ := (Option.bind_some _ _).symm.trans H; rw [hy151]; with_reducible exact H2_) | (have H2_ := (Option.bind_some _ _).symm.trans H; with_reducible exact H2_) | with_reducible exact H | (rw [hy151]; exact H) | exact H
 have Ny151 := Op.k hy151
 clear hy151
 replace H := Option.bind_eq_some_iff.mp H
 obtain ⟨t154, A40, H⟩ := H
 try dsimp only at H
 have A4 := Op.k A40
 clear A40
 by_cases c5 : t154 = true
 ·subst c5
  have H1 : (impl_DiffIn.l0 k a1 a2 (([] : List Int)) 0 l0_0 l0_1) = some (r1, r2) := by rw [if_pos rfl] at H; exact H
  clear H
  have H := H1
  clear H1
  obtain ⟨y155, hy155⟩ : ∃ y_ : List Int, y_ = (([] : List Int)) := ⟨_, rfl⟩
  replace H : (impl_DiffIn.l0 k a1 a2 y155 0 l0_0 l0_1) = some (r1, r2) := by first | (rw [hy155]; with_reducible exact H) | (have H2_ := (Option.bind_some _ _).symm.trans H; rw [hy155]; with_reducible exact H2_) | (have H2_ := (Option.bind_some _ _).symm.trans H; with_reducible exact H2_) | with_reducible exact H | (rw [hy155]; exact H) | exact H
  have Ny155 := Op.k hy155
  clear hy155
  have H' := Op.k H
  clear H
  go_enter Try.func30, Try.ntmps30
  go_wp2_with (first | ((with_reducible refine gate_dst (N := 3) rfl ?_); refine box_event ?hg (N := 3) ?hd (cs := #[.slice A0_0 l0_0.length c0_0, .slice A0_1 l0_1.length c0_1]) (t := 25) ?hr ?_; (case hd => rfl); (case hg => rfl); (case hr => first | (go_simp; done) | (go_simp; rfl)); intro gb150 hg w6 hbox hb; have BK150 := Op.k (hbox); have GW150 := Op.k ((Op.nz hg (Op.ht HB.out) : w.heap.size ≤ gb150)); have GE150 := Op.k ((Op.nz hg (Op.ht HB.out) : w.heap.size ≤ gb150)); replace HB := Op.k (Op.a5 (Op.ht HB.out) hb); clear hb hbox hg; have hcz7_0 := Op.c0 BK150.out; have hcz7_1 := Op.c1 BK150.out; have hfz7_0 := Op.bf BK150.out 0; have hfz7_1 := Op.bf BK150.out 1) | ((with_reducible refine gate_dst (N := 13) rfl ?_); refine Kd.R_lit (Kd.int .i64) _ 3 ?hg (N := 13) ?hd (xs := ([a1, a2] : List Int)) (inner := [.int .i64 a1, .int .i64 a2]) (ok := fun _ => True) (okp := fun _ => True) ?hr ?hp (fun _ hk => hk) trivial (Below.refl _ _) (Nat.le_refl _) (by simp) ?_; (case hd => rfl); (case hg => rfl); (case hr => first | (go_simp; done) | (go_simp; rfl)); (case hp => exact (Reps.one (show Kd.M (Kd.int .i64) _ _ _ a1 [.int .i64 a1] from rfl) (Reps.one (show Kd.M (Kd.int .i64) _ _ _ a2 [.int .i64 a2] from rfl) (Reps.none _ _)))); intro v152 w8 ho9 hb hg_ hnew_; clear hg_ hnew_; (first | rw [← Ny151.out] at ho9 | (simp only [Int.reduceToNat] at ho9; rw [← Ny151.out] at ho9)); have HO153 := Op.k (Kd.R_lower ho9 (Op.a6 (Op.ht HB.out))); replace BK150 := Op.k (Op.b4 (Op.bt BK150.out) hb); replace HB := Op.k (Op.a5 (Op.ht HB.out) hb); clear hb ho9; obtain ⟨Ao10, co10, eo10⟩ := Kd.R_slice HO153.out; subst eo10) | ((with_reducible refine gate_callee (f := 61) rfl ?_); refine goesL_ (some 14) rfl rfl Try.func61 (by kernel_rfl) rfl #[.agg #[.slice A0_0 l0_0.length c0_0, .slice A0_1 l0_1.length c0_1], .slice Ao10 y151.length co10] rfl (by (try simp only [List.map_toArray, List.map_cons, List.map_nil]); first | done | rfl | (simp only [List.length_drop, List.length_take]; rfl)) ?_; (with_reducible refine (impl_isVersion.calls _ _ l0_0 _ _ l0_1 _ _ y151 true _ ?side1 ?side2 ?side3 ?side4 ?side5 ?side6 A4.out).mono ?_); (case side1 => exact Op.ct (Kd.C_below HR0_0.out HB.out)); (case side2 => exact HC0_0.out); (case side3 => exact Op.ct (Kd.C_below HR0_1.out HB.out)); (case side4 => exact HC0_1.out); (case side5 => exact Op.ct (Kd.R_reads' HO153.out).2.2); (case side6 => exact (Kd.R_reads' HO153.out).2.1); rintro e w11 ⟨rfl, hb⟩; refine ⟨_, rfl, ?_⟩; replace HO153 := Op.k (Kd.R_below (Op.rt HO153.out) hb); replace BK150 := Op.k (Op.b4 (Op.bt BK150.out) hb); replace HB := Op.k (Op.a5 (Op.ht HB.out) hb); (try clear hb); (try clear hb2); (try clear hk); (try clear hi)) | ((with_reducible refine gate_dst (N := 16) rfl ?_); refine Kd.R_lit (Kd.int .i64) _ 3 ?hg (N := 16) ?hd (xs := ([] : List Int)) (inner := []) (ok := fun _ => True) (okp := fun _ => True) ?hr ?hp (fun _ hk => hk) trivial (Below.refl _ _) (Nat.le_refl _) (by simp) ?_; (case hd => rfl); (case hg => rfl); (case hr => first | (go_simp; done) | (go_simp; rfl)); (case hp => exact (Reps.none _ _)); intro v156 w12 ho13 hb hg_ hnew_; clear hg_ hnew_; (first | rw [← Ny155.out] at ho13 | (simp only [Int.reduceToNat] at ho13; rw [← Ny155.out] at ho13)); have HO157 := Op.k (Kd.R_lower (Kd.R_new' ho13 (Kd.R_lt (Op.rt HO153.out))) (Op.a6 (Op.ht HB.out))); replace HO153 := Op.k (Kd.R_elder' (Op.rt HO153.out) (Kd.R_base ho13) hb); replace BK150 := Op.k (Op.b4 (Op.bt BK150.out) hb); replace HB := Op.k (Op.a5 (Op.ht HB.out) hb); clear hb ho13))
  go_loopg [8, 17] k (fun kq v8 v17 w' => ∃ (x8_1 : List Int) (x17_1 : Int), v17 = .int .i64 x17_1 ∧ Aside0 (impl_DiffIn.l0 kq a1 a2 x8_1 x17_1 l0_0 l0_1 = some (r1, r2)) ∧ Aside0 (kq ≤ k) ∧ Aside0 (Kd.R (Kd.int .i64) 3 w' w.heap.size (fun _ => True) v8 x8_1) ∧ Aside0 (w'.heap[gb150]? = some (.cells #[(.slice A0_0 l0_0.length c0_0), (.slice A0_1 l0_1.length c0_1)] 25 (0, 0))) ∧ Aside0 (Below w.heap.size w w'))
  case atStart => exact ⟨(y155), (0), (by first | rfl | (simp; done) | (simp [*]; done)), H', ⟨Nat.le_refl _⟩, ⟨Kd.R_mono (Op.rt HO157.out) (fun _ hk => trivial)⟩, ⟨Op.bt BK150.out⟩, ⟨Op.ht HB.out⟩⟩
  case round =>
   clear H'
   try clear p2
   try clear c3
   try clear c5
   try clear c6
   try clear hcz7_0
   try clear hcz7_1
   try clear hfz7_0
   try clear hfz7_1
   obtain ⟨x8_1, x17_1, rfl, HA, HK1, HO_8, BK150, HB⟩ := hrel
   cases gk with
   | zero => exact absurd HA.out (by simp [impl_DiffIn.l0])
   | succ k1 =>
    have H := HA.out
    clear HA
    simp only [impl_DiffIn.l0] at H
    by_cases c14 : x17_1 < 16
    ·rw [if_pos c14] at H
     have c14b0 : decide (x17_1 < 16) = true := decide_eq_true c14
     clear c14
     replace H := Option.bind_eq_some_iff.mp H
     obtain ⟨t158, A150, H⟩ := H
     try dsimp only at H
     have A15 := Op.k A150
     clear A150
     replace H := Option.bind_eq_some_iff.mp H
     obtain ⟨t159, A160, H⟩ := H
     try dsimp only at H
     have A16 := Op.k A160
     clear A160
     by_cases c17 : t158 = t159
     ·rw [if_pos c17] at H
      have c17b0 : (t158 == t159) = true := beq_iff_eq.mpr c17
      have c17b1 : (t158 != t159) = false := bne_eq_false_iff_eq.mpr c17
      clear c17
      have H' := Op.k H
      clear H
      try go_wp2
      replace HO_8 := Op.k (Kd.R_drew HO_8.out)
      replace BK150 := Op.k (Op.b2 BK150.out)
      replace HB := Op.k (Op.a3 HB.out)
      refine start_ (n := 9) (S := fun w' => w'.cell? ⟨gb150, 0, none⟩ = some (.slice A0_0 l0_0.length c0_0) ∧ w'.cell? ⟨gb150, 1, none⟩ = some (.slice A0_1 l0_1.length c0_1)) (ds := []) #[false, false, false, false, false, false, false, false, false] (by kernel_rfl) rfl rfl ⟨(blk_cell BK150.out 0).trans rfl, (blk_cell BK150.out 1).trans rfl⟩ (fun hHeld => ?_); refine with_tabW impl_DiffIn.tab7 impl_DiffIn.bits7 (fun HT_ HW_ => ?_)
      generalize wr.drew = w18 at HO_8 BK150 HB hHeld ⊢
      refine pure_ (i := 1) (N := some 21) (v := ?_) (a' := ?_) #[false, true, false, false, false, false, false, false, false] rfl rfl (any_of HT_.out (by kernel_rfl)) (fun _ _ _ h => h) (Or.inl ⟨by rfl, ?_⟩) ?_ ?_
      rotate_left
      ·intro w'
       go_simp
       with_reducible rfl
      rotate_left
      ·simp only [Act.put, List.setIfInBounds_toArray, List.set_cons_zero, List.set_cons_succ, i64_w, i32_w]
       rfl
      refine pure_ (i := 2) (N := some 22) (v := ?_) (a' := ?_) #[false, true, true, false, false, false, false, false, false] rfl rfl (any_of HT_.out (by kernel_rfl)) (fun _ _ _ h => h) (Or.inl ⟨by rfl, ?_⟩) ?_ ?_
      rotate_left
      ·intro w'
       go_simp
       with_reducible rfl
      rotate_left
      ·simp only [Act.put, List.setIfInBounds_toArray, List.set_cons_zero, List.set_cons_succ, i64_w, i32_w]
       rfl
      refine pure_ (i := 5) (N := some 25) (v := ?_) (a' := ?_) #[false, true, true, false, false, true, false, false, false] rfl rfl (any_of HT_.out (by kernel_rfl)) (fun _ _ _ h => h) (Or.inl ⟨by rfl, ?_⟩) ?_ ?_
      rotate_left
      ·intro w'
       go_simp
       with_reducible rfl
      rotate_left
      ·simp only [Act.put, List.setIfInBounds_toArray, List.set_cons_zero, List.set_cons_succ, i64_w, i32_w]
       rfl
      refine pure_ (i := 6) (N := some 26) (v := ?_) (a' := ?_) #[false, true, true, false, false, true, true, false, false] rfl rfl (any_of HT_.out (by kernel_rfl)) (fun _ _ _ h => h) (Or.inl ⟨by rfl, ?_⟩) ?_ ?_
      rotate_left
      ·intro w'
       go_simp
       with_reducible rfl
      rotate_left
      ·simp only [Act.put, List.setIfInBounds_toArray, List.set_cons_zero, List.set_cons_succ, i64_w, i32_w]
       rfl
      refine take_ (i := 0) (N := some 20) (v := ?_) (a' := ?_) #[true, true, true, false, false, true, true, false, false] rfl rfl (take_ofW HT_.out HW_.out (by kernel_rfl)) (fun _ _ _ h => h) (Or.inl ⟨by rfl, ?_⟩) hHeld ?_ ?_
      rotate_left
      ·rintro w' ⟨s0, s1⟩
       go_simp
       with_reducible rfl
      rotate_left
      ·simp only [Act.put, List.setIfInBounds_toArray, List.set_cons_zero, List.set_cons_succ, i64_w, i32_w]
       rfl
      refine take_ (i := 4) (N := some 24) (v := ?_) (a' := ?_) #[true, true, true, false, true, true, true, false, false] rfl rfl (take_ofW HT_.out HW_.out (by kernel_rfl)) (fun _ _ _ h => h) (Or.inl ⟨by rfl, ?_⟩) hHeld ?_ ?_
      rotate_left
      ·rintro w' ⟨s0, s1⟩
       go_simp
       with_reducible rfl
      rotate_left
      ·simp only [Act.put, List.setIfInBounds_toArray, List.set_cons_zero, List.set_cons_succ, i64_w, i32_w]
       rfl
      refine one_ (i := 3) (N := some 23) #[true, true, true, true, true, true, true, false, false] rfl rfl (one_of HT_.out (by kernel_rfl)) (by decide) (fun K hK => ?_)
      refine goes_ Try.func63 (by kernel_rfl) rfl #[.agg #[.slice A0_0 l0_0.length c0_0, .slice A0_1 l0_1.length c0_1], .int .i64 a1, .int .i64 x17_1] (by rfl) rfl rfl (by (try simp only [List.map_toArray, List.map_cons, List.map_nil]); first | done | rfl | (simp only [List.length_drop, List.length_take]; rfl)) ?_
      with_reducible refine (impl_get.calls _ _ l0_0 _ _ l0_1 a1 x17_1 t158 _ ?side1 ?side2 ?side3 ?side4 A15.out).mono ?_
      (case side1 => exact Op.ct (Kd.C_below HR0_0.out HB.out))
      (case side2 => exact HC0_0.out)
      (case side3 => exact Op.ct (Kd.C_below HR0_1.out HB.out))
      (case side4 => exact HC0_1.out)
      rintro e w19 ⟨rfl, hb⟩
      refine ⟨_, rfl, ?_⟩
      replace HO_8 := Op.k (Kd.R_below (Op.rt HO_8.out) hb)
      replace BK150 := Op.k (Op.b4 (Op.bt BK150.out) hb)
      replace HB := Op.k (Op.a5 (Op.ht HB.out) hb)
      (try clear hb)
      (try clear hb2)
      (try clear hk)
      (try clear hi)
      refine hK.out _ _ ⟨(blk_cell BK150.out 0).trans rfl, (blk_cell BK150.out 1).trans rfl⟩ (fun hHeld => ?_)
      clear hK K
      refine norm_ (a' := ?_) ?_ ?_
      rotate_left
      ·show Act.put _ (some 23) _ = _
       simp only [Act.put, List.setIfInBounds_toArray, List.set_cons_zero, List.set_cons_succ, i64_w, i32_w]
       rfl
      refine one_ (i := 7) (N := some 27) #[true, true, true, true, true, true, true, true, false] rfl rfl (one_of HT_.out (by kernel_rfl)) (by decide) (fun K hK => ?_)
      refine goes_ Try.func63 (by kernel_rfl) rfl #[.agg #[.slice A0_0 l0_0.length c0_0, .slice A0_1 l0_1.length c0_1], .int .i64 a2, .int .i64 x17_1] (by rfl) rfl rfl (by (try simp only [List.map_toArray, List.map_cons, List.map_nil]); first | done | rfl | (simp only [List.length_drop, List.length_take]; rfl)) ?_
      with_reducible refine (impl_get.calls _ _ l0_0 _ _ l0_1 a2 x17_1 t159 _ ?side1 ?side2 ?side3 ?side4 A16.out).mono ?_
      (case side1 => exact Op.ct (Kd.C_below HR0_0.out HB.out))
      (case side2 => exact HC0_0.out)
      (case side3 => exact Op.ct (Kd.C_below HR0_1.out HB.out))
      (case side4 => exact HC0_1.out)
      rintro e w20 ⟨rfl, hb⟩
      refine ⟨_, rfl, ?_⟩
      replace HO_8 := Op.k (Kd.R_below (Op.rt HO_8.out) hb)
      replace BK150 := Op.k (Op.b4 (Op.bt BK150.out) hb)
      replace HB := Op.k (Op.a5 (Op.ht HB.out) hb)
      (try clear hb)
      (try clear hb2)
      (try clear hk)
      (try clear hi)
      refine hK.out _ _ ⟨(blk_cell BK150.out 0).trans rfl, (blk_cell BK150.out 1).trans rfl⟩ (fun hHeld => ?_)
      clear hK K
      refine norm_ (a' := ?_) ?_ ?_
      rotate_left
      ·show Act.put _ (some 27) _ = _
       simp only [Act.put, List.setIfInBounds_toArray, List.set_cons_zero, List.set_cons_succ, i64_w, i32_w]
       rfl
      refine pure_ (i := 8) (N := some 28) (v := ?_) (a' := ?_) #[true, true, true, true, true, true, true, true, true] rfl rfl (any_of HT_.out (by kernel_rfl)) (fun _ _ _ h => h) (Or.inl ⟨by rfl, ?_⟩) ?_ ?_
      rotate_left
      ·intro w'
       go_simp
       with_reducible rfl
      rotate_left
      ·simp only [Act.put, List.setIfInBounds_toArray, List.set_cons_zero, List.set_cons_succ, i64_w, i32_w]
       rfl
      refine done_ (done_of HT_.out (by kernel_rfl)) ?_
      try go_wp2
      go_roundg k1
      case measure => have := HK1.out; omega
      case rel => exact ⟨(x8_1), (wrap64 (x17_1 + 1)), (by first | rfl | (simp; done) | (simp [*]; done)), H', ⟨by have := HK1.out; omega⟩, ⟨Op.rt HO_8.out⟩, ⟨Op.bt BK150.out⟩, ⟨Op.ht HB.out⟩⟩
     ·rw [if_neg c17] at H
      have c17b0 : (t158 == t159) = false := beq_eq_false_iff_ne.mpr c17
      have c17b1 : (t158 != t159) = true := bne_iff_ne.mpr c17
      by_cases c21 : x8_1.length < 17592186044416
      ·rw [if_pos c21] at H
       have LMc21 := Op.k c21
       clear c21
       obtain ⟨y160, hy160⟩ : ∃ y_ : List Int, y_ = (x8_1 ++ [x17_1]) := ⟨_, rfl⟩
       replace H : (impl_DiffIn.l0 k1 a1 a2 y160 (wrap64 (x17_1 + 1)) l0_0 l0_1) = some (r1, r2) := by first | (rw [hy160]; with_reducible exact H) | (have H2_ := (Option.bind_some _ _).symm.trans H; rw [hy160]; with_reducible exact H2_) | (have H2_ := (Option.bind_some _ _).symm.trans H; with_reducible exact H2_) | with_reducible exact H | (rw [hy160]; exact H) | exact H
       have Ny160 := Op.k hy160
       clear hy160
       have H' := Op.k H
       clear H
       try go_wp2
       replace HO_8 := Op.k (Kd.R_drew HO_8.out)
       replace BK150 := Op.k (Op.b2 BK150.out)
       replace HB := Op.k (Op.a3 HB.out)
       refine start_ (n := 9) (S := fun w' => w'.cell? ⟨gb150, 0, none⟩ = some (.slice A0_0 l0_0.length c0_0) ∧ w'.cell? ⟨gb150, 1, none⟩ = some (.slice A0_1 l0_1.length c0_1)) (ds := []) #[false, false, false, false, false, false, false, false, false] (by kernel_rfl) rfl rfl ⟨(blk_cell BK150.out 0).trans rfl, (blk_cell BK150.out 1).trans rfl⟩ (fun hHeld => ?_); refine with_tabW impl_DiffIn.tab7 impl_DiffIn.bits7 (fun HT_ HW_ => ?_)
       generalize wr.drew = w22 at HO_8 BK150 HB hHeld ⊢
       refine pure_ (i := 1) (N := some 21) (v := ?_) (a' := ?_) #[false, true, false, false, false, false, false, false, false] rfl rfl (any_of HT_.out (by kernel_rfl)) (fun _ _ _ h => h) (Or.inl ⟨by rfl, ?_⟩) ?_ ?_
       rotate_left
       ·intro w'
        go_simp
        with_reducible rfl
       rotate_left
       ·simp only [Act.put, List.setIfInBounds_toArray, List.set_cons_zero, List.set_cons_succ, i64_w, i32_w]
        rfl
       refine pure_ (i := 2) (N := some 22) (v := ?_) (a' := ?_) #[false, true, true, false, false, false, false, false, false] rfl rfl (any_of HT_.out (by kernel_rfl)) (fun _ _ _ h => h) (Or.inl ⟨by rfl, ?_⟩) ?_ ?_
       rotate_left
       ·intro w'
        go_simp
        with_reducible rfl
       rotate_left
       ·simp only [Act.put, List.setIfInBounds_toArray, List.set_cons_zero, List.set_cons_succ, i64_w, i32_w]
        rfl
       refine pure_ (i := 5) (N := some 25) (v := ?_) (a' := ?_) #[false, true, true, false, false, true, false, false, false] rfl rfl (any_of HT_.out (by kernel_rfl)) (fun _ _ _ h => h) (Or.inl ⟨by rfl, ?_⟩) ?_ ?_
       rotate_left
       ·intro w'
        go_simp
        with_reducible rfl
       rotate_left
       ·simp only [Act.put, List.setIfInBounds_toArray, List.set_cons_zero, List.set_cons_succ, i64_w, i32_w]
        rfl
       refine pure_ (i := 6) (N := some 26) (v := ?_) (a' := ?_) #[false, true, true, false, false, true, true, false, false] rfl rfl (any_of HT_.out (by kernel_rfl)) (fun _ _ _ h => h) (Or.inl ⟨by rfl, ?_⟩) ?_ ?_
       rotate_left
       ·intro w'
        go_simp
        with_reducible rfl
       rotate_left
       ·simp only [Act.put, List.setIfInBounds_toArray, List.set_cons_zero, List.set_cons_succ, i64_w, i32_w]
        rfl
       refine take_ (i := 0) (N := some 20) (v := ?_) (a' := ?_) #[true, true, true, false, false, true, true, false, false] rfl rfl (take_ofW HT_.out HW_.out (by kernel_rfl)) (fun _ _ _ h => h) (Or.inl ⟨by rfl, ?_⟩) hHeld ?_ ?_
       rotate_left
       ·rintro w' ⟨s0, s1⟩
        go_simp
        with_reducible rfl
       rotate_left
       ·simp only [Act.put, List.setIfInBounds_toArray, List.set_cons_zero, List.set_cons_succ, i64_w, i32_w]
        rfl
       refine take_ (i := 4) (N := some 24) (v := ?_) (a' := ?_) #[true, true, true, false, true, true, true, false, false] rfl rfl (take_ofW HT_.out HW_.out (by kernel_rfl)) (fun _ _ _ h => h) (Or.inl ⟨by rfl, ?_⟩) hHeld ?_ ?_
       rotate_left
       ·rintro w' ⟨s0, s1⟩
        go_simp
        with_reducible rfl
       rotate_left
       ·simp only [Act.put, List.setIfInBounds_toArray, List.set_cons_zero, List.set_cons_succ, i64_w, i32_w]
        rfl
       refine one_ (i := 3) (N := some 23) #[true, true, true, true, true, true, true, false, false] rfl rfl (one_of HT_.out (by kernel_rfl)) (by decide) (fun K hK => ?_)
       refine goes_ Try.func63 (by kernel_rfl) rfl #[.agg #[.slice A0_0 l0_0.length c0_0, .slice A0_1 l0_1.length c0_1], .int .i64 a1, .int .i64 x17_1] (by rfl) rfl rfl (by (try simp only [List.map_toArray, List.map_cons, List.map_nil]); first | done | rfl | (simp only [List.length_drop, List.length_take]; rfl)) ?_
       with_reducible refine (impl_get.calls _ _ l0_0 _ _ l0_1 a1 x17_1 t158 _ ?side1 ?side2 ?side3 ?side4 A15.out).mono ?_
       (case side1 => exact Op.ct (Kd.C_below HR0_0.out HB.out))
       (case side2 => exact HC0_0.out)
       (case side3 => exact Op.ct (Kd.C_below HR0_1.out HB.out))
       (case side4 => exact HC0_1.out)
       rintro e w23 ⟨rfl, hb⟩
       refine ⟨_, rfl, ?_⟩
       replace HO_8 := Op.k (Kd.R_below (Op.rt HO_8.out) hb)
       replace BK150 := Op.k (Op.b4 (Op.bt BK150.out) hb)
       replace HB := Op.k (Op.a5 (Op.ht HB.out) hb)
       (try clear hb)
       (try clear hb2)
       (try clear hk)
       (try clear hi)
       refine hK.out _ _ ⟨(blk_cell BK150.out 0).trans rfl, (blk_cell BK150.out 1).trans rfl⟩ (fun hHeld => ?_)
       clear hK K
       refine norm_ (a' := ?_) ?_ ?_
       rotate_left
       ·show Act.put _ (some 23) _ = _
        simp only [Act.put, List.setIfInBounds_toArray, List.set_cons_zero, List.set_cons_succ, i64_w, i32_w]
        rfl
       refine one_ (i := 7) (N := some 27) #[true, true, true, true, true, true, true, true, false] rfl rfl (one_of HT_.out (by kernel_rfl)) (by decide) (fun K hK => ?_)
       refine goes_ Try.func63 (by kernel_rfl) rfl #[.agg #[.slice A0_0 l0_0.length c0_0, .slice A0_1 l0_1.length c0_1], .int .i64 a2, .int .i64 x17_1] (by rfl) rfl rfl (by (try simp only [List.map_toArray, List.map_cons, List.map_nil]); first | done | rfl | (simp only [List.length_drop, List.length_take]; rfl)) ?_
       with_reducible refine (impl_get.calls _ _ l0_0 _ _ l0_1 a2 x17_1 t159 _ ?side1 ?side2 ?side3 ?side4 A16.out).mono ?_
       (case side1 => exact Op.ct (Kd.C_below HR0_0.out HB.out))
       (case side2 => exact HC0_0.out)
       (case side3 => exact Op.ct (Kd.C_below HR0_1.out HB.out))
       (case side4 => exact HC0_1.out)
       rintro e w24 ⟨rfl, hb⟩
       refine ⟨_, rfl, ?_⟩
       replace HO_8 := Op.k (Kd.R_below (Op.rt HO_8.out) hb)
       replace BK150 := Op.k (Op.b4 (Op.bt BK150.out) hb)
       replace HB := Op.k (Op.a5 (Op.ht HB.out) hb)
       (try clear hb)
       (try clear hb2)
       (try clear hk)
       (try clear hi)
       refine hK.out _ _ ⟨(blk_cell BK150.out 0).trans rfl, (blk_cell BK150.out 1).trans rfl⟩ (fun hHeld => ?_)
       clear hK K
       refine norm_ (a' := ?_) ?_ ?_
       rotate_left
       ·show Act.put _ (some 27) _ = _
        simp only [Act.put, List.setIfInBounds_toArray, List.set_cons_zero, List.set_cons_succ, i64_w, i32_w]
        rfl
       refine pure_ (i := 8) (N := some 28) (v := ?_) (a' := ?_) #[true, true, true, true, true, true, true, true, true] rfl rfl (any_of HT_.out (by kernel_rfl)) (fun _ _ _ h => h) (Or.inl ⟨by rfl, ?_⟩) ?_ ?_
       rotate_left
       ·intro w'
        go_simp
        with_reducible rfl
       rotate_left
       ·simp only [Act.put, List.setIfInBounds_toArray, List.set_cons_zero, List.set_cons_succ, i64_w, i32_w]
        rfl
       refine done_ (done_of HT_.out (by kernel_rfl)) ?_
       try go_wp2_with (first | ((with_reducible refine gate_builtin (b := .append) (xs := #[.tmp 29, .tmp 31]) rfl ?_); at_builtin; refine Kd.R_append (Kd.int .i64) (w0 := w) w.heap.size rfl (.tmp 29) (.tmp 31) 23 3 (.int .i64 0) 8 rfl Try.underlying23 info3 rfl (by decide) (by omega) u8 x8_1 x17_1 [.int .i64 x17_1] (fun _ => True) (fun _ => False) rfl rfl ?aP (fun _ hk => hk.elim) ?aF ?aO ?aB ?aS ?aL ?_; (case aP => exact rfl); (case aB => exact (Op.ht HB.out)); (case aF => exact (fun _ _ => trivial)); (case aO => exact (Op.rt HO_8.out)); (case aS => exact (Op.a6 (Op.ht HB.out))); (case aL => have := LMc21.out; omega); intro v161 w25 ho hb hg hat; rw [← Ny160.out] at ho; have n0_ := Op.k (blk_grown (Op.bt BK150.out) hg (Kd.R_ne HO_8.out BK150.out (by decide))); have n1_ := Op.k (hb); have n2_ := Op.k (ho); clear BK150; clear HB; clear HO_8; have BK150 := n0_; have HB := n1_; have HO162 := n2_; clear n0_ n1_ n2_; clear ho hb hg hat))
       go_roundg k1
       case measure => have := HK1.out; omega
       case rel => exact ⟨(y160), (wrap64 (x17_1 + 1)), (by first | rfl | (simp; done) | (simp [*]; done)), H', ⟨by have := HK1.out; omega⟩, ⟨Op.rt HO162.out⟩, ⟨Op.bt BK150.out⟩, ⟨Op.ht HB.out⟩⟩
      ·rw [if_neg c21] at H
       exact absurd H (by simp)
    ·rw [if_neg c14] at H
     have c14b0 : decide (x17_1 < 16) = false := decide_eq_false c14
     clear c14
     simp only [Option.some.injEq, Prod.mk.injEq] at H
     obtain ⟨rfl, rfl⟩ := H
     go_wp2
     go_ret2
     exact ⟨_, by first | rfl | (simp [errW_none, errW_some] <;> rfl) | (simp [*, errW_none, errW_some] <;> rfl), Op.rt HO_8.out, Op.ht HB.out⟩
 ·replace c5 := Bool.eq_false_iff.mpr c5
  subst c5
  have H1 : (some (([] : List Int), false)) = some (r1, r2) := by rw [if_neg (show ¬ (false = true) by decide)] at H; exact H
  clear H
  have H := H1
  clear H1
  simp only [Option.some.injEq, Prod.mk.injEq] at H
  obtain ⟨rfl, rfl⟩ := H
  go_enter Try.func30, Try.ntmps30
  go_wp2_with (first | ((with_reducible refine gate_dst (N := 3) rfl ?_); refine box_event ?hg (N := 3) ?hd (cs := #[.slice A0_0 l0_0.length c0_0, .slice A0_1 l0_1.length c0_1]) (t := 25) ?hr ?_; (case hd => rfl); (case hg => rfl); (case hr => first | (go_simp; done) | (go_simp; rfl)); intro gb150 hg w26 hbox hb; have BK150 := Op.k (hbox); have GW150 := Op.k ((Op.nz hg (Op.ht HB.out) : w.heap.size ≤ gb150)); have GE150 := Op.k ((Op.nz hg (Op.ht HB.out) : w.heap.size ≤ gb150)); replace HB := Op.k (Op.a5 (Op.ht HB.out) hb); clear hb hbox hg; have hcz27_0 := Op.c0 BK150.out; have hcz27_1 := Op.c1 BK150.out; have hfz27_0 := Op.bf BK150.out 0; have hfz27_1 := Op.bf BK150.out 1) | ((with_reducible refine gate_dst (N := 13) rfl ?_); refine Kd.R_lit (Kd.int .i64) _ 3 ?hg (N := 13) ?hd (xs := ([a1, a2] : List Int)) (inner := [.int .i64 a1, .int .i64 a2]) (ok := fun _ => True) (okp := fun _ => True) ?hr ?hp (fun _ hk => hk) trivial (Below.refl _ _) (Nat.le_refl _) (by simp) ?_; (case hd => rfl); (case hg => rfl); (case hr => first | (go_simp; done) | (go_simp; rfl)); (case hp => exact (Reps.one (show Kd.M (Kd.int .i64) _ _ _ a1 [.int .i64 a1] from rfl) (Reps.one (show Kd.M (Kd.int .i64) _ _ _ a2 [.int .i64 a2] from rfl) (Reps.none _ _)))); intro v152 w28 ho29 hb hg_ hnew_; clear hg_ hnew_; (first | rw [← Ny151.out] at ho29 | (simp only [Int.reduceToNat] at ho29; rw [← Ny151.out] at ho29)); have HO153 := Op.k (Kd.R_lower ho29 (Op.a6 (Op.ht HB.out))); replace BK150 := Op.k (Op.b4 (Op.bt BK150.out) hb); replace HB := Op.k (Op.a5 (Op.ht HB.out) hb); clear hb ho29; obtain ⟨Ao30, co30, eo30⟩ := Kd.R_slice HO153.out; subst eo30) | ((with_reducible refine gate_callee (f := 61) rfl ?_); refine goesL_ (some 14) rfl rfl Try.func61 (by kernel_rfl) rfl #[.agg #[.slice A0_0 l0_0.length c0_0, .slice A0_1 l0_1.length c0_1], .slice Ao30 y151.length co30] rfl (by (try simp only [List.map_toArray, List.map_cons, List.map_nil]); first | done | rfl | (simp only [List.length_drop, List.length_take]; rfl)) ?_; (with_reducible refine (impl_isVersion.calls _ _ l0_0 _ _ l0_1 _ _ y151 false _ ?side1 ?side2 ?side3 ?side4 ?side5 ?side6 A4.out).mono ?_); (case side1 => exact Op.ct (Kd.C_below HR0_0.out HB.out)); (case side2 => exact HC0_0.out); (case side3 => exact Op.ct (Kd.C_below HR0_1.out HB.out)); (case side4 => exact HC0_1.out); (case side5 => exact Op.ct (Kd.R_reads' HO153.out).2.2); (case side6 => exact (Kd.R_reads' HO153.out).2.1); rintro e w31 ⟨rfl, hb⟩; refine ⟨_, rfl, ?_⟩; replace HO153 := Op.k (Kd.R_below (Op.rt HO153.out) hb); replace BK150 := Op.k (Op.b4 (Op.bt BK150.out) hb); replace HB := Op.k (Op.a5 (Op.ht HB.out) hb); (try clear hb); (try clear hb2); (try clear hk); (try clear hi)))
  go_ret2
  exact ⟨_, by first | rfl | (simp [errW_none, errW_some] <;> rfl) | (simp [*, errW_none, errW_some] <;> rfl), by first | exact Kd.R_nil _ _ _ _ _ | exact Kd.N_nil _ _ _ _ _ | exact Kd.V_nil _ _ _ _ _ | exact Kd.Q_nil _ _ _ _ _ | exact Kd.S_nil _ _ _ _ _, Op.ht HB.out⟩

/-! ### spec_l11Own: function 65 -/
def spec_l11Own.l0 : Nat → List (S65) → Int → Int → List (S65) → List Int → Option ((List (S65)) × List Int)
 | 0, _, _, _, _, _ => none
 | k + 1, x12, x13, x14, x172000, x172001 => if x14 < x13 then (if 0 ≤ x14 then (if x14 < (x12.length : Int) then ((some (([] : List Int) : List Int)).bind fun y174 => (if y174.length + ((rd_T65 x12 x14).f0).length < 17592186044416 then (if x172000.length < 4398046511104 then (spec_l11Own.l0 k x12 x13 (wrap64 (x14 + 1)) (x172000 ++ [(⟨(y174 ++ ((rd_T65 x12 x14).f0)), (rd_T65 x12 x14).f1⟩ : S65)]) x172001) else (none)) else (none))) else (none)) else (none)) else (some (x172000, x172001))
def spec_l11Own.f (k : Nat) (l0_0 : List (S65)) (l0_1 : List Int) : Option ((List (S65)) × List Int) := (some (([] : List Int) : List Int)).bind fun y165 => (if y165.length + l0_1.length < 17592186044416 then (spec_l11Own.l0 k l0_0 (l0_0.length : Int) 0 ([] : List (S65)) (y165 ++ l0_1)) else (none))
theorem spec_l11Own.mono_l : ∀ k, (∀ y0 y1 y2 y3 y4, LeO (spec_l11Own.l0 k y0 y1 y2 y3 y4) (spec_l11Own.l0 (k + 1) y0 y1 y2 y3 y4))
 | 0 => fun _ _ _ _ _ r h => by simp [spec_l11Own.l0] at h
 | k + 1 => by
  have ih0 := spec_l11Own.mono_l k
  ·intro y0 y1 y2 y3 y4
   unfold spec_l11Own.l0
   repeat' first
   | (with_reducible exact ih0 _ _ _ _ _)
   | (with_reducible exact LeO.refl _)
   | (with_reducible exact LeO.none _)
   | (with_reducible refine LeO.ite ?_ ?_)
   | (with_reducible refine LeO.bind ?_ (fun _ => ?_))
   | exact ih0 _ _ _ _ _
   | exact LeO.none _
   | refine LeO.ite ?_ ?_
   | refine LeO.bind ?_ (fun _ => ?_)
theorem spec_l11Own.mono : ∀ a0 a1 k, LeO (spec_l11Own.f k a0 a1) (spec_l11Own.f (k + 1) a0 a1) := by
 intro a0 a1 k
 have ih0 := spec_l11Own.mono_l k
 unfold spec_l11Own.f
 repeat' first
   | (with_reducible exact ih0 _ _ _ _ _)
   | (with_reducible exact LeO.refl _)
   | (with_reducible exact LeO.none _)
   | (with_reducible refine LeO.ite ?_ ?_)
   | (with_reducible refine LeO.bind ?_ (fun _ => ?_))
   | exact ih0 _ _ _ _ _
   | exact LeO.none _
   | refine LeO.ite ?_ ?_
   | refine LeO.bind ?_ (fun _ => ?_)
set_option maxHeartbeats 8000000 in
set_option maxRecDepth 100000 in
theorem spec_l11Own.calls (k : Nat) (A0_0 : Option Addr) (c0_0 : Nat) (l0_0 : List (S65)) (A0_1 : Option Addr) (c0_1 : Nat) (l0_1 : List Int) (r1 : List (S65)) (r2 : List Int) (w : World) (hr0_0 : Kd.C k65 w A0_0 l0_0.length l0_0) (hc0_0 : l0_0.length ≤ c0_0) (hr0_1 : Kd.C (Kd.int .i64) w A0_1 l0_1.length l0_1) (hc0_1 : l0_1.length ≤ c0_1) (h : spec_l11Own.f k l0_0 l0_1 = some (r1, r2)) :
  Calls Try.prog 65 #[.agg #[.slice A0_0 l0_0.length c0_0, .slice A0_1 l0_1.length c0_1]] w fun e w' => ∃ v0_ v1_ : Value, e = .returned (.agg #[v0_, v1_]) ∧ Kd.S k65 65 w' w.heap.size (fun k_ => some k_ ≠ (v1_ : Value).ownBlock) v0_ r1 ∧ Kd.R (Kd.int .i64) 3 w' w.heap.size (fun _ => True) v1_ r2 ∧ Below w.heap.size w w' := by
 have hu25 := Try.underlying25
 have hu65 := Try.underlying65
 have HR0_0 := Op.k hr0_0
 have HC0_0 := Op.k hc0_0
 clear hr0_0 hc0_0
 have HR0_1 := Op.k hr0_1
 have HC0_1 := Op.k hc0_1
 clear hr0_1 hc0_1
 have HB := Op.k (Below.refl w.heap.size w)
 have H : ((some (([] : List Int) : List Int)).bind fun y165 => (if y165.length + l0_1.length < 17592186044416 then (spec_l11Own.l0 k l0_0 (l0_0.length : Int) 0 ([] : List (S65)) (y165 ++ l0_1)) else (none))) = some (r1, r2) := h
 clear h
 obtain ⟨y165, hy165⟩ : ∃ y_ : List Int, y_ = (([] : List Int)) := ⟨_, rfl⟩
 replace H : (if y165.length + l0_1.length < 17592186044416 then (spec_l11Own.l0 k l0_0 (l0_0.length : Int) 0 ([] : List (S65)) (y165 ++ l0_1)) else (none)) = some (r1, r2) := by first | (rw [hy165]; with_reducible exact H) | (have H2_ := (Option.bind_some _ _).symm.trans H; rw [hy165]; with_reducible exact H2_) | (have H2_ := (Option.bind_some _ _).symm.trans H; with_reducible exact H2_) | with_reducible exact H | (rw [hy165]; exact H) | exact H
 have Ny165 := Op.k hy165
 clear hy165
 by_cases c2 : y165.length + l0_1.length < 17592186044416
 ·rw [if_pos c2] at H
  have LMc2 := Op.k c2
  clear c2
  obtain ⟨y168, hy168⟩ : ∃ y_ : List Int, y_ = (y165 ++ l0_1) := ⟨_, rfl⟩
  replace H : (spec_l11Own.l0 k l0_0 (l0_0.length : Int) 0 ([] : List (S65)) y168) = some (r1, r2) := by first | (rw [hy168]; with_reducible exact H) | (have H2_ := (Option.bind_some _ _).symm.trans H; rw [hy168]; with_reducible exact H2_) | (have H2_ := (Option.bind_some _ _).symm.trans H; with_reducible exact H2_) | with_reducible exact H | (rw [hy168]; exact H) | exact H
  have Ny168 := Op.k hy168
  clear hy168
  have H' := Op.k H
  clear H
  go_enter Try.func65, Try.ntmps65
  go_wp2_with (first | ((with_reducible refine gate_dst (N := 1) rfl ?_); refine box_event ?hg (N := 1) ?hd (cs := #[.slice A0_0 l0_0.length c0_0, .slice A0_1 l0_1.length c0_1]) (t := 25) ?hr ?_; (case hd => rfl); (case hg => rfl); (case hr => first | (go_simp; done) | (go_simp; rfl)); intro gb163 hg w3 hbox hb; have BK163 := Op.k (hbox); have GW163 := Op.k ((Op.nz hg (Op.ht HB.out) : w.heap.size ≤ gb163)); have GE163 := Op.k ((Op.nz hg (Op.ht HB.out) : w.heap.size ≤ gb163)); replace HB := Op.k (Op.a5 (Op.ht HB.out) hb); clear hb hbox hg) | ((with_reducible refine gate_dst (N := 2) rfl ?_); refine box_event ?hg (N := 2) ?hd (cs := #[.slice none 0 0, .slice none 0 0]) (t := 25) ?hr ?_; (case hd => rfl); (case hg => rfl); (case hr => first | (go_simp; done) | (go_simp; rfl)); intro gb164 hg w4 hbox hb; have BK164 := Op.k (hbox); have GW164 := Op.k ((Op.nz hg (Op.ht HB.out) : w.heap.size ≤ gb164)); have GE164 := Op.k ((Op.nz hg (Op.ht HB.out) : w.heap.size ≤ gb164)); replace HB := Op.k (Op.a5 (Op.ht HB.out) hb); have NB163_164 := Op.k ((Op.nl hg (Op.bt BK163.out) : gb163 ≠ gb164)); have NB164_163 := Op.k ((Op.ng hg (Op.bt BK163.out) : gb164 ≠ gb163)); replace BK163 := Op.k (Op.b4 (Op.bt BK163.out) hb); clear hb hbox hg) | ((with_reducible refine gate_dst (N := 6) rfl ?_); refine Kd.R_lit (Kd.int .i64) _ 3 ?hg (N := 6) ?hd (xs := ([] : List Int)) (inner := []) (ok := fun _ => True) (okp := fun _ => True) ?hr ?hp (fun _ hk => hk) trivial (Below.refl _ _) (Nat.le_refl _) (by simp) ?_; (case hd => rfl); (case hg => rfl); (case hr => first | (go_simp; done) | (go_simp; rfl)); (case hp => exact (Reps.none _ _)); intro v166 w5 ho6 hb hg_ hnew_; clear hg_ hnew_; (first | rw [← Ny165.out] at ho6 | (simp only [Int.reduceToNat] at ho6; rw [← Ny165.out] at ho6)); have HO167 := Op.k (Kd.R_lower ho6 (Op.a6 (Op.ht HB.out))); replace BK163 := Op.k (Op.b4 (Op.bt BK163.out) hb); replace BK164 := Op.k (Op.b4 (Op.bt BK164.out) hb); replace HB := Op.k (Op.a5 (Op.ht HB.out) hb); clear hb ho6; have hnb7 := NB163_164.out; have hnc7 := NB164_163.out; have hcz8_0 := Op.c0 BK163.out; have hcz8_1 := Op.c1 BK163.out; have hfz8_0 := Op.bf BK163.out 0; have hfz8_1 := Op.bf BK163.out 1) | ((with_reducible refine gate_builtin (b := .append) (xs := #[.tmp 6, .tmp 8]) rfl ?_); at_builtin; refine Kd.R_append_rows (Kd.int .i64) (w0 := w) w.heap.size rfl (.tmp 6) (.tmp 8) 23 3 (.int .i64 0) 8 rfl Try.underlying23 info3 rfl (by decide) (by omega) v166 y165 l0_1 _ _ _ (fun _ => True) (fun _ => False) rfl rfl ?aO ?aR (fun _ _ h => h) (fun _ h => h.elim) ?aF ?aB ?aS ?aL ?_; (case aR => exact Op.ct (Kd.C_below HR0_1.out HB.out)); (case aB => exact (Op.ht HB.out)); (case aF => exact (fun _ _ => trivial)); (case aO => exact (Op.rt HO167.out)); (case aS => exact (Op.a6 (Op.ht HB.out))); (case aL => have := LMc2.out; omega); intro v169 w9 ho hb hg hat; rw [← Ny168.out] at ho; have n0_ := Op.k (blk_grown (Op.bt BK163.out) hg (Kd.R_ne HO167.out BK163.out (by decide))); have n1_ := Op.k (blk_grown (Op.bt BK164.out) hg (Kd.R_ne HO167.out BK164.out (by decide))); have n2_ := Op.k (hb); have n3_ := Op.k (ho); clear BK163; clear BK164; clear HB; clear HO167; have BK163 := n0_; have BK164 := n1_; have HB := n2_; have HO170 := n3_; clear n0_ n1_ n2_ n3_; clear ho hb hg hat; obtain ⟨Ao10, co10, eo10⟩ := Kd.R_slice HO170.out; subst eo10) | ((with_reducible refine gate_dst (N := 3) rfl ?_); refine box_event ?hg (N := 3) ?hd (cs := #[.slice none 0 0, .slice none 0 0]) (t := 25) ?hr ?_; (case hd => rfl); (case hg => rfl); (case hr => first | (go_simp; done) | (go_simp; rfl)); intro gb171 hg w11 hbox hb; replace HO170 := Op.k (Kd.R_below (Op.rt HO170.out) hb); have BK171 := Op.k (hbox); have GW171 := Op.k ((Op.nz hg (Op.ht HB.out) : w.heap.size ≤ gb171)); have GE171 := Op.k ((Op.nz hg (Op.ht HB.out) : w.heap.size ≤ gb171)); replace HB := Op.k (Op.a5 (Op.ht HB.out) hb); have NB163_171 := Op.k ((Op.nl hg (Op.bt BK163.out) : gb163 ≠ gb171)); have NB171_163 := Op.k ((Op.ng hg (Op.bt BK163.out) : gb171 ≠ gb163)); replace BK163 := Op.k (Op.b4 (Op.bt BK163.out) hb); have NB164_171 := Op.k ((Op.nl hg (Op.bt BK164.out) : gb164 ≠ gb171)); have NB171_164 := Op.k ((Op.ng hg (Op.bt BK164.out) : gb171 ≠ gb164)); replace BK164 := Op.k (Op.b4 (Op.bt BK164.out) hb); clear hb hbox hg; have hnb12 := NB171_163.out; have hnc12 := NB163_171.out; have hnb13 := NB171_164.out; have hnc13 := NB164_171.out; have hcz14_0 := Op.c0 BK171.out; have hcz14_1 := Op.c1 BK171.out; have hfz14_0 := Op.bf BK171.out 0; have hfz14_1 := Op.bf BK171.out 1; have hcz15_0 := Op.c0 BK163.out; have hcz15_1 := Op.c1 BK163.out; have hfz15_0 := Op.bf BK163.out 0; have hfz15_1 := Op.bf BK163.out 1))
  go_loopg [14] k (fun kq v14 w' => ∃ (x14_1 : Int) (x172000_1 : List (S65)) (u172000 : Value), v14 = .int .i64 x14_1 ∧ Aside0 (spec_l11Own.l0 kq l0_0 (l0_0.length : Int) x14_1 x172000_1 y168 = some (r1, r2)) ∧ Aside0 (kq ≤ k) ∧ Aside0 (Kd.S k65 65 w' w.heap.size (fun k_ => some k_ ≠ ((.slice Ao10 y168.length co10) : Value).ownBlock) u172000 x172000_1) ∧ Aside0 (Kd.R (Kd.int .i64) 3 w' w.heap.size (fun _ => True) (.slice Ao10 y168.length co10) y168) ∧ Aside0 (w'.heap[gb163]? = some (.cells #[(.slice A0_0 l0_0.length c0_0), (.slice A0_1 l0_1.length c0_1)] 25 (0, 0))) ∧ Aside0 (w'.heap[gb164]? = some (.cells #[(.slice none 0 0), (.slice none 0 0)] 25 (0, 0))) ∧ Aside0 (w'.heap[gb171]? = some (.cells #[u172000, (.slice Ao10 y168.length co10)] 25 (0, 0))) ∧ Aside0 (Below w.heap.size w w'))
  case atStart => exact ⟨(0), (([] : List (S65))), (.slice none 0 0), (by first | rfl | (simp; done) | (simp [*]; done)), H', ⟨Nat.le_refl _⟩, ⟨by first | exact Kd.S_nil _ _ _ _ _ | exact Kd.N_nil _ _ _ _ _ | exact Kd.V_nil _ _ _ _ _ | exact Kd.Q_nil _ _ _ _ _ | exact Kd.R_nil _ _ _ _ _⟩, ⟨Kd.R_mono (Op.rf HO170.out BK171.out) (fun _ hk => trivial)⟩, ⟨Op.bt BK163.out⟩, ⟨Op.bt BK164.out⟩, ⟨Op.bv BK171.out⟩, ⟨Op.ht HB.out⟩⟩
  case round =>
   clear H'
   try clear c1
   try clear c2
   try clear p2
   try clear c6
   try clear c7
   try clear c12
   try clear c13
   try clear hcz14_0
   try clear hcz14_1
   try clear hcz15_0
   try clear hcz15_1
   try clear hcz8_0
   try clear hcz8_1
   try clear hfz14_0
   try clear hfz14_1
   try clear hfz15_0
   try clear hfz15_1
   try clear hfz8_0
   try clear hfz8_1
   obtain ⟨x14_1, x172000_1, u172000, rfl, HA, HK1, HO_172000, HO_172001, BK163, BK164, BK171, HB⟩ := hrel
   cases gk with
   | zero => exact absurd HA.out (by simp [spec_l11Own.l0])
   | succ k1 =>
    have H := HA.out
    clear HA
    simp only [spec_l11Own.l0] at H
    by_cases c16 : x14_1 < (l0_0.length : Int)
    ·rw [if_pos c16] at H
     have c16b0 : decide (x14_1 < (l0_0.length : Int)) = true := decide_eq_true c16
     clear c16
     by_cases c17 : 0 ≤ x14_1
     ·rw [if_pos c17] at H
      have c17b0 : decide (0 ≤ x14_1) = true := decide_eq_true c17
      clear c17
      by_cases c18 : x14_1 < (l0_0.length : Int)
      ·rw [if_pos c18] at H
       have c18b0 : decide (x14_1 < (l0_0.length : Int)) = true := decide_eq_true c18
       clear c18
       obtain ⟨y174, hy174⟩ : ∃ y_ : List Int, y_ = (([] : List Int)) := ⟨_, rfl⟩
       replace H : (if y174.length + ((rd_T65 l0_0 x14_1).f0).length < 17592186044416 then (if x172000_1.length < 4398046511104 then (spec_l11Own.l0 k1 l0_0 (l0_0.length : Int) (wrap64 (x14_1 + 1)) (x172000_1 ++ [(⟨(y174 ++ ((rd_T65 l0_0 x14_1).f0)), (rd_T65 l0_0 x14_1).f1⟩ : S65)]) y168) else (none)) else (none)) = some (r1, r2) := by first | (rw [hy174]; with_reducible exact H) | (have H2_ := (Option.bind_some _ _).symm.trans H; rw [hy174]; with_reducible exact H2_) | (have H2_ := (Option.bind_some _ _).symm.trans H; with_reducible exact H2_) | with_reducible exact H | (rw [hy174]; exact H) | exact H
       have Ny174 := Op.k hy174
       clear hy174
       by_cases c19 : y174.length + ((rd_T65 l0_0 x14_1).f0).length < 17592186044416
       ·rw [if_pos c19] at H
        have LMc19 := Op.k c19
        clear c19
        obtain ⟨y177, hy177⟩ : ∃ y_ : List Int, y_ = (y174 ++ ((rd_T65 l0_0 x14_1).f0)) := ⟨_, rfl⟩
        replace H : (if x172000_1.length < 4398046511104 then (spec_l11Own.l0 k1 l0_0 (l0_0.length : Int) (wrap64 (x14_1 + 1)) (x172000_1 ++ [(⟨y177, (rd_T65 l0_0 x14_1).f1⟩ : S65)]) y168) else (none)) = some (r1, r2) := by first | (rw [hy177]; with_reducible exact H) | (have H2_ := (Option.bind_some _ _).symm.trans H; rw [hy177]; with_reducible exact H2_) | (have H2_ := (Option.bind_some _ _).symm.trans H; with_reducible exact H2_) | with_reducible exact H | (rw [hy177]; exact H) | exact H
        have Ny177 := Op.k hy177
        clear hy177
        by_cases c20 : x172000_1.length < 4398046511104
        ·rw [if_pos c20] at H
         have LMc20 := Op.k c20
         clear c20
         obtain ⟨y180, hy180⟩ : ∃ y_ : List (S65), y_ = (x172000_1 ++ [(⟨y177, (rd_T65 l0_0 x14_1).f1⟩ : S65)]) := ⟨_, rfl⟩
         replace H : (spec_l11Own.l0 k1 l0_0 (l0_0.length : Int) (wrap64 (x14_1 + 1)) y180 y168) = some (r1, r2) := by first | (rw [hy180]; with_reducible exact H) | (have H2_ := (Option.bind_some _ _).symm.trans H; rw [hy180]; with_reducible exact H2_) | (have H2_ := (Option.bind_some _ _).symm.trans H; with_reducible exact H2_) | with_reducible exact H | (rw [hy180]; exact H) | exact H
         have Ny180 := Op.k hy180
         clear hy180
         have H' := Op.k H
         clear H
         have p172 : 0 ≤ (x14_1 : Int) := Op.dt
         have q172 : x14_1 < (l0_0.length : Int) := Op.dt
         obtain ⟨ad172, A172_0, c172_0, e172, hx172_0, hx172_1, hl172_0, hi172_0⟩ := at_T65 HR0_0.out x14_1 p172 q172
         cases e172
         replace hx172_0 := (HB.out.cell (World.block_lt_of_cell? w _ hx172_0)).trans hx172_0
         replace hx172_1 := (HB.out.cell (World.block_lt_of_cell? w _ hx172_1)).trans hx172_1
         have HR172_0 := Op.k hi172_0
         have HC172_0 := Op.k hl172_0
         clear hi172_0 hl172_0
         replace p172 := eq_true p172
         replace q172 := eq_true q172
         go_wp2_with (first | ((with_reducible refine gate_dst (N := 5) rfl ?_); refine box_event ?hg (N := 5) ?hd (cs := #[.slice none 0 0, .bool false]) (t := 65) ?hr ?_; (case hd => rfl); (case hg => rfl); (case hr => first | (go_simp; done) | (go_simp; rfl)); intro gb173 hg w21 hbox hb; replace HO_172000 := Op.k (Kd.S_below (Kd.S_elderB (Op.st HO_172000.out) gb173 (Nat.le_of_eq hg.symm)) hb); replace HO_172001 := Op.k (Kd.R_below (Op.rt HO_172001.out) hb); have BK173 := Op.k (hbox); have GW173 := Op.k ((Op.nz hg (Op.ht HB.out) : w.heap.size ≤ gb173)); have GE173 := Op.k ((Op.nz hg (Op.ht HB.out) : w.heap.size ≤ gb173)); replace HB := Op.k (Op.a5 (Op.ht HB.out) hb); have NB163_173 := Op.k ((by rw [hg]; exact Nat.ne_of_lt (blk_lt (Op.bt BK163.out)) : gb163 ≠ gb173)); have NB173_163 := Op.k ((by rw [hg]; exact Nat.ne_of_gt (blk_lt (Op.bt BK163.out)) : gb173 ≠ gb163)); replace BK163 := Op.k (Op.b4 (Op.bt BK163.out) hb); have NB164_173 := Op.k ((Op.nl hg (Op.bt BK164.out) : gb164 ≠ gb173)); have NB173_164 := Op.k ((Op.ng hg (Op.bt BK164.out) : gb173 ≠ gb164)); replace BK164 := Op.k (Op.b4 (Op.bt BK164.out) hb); have NB171_173 := Op.k ((Op.nl hg (Op.bt BK171.out) : gb171 ≠ gb173)); have NB173_171 := Op.k ((Op.ng hg (Op.bt BK171.out) : gb173 ≠ gb171)); replace BK171 := Op.k (Op.b4 (Op.bt BK171.out) hb); clear hb hbox hg; have hnb22 := NB173_163.out; have hnc22 := NB163_173.out; have hnb23 := NB173_164.out; have hnc23 := NB164_173.out; have hnb24 := NB173_171.out; have hnc24 := NB171_173.out; have hcz25_0 := Op.c0 BK173.out; have hcz25_1 := Op.c1 BK173.out; have hfz25_0 := Op.bf BK173.out 0; have hfz25_1 := Op.bf BK173.out 1) | ((with_reducible refine gate_dst (N := 18) rfl ?_); refine Kd.R_lit (Kd.int .i64) _ 3 ?hg (N := 18) ?hd (xs := ([] : List Int)) (inner := []) (ok := fun _ => True) (okp := fun _ => True) ?hr ?hp (fun _ hk => hk) trivial (Below.refl _ _) (Nat.le_refl _) (by simp) ?_; (case hd => rfl); (case hg => rfl); (case hr => first | (go_simp; done) | (go_simp; rfl)); (case hp => exact (Reps.none _ _)); intro v175 w26 ho27 hb hg_ hnew_; clear hg_ hnew_; (first | rw [← Ny174.out] at ho27 | (simp only [Int.reduceToNat] at ho27; rw [← Ny174.out] at ho27)); replace HO_172000 := Op.k (Kd.S_elder' (by (with_reducible repeat (first | apply Kd.S_alloc | apply Kd.S_drewN | apply Kd.S_drew)); exact (Kd.S_mono (Kd.S_far (p := ⟨gb173, 1, none⟩) (Kd.S_far (p := ⟨gb173, 0, none⟩) (Kd.S_mono HO_172000.out (fun k_ hk => (⟨hk, hk.2⟩ : _ ∧ k_ ≠ gb173))) (fun _ hk => hk.2) (.slice A172_0 ((rd_T65 l0_0 x14_1).f0).length c172_0)) (fun _ hk => hk.2) (.bool ((rd_T65 l0_0 x14_1).f1))) (fun _ h_ => h_.1))) (Kd.R_base ho27) hb); have HO176 := Op.k (Kd.R_lower (Kd.R_new' ho27 (Kd.R_lt (Op.rf HO_172001.out BK173.out))) (Op.a6 (Op.ht HB.out))); replace HO_172001 := Op.k (Kd.R_elder' (Op.rf HO_172001.out BK173.out) (Kd.R_base ho27) hb); replace BK163 := Op.k (Op.b4 (Op.bt BK163.out) hb); replace BK164 := Op.k (Op.b4 (Op.bt BK164.out) hb); replace BK171 := Op.k (Op.b4 (Op.bt BK171.out) hb); replace BK173 := Op.k (Op.b4 (g := gb173) (o := .cells #[.slice A172_0 ((rd_T65 l0_0 x14_1).f0).length c172_0, .bool ((rd_T65 l0_0 x14_1).f1)] 65 (0, 0)) (Op.bv BK173.out) hb); replace HB := Op.k (Op.a5 (Op.ht HB.out) hb); clear hb ho27; have hcz28_0 : w26.cell? ⟨gb173, 0, none⟩ = some (.slice A172_0 ((rd_T65 l0_0 x14_1).f0).length c172_0) := (blk_cell BK173.out 0).trans rfl; have hcz28_1 : w26.cell? ⟨gb173, 1, none⟩ = some (.bool ((rd_T65 l0_0 x14_1).f1)) := (blk_cell BK173.out 1).trans rfl; have hfz28_0 := Op.bf BK173.out 0; have hfz28_1 := Op.bf BK173.out 1) | ((with_reducible refine gate_builtin (b := .append) (xs := #[.tmp 18, .tmp 20]) rfl ?_); at_builtin; refine Kd.R_append_rows (Kd.int .i64) (w0 := w) w.heap.size rfl (.tmp 18) (.tmp 20) 23 3 (.int .i64 0) 8 rfl Try.underlying23 info3 rfl (by decide) (by omega) v175 y174 ((rd_T65 l0_0 x14_1).f0) _ _ _ (fun k_ => some k_ ≠ (.slice Ao10 y168.length co10 : Value).ownBlock) (fun _ => False) rfl rfl ?aO ?aR (fun _ _ h => h) (fun _ h => h.elim) ?aF ?aB ?aS ?aL ?_; (case aR => exact Op.ct (Kd.C_below HR172_0.out HB.out)); (case aB => exact (Op.ht HB.out)); (case aF => exact (fun k_ hk => Kd.fresh' (Kd.R_lt (Op.rt HO_172001.out)) k_ hk)); (case aO => exact (Kd.R_mono (Op.rt HO176.out) (fun _ hk => hk.2))); (case aS => exact (Op.a6 (Op.ht HB.out))); (case aL => have := LMc19.out; omega); intro v178 w29 ho hb hg hat; rw [← Ny177.out] at ho; have n0_ := Op.k (Kd.S_after (ok := (fun k_ => some k_ ≠ (.slice Ao10 y168.length co10 : Value).ownBlock ∧ k_ ≠ gb173)) (Op.st HO_172000.out) hg hat); have n1_ := Op.k (Kd.R_after (ok := (fun _ => True)) (Op.rt HO_172001.out) hg hat); have n2_ := Op.k (blk_grown (Op.bt BK163.out) hg (Kd.R_ne HO176.out BK163.out (by decide))); have n3_ := Op.k (blk_grown (Op.bt BK164.out) hg (Kd.R_ne HO176.out BK164.out (by decide))); have n4_ := Op.k (blk_grown (Op.bt BK171.out) hg (Kd.R_ne HO176.out BK171.out (by decide))); have n5_ := Op.k (blk_grown (Op.bt BK173.out) hg (Kd.R_ne HO176.out BK173.out (by decide))); have n6_ := Op.k (hb); have n7_ := Op.k (ho); clear HO_172000; clear HO_172001; clear BK163; clear BK164; clear BK171; clear BK173; clear HB; clear HO176; have HO_172000 := n0_; have HO_172001 := n1_; have BK163 := n2_; have BK164 := n3_; have BK171 := n4_; have BK173 := n5_; have HB := n6_; have HO179 := n7_; clear n0_ n1_ n2_ n3_ n4_ n5_ n6_ n7_; clear ho hb hg hat; obtain ⟨Ao30, co30, eo30⟩ := Kd.R_slice HO179.out; subst eo30; have hcz31_0 : w29.cell? ⟨gb173, 0, none⟩ = some (.slice A172_0 ((rd_T65 l0_0 x14_1).f0).length c172_0) := (blk_cell BK173.out 0).trans rfl; have hcz31_1 : w29.cell? ⟨gb173, 1, none⟩ = some (.bool ((rd_T65 l0_0 x14_1).f1)) := (blk_cell BK173.out 1).trans rfl; have hfz31_0 := Op.bf BK173.out 0; have hfz31_1 := Op.bf BK173.out 1) | ((with_reducible refine gate_store (t := 23) (p := 22) rfl ?_); refine store_event (t := 23) (p := 22) (v := ?vo_w32) (w1 := (w29.setCell ⟨gb173, 0, none⟩ (.slice Ao30 y177.length co30))) ?hg ?ho ?hn ?hr ?_; (case ho => rfl); (case hg => rfl); (case hn => rfl); (case hr => first | (go_simp; done) | (go_simp; rfl)); intro w32 hw; have n0_ : Aside0 (Kd.S k65 65 w32 w.heap.size (fun k_ => some k_ ≠ (.slice Ao10 y168.length co10 : Value).ownBlock ∧ some k_ ≠ (.slice Ao30 y177.length co30 : Value).ownBlock ∧ k_ ≠ gb173) u172000 x172000_1) := ⟨(by rw [hw]; exact (by (with_reducible repeat (first | apply Kd.S_alloc | apply Kd.S_drewN | apply Kd.S_drew)); exact Kd.S_mono (Kd.S_far (p := ⟨gb173, 0, none⟩) (Kd.S_mono HO_172000.out (fun k_ hk => (⟨hk, hk.1.2⟩ : _ ∧ k_ ≠ gb173))) (fun _ hk => hk.2) (.slice Ao30 y177.length co30)) (fun _ hk => ⟨hk.1.1.1, ⟨hk.1.2, hk.1.1.2⟩⟩)))⟩; have n1_ : Aside0 (Kd.R (Kd.int .i64) 3 w32 w.heap.size (fun k_ => some k_ ≠ (.slice Ao30 y177.length co30 : Value).ownBlock) (.slice Ao10 y168.length co10) y168) := ⟨(by rw [hw]; exact (Kd.R_mono (Op.rf HO_172001.out BK173.out) (fun _ hk => hk.2)))⟩; have n2_ : Aside0 (Kd.R (Kd.int .i64) 3 w32 w.heap.size (fun k_ => some k_ ≠ (.slice Ao10 y168.length co10 : Value).ownBlock) (.slice Ao30 y177.length co30) y177) := ⟨(by rw [hw]; exact (Kd.R_mono (Op.rf HO179.out BK173.out) (fun _ hk => hk)))⟩; have n3_ : Aside0 (w32.heap[gb163]? = some (.cells #[.slice (some ad172) l0_0.length c0_0, .slice A0_1 l0_1.length c0_1] 25 (0, 0))) := ⟨(by rw [hw]; exact (Op.bt BK163.out))⟩; have n4_ : Aside0 (w32.heap[gb164]? = some (.cells #[.slice none 0 0, .slice none 0 0] 25 (0, 0))) := ⟨(by rw [hw]; exact (Op.bt BK164.out))⟩; have n5_ : Aside0 (w32.heap[gb171]? = some (.cells #[u172000, .slice Ao10 y168.length co10] 25 (0, 0))) := ⟨(by rw [hw]; exact (Op.bt BK171.out))⟩; have n6_ : Aside0 (w32.heap[gb173]? = some (.cells #[.slice Ao30 y177.length co30, .bool ((rd_T65 l0_0 x14_1).f1)] 65 (0, 0))) := ⟨(by rw [hw]; exact (Op.bv BK173.out))⟩; have n7_ : Aside0 (Below w.heap.size w w32) := ⟨(by rw [hw]; exact (Op.ht HB.out))⟩; clear hw; clear HO_172000; clear HO_172001; clear HO179; clear BK163; clear BK164; clear BK171; clear BK173; clear HB; have HO_172000 := n0_; have HO_172001 := n1_; have HO179 := n2_; have BK163 := n3_; have BK164 := n4_; have BK171 := n5_; have BK173 := n6_; have HB := n7_; clear n0_ n1_ n2_ n3_ n4_ n5_ n6_ n7_; have hnb33 := NB171_163.out; have hnc33 := NB163_171.out; have hnb34 := NB171_164.out; have hnc34 := NB164_171.out; have hcz35_0 := Op.c0 BK171.out; have hcz35_1 := Op.c1 BK171.out; have hfz35_0 := Op.bf BK171.out 0; have hfz35_1 := Op.bf BK171.out 1; have hcz36_0 := Op.c0 BK173.out; have hcz36_1 : w32.cell? ⟨gb173, 1, none⟩ = some (.bool ((rd_T65 l0_0 x14_1).f1)) := (blk_cell BK173.out 1).trans rfl; have hfz36_0 := Op.bf BK173.out 0; have hfz36_1 := Op.bf BK173.out 1) | ((with_reducible refine gate_builtin (b := .append) (xs := #[.tmp 24, .tmp 26]) rfl ?_); at_builtin; refine Kd.S_append k65 (w0 := w) w.heap.size rfl (.tmp 24) (.tmp 26) 22 65 (.agg #[(.slice none 0 0), (.bool false)]) 32 rfl Try.underlying22 info65 rfl (by decide) (by omega) u172000 x172000_1 (⟨y177, (rd_T65 l0_0 x14_1).f1⟩ : S65) [.slice Ao30 y177.length co30, .bool ((rd_T65 l0_0 x14_1).f1)] (fun k_ => some k_ ≠ (.slice Ao10 y168.length co10 : Value).ownBlock ∧ k_ ≠ gb173) (fun k_ => some k_ = (.slice Ao30 y177.length co30 : Value).ownBlock) rfl rfl ?aP (fun k_ hk_ => ((Kd.R_mono (ok' := fun k_ => ((fun k_ => some k_ ≠ (.slice Ao10 y168.length co10 : Value).ownBlock ∧ k_ ≠ gb173)) k_ ∧ some k_ ≠ (u172000 : Value).ownBlock) (Kd.R_types (Kd.R_apart' (HO179.out) (Kd.S_typed HO_172000.out) (by decide)) BK173.out (by decide)) (fun k_ hk => ⟨⟨hk.1.1, hk.2⟩, hk.1.2⟩))).1 k_ hk_.symm) ?aF ?aO ?aB ?aS ?aL ?_; (case aP => exact k65_mkM _ _ _ (⟨y177, (rd_T65 l0_0 x14_1).f1⟩ : S65) (Kd.R_mono (Kd.R_tight rfl (Kd.R_mono (ok' := fun k_ => ((fun k_ => some k_ ≠ (.slice Ao10 y168.length co10 : Value).ownBlock ∧ k_ ≠ gb173)) k_ ∧ some k_ ≠ (u172000 : Value).ownBlock) (Kd.R_types (Kd.R_apart' (HO179.out) (Kd.S_typed HO_172000.out) (by decide)) BK173.out (by decide)) (fun k_ hk => ⟨⟨hk.1.1, hk.2⟩, hk.1.2⟩))) (fun _ h_ => h_))); (case aB => exact (Op.ht HB.out)); (case aF => exact (fun k_ hk => ⟨Kd.fresh' (Kd.R_lt (Op.rt HO_172001.out)) k_ hk, Kd.freshB (Op.bt BK173.out) k_ hk⟩)); (case aO => exact (Kd.S_mono (Op.st HO_172000.out) (fun k_ hk => ⟨⟨hk.1, hk.2.2⟩, fun e_ => hk.2.1 e_⟩))); (case aS => exact (Op.a6 (Op.ht HB.out))); (case aL => have := LMc20.out; omega); intro v181 w37 ho hb hg hat; rw [← Ny180.out] at ho; have n0_ := Op.k (Kd.R_over' (Op.rt HO_172001.out) (Kd.S_typed (Op.st HO_172000.out)) (by decide) hg); have n1_ := Op.k (blk_grown (Op.bt BK163.out) hg (Kd.S_ne HO_172000.out BK163.out (by decide))); have n2_ := Op.k (blk_grown (Op.bt BK164.out) hg (Kd.S_ne HO_172000.out BK164.out (by decide))); have n3_ := Op.k (blk_grown (Op.bt BK171.out) hg (Kd.S_ne HO_172000.out BK171.out (by decide))); have n4_ := Op.k (blk_grown (Op.bt BK173.out) hg (Kd.S_away HO_172000.out (fun _ hk => hk.2.2))); have n5_ := Op.k (hb); have n6_ := Op.k (ho); clear HO_172001; clear BK163; clear BK164; clear BK171; clear BK173; clear HB; clear HO_172000; clear HO179; have HO_172001 := n0_; have BK163 := n1_; have BK164 := n2_; have BK171 := n3_; have BK173 := n4_; have HB := n5_; have HO182 := n6_; clear n0_ n1_ n2_ n3_ n4_ n5_ n6_; clear ho hb hg hat; obtain ⟨Ao38, co38, eo38⟩ := Kd.S_slice HO182.out; subst eo38; have hcz39_0 := Op.c0 BK171.out; have hcz39_1 := Op.c1 BK171.out; have hfz39_0 := Op.bf BK171.out 0; have hfz39_1 := Op.bf BK171.out 1))
         go_roundg k1
         case measure => have := HK1.out; omega
         case rel => exact ⟨(wrap64 (x14_1 + 1)), (y180), (.slice Ao38 y180.length co38), (by first | rfl | (simp; done) | (simp [*]; done)), H', ⟨by have := HK1.out; omega⟩, ⟨Kd.S_mono (Op.sf HO182.out BK171.out) (fun _ hk => hk.1)⟩, ⟨Kd.R_mono (Op.rf HO_172001.out BK171.out) (fun _ hk => trivial)⟩, ⟨Op.bt BK163.out⟩, ⟨Op.bt BK164.out⟩, ⟨Op.bv BK171.out⟩, ⟨Op.ht HB.out⟩⟩
        ·rw [if_neg c20] at H
         exact absurd H (by simp)
       ·rw [if_neg c19] at H
        exact absurd H (by simp)
      ·rw [if_neg c18] at H
       exact absurd H (by simp)
     ·rw [if_neg c17] at H
      exact absurd H (by simp)
    ·rw [if_neg c16] at H
     have c16b0 : decide (x14_1 < (l0_0.length : Int)) = false := decide_eq_false c16
     clear c16
     simp only [Option.some.injEq, Prod.mk.injEq] at H
     obtain ⟨rfl, rfl⟩ := H
     have hnb40 := NB171_163.out
     have hnc40 := NB163_171.out
     have hnb41 := NB171_164.out
     have hnc41 := NB164_171.out
     have hcz42_0 := Op.c0 BK171.out
     have hcz42_1 := Op.c1 BK171.out
     have hfz42_0 := Op.bf BK171.out 0
     have hfz42_1 := Op.bf BK171.out 1
     obtain ⟨Ao43, co43, eo43⟩ := Kd.S_slice HO_172000.out
     subst eo43
     have hnb44 := NB164_163.out
     have hnc44 := NB163_164.out
     have hcz45_0 := Op.c0 BK164.out
     have hcz45_1 := Op.c1 BK164.out
     have hfz45_0 := Op.bf BK164.out 0
     have hfz45_1 := Op.bf BK164.out 1
     go_wp2
     refine bodyPost_ret (results_cell_row rfl _ _ gb164 25 #[.slice Ao43 x172000_1.length co43, .slice Ao10 y168.length co10] (0, 0) _ rfl (Op.bv BK164.out) Try.underlying25 rfl (by kernel_rfl)) rfl ?_
     exact ⟨_, _, by first | rfl | (simp [errW_none, errW_some] <;> rfl) | (simp [*, errW_none, errW_some] <;> rfl), Op.sm (Op.sf HO_172000.out BK164.out), Op.rm (Op.rf HO_172001.out BK164.out), Op.ht HB.out⟩
 ·rw [if_neg c2] at H
  exact absurd H (by simp)

/-! ### spec_CloneOf: function 31 -/
def spec_CloneOf.f (k : Nat) (l0_0 : List (S65)) (l0_1 : List Int) (a1 : Int) : Option ((List (S65)) × List Int × Bool) := (spec_l11There.f k l0_0 l0_1 a1).bind fun t185 => (if t185 = true then (if (l0_1.length : Int) = 40 then (some (([] : List (S65)), ([] : List Int), false)) else ((spec_l11Own.f k l0_0 l0_1).bind fun bt186 => (if 0 ≤ a1 then (if a1 < (bt186.2.length : Int) then (if bt186.2.length < 17592186044416 then (some (bt186.1, (bt186.2 ++ [rd bt186.2 a1]), true)) else (none)) else (none)) else (none)))) else (some (([] : List (S65)), ([] : List Int), false)))
theorem spec_CloneOf.mono : ∀ a0 a1 a2 k, LeO (spec_CloneOf.f k a0 a1 a2) (spec_CloneOf.f (k + 1) a0 a1 a2) := by
 intro a0 a1 a2 k
 unfold spec_CloneOf.f
 repeat' first
   | (with_reducible exact spec_l11Own.mono _ _ _)
   | (with_reducible exact spec_l11There.mono _ _ _ _)
   | (with_reducible exact LeO.refl _)
   | (with_reducible exact LeO.none _)
   | (with_reducible refine LeO.ite ?_ ?_)
   | (with_reducible refine LeO.bind ?_ (fun _ => ?_))
   | exact spec_l11Own.mono _ _ _
   | exact spec_l11There.mono _ _ _ _
   | exact LeO.none _
   | refine LeO.ite ?_ ?_
   | refine LeO.bind ?_ (fun _ => ?_)
set_option maxHeartbeats 8000000 in
set_option maxRecDepth 100000 in
theorem spec_CloneOf.calls (k : Nat) (A0_0 : Option Addr) (c0_0 : Nat) (l0_0 : List (S65)) (A0_1 : Option Addr) (c0_1 : Nat) (l0_1 : List Int) (a1 : Int) (r1 : List (S65)) (r2 : List Int) (r3 : Bool) (w : World) (hr0_0 : Kd.C k65 w A0_0 l0_0.length l0_0) (hc0_0 : l0_0.length ≤ c0_0) (hr0_1 : Kd.C (Kd.int .i64) w A0_1 l0_1.length l0_1) (hc0_1 : l0_1.length ≤ c0_1) (h : spec_CloneOf.f k l0_0 l0_1 a1 = some (r1, r2, r3)) :
  Calls Try.prog 31 #[.agg #[.slice A0_0 l0_0.length c0_0, .slice A0_1 l0_1.length c0_1], .int .i64 a1] w fun e w' => ∃ v0_ v1_ : Value, e = .returned (.tuple #[.agg #[v0_, v1_], .bool r3]) ∧ Kd.S k65 65 w' w.heap.size (fun k_ => some k_ ≠ (v1_ : Value).ownBlock) v0_ r1 ∧ Kd.R (Kd.int .i64) 3 w' w.heap.size (fun _ => True) v1_ r2 ∧ Below w.heap.size w w' := by
 have hu25 := Try.underlying25
 have HR0_0 := Op.k hr0_0
 have HC0_0 := Op.k hc0_0
 clear hr0_0 hc0_0
 have HR0_1 := Op.k hr0_1
 have HC0_1 := Op.k hc0_1
 clear hr0_1 hc0_1
 have HB := Op.k (Below.refl w.heap.size w)
 have H : ((spec_l11There.f k l0_0 l0_1 a1).bind fun t185 => (if t185 = true then (if (l0_1.length : Int) = 40 then (some (([] : List (S65)), ([] : List Int), false)) else ((spec_l11Own.f k l0_0 l0_1).bind fun bt186 => (if 0 ≤ a1 then (if a1 < (bt186.2.length : Int) then (if bt186.2.length < 17592186044416 then (some (bt186.1, (bt186.2 ++ [rd bt186.2 a1]), true)) else (none)) else (none)) else (none)))) else (some (([] : List (S65)), ([] : List Int), false)))) = some (r1, r2, r3) := h
 clear h
 replace H := Option.bind_eq_some_iff.mp H
 obtain ⟨t185, A30, H⟩ := H
 try dsimp only at H
 have A3 := Op.k A30
 clear A30
 by_cases c4 : t185 = true
 ·subst c4
  have H1 : (if (l0_1.length : Int) = 40 then (some (([] : List (S65)), ([] : List Int), false)) else ((spec_l11Own.f k l0_0 l0_1).bind fun bt186 => (if 0 ≤ a1 then (if a1 < (bt186.2.length : Int) then (if bt186.2.length < 17592186044416 then (some (bt186.1, (bt186.2 ++ [rd bt186.2 a1]), true)) else (none)) else (none)) else (none)))) = some (r1, r2, r3) := by rw [if_pos rfl] at H; exact H
  clear H
  have H := H1
  clear H1
  by_cases c5 : (l0_1.length : Int) = 40
  ·rw [if_pos c5] at H
   have c5b0 : ((l0_1.length : Int) == 40) = true := beq_iff_eq.mpr c5
   have c5b1 : ((l0_1.length : Int) != 40) = false := bne_eq_false_iff_eq.mpr c5
   clear c5
   simp only [Option.some.injEq, Prod.mk.injEq] at H
   obtain ⟨rfl, rfl, rfl⟩ := H
   go_enter Try.func31, Try.ntmps31
   go_wp2_with (first | ((with_reducible refine gate_dst (N := 2) rfl ?_); (try (refine gate_guard (by rfl) ?_; dsimp only)); refine box_event ?hg (N := 2) ?hd (cs := #[.slice A0_0 l0_0.length c0_0, .slice A0_1 l0_1.length c0_1]) (t := 25) ?hr ?_; (case hd => rfl); (case hg => rfl); (case hr => first | (go_simp; done) | (go_simp; rfl)); intro gb183 hg w6 hbox hb; have BK183 := Op.k (hbox); have GW183 := Op.k ((Op.nz hg (Op.ht HB.out) : w.heap.size ≤ gb183)); have GE183 := Op.k ((Op.nz hg (Op.ht HB.out) : w.heap.size ≤ gb183)); replace HB := Op.k (Op.a5 (Op.ht HB.out) hb); clear hb hbox hg) | ((with_reducible refine gate_dst (N := 4) rfl ?_); (try (refine gate_guard (by rfl) ?_; dsimp only)); refine box_event ?hg (N := 4) ?hd (cs := #[.slice none 0 0, .slice none 0 0]) (t := 25) ?hr ?_; (case hd => rfl); (case hg => rfl); (case hr => first | (go_simp; done) | (go_simp; rfl)); intro gb184 hg w7 hbox hb; have BK184 := Op.k (hbox); have GW184 := Op.k ((Op.nz hg (Op.ht HB.out) : w.heap.size ≤ gb184)); have GE184 := Op.k ((Op.nz hg (Op.ht HB.out) : w.heap.size ≤ gb184)); replace HB := Op.k (Op.a5 (Op.ht HB.out) hb); have NB183_184 := Op.k ((Op.nl hg (Op.bt BK183.out) : gb183 ≠ gb184)); have NB184_183 := Op.k ((Op.ng hg (Op.bt BK183.out) : gb184 ≠ gb183)); replace BK183 := Op.k (Op.b4 (Op.bt BK183.out) hb); clear hb hbox hg; have hnb8 := NB183_184.out; have hnc8 := NB184_183.out; have hcz9_0 := Op.c0 BK183.out; have hcz9_1 := Op.c1 BK183.out; have hfz9_0 := Op.bf BK183.out 0; have hfz9_1 := Op.bf BK183.out 1) | ((with_reducible refine gate_callee (f := 58) rfl ?_); refine goesL_ (some 10) rfl rfl Try.func58 (by kernel_rfl) rfl #[.agg #[.slice A0_0 l0_0.length c0_0, .slice A0_1 l0_1.length c0_1], .int .i64 a1] rfl (by (try simp only [List.map_toArray, List.map_cons, List.map_nil]); first | done | rfl | (simp only [List.length_drop, List.length_take]; rfl)) ?_; (with_reducible refine (spec_l11There.calls k _ _ l0_0 _ _ l0_1 a1 true _ ?side1 ?side2 ?side3 ?side4 A3.out).mono ?_); (case side1 => exact Op.ct (Kd.C_below HR0_0.out HB.out)); (case side2 => exact HC0_0.out); (case side3 => exact Op.ct (Kd.C_below HR0_1.out HB.out)); (case side4 => exact HC0_1.out); rintro e w10 ⟨rfl, hb⟩; refine ⟨_, rfl, ?_⟩; replace BK183 := Op.k (Op.b4 (Op.bt BK183.out) hb); replace BK184 := Op.k (Op.b4 (Op.bt BK184.out) hb); replace HB := Op.k (Op.a5 (Op.ht HB.out) hb); (try clear hb); (try clear hb2); (try clear hk); (try clear hi); have hcz11_0 := Op.c0 BK183.out; have hcz11_1 := Op.c1 BK183.out; have hfz11_0 := Op.bf BK183.out 0; have hfz11_1 := Op.bf BK183.out 1; have hcz12_0 := Op.c0 BK184.out; have hcz12_1 := Op.c1 BK184.out; have hfz12_0 := Op.bf BK184.out 0; have hfz12_1 := Op.bf BK184.out 1))
   refine bodyPost_ret (results_ct rfl _ _ gb184 25 #[.slice none 0 0, .slice none 0 0] (0, 0) _ rfl (Op.bv BK184.out) Try.underlying25 rfl (by kernel_rfl)) rfl ?_
   exact ⟨_, _, by first | rfl | (simp [errW_none, errW_some] <;> rfl) | (simp [*, errW_none, errW_some] <;> rfl), by first | exact Kd.S_nil _ _ _ _ _ | exact Kd.N_nil _ _ _ _ _ | exact Kd.V_nil _ _ _ _ _ | exact Kd.Q_nil _ _ _ _ _ | exact Kd.R_nil _ _ _ _ _, by first | exact Kd.R_nil _ _ _ _ _ | exact Kd.N_nil _ _ _ _ _ | exact Kd.V_nil _ _ _ _ _ | exact Kd.Q_nil _ _ _ _ _ | exact Kd.S_nil _ _ _ _ _, Op.ht HB.out⟩
  ·rw [if_neg c5] at H
   have c5b0 : ((l0_1.length : Int) == 40) = false := beq_eq_false_iff_ne.mpr c5
   have c5b1 : ((l0_1.length : Int) != 40) = true := bne_iff_ne.mpr c5
   replace H := Option.bind_eq_some_iff.mp H
   obtain ⟨⟨t186, t189⟩, A130, H⟩ := H
   try dsimp only at H
   have A13 := Op.k A130
   clear A130
   by_cases c14 : 0 ≤ a1
   ·rw [if_pos c14] at H
    have c14b0 : decide (0 ≤ a1) = true := decide_eq_true c14
    clear c14
    by_cases c15 : a1 < (t189.length : Int)
    ·rw [if_pos c15] at H
     have c15b0 : decide (a1 < (t189.length : Int)) = true := decide_eq_true c15
     clear c15
     by_cases c16 : t189.length < 17592186044416
     ·rw [if_pos c16] at H
      have LMc16 := Op.k c16
      clear c16
      obtain ⟨y194, hy194⟩ : ∃ y_ : List Int, y_ = (t189 ++ [rd t189 a1]) := ⟨_, rfl⟩
      replace H : (some (t186, y194, true)) = some (r1, r2, r3) := by first | (rw [hy194]; with_reducible exact H) | (have H2_ := (Option.bind_some _ _).symm.trans H; rw [hy194]; with_reducible exact H2_) | (have H2_ := (Option.bind_some _ _).symm.trans H; with_reducible exact H2_) | with_reducible exact H | (rw [hy194]; exact H) | exact H
      have Ny194 := Op.k hy194
      clear hy194
      simp only [Option.some.injEq, Prod.mk.injEq] at H
      obtain ⟨rfl, rfl, rfl⟩ := H
      go_enter Try.func31, Try.ntmps31
      go_wp2_with (first | ((with_reducible refine gate_dst (N := 2) rfl ?_); (try (refine gate_guard (by rfl) ?_; dsimp only)); refine box_event ?hg (N := 2) ?hd (cs := #[.slice A0_0 l0_0.length c0_0, .slice A0_1 l0_1.length c0_1]) (t := 25) ?hr ?_; (case hd => rfl); (case hg => rfl); (case hr => first | (go_simp; done) | (go_simp; rfl)); intro gb183 hg w17 hbox hb; have BK183 := Op.k (hbox); have GW183 := Op.k ((Op.nz hg (Op.ht HB.out) : w.heap.size ≤ gb183)); have GE183 := Op.k ((Op.nz hg (Op.ht HB.out) : w.heap.size ≤ gb183)); replace HB := Op.k (Op.a5 (Op.ht HB.out) hb); clear hb hbox hg) | ((with_reducible refine gate_dst (N := 4) rfl ?_); (try (refine gate_guard (by rfl) ?_; dsimp only)); refine box_event ?hg (N := 4) ?hd (cs := #[.slice none 0 0, .slice none 0 0]) (t := 25) ?hr ?_; (case hd => rfl); (case hg => rfl); (case hr => first | (go_simp; done) | (go_simp; rfl)); intro gb184 hg w18 hbox hb; have BK184 := Op.k (hbox); have GW184 := Op.k ((Op.nz hg (Op.ht HB.out) : w.heap.size ≤ gb184)); have GE184 := Op.k ((Op.nz hg (Op.ht HB.out) : w.heap.size ≤ gb184)); replace HB := Op.k (Op.a5 (Op.ht HB.out) hb); have NB183_184 := Op.k ((Op.nl hg (Op.bt BK183.out) : gb183 ≠ gb184)); have NB184_183 := Op.k ((Op.ng hg (Op.bt BK183.out) : gb184 ≠ gb183)); replace BK183 := Op.k (Op.b4 (Op.bt BK183.out) hb); clear hb hbox hg; have hnb19 := NB183_184.out; have hnc19 := NB184_183.out; have hcz20_0 := Op.c0 BK183.out; have hcz20_1 := Op.c1 BK183.out; have hfz20_0 := Op.bf BK183.out 0; have hfz20_1 := Op.bf BK183.out 1) | ((with_reducible refine gate_callee (f := 58) rfl ?_); refine goesL_ (some 10) rfl rfl Try.func58 (by kernel_rfl) rfl #[.agg #[.slice A0_0 l0_0.length c0_0, .slice A0_1 l0_1.length c0_1], .int .i64 a1] rfl (by (try simp only [List.map_toArray, List.map_cons, List.map_nil]); first | done | rfl | (simp only [List.length_drop, List.length_take]; rfl)) ?_; (with_reducible refine (spec_l11There.calls k _ _ l0_0 _ _ l0_1 a1 true _ ?side1 ?side2 ?side3 ?side4 A3.out).mono ?_); (case side1 => exact Op.ct (Kd.C_below HR0_0.out HB.out)); (case side2 => exact HC0_0.out); (case side3 => exact Op.ct (Kd.C_below HR0_1.out HB.out)); (case side4 => exact HC0_1.out); rintro e w21 ⟨rfl, hb⟩; refine ⟨_, rfl, ?_⟩; replace BK183 := Op.k (Op.b4 (Op.bt BK183.out) hb); replace BK184 := Op.k (Op.b4 (Op.bt BK184.out) hb); replace HB := Op.k (Op.a5 (Op.ht HB.out) hb); (try clear hb); (try clear hb2); (try clear hk); (try clear hi); have hcz22_0 := Op.c0 BK183.out; have hcz22_1 := Op.c1 BK183.out; have hfz22_0 := Op.bf BK183.out 0; have hfz22_1 := Op.bf BK183.out 1) | ((with_reducible refine gate_callee (f := 65) rfl ?_); refine goesL_ (some 20) rfl rfl Try.func65 (by kernel_rfl) rfl #[.agg #[.slice A0_0 l0_0.length c0_0, .slice A0_1 l0_1.length c0_1]] rfl (by (try simp only [List.map_toArray, List.map_cons, List.map_nil]); first | done | rfl | (simp only [List.length_drop, List.length_take]; rfl)) ?_; (with_reducible refine (spec_l11Own.calls k _ _ l0_0 _ _ l0_1 t186 t189 _ ?side1 ?side2 ?side3 ?side4 A13.out).mono ?_); (case side1 => exact Op.ct (Kd.C_below HR0_0.out HB.out)); (case side2 => exact HC0_0.out); (case side3 => exact Op.ct (Kd.C_below HR0_1.out HB.out)); (case side4 => exact HC0_1.out); rintro e w23 ⟨v187, v190, rfl, ho0, ho1, hb⟩; refine ⟨_, rfl, ?_⟩; have HO188 := Op.k (Kd.S_lower ho0 (Op.a6 (Op.ht HB.out))); have HO191 := Op.k (Kd.R_lower ho1 (Op.a6 (Op.ht HB.out))); replace BK183 := Op.k (Op.b4 (Op.bt BK183.out) hb); replace BK184 := Op.k (Op.b4 (Op.bt BK184.out) hb); replace HB := Op.k (Op.a5 (Op.ht HB.out) hb); (try clear hb); (try clear hb2); (try clear hk); (try clear hi); (try clear ho0); (try clear ho1)) | ((with_reducible refine gate_dst (N := 6) rfl ?_); (try (refine gate_guard (by rfl) ?_; dsimp only)); refine box_event ?hg (N := 6) ?hd (cs := #[.slice none 0 0, .slice none 0 0]) (t := 25) ?hr ?_; (case hd => rfl); (case hg => rfl); (case hr => first | (go_simp; done) | (go_simp; rfl)); intro gb192 hg w24 hbox hb; replace HO188 := Op.k (Kd.S_below (Op.st HO188.out) hb); replace HO191 := Op.k (Kd.R_below (Op.rt HO191.out) hb); have BK192 := Op.k (hbox); have GW192 := Op.k ((Op.nz hg (Op.ht HB.out) : w.heap.size ≤ gb192)); have GE192 := Op.k ((Op.nz hg (Op.ht HB.out) : w.heap.size ≤ gb192)); replace HB := Op.k (Op.a5 (Op.ht HB.out) hb); have NB183_192 := Op.k ((Op.nl hg (Op.bt BK183.out) : gb183 ≠ gb192)); have NB192_183 := Op.k ((Op.ng hg (Op.bt BK183.out) : gb192 ≠ gb183)); replace BK183 := Op.k (Op.b4 (Op.bt BK183.out) hb); have NB184_192 := Op.k ((Op.nl hg (Op.bt BK184.out) : gb184 ≠ gb192)); have NB192_184 := Op.k ((Op.ng hg (Op.bt BK184.out) : gb192 ≠ gb184)); replace BK184 := Op.k (Op.b4 (Op.bt BK184.out) hb); clear hb hbox hg; obtain ⟨Ao25, co25, eo25⟩ := Kd.S_slice HO188.out; subst eo25; have hnb26 := NB192_183.out; have hnc26 := NB183_192.out; have hnb27 := NB192_184.out; have hnc27 := NB184_192.out; have hcz28_0 := Op.c0 BK192.out; have hcz28_1 := Op.c1 BK192.out; have hfz28_0 := Op.bf BK192.out 0; have hfz28_1 := Op.bf BK192.out 1; obtain ⟨Ao29, co29, eo29⟩ := Kd.R_slice HO191.out; subst eo29; have p193 : 0 ≤ (a1 : Int) := Op.dt; have q193 : a1 < (t189.length : Int) := Op.dt; obtain ⟨ad193, e193, hx193_0⟩ := Kd.at_int (Kd.R_reads' HO191.out).2.2 a1 p193 q193; cases e193; have hn193_0 : ad193.block ≠ gb192 := Kd.own_blk (Kd.R_ne HO191.out BK192.out (by decide)); have hn193_1 : ad193.block ≠ gb192 := Kd.own_blk (Kd.R_ne HO191.out BK192.out (by decide)); replace hx193_0 := (cell_far (p := ⟨gb192, 0, none⟩) (by first | (rw [add_block]; exact hn193_0) | (show (Addr.add _ _).block ≠ _; rw [add_block]; exact hn193_0) | exact hn193_0) (.slice Ao25 t186.length co25)).trans hx193_0; replace hx193_0 := (cell_far (p := ⟨gb192, 1, none⟩) (by first | (rw [add_block]; exact hn193_1) | (show (Addr.add _ _).block ≠ _; rw [add_block]; exact hn193_1) | exact hn193_1) (.slice (some ad193) t189.length co29)).trans hx193_0; clear hn193_0; clear hn193_1; replace p193 := eq_true p193; replace q193 := eq_true q193) | ((with_reducible refine gate_builtin (b := .append) (xs := #[.tmp 27, .tmp 29]) rfl ?_); (try (refine gate_guard (by rfl) ?_; dsimp only)); at_builtin; refine Kd.R_append (Kd.int .i64) (w0 := w) w.heap.size rfl (.tmp 27) (.tmp 29) 23 3 (.int .i64 0) 8 rfl Try.underlying23 info3 rfl (by decide) (by omega) (.slice (some ad193) t189.length co29) t189 (rd t189 a1) [.int .i64 (rd t189 a1)] (fun _ => True) (fun _ => False) rfl (by first | (go_simp; done) | (go_simp; rfl)) ?aP (fun _ hk => hk.elim) ?aF ?aO ?aB ?aS ?aL ?_; (case aP => exact rfl); (case aB => exact (Op.ht HB.out)); (case aF => exact (fun _ _ => trivial)); (case aO => exact (Kd.R_mono (Op.rf HO191.out BK192.out) (fun _ hk => trivial))); (case aS => exact (Op.a6 (Op.ht HB.out))); (case aL => have := LMc16.out; omega); intro v195 w30 ho hb hg hat; rw [← Ny194.out] at ho; have n0_ := Op.k (blk_grown (Op.bt BK183.out) hg (Kd.R_ne HO191.out BK183.out (by decide))); have n1_ := Op.k (blk_grown (Op.bt BK184.out) hg (Kd.R_ne HO191.out BK184.out (by decide))); have n2_ := Op.k (Kd.S_after (ok := (fun _ => True)) (Kd.S_mono (Op.sf HO188.out BK192.out) (fun _ hk => ⟨trivial, hk⟩)) hg hat); have n3_ := Op.k (blk_grown (g := gb192) (o := .cells #[.slice Ao25 t186.length co25, .slice (some ad193) t189.length co29] 25 (0, 0)) (Op.bv BK192.out) hg (Kd.R_ne HO191.out BK192.out (by decide))); have n4_ := Op.k (hb); have n5_ := Op.k (ho); clear BK183; clear BK184; clear HO188; clear BK192; clear HB; clear HO191; have BK183 := n0_; have BK184 := n1_; have HO188 := n2_; have BK192 := n3_; have HB := n4_; have HO196 := n5_; clear n0_ n1_ n2_ n3_ n4_ n5_; clear ho hb hg hat; obtain ⟨Ao31, co31, eo31⟩ := Kd.R_slice HO196.out; subst eo31; have hcz32_0 := Op.c0 BK192.out; have hcz32_1 := Op.c1 BK192.out; have hfz32_0 := Op.bf BK192.out 0; have hfz32_1 := Op.bf BK192.out 1; have hcz33_0 := Op.c0 BK184.out; have hcz33_1 := Op.c1 BK184.out; have hfz33_0 := Op.bf BK184.out 0; have hfz33_1 := Op.bf BK184.out 1))
      refine bodyPost_ret (results_ct rfl _ _ gb184 25 #[.slice Ao25 t186.length co25, .slice Ao31 y194.length co31] (0, 0) _ rfl (Op.bv BK184.out) Try.underlying25 rfl (by kernel_rfl)) rfl ?_
      exact ⟨_, _, by first | rfl | (simp [errW_none, errW_some] <;> rfl) | (simp [*, errW_none, errW_some] <;> rfl), by (with_reducible repeat (first | apply Kd.S_alloc | apply Kd.S_drewN | apply Kd.S_drew)); exact Kd.S_mono (Kd.S_far (p := ⟨gb184, 1, none⟩) (Kd.S_far (p := ⟨gb184, 0, none⟩) (Kd.S_far (p := ⟨gb192, 1, none⟩) (Kd.S_types (Kd.S_types HO188.out BK192.out (by decide)) BK184.out (by decide)) (fun _ hk => hk.1.2) (.slice Ao31 y194.length co31)) (fun _ hk => hk.2) (.slice Ao25 t186.length co25)) (fun _ hk => hk.2) (.slice Ao31 y194.length co31)) (fun _ hk => hk.1.1.2), by (with_reducible repeat (first | apply Kd.R_alloc | apply Kd.R_drewN | apply Kd.R_drew)); exact Kd.R_mono (Kd.R_far (p := ⟨gb184, 1, none⟩) (Kd.R_far (p := ⟨gb184, 0, none⟩) (Kd.R_far (p := ⟨gb192, 1, none⟩) (Kd.R_types (Kd.R_types HO196.out BK192.out (by decide)) BK184.out (by decide)) (fun _ hk => hk.1.2) (.slice Ao31 y194.length co31)) (fun _ hk => hk.2) (.slice Ao25 t186.length co25)) (fun _ hk => hk.2) (.slice Ao31 y194.length co31)) (fun _ hk => trivial), Op.ht HB.out⟩
     ·rw [if_neg c16] at H
      exact absurd H (by simp)
    ·rw [if_neg c15] at H
     exact absurd H (by simp)
   ·rw [if_neg c14] at H
    exact absurd H (by simp)
 ·replace c4 := Bool.eq_false_iff.mpr c4
  subst c4
  have H1 : (some (([] : List (S65)), ([] : List Int), false)) = some (r1, r2, r3) := by rw [if_neg (show ¬ (false = true) by decide)] at H; exact H
  clear H
  have H := H1
  clear H1
  simp only [Option.some.injEq, Prod.mk.injEq] at H
  obtain ⟨rfl, rfl, rfl⟩ := H
  go_enter Try.func31, Try.ntmps31
  go_wp2_with (first | ((with_reducible refine gate_dst (N := 2) rfl ?_); (try (refine gate_guard (by rfl) ?_; dsimp only)); refine box_event ?hg (N := 2) ?hd (cs := #[.slice A0_0 l0_0.length c0_0, .slice A0_1 l0_1.length c0_1]) (t := 25) ?hr ?_; (case hd => rfl); (case hg => rfl); (case hr => first | (go_simp; done) | (go_simp; rfl)); intro gb183 hg w34 hbox hb; have BK183 := Op.k (hbox); have GW183 := Op.k ((Op.nz hg (Op.ht HB.out) : w.heap.size ≤ gb183)); have GE183 := Op.k ((Op.nz hg (Op.ht HB.out) : w.heap.size ≤ gb183)); replace HB := Op.k (Op.a5 (Op.ht HB.out) hb); clear hb hbox hg) | ((with_reducible refine gate_dst (N := 4) rfl ?_); (try (refine gate_guard (by rfl) ?_; dsimp only)); refine box_event ?hg (N := 4) ?hd (cs := #[.slice none 0 0, .slice none 0 0]) (t := 25) ?hr ?_; (case hd => rfl); (case hg => rfl); (case hr => first | (go_simp; done) | (go_simp; rfl)); intro gb184 hg w35 hbox hb; have BK184 := Op.k (hbox); have GW184 := Op.k ((Op.nz hg (Op.ht HB.out) : w.heap.size ≤ gb184)); have GE184 := Op.k ((Op.nz hg (Op.ht HB.out) : w.heap.size ≤ gb184)); replace HB := Op.k (Op.a5 (Op.ht HB.out) hb); have NB183_184 := Op.k ((Op.nl hg (Op.bt BK183.out) : gb183 ≠ gb184)); have NB184_183 := Op.k ((Op.ng hg (Op.bt BK183.out) : gb184 ≠ gb183)); replace BK183 := Op.k (Op.b4 (Op.bt BK183.out) hb); clear hb hbox hg; have hnb36 := NB183_184.out; have hnc36 := NB184_183.out; have hcz37_0 := Op.c0 BK183.out; have hcz37_1 := Op.c1 BK183.out; have hfz37_0 := Op.bf BK183.out 0; have hfz37_1 := Op.bf BK183.out 1) | ((with_reducible refine gate_callee (f := 58) rfl ?_); refine goesL_ (some 10) rfl rfl Try.func58 (by kernel_rfl) rfl #[.agg #[.slice A0_0 l0_0.length c0_0, .slice A0_1 l0_1.length c0_1], .int .i64 a1] rfl (by (try simp only [List.map_toArray, List.map_cons, List.map_nil]); first | done | rfl | (simp only [List.length_drop, List.length_take]; rfl)) ?_; (with_reducible refine (spec_l11There.calls k _ _ l0_0 _ _ l0_1 a1 false _ ?side1 ?side2 ?side3 ?side4 A3.out).mono ?_); (case side1 => exact Op.ct (Kd.C_below HR0_0.out HB.out)); (case side2 => exact HC0_0.out); (case side3 => exact Op.ct (Kd.C_below HR0_1.out HB.out)); (case side4 => exact HC0_1.out); rintro e w38 ⟨rfl, hb⟩; refine ⟨_, rfl, ?_⟩; replace BK183 := Op.k (Op.b4 (Op.bt BK183.out) hb); replace BK184 := Op.k (Op.b4 (Op.bt BK184.out) hb); replace HB := Op.k (Op.a5 (Op.ht HB.out) hb); (try clear hb); (try clear hb2); (try clear hk); (try clear hi); have hcz39_0 := Op.c0 BK184.out; have hcz39_1 := Op.c1 BK184.out; have hfz39_0 := Op.bf BK184.out 0; have hfz39_1 := Op.bf BK184.out 1))
  refine bodyPost_ret (results_ct rfl _ _ gb184 25 #[.slice none 0 0, .slice none 0 0] (0, 0) _ rfl (Op.bv BK184.out) Try.underlying25 rfl (by kernel_rfl)) rfl ?_
  exact ⟨_, _, by first | rfl | (simp [errW_none, errW_some] <;> rfl) | (simp [*, errW_none, errW_some] <;> rfl), by first | exact Kd.S_nil _ _ _ _ _ | exact Kd.N_nil _ _ _ _ _ | exact Kd.V_nil _ _ _ _ _ | exact Kd.Q_nil _ _ _ _ _ | exact Kd.R_nil _ _ _ _ _, by first | exact Kd.R_nil _ _ _ _ _ | exact Kd.N_nil _ _ _ _ _ | exact Kd.V_nil _ _ _ _ _ | exact Kd.Q_nil _ _ _ _ _ | exact Kd.S_nil _ _ _ _ _, Op.ht HB.out⟩

/-! ### slices_Clone_int_int: function 68 -/
/-- a copy, where it has room -/
def slices_Clone_int_int.f (l0 : List Int) : Option (List Int) := if l0.length ≤ 17592186044416 then some l0 else none
theorem slices_Clone_int_int.calls (A0 : Option Addr) (c0 : Nat) (l0 : List Int) (r : List Int) (w : World) (hr0 : Kd.C (Kd.int .i64) w A0 l0.length l0) (hc0 : l0.length ≤ c0) (h : slices_Clone_int_int.f l0 = some r) :
  Calls Try.prog 68 #[.slice A0 l0.length c0] w fun e w' => ∃ v0_ : Value, e = .returned (v0_) ∧ Kd.R (Kd.int .i64) 3 w' w.heap.size (fun _ => True) v0_ r ∧ Below w.heap.size w w' := by
 unfold slices_Clone_int_int.f at h
 by_cases hl : l0.length ≤ 17592186044416
 ·rw [if_pos hl] at h
  obtain rfl := Option.some.inj h
  by_cases hz : 0 < l0.length
  ·obtain ⟨ad, rfl, hc⟩ := hr0.2.2 hz
   obtain ⟨b, off, spot⟩ := ad
   have hs : spot = none := by
    obtain ⟨c, _, hk, hu⟩ := hc 0 _ (List.getElem?_eq_getElem hz)
    have h1 := hu 0 (.int .i64 l0[0]) (by rw [show c = [.int .i64 l0[0]] from hk]; rfl)
    cases spot with
    | none => rfl
    | some z =>
     exfalso
     have h2 : w.cell? (⟨b, off, some z⟩ : Addr) = some (.int .i64 l0[0]) := h1
     unfold World.cell? at h2
     split at h2 <;> simp at h2
   subst hs
   refine (Try.slices_Clone_int b off l0.length c0 l0 w (Nat.le_refl _) (by omega) (fun j hj => ?_)).mono ?_
   ·obtain ⟨c, _, hk, hu⟩ := hc j _ (List.getElem?_eq_getElem hj)
    have h1 := hu 0 (.int .i64 l0[j]) (by rw [show c = [.int .i64 l0[j]] from hk]; rfl)
    rw [add_at] at h1
    simpa [Kd.int, Kd.scalar, List.getD_eq_getElem?_getD, hj] using h1
   ·rintro e w' ⟨v, rfl, ho, _, hb⟩
    exact ⟨v, rfl, Kd.R_of_own (by simpa [encs] using ho) (fun _ _ => trivial), hb⟩
  ·have e : l0 = [] := List.eq_nil_of_length_eq_zero (by omega)
   subst e
   cases A0 with
   | none =>
    refine (Try.slices_Clone_int_nil _ _ _).mono ?_
    rintro e w' ⟨rfl, rfl⟩
    exact ⟨_, rfl, Kd.R_nil _ _ _ _ _, Below.refl _ _⟩
   | some ad =>
    refine (Try.slices_Clone_int_zero ad c0 w).mono ?_
    rintro e w' ⟨v, rfl, ho, _, hb⟩
    exact ⟨v, rfl, Kd.R_of_own (by simpa [encs] using ho) (fun _ _ => trivial), hb⟩
 ·rw [if_neg hl] at h
  exact absurd h (by simp)


end Go.Proofs.Ytnafnpoflheonaa.PFnVersions
