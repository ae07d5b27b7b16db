/- Contracts of functions of the translation, written by a program of this repo (a changed copy of the printer). Not trusted: Lean checks it. -/
-- squeezed
-- compact
import Derived.Test.YtnafnpoflheonaaCc
import Derived.Test.YtnafnpoflheonaaPFnVersionsx0
import Derived.Test.YtnafnpoflheonaaPFnVersionsx2
import Derived.Test.YtnafnpoflheonaaPFnVersionsx4
import Derived.Test.YtnafnpoflheonaaPFnVersionsx5
namespace Go.Proofs.Ytnafnpoflheonaa.PFnVersions
open Go.RowKit Go.Proofs.YtnafnpoflheonaaW.PrintWords Go.Proofs.YtnafnpoflheonaaW.PrintLast Go.Proofs.YtnafnpoflheonaaW.PrintMore
attribute [local go_sem] max2_int min2_int max_two min_two max_three min_three max_four min_four   -- for this text's walks alone
set_option linter.unusedVariables false
set_option linter.unusedSimpArgs false

/-! ### impl_PutIn: function 34 -/
mutual
def impl_PutIn.j0 : Nat → Int → Int → Int → Bool → List (S65) → List Int → Option ((List (S65)) × List Int × Bool)
 | 0, _, _, _, _, _, _ => none
 | k + 1, x1, x2, x3, x42, x281000, x281001 => if x42 = true then (some (([] : List (S65)), ([] : List Int), false)) else ((impl_ownPool.f k x281000 x281001).bind fun bt288 => (if 4 ≤ 35184372088832 then ((some (List.replicate 4 0 : List Int)).bind fun y298 => (if 0 ≤ x1 then (if x1 < (x281001.length : Int) then (if (rd x281001 x1) ≥ 0 then (if 0 ≤ (rd x281001 x1) then (if (rd x281001 x1) < (x281000.length : Int) then ((slices_Clone_int_int.f ((rd_T65 x281000 (rd x281001 x1)).f0)).bind fun t303 => (impl_PutIn.j1 k x2 x3 t303 y298 x281000 x281001 bt288.1 bt288.2)) else (none)) else (none)) else (impl_PutIn.j1 k x2 x3 (([(-1), (-1), (-1), (-1)] : List Int)) y298 x281000 x281001 bt288.1 bt288.2)) else (none)) else (none))) else (none)))
def impl_PutIn.j1 : Nat → Int → Int → List Int → List Int → List (S65) → List Int → List (S65) → List Int → Option ((List (S65)) × List Int × Bool)
 | 0, _, _, _, _, _, _, _, _ => none
 | k + 1, x2, x3, x11, x12, x281000, x281001, x295000, x295001 => if 0 ≤ (wrap64 (Int.tdiv x2 4)) then (if (wrap64 (Int.tdiv x2 4)) < (x11.length : Int) then (if (rd x11 (wrap64 (Int.tdiv x2 4))) ≥ 0 then (if 0 ≤ (rd x11 (wrap64 (Int.tdiv x2 4))) then (if (rd x11 (wrap64 (Int.tdiv x2 4))) < (x281000.length : Int) then ((slices_Clone_int_int.f ((rd_T65 x281000 (rd x11 (wrap64 (Int.tdiv x2 4)))).f0)).bind fun t308 => (if 0 ≤ (Int.tmod x2 4) then (if (Int.tmod x2 4) < (t308.length : Int) then (if x295000.length + 1 < 4398046511104 then ((some (x295000 ++ [(⟨(t308.set ((Int.tmod x2 4) : Int).toNat x3), true⟩ : S65), (⟨(x11.set ((wrap64 (Int.tdiv x2 4)) : Int).toNat (x295000.length : Int)), false⟩ : S65)] : List (S65))).bind fun y313 => (if x295001.length < 17592186044416 then (some (y313, (x295001 ++ [wrap64 ((y313.length : Int) - 1)]), true)) else (none))) else (none)) else (none)) else (none))) else (none)) else (none)) else (if 0 ≤ (Int.tmod x2 4) then (if (Int.tmod x2 4) < (x12.length : Int) then (if x295000.length + 1 < 4398046511104 then ((some (x295000 ++ [(⟨(x12.set ((Int.tmod x2 4) : Int).toNat x3), true⟩ : S65), (⟨(x11.set ((wrap64 (Int.tdiv x2 4)) : Int).toNat (x295000.length : Int)), false⟩ : S65)] : List (S65))).bind fun y321 => (if x295001.length < 17592186044416 then (some (y321, (x295001 ++ [wrap64 ((y321.length : Int) - 1)]), true)) else (none))) else (none)) else (none)) else (none))) else (none)) else (none)
end
def impl_PutIn.f (k : Nat) (l0_0 : List (S65)) (l0_1 : List Int) (a1 : Int) (a2 : Int) (a3 : Int) : Option ((List (S65)) × List Int × Bool) := (impl_isVersion.f l0_0 l0_1 (([a1] : List Int))).bind fun t285 => (if t285 = true then ((impl_isPoolKey.f a2).bind fun t286 => (if t286 = true then ((impl_within.f a3 0 9999).bind fun t287 => (if t287 = true then (if (wrap64 ((l0_0.length : Int) + 2)) > 200 then (impl_PutIn.j0 k a1 a2 a3 true l0_0 l0_1) else (impl_PutIn.j0 k a1 a2 a3 ((l0_1.length : Int) == 40) l0_0 l0_1)) else (impl_PutIn.j0 k a1 a2 a3 true l0_0 l0_1))) else (impl_PutIn.j0 k a1 a2 a3 true l0_0 l0_1))) else (impl_PutIn.j0 k a1 a2 a3 true l0_0 l0_1))
theorem impl_PutIn.mono_l : ∀ k, (∀ y0 y1 y2 y3 y4 y5, LeO (impl_PutIn.j0 k y0 y1 y2 y3 y4 y5) (impl_PutIn.j0 (k + 1) y0 y1 y2 y3 y4 y5)) ∧ (∀ y0 y1 y2 y3 y4 y5 y6 y7, LeO (impl_PutIn.j1 k y0 y1 y2 y3 y4 y5 y6 y7) (impl_PutIn.j1 (k + 1) y0 y1 y2 y3 y4 y5 y6 y7))
 | 0 => ⟨fun _ _ _ _ _ _ r h => by simp [impl_PutIn.j0] at h, fun _ _ _ _ _ _ _ _ r h => by simp [impl_PutIn.j1] at h⟩
 | k + 1 => by
  obtain ⟨ih0, ih1⟩ := impl_PutIn.mono_l k
  refine ⟨?_, ?_⟩
  ·intro y0 y1 y2 y3 y4 y5
   unfold impl_PutIn.j0
   repeat' first
   | (with_reducible exact ih0 _ _ _ _ _ _)
   | (with_reducible exact ih1 _ _ _ _ _ _ _ _)
   | (with_reducible exact impl_ownPool.mono _ _ _)
   | (with_reducible exact LeO.refl _)
   | (with_reducible exact LeO.none _)
   | (with_reducible refine LeO.ite ?_ ?_)
   | (with_reducible refine LeO.bind ?_ (fun _ => ?_))
   | exact ih0 _ _ _ _ _ _
   | exact ih1 _ _ _ _ _ _ _ _
   | exact impl_ownPool.mono _ _ _
   | exact LeO.none _
   | refine LeO.ite ?_ ?_
   | refine LeO.bind ?_ (fun _ => ?_)
  ·intro y0 y1 y2 y3 y4 y5 y6 y7
   unfold impl_PutIn.j1
   repeat' first
   | (with_reducible exact ih0 _ _ _ _ _ _)
   | (with_reducible exact ih1 _ _ _ _ _ _ _ _)
   | (with_reducible exact impl_ownPool.mono _ _ _)
   | (with_reducible exact LeO.refl _)
   | (with_reducible exact LeO.none _)
   | (with_reducible refine LeO.ite ?_ ?_)
   | (with_reducible refine LeO.bind ?_ (fun _ => ?_))
   | exact ih0 _ _ _ _ _ _
   | exact ih1 _ _ _ _ _ _ _ _
   | exact impl_ownPool.mono _ _ _
   | exact LeO.none _
   | refine LeO.ite ?_ ?_
   | refine LeO.bind ?_ (fun _ => ?_)
theorem impl_PutIn.mono : ∀ a0 a1 a2 a3 a4 k, LeO (impl_PutIn.f k a0 a1 a2 a3 a4) (impl_PutIn.f (k + 1) a0 a1 a2 a3 a4) := by
 intro a0 a1 a2 a3 a4 k
 obtain ⟨ih0, ih1⟩ := impl_PutIn.mono_l k
 unfold impl_PutIn.f
 repeat' first
   | (with_reducible exact ih0 _ _ _ _ _ _)
   | (with_reducible exact ih1 _ _ _ _ _ _ _ _)
   | (with_reducible exact impl_ownPool.mono _ _ _)
   | (with_reducible exact LeO.refl _)
   | (with_reducible exact LeO.none _)
   | (with_reducible refine LeO.ite ?_ ?_)
   | (with_reducible refine LeO.bind ?_ (fun _ => ?_))
   | exact ih0 _ _ _ _ _ _
   | exact ih1 _ _ _ _ _ _ _ _
   | exact impl_ownPool.mono _ _ _
   | exact LeO.none _
   | refine LeO.ite ?_ ?_
   | refine LeO.bind ?_ (fun _ => ?_)
set_option maxHeartbeats 8000000 in
set_option maxRecDepth 100000 in
theorem impl_PutIn.calls (k : Nat) (A0_0 : Option Addr) (c0_0 : Nat) (l0_0 : List (S65)) (A0_1 : Option Addr) (c0_1 : Nat) (l0_1 : List Int) (a1 : Int) (a2 : Int) (a3 : Int) (r1 : List (S65)) (r2 : List Int) (r3 : Bool) (w : World) (hr0_0 : Kd.C k65 w A0_0 l0_0.length l0_0) (hc0_0 : l0_0.length ≤ c0_0) (hr0_1 : Kd.C (Kd.int .i64) w A0_1 l0_1.length l0_1) (hc0_1 : l0_1.length ≤ c0_1) (h : impl_PutIn.f k l0_0 l0_1 a1 a2 a3 = some (r1, r2, r3)) :
  Calls Try.prog 34 #[.agg #[.slice A0_0 l0_0.length c0_0, .slice A0_1 l0_1.length c0_1], .int .i64 a1, .int .i64 a2, .int .i64 a3] w fun e w' => ∃ v0_ v1_ : Value, e = .returned (.tuple #[.agg #[v0_, v1_], .bool r3]) ∧ Kd.S k65 65 w' w.heap.size (fun k_ => some k_ ≠ (v1_ : Value).ownBlock) v0_ r1 ∧ Kd.R (Kd.int .i64) 3 w' w.heap.size (fun _ => True) v1_ r2 ∧ Below w.heap.size w w' := by
 have hu25 := Try.underlying25
 have hu65 := Try.underlying65
 have HR0_0 := Op.k hr0_0
 have HC0_0 := Op.k hc0_0
 clear hr0_0 hc0_0
 have HR0_1 := Op.k hr0_1
 have HC0_1 := Op.k hc0_1
 clear hr0_1 hc0_1
 have HB := Op.k (Below.refl w.heap.size w)
 have H : ((impl_isVersion.f l0_0 l0_1 (([a1] : List Int))).bind fun t285 => (if t285 = true then ((impl_isPoolKey.f a2).bind fun t286 => (if t286 = true then ((impl_within.f a3 0 9999).bind fun t287 => (if t287 = true then (if (wrap64 ((l0_0.length : Int) + 2)) > 200 then (impl_PutIn.j0 k a1 a2 a3 true l0_0 l0_1) else (impl_PutIn.j0 k a1 a2 a3 ((l0_1.length : Int) == 40) l0_0 l0_1)) else (impl_PutIn.j0 k a1 a2 a3 true l0_0 l0_1))) else (impl_PutIn.j0 k a1 a2 a3 true l0_0 l0_1))) else (impl_PutIn.j0 k a1 a2 a3 true l0_0 l0_1))) = some (r1, r2, r3) := h
 clear h
 have HC5 := Op.k H
 clear H
 go_enter Try.func34, Try.ntmps34
 go_upto_region 1 with (first | ((with_reducible refine gate_dst (N := 4) rfl ?_); (try (refine gate_guard (by rfl) ?_; dsimp only)); refine box_event ?hg (N := 4) ?hd (cs := #[.slice A0_0 l0_0.length c0_0, .slice A0_1 l0_1.length c0_1]) (t := 25) ?hr ?_; (case hd => rfl); (case hg => rfl); (case hr => first | (go_simp; done) | (go_simp; rfl)); intro gb280 hg w6 hbox hb; have BK280 := Op.k (hbox); have GW280 := Op.k ((Op.nz hg (Op.ht HB.out) : w.heap.size ≤ gb280)); have GE280 := Op.k ((Op.nz hg (Op.ht HB.out) : w.heap.size ≤ gb280)); replace HB := Op.k (Op.a5 (Op.ht HB.out) hb); clear hb hbox hg) | ((with_reducible refine gate_dst (N := 8) rfl ?_); (try (refine gate_guard (by rfl) ?_; dsimp only)); refine box_event ?hg (N := 8) ?hd (cs := #[.slice none 0 0, .slice none 0 0]) (t := 25) ?hr ?_; (case hd => rfl); (case hg => rfl); (case hr => first | (go_simp; done) | (go_simp; rfl)); intro gb281 hg w7 hbox hb; have BK281 := Op.k (hbox); have GW281 := Op.k ((Op.nz hg (Op.ht HB.out) : w.heap.size ≤ gb281)); have GE281 := Op.k ((Op.nz hg (Op.ht HB.out) : w.heap.size ≤ gb281)); replace HB := Op.k (Op.a5 (Op.ht HB.out) hb); have NB280_281 := Op.k ((Op.nl hg (Op.bt BK280.out) : gb280 ≠ gb281)); have NB281_280 := Op.k ((Op.ng hg (Op.bt BK280.out) : gb281 ≠ gb280)); replace BK280 := Op.k (Op.b4 (Op.bt BK280.out) hb); clear hb hbox hg))
 (try simp only [Act.put, List.setIfInBounds_toArray, List.set_cons_zero, List.set_cons_succ])
 go_cut [42] (fun v42 wc => ∃ (kq : Nat) (x42_4 : Bool), v42 = .bool x42_4 ∧ Aside0 (impl_PutIn.j0 kq a1 a2 a3 x42_4 l0_0 l0_1 = some (r1, r2, r3)) ∧ Aside0 (kq ≤ k) ∧ Aside0 (wc.heap[gb280]? = some (.cells #[(.slice A0_0 l0_0.length c0_0), (.slice A0_1 l0_1.length c0_1)] 25 (0, 0))) ∧ Aside0 (wc.heap[gb281]? = some (.cells #[(.slice none 0 0), (.slice none 0 0)] 25 (0, 0))) ∧ Aside0 (Below w.heap.size w wc))
 case first =>
  have H := HC5.out
  clear HC5
  obtain ⟨y282, hy282⟩ : ∃ y_ : List Int, y_ = (([a1] : List Int)) := ⟨_, rfl⟩
  replace H : ((impl_isVersion.f l0_0 l0_1 y282).bind fun t285 => (if t285 = true then ((impl_isPoolKey.f a2).bind fun t286 => (if t286 = true then ((impl_within.f a3 0 9999).bind fun t287 => (if t287 = true then (if (wrap64 ((l0_0.length : Int) + 2)) > 200 then (impl_PutIn.j0 k a1 a2 a3 true l0_0 l0_1) else (impl_PutIn.j0 k a1 a2 a3 ((l0_1.length : Int) == 40) l0_0 l0_1)) else (impl_PutIn.j0 k a1 a2 a3 true l0_0 l0_1))) else (impl_PutIn.j0 k a1 a2 a3 true l0_0 l0_1))) else (impl_PutIn.j0 k a1 a2 a3 true l0_0 l0_1))) = some (r1, r2, r3) := by first | (rw [hy282]; with_reducible exact H) | (have H2_ := (Option.bind_some _ _).symm.trans H; rw [hy282]; with_reducible exact H2_) | (have H2_ := (Option.bind_some _ _).symm.trans H; with_reducible exact H2_) | with_reducible exact H | (rw [hy282]; exact H) | exact H
  have Ny282 := Op.k hy282
  clear hy282
  replace H := Option.bind_eq_some_iff.mp H
  obtain ⟨t285, A80, H⟩ := H
  try dsimp only at H
  have A8 := Op.k A80
  clear A80
  by_cases c9 : t285 = true
  ·subst c9
   have H1 : ((impl_isPoolKey.f a2).bind fun t286 => (if t286 = true then ((impl_within.f a3 0 9999).bind fun t287 => (if t287 = true then (if (wrap64 ((l0_0.length : Int) + 2)) > 200 then (impl_PutIn.j0 k a1 a2 a3 true l0_0 l0_1) else (impl_PutIn.j0 k a1 a2 a3 ((l0_1.length : Int) == 40) l0_0 l0_1)) else (impl_PutIn.j0 k a1 a2 a3 true l0_0 l0_1))) else (impl_PutIn.j0 k a1 a2 a3 true l0_0 l0_1))) = some (r1, r2, r3) := by rw [if_pos rfl] at H; exact H
   clear H
   have H := H1
   clear H1
   replace H := Option.bind_eq_some_iff.mp H
   obtain ⟨t286, A100, H⟩ := H
   try dsimp only at H
   have A10 := Op.k A100
   clear A100
   by_cases c11 : t286 = true
   ·subst c11
    have H1 : ((impl_within.f a3 0 9999).bind fun t287 => (if t287 = true then (if (wrap64 ((l0_0.length : Int) + 2)) > 200 then (impl_PutIn.j0 k a1 a2 a3 true l0_0 l0_1) else (impl_PutIn.j0 k a1 a2 a3 ((l0_1.length : Int) == 40) l0_0 l0_1)) else (impl_PutIn.j0 k a1 a2 a3 true l0_0 l0_1))) = some (r1, r2, r3) := by rw [if_pos rfl] at H; exact H
    clear H
    have H := H1
    clear H1
    replace H := Option.bind_eq_some_iff.mp H
    obtain ⟨t287, A120, H⟩ := H
    try dsimp only at H
    have A12 := Op.k A120
    clear A120
    by_cases c13 : t287 = true
    ·subst c13
     have H1 : (if (wrap64 ((l0_0.length : Int) + 2)) > 200 then (impl_PutIn.j0 k a1 a2 a3 true l0_0 l0_1) else (impl_PutIn.j0 k a1 a2 a3 ((l0_1.length : Int) == 40) l0_0 l0_1)) = some (r1, r2, r3) := by rw [if_pos rfl] at H; exact H
     clear H
     have H := H1
     clear H1
     by_cases c14 : (wrap64 ((l0_0.length : Int) + 2)) > 200
     ·rw [if_pos c14] at H
      have c14b0 : decide (200 < (wrap64 ((l0_0.length : Int) + 2))) = true := decide_eq_true c14
      clear c14
      (first | rw [c14b0] | (simp only [i64_w, i32_w]; rw [c14b0]) | skip)
      have H' := Op.k H
      clear H
      have hnb15 := NB280_281.out
      have hnc15 := NB281_280.out
      have hcz16_0 := Op.c0 BK280.out
      have hcz16_1 := Op.c1 BK280.out
      have hfz16_0 := Op.bf BK280.out 0
      have hfz16_1 := Op.bf BK280.out 1
      go_wp2_with (first | ((with_reducible refine gate_dst (N := 17) rfl ?_); (try (refine gate_guard (by rfl) ?_; dsimp only)); refine Kd.R_lit (Kd.int .i64) _ 3 ?hg (N := 17) ?hd (xs := ([a1] : List Int)) (inner := [.int .i64 a1]) (ok := fun _ => True) (okp := fun _ => True) ?hr ?hp (fun _ hk => hk) trivial (Below.refl _ _) (Nat.le_refl _) (by simp) ?_; (case hd => rfl); (case hg => rfl); (case hr => first | (go_simp; done) | (go_simp; rfl)); (case hp => exact (Reps.one (show Kd.M (Kd.int .i64) _ _ _ a1 [.int .i64 a1] from rfl) (Reps.none _ _))); intro v283 w17 ho18 hb hg_ hnew_; clear hg_ hnew_; (first | rw [← Ny282.out] at ho18 | (simp only [Int.reduceToNat] at ho18; rw [← Ny282.out] at ho18)); have HO284 := Op.k (Kd.R_lower ho18 (Op.a6 (Op.ht HB.out))); replace BK280 := Op.k (Op.b4 (Op.bt BK280.out) hb); replace BK281 := Op.k (Op.b4 (Op.bt BK281.out) hb); replace HB := Op.k (Op.a5 (Op.ht HB.out) hb); clear hb ho18; obtain ⟨Ao19, co19, eo19⟩ := Kd.R_slice HO284.out; subst eo19) | ((with_reducible refine gate_callee (f := 61) rfl ?_); refine goesL_ (some 18) rfl rfl Try.func61 (by kernel_rfl) rfl #[.agg #[.slice A0_0 l0_0.length c0_0, .slice A0_1 l0_1.length c0_1], .slice Ao19 y282.length co19] rfl (by (try simp only [List.map_toArray, List.map_cons, List.map_nil]); first | done | rfl | (simp only [List.length_drop, List.length_take]; rfl)) ?_; (with_reducible refine (impl_isVersion.calls _ _ l0_0 _ _ l0_1 _ _ y282 true _ ?side1 ?side2 ?side3 ?side4 ?side5 ?side6 A8.out).mono ?_); (case side1 => exact Op.ct (Kd.C_below HR0_0.out HB.out)); (case side2 => exact HC0_0.out); (case side3 => exact Op.ct (Kd.C_below HR0_1.out HB.out)); (case side4 => exact HC0_1.out); (case side5 => exact Op.ct (Kd.R_reads' HO284.out).2.2); (case side6 => exact (Kd.R_reads' HO284.out).2.1); rintro e w20 ⟨rfl, hb⟩; refine ⟨_, rfl, ?_⟩; replace HO284 := Op.k (Kd.R_below (Op.rt HO284.out) hb); replace BK280 := Op.k (Op.b4 (Op.bt BK280.out) hb); replace BK281 := Op.k (Op.b4 (Op.bt BK281.out) hb); replace HB := Op.k (Op.a5 (Op.ht HB.out) hb); (try clear hb); (try clear hb2); (try clear hk); (try clear hi)) | (go_at_call 62; (with_reducible refine (impl_isPoolKey.calls a2 true _ A10.out).mono ?_); rintro e w' ⟨rfl, ⟨nd, rfl⟩⟩) | (go_at_call 57; (with_reducible refine (impl_within.calls a3 0 9999 true _ A12.out).mono ?_); rintro e w' ⟨rfl, ⟨nd, rfl⟩⟩; have hcz21_0 := Op.c0 BK280.out; have hcz21_1 := Op.c1 BK280.out; have hfz21_0 := Op.bf BK280.out 0; have hfz21_1 := Op.bf BK280.out 1))
      go_meet
      case rel => exact ⟨_, (true), (by first | rfl | (simp; done) | (simp [*]; done)), H', ⟨by first | omega | exact Nat.le_refl _⟩, ⟨Op.bt BK280.out⟩, ⟨Op.bt BK281.out⟩, ⟨Op.ht HB.out⟩⟩
     ·rw [if_neg c14] at H
      have c14b0 : decide (200 < (wrap64 ((l0_0.length : Int) + 2))) = false := decide_eq_false c14
      clear c14
      (first | rw [c14b0] | (simp only [i64_w, i32_w]; rw [c14b0]) | skip)
      have H' := Op.k H
      clear H
      have hnb22 := NB280_281.out
      have hnc22 := NB281_280.out
      have hcz23_0 := Op.c0 BK280.out
      have hcz23_1 := Op.c1 BK280.out
      have hfz23_0 := Op.bf BK280.out 0
      have hfz23_1 := Op.bf BK280.out 1
      go_wp2_with (first | ((with_reducible refine gate_dst (N := 17) rfl ?_); (try (refine gate_guard (by rfl) ?_; dsimp only)); refine Kd.R_lit (Kd.int .i64) _ 3 ?hg (N := 17) ?hd (xs := ([a1] : List Int)) (inner := [.int .i64 a1]) (ok := fun _ => True) (okp := fun _ => True) ?hr ?hp (fun _ hk => hk) trivial (Below.refl _ _) (Nat.le_refl _) (by simp) ?_; (case hd => rfl); (case hg => rfl); (case hr => first | (go_simp; done) | (go_simp; rfl)); (case hp => exact (Reps.one (show Kd.M (Kd.int .i64) _ _ _ a1 [.int .i64 a1] from rfl) (Reps.none _ _))); intro v283 w24 ho25 hb hg_ hnew_; clear hg_ hnew_; (first | rw [← Ny282.out] at ho25 | (simp only [Int.reduceToNat] at ho25; rw [← Ny282.out] at ho25)); have HO284 := Op.k (Kd.R_lower ho25 (Op.a6 (Op.ht HB.out))); replace BK280 := Op.k (Op.b4 (Op.bt BK280.out) hb); replace BK281 := Op.k (Op.b4 (Op.bt BK281.out) hb); replace HB := Op.k (Op.a5 (Op.ht HB.out) hb); clear hb ho25; obtain ⟨Ao26, co26, eo26⟩ := Kd.R_slice HO284.out; subst eo26) | ((with_reducible refine gate_callee (f := 61) rfl ?_); refine goesL_ (some 18) rfl rfl Try.func61 (by kernel_rfl) rfl #[.agg #[.slice A0_0 l0_0.length c0_0, .slice A0_1 l0_1.length c0_1], .slice Ao26 y282.length co26] rfl (by (try simp only [List.map_toArray, List.map_cons, List.map_nil]); first | done | rfl | (simp only [List.length_drop, List.length_take]; rfl)) ?_; (with_reducible refine (impl_isVersion.calls _ _ l0_0 _ _ l0_1 _ _ y282 true _ ?side1 ?side2 ?side3 ?side4 ?side5 ?side6 A8.out).mono ?_); (case side1 => exact Op.ct (Kd.C_below HR0_0.out HB.out)); (case side2 => exact HC0_0.out); (case side3 => exact Op.ct (Kd.C_below HR0_1.out HB.out)); (case side4 => exact HC0_1.out); (case side5 => exact Op.ct (Kd.R_reads' HO284.out).2.2); (case side6 => exact (Kd.R_reads' HO284.out).2.1); rintro e w27 ⟨rfl, hb⟩; refine ⟨_, rfl, ?_⟩; replace HO284 := Op.k (Kd.R_below (Op.rt HO284.out) hb); replace BK280 := Op.k (Op.b4 (Op.bt BK280.out) hb); replace BK281 := Op.k (Op.b4 (Op.bt BK281.out) hb); replace HB := Op.k (Op.a5 (Op.ht HB.out) hb); (try clear hb); (try clear hb2); (try clear hk); (try clear hi)) | (go_at_call 62; (with_reducible refine (impl_isPoolKey.calls a2 true _ A10.out).mono ?_); rintro e w' ⟨rfl, ⟨nd, rfl⟩⟩) | (go_at_call 57; (with_reducible refine (impl_within.calls a3 0 9999 true _ A12.out).mono ?_); rintro e w' ⟨rfl, ⟨nd, rfl⟩⟩; have hcz28_0 := Op.c0 BK280.out; have hcz28_1 := Op.c1 BK280.out; have hfz28_0 := Op.bf BK280.out 0; have hfz28_1 := Op.bf BK280.out 1))
      go_meet
      case rel => exact ⟨_, (((l0_1.length : Int) == 40)), (by first | rfl | (simp; done) | (simp [*]; done)), H', ⟨by first | omega | exact Nat.le_refl _⟩, ⟨Op.bt BK280.out⟩, ⟨Op.bt BK281.out⟩, ⟨Op.ht HB.out⟩⟩
    ·replace c13 := Bool.eq_false_iff.mpr c13
     subst c13
     have H1 : (impl_PutIn.j0 k a1 a2 a3 true l0_0 l0_1) = some (r1, r2, r3) := by rw [if_neg (show ¬ (false = true) by decide)] at H; exact H
     clear H
     have H := H1
     clear H1
     have H' := Op.k H
     clear H
     have hnb29 := NB280_281.out
     have hnc29 := NB281_280.out
     have hcz30_0 := Op.c0 BK280.out
     have hcz30_1 := Op.c1 BK280.out
     have hfz30_0 := Op.bf BK280.out 0
     have hfz30_1 := Op.bf BK280.out 1
     go_wp2_with (first | ((with_reducible refine gate_dst (N := 17) rfl ?_); (try (refine gate_guard (by rfl) ?_; dsimp only)); refine Kd.R_lit (Kd.int .i64) _ 3 ?hg (N := 17) ?hd (xs := ([a1] : List Int)) (inner := [.int .i64 a1]) (ok := fun _ => True) (okp := fun _ => True) ?hr ?hp (fun _ hk => hk) trivial (Below.refl _ _) (Nat.le_refl _) (by simp) ?_; (case hd => rfl); (case hg => rfl); (case hr => first | (go_simp; done) | (go_simp; rfl)); (case hp => exact (Reps.one (show Kd.M (Kd.int .i64) _ _ _ a1 [.int .i64 a1] from rfl) (Reps.none _ _))); intro v283 w31 ho32 hb hg_ hnew_; clear hg_ hnew_; (first | rw [← Ny282.out] at ho32 | (simp only [Int.reduceToNat] at ho32; rw [← Ny282.out] at ho32)); have HO284 := Op.k (Kd.R_lower ho32 (Op.a6 (Op.ht HB.out))); replace BK280 := Op.k (Op.b4 (Op.bt BK280.out) hb); replace BK281 := Op.k (Op.b4 (Op.bt BK281.out) hb); replace HB := Op.k (Op.a5 (Op.ht HB.out) hb); clear hb ho32; obtain ⟨Ao33, co33, eo33⟩ := Kd.R_slice HO284.out; subst eo33) | ((with_reducible refine gate_callee (f := 61) rfl ?_); refine goesL_ (some 18) rfl rfl Try.func61 (by kernel_rfl) rfl #[.agg #[.slice A0_0 l0_0.length c0_0, .slice A0_1 l0_1.length c0_1], .slice Ao33 y282.length co33] rfl (by (try simp only [List.map_toArray, List.map_cons, List.map_nil]); first | done | rfl | (simp only [List.length_drop, List.length_take]; rfl)) ?_; (with_reducible refine (impl_isVersion.calls _ _ l0_0 _ _ l0_1 _ _ y282 true _ ?side1 ?side2 ?side3 ?side4 ?side5 ?side6 A8.out).mono ?_); (case side1 => exact Op.ct (Kd.C_below HR0_0.out HB.out)); (case side2 => exact HC0_0.out); (case side3 => exact Op.ct (Kd.C_below HR0_1.out HB.out)); (case side4 => exact HC0_1.out); (case side5 => exact Op.ct (Kd.R_reads' HO284.out).2.2); (case side6 => exact (Kd.R_reads' HO284.out).2.1); rintro e w34 ⟨rfl, hb⟩; refine ⟨_, rfl, ?_⟩; replace HO284 := Op.k (Kd.R_below (Op.rt HO284.out) hb); replace BK280 := Op.k (Op.b4 (Op.bt BK280.out) hb); replace BK281 := Op.k (Op.b4 (Op.bt BK281.out) hb); replace HB := Op.k (Op.a5 (Op.ht HB.out) hb); (try clear hb); (try clear hb2); (try clear hk); (try clear hi)) | (go_at_call 62; (with_reducible refine (impl_isPoolKey.calls a2 true _ A10.out).mono ?_); rintro e w' ⟨rfl, ⟨nd, rfl⟩⟩) | (go_at_call 57; (with_reducible refine (impl_within.calls a3 0 9999 false _ A12.out).mono ?_); rintro e w' ⟨rfl, ⟨nd, rfl⟩⟩))
     go_meet
     case rel => exact ⟨_, (true), (by first | rfl | (simp; done) | (simp [*]; done)), H', ⟨by first | omega | exact Nat.le_refl _⟩, ⟨Op.bt BK280.out⟩, ⟨Op.bt BK281.out⟩, ⟨Op.ht HB.out⟩⟩
   ·replace c11 := Bool.eq_false_iff.mpr c11
    subst c11
    have H1 : (impl_PutIn.j0 k a1 a2 a3 true l0_0 l0_1) = some (r1, r2, r3) := by rw [if_neg (show ¬ (false = true) by decide)] at H; exact H
    clear H
    have H := H1
    clear H1
    have H' := Op.k H
    clear H
    have hnb35 := NB280_281.out
    have hnc35 := NB281_280.out
    have hcz36_0 := Op.c0 BK280.out
    have hcz36_1 := Op.c1 BK280.out
    have hfz36_0 := Op.bf BK280.out 0
    have hfz36_1 := Op.bf BK280.out 1
    go_wp2_with (first | ((with_reducible refine gate_dst (N := 17) rfl ?_); (try (refine gate_guard (by rfl) ?_; dsimp only)); refine Kd.R_lit (Kd.int .i64) _ 3 ?hg (N := 17) ?hd (xs := ([a1] : List Int)) (inner := [.int .i64 a1]) (ok := fun _ => True) (okp := fun _ => True) ?hr ?hp (fun _ hk => hk) trivial (Below.refl _ _) (Nat.le_refl _) (by simp) ?_; (case hd => rfl); (case hg => rfl); (case hr => first | (go_simp; done) | (go_simp; rfl)); (case hp => exact (Reps.one (show Kd.M (Kd.int .i64) _ _ _ a1 [.int .i64 a1] from rfl) (Reps.none _ _))); intro v283 w37 ho38 hb hg_ hnew_; clear hg_ hnew_; (first | rw [← Ny282.out] at ho38 | (simp only [Int.reduceToNat] at ho38; rw [← Ny282.out] at ho38)); have HO284 := Op.k (Kd.R_lower ho38 (Op.a6 (Op.ht HB.out))); replace BK280 := Op.k (Op.b4 (Op.bt BK280.out) hb); replace BK281 := Op.k (Op.b4 (Op.bt BK281.out) hb); replace HB := Op.k (Op.a5 (Op.ht HB.out) hb); clear hb ho38; obtain ⟨Ao39, co39, eo39⟩ := Kd.R_slice HO284.out; subst eo39) | ((with_reducible refine gate_callee (f := 61) rfl ?_); refine goesL_ (some 18) rfl rfl Try.func61 (by kernel_rfl) rfl #[.agg #[.slice A0_0 l0_0.length c0_0, .slice A0_1 l0_1.length c0_1], .slice Ao39 y282.length co39] rfl (by (try simp only [List.map_toArray, List.map_cons, List.map_nil]); first | done | rfl | (simp only [List.length_drop, List.length_take]; rfl)) ?_; (with_reducible refine (impl_isVersion.calls _ _ l0_0 _ _ l0_1 _ _ y282 true _ ?side1 ?side2 ?side3 ?side4 ?side5 ?side6 A8.out).mono ?_); (case side1 => exact Op.ct (Kd.C_below HR0_0.out HB.out)); (case side2 => exact HC0_0.out); (case side3 => exact Op.ct (Kd.C_below HR0_1.out HB.out)); (case side4 => exact HC0_1.out); (case side5 => exact Op.ct (Kd.R_reads' HO284.out).2.2); (case side6 => exact (Kd.R_reads' HO284.out).2.1); rintro e w40 ⟨rfl, hb⟩; refine ⟨_, rfl, ?_⟩; replace HO284 := Op.k (Kd.R_below (Op.rt HO284.out) hb); replace BK280 := Op.k (Op.b4 (Op.bt BK280.out) hb); replace BK281 := Op.k (Op.b4 (Op.bt BK281.out) hb); replace HB := Op.k (Op.a5 (Op.ht HB.out) hb); (try clear hb); (try clear hb2); (try clear hk); (try clear hi)) | (go_at_call 62; (with_reducible refine (impl_isPoolKey.calls a2 false _ A10.out).mono ?_); rintro e w' ⟨rfl, ⟨nd, rfl⟩⟩))
    go_meet
    case rel => exact ⟨_, (true), (by first | rfl | (simp; done) | (simp [*]; done)), H', ⟨by first | omega | exact Nat.le_refl _⟩, ⟨Op.bt BK280.out⟩, ⟨Op.bt BK281.out⟩, ⟨Op.ht HB.out⟩⟩
  ·replace c9 := Bool.eq_false_iff.mpr c9
   subst c9
   have H1 : (impl_PutIn.j0 k a1 a2 a3 true l0_0 l0_1) = some (r1, r2, r3) := by rw [if_neg (show ¬ (false = true) by decide)] at H; exact H
   clear H
   have H := H1
   clear H1
   have H' := Op.k H
   clear H
   have hnb41 := NB280_281.out
   have hnc41 := NB281_280.out
   have hcz42_0 := Op.c0 BK280.out
   have hcz42_1 := Op.c1 BK280.out
   have hfz42_0 := Op.bf BK280.out 0
   have hfz42_1 := Op.bf BK280.out 1
   go_wp2_with (first | ((with_reducible refine gate_dst (N := 17) rfl ?_); (try (refine gate_guard (by rfl) ?_; dsimp only)); refine Kd.R_lit (Kd.int .i64) _ 3 ?hg (N := 17) ?hd (xs := ([a1] : List Int)) (inner := [.int .i64 a1]) (ok := fun _ => True) (okp := fun _ => True) ?hr ?hp (fun _ hk => hk) trivial (Below.refl _ _) (Nat.le_refl _) (by simp) ?_; (case hd => rfl); (case hg => rfl); (case hr => first | (go_simp; done) | (go_simp; rfl)); (case hp => exact (Reps.one (show Kd.M (Kd.int .i64) _ _ _ a1 [.int .i64 a1] from rfl) (Reps.none _ _))); intro v283 w43 ho44 hb hg_ hnew_; clear hg_ hnew_; (first | rw [← Ny282.out] at ho44 | (simp only [Int.reduceToNat] at ho44; rw [← Ny282.out] at ho44)); have HO284 := Op.k (Kd.R_lower ho44 (Op.a6 (Op.ht HB.out))); replace BK280 := Op.k (Op.b4 (Op.bt BK280.out) hb); replace BK281 := Op.k (Op.b4 (Op.bt BK281.out) hb); replace HB := Op.k (Op.a5 (Op.ht HB.out) hb); clear hb ho44; obtain ⟨Ao45, co45, eo45⟩ := Kd.R_slice HO284.out; subst eo45) | ((with_reducible refine gate_callee (f := 61) rfl ?_); refine goesL_ (some 18) rfl rfl Try.func61 (by kernel_rfl) rfl #[.agg #[.slice A0_0 l0_0.length c0_0, .slice A0_1 l0_1.length c0_1], .slice Ao45 y282.length co45] rfl (by (try simp only [List.map_toArray, List.map_cons, List.map_nil]); first | done | rfl | (simp only [List.length_drop, List.length_take]; rfl)) ?_; (with_reducible refine (impl_isVersion.calls _ _ l0_0 _ _ l0_1 _ _ y282 false _ ?side1 ?side2 ?side3 ?side4 ?side5 ?side6 A8.out).mono ?_); (case side1 => exact Op.ct (Kd.C_below HR0_0.out HB.out)); (case side2 => exact HC0_0.out); (case side3 => exact Op.ct (Kd.C_below HR0_1.out HB.out)); (case side4 => exact HC0_1.out); (case side5 => exact Op.ct (Kd.R_reads' HO284.out).2.2); (case side6 => exact (Kd.R_reads' HO284.out).2.1); rintro e w46 ⟨rfl, hb⟩; refine ⟨_, rfl, ?_⟩; replace HO284 := Op.k (Kd.R_below (Op.rt HO284.out) hb); replace BK280 := Op.k (Op.b4 (Op.bt BK280.out) hb); replace BK281 := Op.k (Op.b4 (Op.bt BK281.out) hb); replace HB := Op.k (Op.a5 (Op.ht HB.out) hb); (try clear hb); (try clear hb2); (try clear hk); (try clear hi)))
   go_meet
   case rel => exact ⟨_, (true), (by first | rfl | (simp; done) | (simp [*]; done)), H', ⟨by first | omega | exact Nat.le_refl _⟩, ⟨Op.bt BK280.out⟩, ⟨Op.bt BK281.out⟩, ⟨Op.ht HB.out⟩⟩
 case rest =>
  clear HC5
  try clear c1
  try clear c2
  try clear p2
  try clear c3
  try clear c4
  try clear c6
  try clear p6
  try clear c9
  try clear c11
  try clear c13
  try clear c14
  try clear c14b0
  try clear c15
  try clear c22
  try clear c29
  try clear c34
  try clear c35
  try clear c41
  try clear hcz16_0
  try clear hcz16_1
  try clear hcz21_0
  try clear hcz21_1
  try clear hcz23_0
  try clear hcz23_1
  try clear hcz28_0
  try clear hcz28_1
  try clear hcz30_0
  try clear hcz30_1
  try clear hcz36_0
  try clear hcz36_1
  try clear hcz42_0
  try clear hcz42_1
  try clear hfz16_0
  try clear hfz16_1
  try clear hfz21_0
  try clear hfz21_1
  try clear hfz23_0
  try clear hfz23_1
  try clear hfz28_0
  try clear hfz28_1
  try clear hfz30_0
  try clear hfz30_1
  try clear hfz36_0
  try clear hfz36_1
  try clear hfz42_0
  try clear hfz42_1
  obtain ⟨kq, x42_4, rfl, HA, HJ4, BK280, BK281, HB⟩ := hcut
  cases kq with
  | zero => exact absurd HA.out (by simp [impl_PutIn.j0])
  | succ kj4 =>
   have H := HA.out
   clear HA
   simp only [impl_PutIn.j0] at H
   by_cases c47 : x42_4 = true
   ·subst c47
    have H1 : (some (([] : List (S65)), ([] : List Int), false)) = some (r1, r2, r3) := by rw [if_pos rfl] at H; exact H
    clear H
    have H := H1
    clear H1
    simp only [Option.some.injEq, Prod.mk.injEq] at H
    obtain ⟨rfl, rfl, rfl⟩ := H
    have hnb48 := NB281_280.out
    have hnc48 := NB280_281.out
    have hcz49_0 := Op.c0 BK281.out
    have hcz49_1 := Op.c1 BK281.out
    have hfz49_0 := Op.bf BK281.out 0
    have hfz49_1 := Op.bf BK281.out 1
    go_wp2
    refine bodyPost_ret (results_ct rfl _ _ gb281 25 #[.slice none 0 0, .slice none 0 0] (0, 0) _ rfl (Op.bv BK281.out) Try.underlying25 rfl (by kernel_rfl)) rfl ?_
    exact ⟨_, _, by first | rfl | (simp [errW_none, errW_some] <;> rfl) | (simp [*, errW_none, errW_some] <;> rfl), by first | exact Kd.S_nil _ _ _ _ _ | exact Kd.N_nil _ _ _ _ _ | exact Kd.V_nil _ _ _ _ _ | exact Kd.Q_nil _ _ _ _ _ | exact Kd.R_nil _ _ _ _ _, by first | exact Kd.R_nil _ _ _ _ _ | exact Kd.N_nil _ _ _ _ _ | exact Kd.V_nil _ _ _ _ _ | exact Kd.Q_nil _ _ _ _ _ | exact Kd.S_nil _ _ _ _ _, Op.ht HB.out⟩
   ·replace c47 := Bool.eq_false_iff.mpr c47
    subst c47
    have H1 : ((impl_ownPool.f kj4 l0_0 l0_1).bind fun bt288 => (if 4 ≤ 35184372088832 then ((some (List.replicate 4 0 : List Int)).bind fun y298 => (if 0 ≤ a1 then (if a1 < (l0_1.length : Int) then (if (rd l0_1 a1) ≥ 0 then (if 0 ≤ (rd l0_1 a1) then (if (rd l0_1 a1) < (l0_0.length : Int) then ((slices_Clone_int_int.f ((rd_T65 l0_0 (rd l0_1 a1)).f0)).bind fun t303 => (impl_PutIn.j1 kj4 a2 a3 t303 y298 l0_0 l0_1 bt288.1 bt288.2)) else (none)) else (none)) else (impl_PutIn.j1 kj4 a2 a3 (([(-1), (-1), (-1), (-1)] : List Int)) y298 l0_0 l0_1 bt288.1 bt288.2)) else (none)) else (none))) else (none))) = some (r1, r2, r3) := by rw [if_neg (show ¬ (false = true) by decide)] at H; exact H
    clear H
    have H := H1
    clear H1
    replace H := Option.bind_eq_some_iff.mp H
    obtain ⟨⟨t288, t291⟩, A500, H⟩ := H
    replace H : (if 4 ≤ 35184372088832 then ((some (List.replicate 4 0 : List Int)).bind fun y298 => (if 0 ≤ a1 then (if a1 < (l0_1.length : Int) then (if (rd l0_1 a1) ≥ 0 then (if 0 ≤ (rd l0_1 a1) then (if (rd l0_1 a1) < (l0_0.length : Int) then ((slices_Clone_int_int.f ((rd_T65 l0_0 (rd l0_1 a1)).f0)).bind fun t303 => (impl_PutIn.j1 kj4 a2 a3 t303 y298 l0_0 l0_1 t288 t291)) else (none)) else (none)) else (impl_PutIn.j1 kj4 a2 a3 (([(-1), (-1), (-1), (-1)] : List Int)) y298 l0_0 l0_1 t288 t291)) else (none)) else (none))) else (none)) = some (r1, r2, r3) := H
    have A50 := Op.k A500
    clear A500
    obtain ⟨y295, hy295⟩ : ∃ y_ : List Int, y_ = (([(-1), (-1), (-1), (-1)] : List Int)) := ⟨_, rfl⟩
    replace H : (if 4 ≤ 35184372088832 then ((some (List.replicate 4 0 : List Int)).bind fun y298 => (if 0 ≤ a1 then (if a1 < (l0_1.length : Int) then (if (rd l0_1 a1) ≥ 0 then (if 0 ≤ (rd l0_1 a1) then (if (rd l0_1 a1) < (l0_0.length : Int) then ((slices_Clone_int_int.f ((rd_T65 l0_0 (rd l0_1 a1)).f0)).bind fun t303 => (impl_PutIn.j1 kj4 a2 a3 t303 y298 l0_0 l0_1 t288 t291)) else (none)) else (none)) else (impl_PutIn.j1 kj4 a2 a3 y295 y298 l0_0 l0_1 t288 t291)) else (none)) else (none))) else (none)) = some (r1, r2, r3) := by first | (rw [hy295]; with_reducible exact H) | (have H2_ := (Option.bind_some _ _).symm.trans H; rw [hy295]; with_reducible exact H2_) | (have H2_ := (Option.bind_some _ _).symm.trans H; with_reducible exact H2_) | with_reducible exact H | (rw [hy295]; exact H) | exact H
    have Ny295 := Op.k hy295
    clear hy295
    by_cases c51 : 4 ≤ 35184372088832
    ·rw [if_pos c51] at H
     have c51b0 := eq_true c51
     have c51b1 : decide (4 ≤ 35184372088832) = true := decide_eq_true c51
     clear c51
     obtain ⟨y298, hy298⟩ : ∃ y_ : List Int, y_ = (List.replicate 4 0) := ⟨_, rfl⟩
     replace H : (if 0 ≤ a1 then (if a1 < (l0_1.length : Int) then (if (rd l0_1 a1) ≥ 0 then (if 0 ≤ (rd l0_1 a1) then (if (rd l0_1 a1) < (l0_0.length : Int) then ((slices_Clone_int_int.f ((rd_T65 l0_0 (rd l0_1 a1)).f0)).bind fun t303 => (impl_PutIn.j1 kj4 a2 a3 t303 y298 l0_0 l0_1 t288 t291)) else (none)) else (none)) else (impl_PutIn.j1 kj4 a2 a3 y295 y298 l0_0 l0_1 t288 t291)) else (none)) else (none)) = some (r1, r2, r3) := by first | (rw [hy298]; with_reducible exact H) | (have H2_ := (Option.bind_some _ _).symm.trans H; rw [hy298]; with_reducible exact H2_) | (have H2_ := (Option.bind_some _ _).symm.trans H; with_reducible exact H2_) | with_reducible exact H | (rw [hy298]; exact H) | exact H
     have Ny298 := Op.k hy298
     clear hy298
     by_cases c52 : 0 ≤ a1
     ·rw [if_pos c52] at H
      have c52b0 : decide (0 ≤ a1) = true := decide_eq_true c52
      clear c52
      by_cases c53 : a1 < (l0_1.length : Int)
      ·rw [if_pos c53] at H
       have c53b0 : decide (a1 < (l0_1.length : Int)) = true := decide_eq_true c53
       clear c53
       have HC54 := Op.k H
       clear H
       have hnb55 := NB280_281.out
       have hnc55 := NB281_280.out
       have hcz56_0 := Op.c0 BK280.out
       have hcz56_1 := Op.c1 BK280.out
       have hfz56_0 := Op.bf BK280.out 0
       have hfz56_1 := Op.bf BK280.out 1
       try go_wp2_with (first | ((with_reducible refine gate_callee (f := 66) rfl ?_); refine goesL_ (some 45) rfl rfl Try.func66 (by kernel_rfl) rfl #[.agg #[.slice A0_0 l0_0.length c0_0, .slice A0_1 l0_1.length c0_1]] rfl (by (try simp only [List.map_toArray, List.map_cons, List.map_nil]); first | done | rfl | (simp only [List.length_drop, List.length_take]; rfl)) ?_; (with_reducible refine (impl_ownPool.calls kj4 _ _ l0_0 _ _ l0_1 t288 t291 _ ?side1 ?side2 ?side3 ?side4 A50.out).mono ?_); (case side1 => exact Op.ct (Kd.C_below HR0_0.out HB.out)); (case side2 => exact HC0_0.out); (case side3 => exact Op.ct (Kd.C_below HR0_1.out HB.out)); (case side4 => exact HC0_1.out); rintro e w57 ⟨v289, v292, rfl, ho0, ho1, hb⟩; refine ⟨_, rfl, ?_⟩; have HO290 := Op.k (Kd.S_lower ho0 (Op.a6 (Op.ht HB.out))); have HO293 := Op.k (Kd.R_lower ho1 (Op.a6 (Op.ht HB.out))); replace BK280 := Op.k (Op.b4 (Op.bt BK280.out) hb); replace BK281 := Op.k (Op.b4 (Op.bt BK281.out) hb); replace HB := Op.k (Op.a5 (Op.ht HB.out) hb); (try clear hb); (try clear hb2); (try clear hk); (try clear hi); (try clear ho0); (try clear ho1)) | ((with_reducible refine gate_dst (N := 10) rfl ?_); (try (refine gate_guard (by rfl) ?_; dsimp only)); refine box_event ?hg (N := 10) ?hd (cs := #[.slice none 0 0, .slice none 0 0]) (t := 25) ?hr ?_; (case hd => rfl); (case hg => rfl); (case hr => first | (go_simp; done) | (go_simp; rfl)); intro gb294 hg w58 hbox hb; replace HO290 := Op.k (Kd.S_below (Op.st HO290.out) hb); replace HO293 := Op.k (Kd.R_below (Op.rt HO293.out) hb); have BK294 := Op.k (hbox); have GW294 := Op.k ((Op.nz hg (Op.ht HB.out) : w.heap.size ≤ gb294)); have GE294 := Op.k ((Op.nz hg (Op.ht HB.out) : w.heap.size ≤ gb294)); replace HB := Op.k (Op.a5 (Op.ht HB.out) hb); have NB280_294 := Op.k ((Op.nl hg (Op.bt BK280.out) : gb280 ≠ gb294)); have NB294_280 := Op.k ((Op.ng hg (Op.bt BK280.out) : gb294 ≠ gb280)); replace BK280 := Op.k (Op.b4 (Op.bt BK280.out) hb); have NB281_294 := Op.k ((Op.nl hg (Op.bt BK281.out) : gb281 ≠ gb294)); have NB294_281 := Op.k ((Op.ng hg (Op.bt BK281.out) : gb294 ≠ gb281)); replace BK281 := Op.k (Op.b4 (Op.bt BK281.out) hb); clear hb hbox hg; obtain ⟨Ao59, co59, eo59⟩ := Kd.S_slice HO290.out; subst eo59; have hnb60 := NB294_280.out; have hnc60 := NB280_294.out; have hnb61 := NB294_281.out; have hnc61 := NB281_294.out; have hcz62_0 := Op.c0 BK294.out; have hcz62_1 := Op.c1 BK294.out; have hfz62_0 := Op.bf BK294.out 0; have hfz62_1 := Op.bf BK294.out 1; obtain ⟨Ao63, co63, eo63⟩ := Kd.R_slice HO293.out; subst eo63))
       have n0_ : Aside0 (Kd.S k65 65 ((w58.setCell ⟨gb294, 0, none⟩ (.slice Ao59 t288.length co59)).setCell ⟨gb294, 1, none⟩ (.slice Ao63 t291.length co63)) w.heap.size (fun k_ => some k_ ≠ (.slice Ao63 t291.length co63 : Value).ownBlock) (.slice Ao59 t288.length co59) t288) := ⟨Kd.S_mono (Op.sf HO290.out BK294.out) (fun _ hk => hk)⟩
       have n1_ : Aside0 (Kd.R (Kd.int .i64) 3 ((w58.setCell ⟨gb294, 0, none⟩ (.slice Ao59 t288.length co59)).setCell ⟨gb294, 1, none⟩ (.slice Ao63 t291.length co63)) w.heap.size (fun _ => True) (.slice Ao63 t291.length co63) t291) := ⟨Kd.R_mono (Op.rf HO293.out BK294.out) (fun _ hk => trivial)⟩
       have n2_ : Aside0 (((w58.setCell ⟨gb294, 0, none⟩ (.slice Ao59 t288.length co59)).setCell ⟨gb294, 1, none⟩ (.slice Ao63 t291.length co63)).heap[gb280]? = some (.cells #[.slice A0_0 l0_0.length c0_0, .slice A0_1 l0_1.length c0_1] 25 (0, 0))) := ⟨Op.bt BK280.out⟩
       have n3_ : Aside0 (((w58.setCell ⟨gb294, 0, none⟩ (.slice Ao59 t288.length co59)).setCell ⟨gb294, 1, none⟩ (.slice Ao63 t291.length co63)).heap[gb281]? = some (.cells #[.slice none 0 0, .slice none 0 0] 25 (0, 0))) := ⟨Op.bt BK281.out⟩
       have n4_ : Aside0 (((w58.setCell ⟨gb294, 0, none⟩ (.slice Ao59 t288.length co59)).setCell ⟨gb294, 1, none⟩ (.slice Ao63 t291.length co63)).heap[gb294]? = some (.cells #[.slice Ao59 t288.length co59, .slice Ao63 t291.length co63] 25 (0, 0))) := ⟨Op.bv BK294.out⟩
       have n5_ : Aside0 (Below w.heap.size w ((w58.setCell ⟨gb294, 0, none⟩ (.slice Ao59 t288.length co59)).setCell ⟨gb294, 1, none⟩ (.slice Ao63 t291.length co63))) := ⟨Op.ht HB.out⟩
       (try clear HO290)
       (try clear HO293)
       (try clear BK280)
       (try clear BK281)
       (try clear BK294)
       (try clear HB)
       generalize ((w58.setCell ⟨gb294, 0, none⟩ (.slice Ao59 t288.length co59)).setCell ⟨gb294, 1, none⟩ (.slice Ao63 t291.length co63)) = w64 at n0_ n1_ n2_ n3_ n4_ n5_ ⊢
       have HO290 := n0_
       have HO293 := n1_
       have BK280 := n2_
       have BK281 := n3_
       have BK294 := n4_
       have HB := n5_
       clear n0_ n1_ n2_ n3_ n4_ n5_
       replace HO290 := Op.k (Kd.S_drew HO290.out)
       replace HO293 := Op.k (Kd.R_drew HO293.out)
       replace BK280 := Op.k (Op.b2 BK280.out)
       replace BK281 := Op.k (Op.b2 BK281.out)
       replace BK294 := Op.k (Op.b2 BK294.out)
       replace HB := Op.k (Op.a3 HB.out)
       refine start_ (n := 4) (S := fun w' => True) (ds := []) #[false, false, false, false] (by kernel_rfl) rfl rfl trivial (fun hHeld => ?_)
       generalize w64.drew = w65 at HO290 HO293 BK280 BK281 BK294 HB hHeld ⊢
       refine join_ (σ := Value × Value) 1 #[true, true, true, false] (fun s_ => [(46, s_.1), (47, s_.2), (11, s_.1)]) (fun s_ w' => (Kd.S k65 65 w' w.heap.size (fun k_ => some k_ ≠ (.slice Ao63 t291.length co63 : Value).ownBlock ∧ some k_ ≠ (s_.1 : Value).ownBlock ∧ some k_ ≠ (s_.2 : Value).ownBlock) (.slice Ao59 t288.length co59) t288) ∧ (Kd.R (Kd.int .i64) 3 w' w.heap.size (fun k_ => some k_ ≠ (s_.1 : Value).ownBlock ∧ some k_ ≠ (s_.2 : Value).ownBlock) (.slice Ao63 t291.length co63) t291) ∧ (Kd.R (Kd.int .i64) 3 w' w.heap.size (fun k_ => some k_ ≠ (.slice Ao63 t291.length co63 : Value).ownBlock ∧ some k_ ≠ (s_.2 : Value).ownBlock) s_.1 y295) ∧ (Kd.R (Kd.int .i64) 3 w' w.heap.size (fun k_ => some k_ ≠ (.slice Ao63 t291.length co63 : Value).ownBlock ∧ some k_ ≠ (s_.1 : Value).ownBlock) s_.2 y298) ∧ (w'.heap[gb280]? = some (.cells #[.slice A0_0 l0_0.length c0_0, .slice A0_1 l0_1.length c0_1] 25 (0, 0))) ∧ (w'.heap[gb281]? = some (.cells #[.slice none 0 0, .slice none 0 0] 25 (0, 0))) ∧ (w'.heap[gb294]? = some (.cells #[.slice Ao59 t288.length co59, .slice Ao63 t291.length co63] 25 (0, 0))) ∧ (Below w.heap.size w w')) ?_ ?_
       rotate_left
       ·intro hCont
        refine two_ (i := 0) (j := 1) (Ni := some 46) (Nj := some 47) #[true, false, false, false] #[false, true, false, false] rfl rfl rfl rfl (by kernel_rfl) (by decide) (by decide) (fun K hK => ?_) (fun K hK => ?_)
        ·skip
         refine Kd.R_lit_step (Kd.int .i64) _ 3 ?hg (N := 46) ?hd (xs := ([(-1), (-1), (-1), (-1)] : List Int)) (inner := [.int .i64 (-1), .int .i64 (-1), .int .i64 (-1), .int .i64 (-1)]) (ok := fun _ => True) (okp := fun _ => True) ?hr ?hp (fun _ hk => hk) trivial (Below.refl _ _) (Nat.le_refl _) (by simp) ?_; (case hd => rfl); (case hg => rfl); (case hr => first | (go_simp; done) | (go_simp; rfl)); (case hp => exact (Reps.one (show Kd.M (Kd.int .i64) _ _ _ (-1) [.int .i64 (-1)] from rfl) (Reps.one (show Kd.M (Kd.int .i64) _ _ _ (-1) [.int .i64 (-1)] from rfl) (Reps.one (show Kd.M (Kd.int .i64) _ _ _ (-1) [.int .i64 (-1)] from rfl) (Reps.one (show Kd.M (Kd.int .i64) _ _ _ (-1) [.int .i64 (-1)] from rfl) (Reps.none _ _))))))
         intro v296 w66 ho67 hb hg_ hnew_
         clear hg_ hnew_
         (first | rw [← Ny295.out] at ho67 | (simp only [Int.reduceToNat] at ho67; rw [← Ny295.out] at ho67))
         replace HO290 := Op.k (Kd.S_elder' (Op.st HO290.out) (Kd.R_base ho67) hb)
         have HO297 := Op.k (Kd.R_lower (Kd.R_new' ho67 (Kd.R_lt (Op.rt HO293.out))) (Op.a6 (Op.ht HB.out)))
         replace HO293 := Op.k (Kd.R_elder' (Op.rt HO293.out) (Kd.R_base ho67) hb)
         replace BK280 := Op.k (Op.b4 (Op.bt BK280.out) hb)
         replace BK281 := Op.k (Op.b4 (Op.bt BK281.out) hb)
         replace BK294 := Op.k (Op.b4 (Op.bt BK294.out) hb)
         replace HB := Op.k (Op.a5 (Op.ht HB.out) hb)
         clear hb ho67
         refine hK.out _ _ trivial (fun hHeld => ?_)
         clear hK K
         refine norm_ (a' := ?_) ?_ ?_
         rotate_left
         ·show Act.put _ (some 46) _ = _
          simp only [Act.put, List.setIfInBounds_toArray, List.set_cons_zero, List.set_cons_succ, i64_w, i32_w]
          rfl
         refine pure_ (i := 2) (N := some 11) (v := ?_) (a' := ?_) #[true, false, true, false] rfl rfl (by kernel_rfl) (fun _ _ _ h => h) (Or.inl ⟨by rfl, ?_⟩) ?_ ?_
         rotate_left
         ·intro w'
          go_simp
          with_reducible rfl
         rotate_left
         ·simp only [Act.put, List.setIfInBounds_toArray, List.set_cons_zero, List.set_cons_succ, i64_w, i32_w]
          rfl
         refine one_ (i := 1) (N := some 47) #[true, true, true, false] rfl rfl (by kernel_rfl) (by decide) (fun K hK => ?_)
         refine Kd.R_make_step (Kd.int .i64) _ 3 (by rfl) (N := 47) rfl 23 _ _ rfl 4 rfl rfl Try.underlying23 (.int .i64 0) 8 info3 rfl (by decide) (by omega) 0 (ok := fun _ => True) (okp := fun _ => True) rfl (fun _ hk => hk) trivial (by omega) (by omega) (Below.refl _ _) (Nat.le_refl _) ?_
         intro v299 w68 ho69 hb hg_ hnew_
         clear hg_ hnew_
         (first | rw [← Ny298.out] at ho69 | (simp only [Int.reduceToNat] at ho69; rw [← Ny298.out] at ho69))
         replace HO290 := Op.k (Kd.S_elder' (Op.st HO290.out) (Kd.R_base ho69) hb)
         have HO300 := Op.k (Kd.R_lower (Kd.R_new' (Kd.R_new' ho69 (Kd.R_lt (Op.rt HO293.out))) (Kd.R_lt (Op.rt HO297.out))) (Op.a6 (Op.ht HB.out)))
         replace HO293 := Op.k (Kd.R_elder' (Op.rt HO293.out) (Kd.R_base ho69) hb)
         replace HO297 := Op.k (Kd.R_elder' (Op.rt HO297.out) (Kd.R_base ho69) hb)
         replace BK280 := Op.k (Op.b4 (Op.bt BK280.out) hb)
         replace BK281 := Op.k (Op.b4 (Op.bt BK281.out) hb)
         replace BK294 := Op.k (Op.b4 (Op.bt BK294.out) hb)
         replace HB := Op.k (Op.a5 (Op.ht HB.out) hb)
         clear hb ho69
         refine hK.out _ _ trivial (fun hHeld => ?_)
         clear hK K
         refine norm_ (a' := ?_) ?_ ?_
         rotate_left
         ·show Act.put _ (some 47) _ = _
          simp only [Act.put, List.setIfInBounds_toArray, List.set_cons_zero, List.set_cons_succ, i64_w, i32_w]
          rfl
         exact norm_ (by simp only [putAll, Act.put, List.setIfInBounds_toArray, List.set_cons_zero, List.set_cons_succ]) (hCont (v296, v299) _ ⟨(Kd.S_mono (Op.st HO290.out) (fun _ hk => ⟨hk.1.1, ⟨hk.1.2, hk.2⟩⟩)), (Kd.R_mono (Op.rt HO293.out) (fun _ hk => ⟨hk.1.2, hk.2⟩)), (Kd.R_mono (Op.rt HO297.out) (fun _ hk => ⟨hk.1.2, hk.2⟩)), (Kd.R_mono (Op.rt HO300.out) (fun _ hk => ⟨hk.1.2, hk.2⟩)), (Op.bt BK280.out), (Op.bt BK281.out), (Op.bt BK294.out), (Op.ht HB.out)⟩)
        ·skip
         refine Kd.R_make_step (Kd.int .i64) _ 3 (by rfl) (N := 47) rfl 23 _ _ rfl 4 rfl rfl Try.underlying23 (.int .i64 0) 8 info3 rfl (by decide) (by omega) 0 (ok := fun _ => True) (okp := fun _ => True) rfl (fun _ hk => hk) trivial (by omega) (by omega) (Below.refl _ _) (Nat.le_refl _) ?_
         intro v299 w66 ho67 hb hg_ hnew_
         clear hg_ hnew_
         (first | rw [← Ny298.out] at ho67 | (simp only [Int.reduceToNat] at ho67; rw [← Ny298.out] at ho67))
         replace HO290 := Op.k (Kd.S_elder' (Op.st HO290.out) (Kd.R_base ho67) hb)
         have HO300 := Op.k (Kd.R_lower (Kd.R_new' ho67 (Kd.R_lt (Op.rt HO293.out))) (Op.a6 (Op.ht HB.out)))
         replace HO293 := Op.k (Kd.R_elder' (Op.rt HO293.out) (Kd.R_base ho67) hb)
         replace BK280 := Op.k (Op.b4 (Op.bt BK280.out) hb)
         replace BK281 := Op.k (Op.b4 (Op.bt BK281.out) hb)
         replace BK294 := Op.k (Op.b4 (Op.bt BK294.out) hb)
         replace HB := Op.k (Op.a5 (Op.ht HB.out) hb)
         clear hb ho67
         refine hK.out _ _ trivial (fun hHeld => ?_)
         clear hK K
         refine norm_ (a' := ?_) ?_ ?_
         rotate_left
         ·show Act.put _ (some 47) _ = _
          simp only [Act.put, List.setIfInBounds_toArray, List.set_cons_zero, List.set_cons_succ, i64_w, i32_w]
          rfl
         refine one_ (i := 0) (N := some 46) #[true, true, false, false] rfl rfl (by kernel_rfl) (by decide) (fun K hK => ?_)
         refine Kd.R_lit_step (Kd.int .i64) _ 3 ?hg (N := 46) ?hd (xs := ([(-1), (-1), (-1), (-1)] : List Int)) (inner := [.int .i64 (-1), .int .i64 (-1), .int .i64 (-1), .int .i64 (-1)]) (ok := fun _ => True) (okp := fun _ => True) ?hr ?hp (fun _ hk => hk) trivial (Below.refl _ _) (Nat.le_refl _) (by simp) ?_; (case hd => rfl); (case hg => rfl); (case hr => first | (go_simp; done) | (go_simp; rfl)); (case hp => exact (Reps.one (show Kd.M (Kd.int .i64) _ _ _ (-1) [.int .i64 (-1)] from rfl) (Reps.one (show Kd.M (Kd.int .i64) _ _ _ (-1) [.int .i64 (-1)] from rfl) (Reps.one (show Kd.M (Kd.int .i64) _ _ _ (-1) [.int .i64 (-1)] from rfl) (Reps.one (show Kd.M (Kd.int .i64) _ _ _ (-1) [.int .i64 (-1)] from rfl) (Reps.none _ _))))))
         intro v296 w68 ho69 hb hg_ hnew_
         clear hg_ hnew_
         (first | rw [← Ny295.out] at ho69 | (simp only [Int.reduceToNat] at ho69; rw [← Ny295.out] at ho69))
         replace HO290 := Op.k (Kd.S_elder' (Op.st HO290.out) (Kd.R_base ho69) hb)
         have HO297 := Op.k (Kd.R_lower (Kd.R_new' (Kd.R_new' ho69 (Kd.R_lt (Op.rt HO293.out))) (Kd.R_lt (Op.rt HO300.out))) (Op.a6 (Op.ht HB.out)))
         replace HO293 := Op.k (Kd.R_elder' (Op.rt HO293.out) (Kd.R_base ho69) hb)
         replace HO300 := Op.k (Kd.R_elder' (Op.rt HO300.out) (Kd.R_base ho69) hb)
         replace BK280 := Op.k (Op.b4 (Op.bt BK280.out) hb)
         replace BK281 := Op.k (Op.b4 (Op.bt BK281.out) hb)
         replace BK294 := Op.k (Op.b4 (Op.bt BK294.out) hb)
         replace HB := Op.k (Op.a5 (Op.ht HB.out) hb)
         clear hb ho69
         refine hK.out _ _ trivial (fun hHeld => ?_)
         clear hK K
         refine norm_ (a' := ?_) ?_ ?_
         rotate_left
         ·show Act.put _ (some 46) _ = _
          simp only [Act.put, List.setIfInBounds_toArray, List.set_cons_zero, List.set_cons_succ, i64_w, i32_w]
          rfl
         refine pure_ (i := 2) (N := some 11) (v := ?_) (a' := ?_) #[true, true, true, false] rfl rfl (by kernel_rfl) (fun _ _ _ h => h) (Or.inl ⟨by rfl, ?_⟩) ?_ ?_
         rotate_left
         ·intro w'
          go_simp
          with_reducible rfl
         rotate_left
         ·simp only [Act.put, List.setIfInBounds_toArray, List.set_cons_zero, List.set_cons_succ, i64_w, i32_w]
          rfl
         exact norm_ (by simp only [putAll, Act.put, List.setIfInBounds_toArray, List.set_cons_zero, List.set_cons_succ]) (hCont (v296, v299) _ ⟨(Kd.S_mono (Op.st HO290.out) (fun _ hk => ⟨hk.1.1, ⟨hk.2, hk.1.2⟩⟩)), (Kd.R_mono (Op.rt HO293.out) (fun _ hk => ⟨hk.2, hk.1.2⟩)), (Kd.R_mono (Op.rt HO297.out) (fun _ hk => ⟨hk.1.2, hk.2⟩)), (Kd.R_mono (Op.rt HO300.out) (fun _ hk => ⟨hk.1.2, hk.2⟩)), (Op.bt BK280.out), (Op.bt BK281.out), (Op.bt BK294.out), (Op.ht HB.out)⟩)
       rintro ⟨v296, v299⟩ w70 ⟨h0_, h1_, h2_, h3_, h4_, h5_, h6_, h7_⟩
       have n0_ : Aside0 (Kd.S k65 65 w70 w.heap.size (fun k_ => some k_ ≠ (.slice Ao63 t291.length co63 : Value).ownBlock ∧ some k_ ≠ (v296 : Value).ownBlock ∧ some k_ ≠ (v299 : Value).ownBlock) (.slice Ao59 t288.length co59) t288) := ⟨h0_⟩
       have n1_ : Aside0 (Kd.R (Kd.int .i64) 3 w70 w.heap.size (fun k_ => some k_ ≠ (v296 : Value).ownBlock ∧ some k_ ≠ (v299 : Value).ownBlock) (.slice Ao63 t291.length co63) t291) := ⟨h1_⟩
       have n2_ : Aside0 (Kd.R (Kd.int .i64) 3 w70 w.heap.size (fun k_ => some k_ ≠ (.slice Ao63 t291.length co63 : Value).ownBlock ∧ some k_ ≠ (v299 : Value).ownBlock) v296 y295) := ⟨h2_⟩
       have n3_ : Aside0 (Kd.R (Kd.int .i64) 3 w70 w.heap.size (fun k_ => some k_ ≠ (.slice Ao63 t291.length co63 : Value).ownBlock ∧ some k_ ≠ (v296 : Value).ownBlock) v299 y298) := ⟨h3_⟩
       have n4_ : Aside0 (w70.heap[gb280]? = some (.cells #[.slice A0_0 l0_0.length c0_0, .slice A0_1 l0_1.length c0_1] 25 (0, 0))) := ⟨h4_⟩
       have n5_ : Aside0 (w70.heap[gb281]? = some (.cells #[.slice none 0 0, .slice none 0 0] 25 (0, 0))) := ⟨h5_⟩
       have n6_ : Aside0 (w70.heap[gb294]? = some (.cells #[.slice Ao59 t288.length co59, .slice Ao63 t291.length co63] 25 (0, 0))) := ⟨h6_⟩
       have n7_ : Aside0 (Below w.heap.size w w70) := ⟨h7_⟩
       clear HO290
       clear HO293
       clear BK280
       clear BK281
       clear BK294
       clear HB
       clear h0_ h1_ h2_ h3_ h4_ h5_ h6_ h7_
       have HO290 := n0_
       have HO293 := n1_
       have HO297 := n2_
       have HO300 := n3_
       have BK280 := n4_
       have BK281 := n5_
       have BK294 := n6_
       have HB := n7_
       clear n0_ n1_ n2_ n3_ n4_ n5_ n6_ n7_
       have hHeld := trivial
       refine norm_ (a' := ?_) ?_ ?_
       rotate_left
       ·simp only [putAll, Act.put, List.setIfInBounds_toArray, List.set_cons_zero, List.set_cons_succ]
        rfl
       refine pure_ (i := 3) (N := some 12) (v := ?_) (a' := ?_) #[true, true, true, true] rfl rfl (by kernel_rfl) (fun _ _ _ h => h) (Or.inl ⟨by rfl, ?_⟩) ?_ ?_
       rotate_left
       ·intro w'
        go_simp
        with_reducible rfl
       rotate_left
       ·simp only [Act.put, List.setIfInBounds_toArray, List.set_cons_zero, List.set_cons_succ, i64_w, i32_w]
        rfl
       refine done_ (by kernel_rfl) ?_
       have hcz71_0 := Op.c0 BK280.out
       have hcz71_1 := Op.c1 BK280.out
       have hfz71_0 := Op.bf BK280.out 0
       have hfz71_1 := Op.bf BK280.out 1
       have p301 : 0 ≤ (a1 : Int) := Op.dt
       have q301 : a1 < (l0_1.length : Int) := Op.dt
       obtain ⟨ad301, e301, hx301_0⟩ := Kd.at_int HR0_1.out a1 p301 q301
       cases e301
       replace hx301_0 := (HB.out.cell (World.block_lt_of_cell? w _ hx301_0)).trans hx301_0
       replace p301 := eq_true p301
       replace q301 := eq_true q301
       go_upto_if 54 with (fail)
       go_cut [11] (fun v11 wc => ∃ (kq : Nat) (x11_53 : List Int), Aside0 (impl_PutIn.j1 kq a2 a3 x11_53 y298 l0_0 l0_1 t288 t291 = some (r1, r2, r3)) ∧ Aside0 (kq ≤ kj4) ∧ Aside0 (Kd.R (Kd.int .i64) 3 wc w.heap.size (fun k_ => some k_ ≠ (v299 : Value).ownBlock ∧ some k_ ≠ ((.slice Ao63 t291.length co63) : Value).ownBlock) v11 x11_53) ∧ Aside0 (Kd.R (Kd.int .i64) 3 wc w.heap.size (fun k_ => some k_ ≠ (v11 : Value).ownBlock ∧ some k_ ≠ ((.slice Ao63 t291.length co63) : Value).ownBlock) v299 y298) ∧ Aside0 (Kd.S k65 65 wc w.heap.size (fun k_ => some k_ ≠ (v11 : Value).ownBlock ∧ some k_ ≠ (v299 : Value).ownBlock ∧ some k_ ≠ ((.slice Ao63 t291.length co63) : Value).ownBlock) (.slice Ao59 t288.length co59) t288) ∧ Aside0 (Kd.R (Kd.int .i64) 3 wc w.heap.size (fun k_ => some k_ ≠ (v11 : Value).ownBlock ∧ some k_ ≠ (v299 : Value).ownBlock) (.slice Ao63 t291.length co63) t291) ∧ Aside0 (wc.heap[gb280]? = some (.cells #[(.slice A0_0 l0_0.length c0_0), (.slice (some ad301) l0_1.length c0_1)] 25 (0, 0))) ∧ Aside0 (wc.heap[gb281]? = some (.cells #[(.slice none 0 0), (.slice none 0 0)] 25 (0, 0))) ∧ Aside0 (wc.heap[gb294]? = some (.cells #[(.slice Ao59 t288.length co59), (.slice Ao63 t291.length co63)] 25 (0, 0))) ∧ Aside0 (Below w.heap.size w wc))
       case first =>
        have H := HC54.out
        clear HC54
        by_cases c72 : (rd l0_1 a1) ≥ 0
        ·rw [if_pos c72] at H
         have c72b0 : decide (0 ≤ (rd l0_1 a1)) = true := decide_eq_true c72
         clear c72
         (first | rw [c72b0] | (simp only [i64_w, i32_w]; rw [c72b0]) | skip)
         by_cases c73 : 0 ≤ (rd l0_1 a1)
         ·rw [if_pos c73] at H
          have c73b0 : decide (0 ≤ (rd l0_1 a1)) = true := decide_eq_true c73
          clear c73
          by_cases c74 : (rd l0_1 a1) < (l0_0.length : Int)
          ·rw [if_pos c74] at H
           have c74b0 : decide ((rd l0_1 a1) < (l0_0.length : Int)) = true := decide_eq_true c74
           clear c74
           replace H := Option.bind_eq_some_iff.mp H
           obtain ⟨t303, A750, H⟩ := H
           try dsimp only at H
           have A75 := Op.k A750
           clear A750
           have H' := Op.k H
           clear H
           have hnb76 := NB280_281.out
           have hnc76 := NB281_280.out
           have hnb77 := NB280_294.out
           have hnc77 := NB294_280.out
           have hcz78_0 := Op.c0 BK280.out
           have hcz78_1 := Op.c1 BK280.out
           have hfz78_0 := Op.bf BK280.out 0
           have hfz78_1 := Op.bf BK280.out 1
           have p302 : 0 ≤ ((rd l0_1 a1) : Int) := Op.dt
           have q302 : (rd l0_1 a1) < (l0_0.length : Int) := Op.dt
           obtain ⟨ad302, A302_0, c302_0, e302, hx302_0, hx302_1, hl302_0, hi302_0⟩ := at_T65 HR0_0.out (rd l0_1 a1) p302 q302
           cases e302
           replace hx302_0 := (HB.out.cell (World.block_lt_of_cell? w _ hx302_0)).trans hx302_0
           replace hx302_1 := (HB.out.cell (World.block_lt_of_cell? w _ hx302_1)).trans hx302_1
           have HR302_0 := Op.k hi302_0
           have HC302_0 := Op.k hl302_0
           clear hi302_0 hl302_0
           replace p302 := eq_true p302
           replace q302 := eq_true q302
           go_wp2_with (first | ((with_reducible refine gate_callee (f := 68) rfl ?_); refine goesL_ (some 61) rfl rfl Try.func68 (by kernel_rfl) rfl #[.slice A302_0 ((rd_T65 l0_0 (rd l0_1 a1)).f0).length c302_0] rfl (by (try simp only [List.map_toArray, List.map_cons, List.map_nil]); first | done | rfl | (simp only [List.length_drop, List.length_take]; rfl)) ?_; (with_reducible refine (slices_Clone_int_int.calls _ _ ((rd_T65 l0_0 (rd l0_1 a1)).f0) t303 _ ?side1 ?side2 A75.out).mono ?_); (case side1 => exact Op.ct (Kd.C_below HR302_0.out HB.out)); (case side2 => exact HC302_0.out); rintro e w79 ⟨v304, rfl, ho0, hb⟩; refine ⟨_, rfl, ?_⟩; replace HO290 := Op.k (Kd.S_elder' (Op.st HO290.out) (Kd.R_base ho0) hb); have HO305 := Op.k (Kd.R_lower (Kd.R_new' (Kd.R_new' (Kd.R_new' ho0 (Kd.R_lt (Op.rt HO293.out))) (Kd.R_lt (Op.rt HO297.out))) (Kd.R_lt (Op.rt HO300.out))) (Op.a6 (Op.ht HB.out))); replace HO293 := Op.k (Kd.R_elder' (Op.rt HO293.out) (Kd.R_base ho0) hb); replace HO297 := Op.k (Kd.R_elder' (Op.rt HO297.out) (Kd.R_base ho0) hb); replace HO300 := Op.k (Kd.R_elder' (Op.rt HO300.out) (Kd.R_base ho0) hb); replace BK280 := Op.k (Op.b4 (Op.bt BK280.out) hb); replace BK281 := Op.k (Op.b4 (Op.bt BK281.out) hb); replace BK294 := Op.k (Op.b4 (Op.bt BK294.out) hb); replace HB := Op.k (Op.a5 (Op.ht HB.out) hb); (try clear hb); (try clear hb2); (try clear hk); (try clear hi); (try clear ho0)))
           go_meet
           case rel => exact ⟨_, (t303), H', ⟨by have := HJ4.out; first | omega | exact Nat.le_refl _⟩, ⟨Kd.R_mono (Op.rt HO305.out) (fun _ hk => ⟨hk.2, hk.1.1.2⟩)⟩, ⟨Kd.R_mono (Op.rt HO300.out) (fun _ hk => ⟨hk.2, hk.1.1⟩)⟩, ⟨Kd.S_mono (Op.st HO290.out) (fun _ hk => ⟨hk.2, ⟨hk.1.2.2, hk.1.1⟩⟩)⟩, ⟨Kd.R_mono (Op.rt HO293.out) (fun _ hk => ⟨hk.2, hk.1.2⟩)⟩, ⟨Op.bt BK280.out⟩, ⟨Op.bt BK281.out⟩, ⟨Op.bt BK294.out⟩, ⟨Op.ht HB.out⟩⟩
          ·rw [if_neg c74] at H
           exact absurd H (by simp)
         ·rw [if_neg c73] at H
          exact absurd H (by simp)
        ·rw [if_neg c72] at H
         have c72b0 : decide (0 ≤ (rd l0_1 a1)) = false := decide_eq_false c72
         clear c72
         (first | rw [c72b0] | (simp only [i64_w, i32_w]; rw [c72b0]) | skip)
         have H' := Op.k H
         clear H
         go_wp2
         go_meet
         case rel => exact ⟨_, (y295), H', ⟨by have := HJ4.out; first | omega | exact Nat.le_refl _⟩, ⟨Kd.R_mono (Op.rt HO297.out) (fun _ hk => ⟨hk.2, hk.1⟩)⟩, ⟨Kd.R_mono (Op.rt HO300.out) (fun _ hk => ⟨hk.2, hk.1⟩)⟩, ⟨Kd.S_mono (Op.st HO290.out) (fun _ hk => ⟨hk.2.1, ⟨hk.2.2, hk.1⟩⟩)⟩, ⟨Op.rt HO293.out⟩, ⟨Op.bt BK280.out⟩, ⟨Op.bt BK281.out⟩, ⟨Op.bt BK294.out⟩, ⟨Op.ht HB.out⟩⟩
       case rest =>
        clear HC54
        try clear c1
        try clear c2
        try clear p2
        try clear c3
        try clear p3
        try clear q3
        try clear hx3
        try clear c4
        try clear c5
        try clear c6
        try clear p6
        try clear c7
        try clear c9
        try clear c11
        try clear c13
        try clear c14
        try clear c14b0
        try clear c15
        try clear c22
        try clear c29
        try clear c30
        try clear p30
        try clear q30
        try clear hx30
        try clear c34
        try clear c35
        try clear c41
        try clear c47
        try clear c48
        try clear c51
        try clear c51b0
        try clear c51b1
        try clear c52
        try clear c52b0
        try clear c53
        try clear c53b0
        try clear c55
        try clear c60
        try clear c61
        try clear p64
        try clear c66
        try clear c68
        try clear c72
        try clear c72b0
        try clear c73
        try clear c73b0
        try clear c74
        try clear c74b0
        try clear c76
        try clear c77
        try clear hcz16_0
        try clear hcz16_1
        try clear hcz21_0
        try clear hcz21_1
        try clear hcz23_0
        try clear hcz23_1
        try clear hcz28_0
        try clear hcz28_1
        try clear hcz30_0
        try clear hcz30_1
        try clear hcz36_0
        try clear hcz36_1
        try clear hcz42_0
        try clear hcz42_1
        try clear hcz49_0
        try clear hcz49_1
        try clear hcz56_0
        try clear hcz56_1
        try clear hcz62_0
        try clear hcz62_1
        try clear hcz71_0
        try clear hcz71_1
        try clear hcz78_0
        try clear hcz78_1
        try clear hfz16_0
        try clear hfz16_1
        try clear hfz21_0
        try clear hfz21_1
        try clear hfz23_0
        try clear hfz23_1
        try clear hfz28_0
        try clear hfz28_1
        try clear hfz30_0
        try clear hfz30_1
        try clear hfz36_0
        try clear hfz36_1
        try clear hfz42_0
        try clear hfz42_1
        try clear hfz49_0
        try clear hfz49_1
        try clear hfz56_0
        try clear hfz56_1
        try clear hfz62_0
        try clear hfz62_1
        try clear hfz71_0
        try clear hfz71_1
        try clear hfz78_0
        try clear hfz78_1
        try clear hx301_0
        try clear hx302_0
        try clear hx302_1
        try clear p2
        try clear p301
        try clear p302
        try clear p6
        try clear q301
        try clear q302
        obtain ⟨kq, x11_53, HA, HJ53, HO_11, HO_12, HO_295000, HO_295001, BK280, BK281, BK294, HB⟩ := hcut
        cases kq with
        | zero => exact absurd HA.out (by simp [impl_PutIn.j1])
        | succ kj53 =>
         have H := HA.out
         clear HA
         simp only [impl_PutIn.j1] at H
         obtain ⟨ji80, hji80⟩ : ∃ j_ : Int, (wrap64 (Int.tdiv a2 4)) = j_ := ⟨_, rfl⟩
         replace H : (if 0 ≤ (ji80) then (if (ji80) < (x11_53.length : Int) then (if (rd x11_53 (ji80)) ≥ 0 then (if 0 ≤ (rd x11_53 (ji80)) then (if (rd x11_53 (ji80)) < (l0_0.length : Int) then ((slices_Clone_int_int.f ((rd_T65 l0_0 (rd x11_53 (ji80))).f0)).bind fun t308 => (if 0 ≤ (Int.tmod a2 4) then (if (Int.tmod a2 4) < (t308.length : Int) then (if t288.length + 1 < 4398046511104 then ((some (t288 ++ [(⟨(t308.set ((Int.tmod a2 4) : Int).toNat a3), true⟩ : S65), (⟨(x11_53.set ((ji80) : Int).toNat (t288.length : Int)), false⟩ : S65)] : List (S65))).bind fun y313 => (if t291.length < 17592186044416 then (some (y313, (t291 ++ [wrap64 ((y313.length : Int) - 1)]), true)) else (none))) else (none)) else (none)) else (none))) else (none)) else (none)) else (if 0 ≤ (Int.tmod a2 4) then (if (Int.tmod a2 4) < (y298.length : Int) then (if t288.length + 1 < 4398046511104 then ((some (t288 ++ [(⟨(y298.set ((Int.tmod a2 4) : Int).toNat a3), true⟩ : S65), (⟨(x11_53.set ((ji80) : Int).toNat (t288.length : Int)), false⟩ : S65)] : List (S65))).bind fun y321 => (if t291.length < 17592186044416 then (some (y321, (t291 ++ [wrap64 ((y321.length : Int) - 1)]), true)) else (none))) else (none)) else (none)) else (none))) else (none)) else (none)) = some (r1, r2, r3) := by first | (rw [hji80] at H; exact H) | (simp only [hji80] at H ⊢; exact H)
         have hji80w : (IntKind.i64.wrap (Int.tdiv a2 4)) = ji80 := (i64_w _).trans hji80
         by_cases c81 : 0 ≤ (ji80)
         ·rw [if_pos c81] at H
          have c81b0 : decide (0 ≤ (ji80)) = true := decide_eq_true c81
          clear c81
          by_cases c82 : (ji80) < (x11_53.length : Int)
          ·rw [if_pos c82] at H
           have c82b0 : decide ((ji80) < (x11_53.length : Int)) = true := decide_eq_true c82
           clear c82
           by_cases c83 : (rd x11_53 (ji80)) ≥ 0
           ·rw [if_pos c83] at H
            have c83b0 : decide (0 ≤ (rd x11_53 (ji80))) = true := decide_eq_true c83
            clear c83
            by_cases c84 : 0 ≤ (rd x11_53 (ji80))
            ·rw [if_pos c84] at H
             have c84b0 : decide (0 ≤ (rd x11_53 (ji80))) = true := decide_eq_true c84
             clear c84
             by_cases c85 : (rd x11_53 (ji80)) < (l0_0.length : Int)
             ·rw [if_pos c85] at H
              have c85b0 : decide ((rd x11_53 (ji80)) < (l0_0.length : Int)) = true := decide_eq_true c85
              clear c85
              replace H := Option.bind_eq_some_iff.mp H
              obtain ⟨t308, A860, H⟩ := H
              replace H : (if 0 ≤ (Int.tmod a2 4) then (if (Int.tmod a2 4) < (t308.length : Int) then (if t288.length + 1 < 4398046511104 then ((some (t288 ++ [(⟨(t308.set ((Int.tmod a2 4) : Int).toNat a3), true⟩ : S65), (⟨(x11_53.set ((ji80) : Int).toNat (t288.length : Int)), false⟩ : S65)] : List (S65))).bind fun y313 => (if t291.length < 17592186044416 then (some (y313, (t291 ++ [wrap64 ((y313.length : Int) - 1)]), true)) else (none))) else (none)) else (none)) else (none)) = some (r1, r2, r3) := H
              have A86 := Op.k A860
              clear A860
              obtain ⟨ji87, hji87⟩ : ∃ j_ : Int, (Int.tmod a2 4) = j_ := ⟨_, rfl⟩
              replace H : (if 0 ≤ (ji87) then (if (ji87) < (t308.length : Int) then (if t288.length + 1 < 4398046511104 then ((some (t288 ++ [(⟨(t308.set ((ji87) : Int).toNat a3), true⟩ : S65), (⟨(x11_53.set ((ji80) : Int).toNat (t288.length : Int)), false⟩ : S65)] : List (S65))).bind fun y313 => (if t291.length < 17592186044416 then (some (y313, (t291 ++ [wrap64 ((y313.length : Int) - 1)]), true)) else (none))) else (none)) else (none)) else (none)) = some (r1, r2, r3) := by first | (rw [hji87] at H; exact H) | (simp only [hji87] at H ⊢; exact H)
              (try rw [hji87] at A86)
              by_cases c88 : 0 ≤ (ji87)
              ·rw [if_pos c88] at H
               have c88b0 : decide (0 ≤ (ji87)) = true := decide_eq_true c88
               clear c88
               by_cases c89 : (ji87) < (t308.length : Int)
               ·rw [if_pos c89] at H
                have c89b0 : decide ((ji87) < (t308.length : Int)) = true := decide_eq_true c89
                clear c89
                obtain ⟨y311, hy311⟩ : ∃ y_ : List Int, y_ = (t308.set ((ji87) : Int).toNat a3) := ⟨_, rfl⟩
                replace H : (if t288.length + 1 < 4398046511104 then ((some (t288 ++ [(⟨y311, true⟩ : S65), (⟨(x11_53.set ((ji80) : Int).toNat (t288.length : Int)), false⟩ : S65)] : List (S65))).bind fun y313 => (if t291.length < 17592186044416 then (some (y313, (t291 ++ [wrap64 ((y313.length : Int) - 1)]), true)) else (none))) else (none)) = some (r1, r2, r3) := by first | (rw [hy311]; with_reducible exact H) | (have H2_ := (Option.bind_some _ _).symm.trans H; rw [hy311]; with_reducible exact H2_) | (have H2_ := (Option.bind_some _ _).symm.trans H; with_reducible exact H2_) | with_reducible exact H | (rw [hy311]; exact H) | exact H
                have Ny311 := Op.k hy311
                clear hy311
                obtain ⟨y312, hy312⟩ : ∃ y_ : List Int, y_ = (x11_53.set ((ji80) : Int).toNat (t288.length : Int)) := ⟨_, rfl⟩
                replace H : (if t288.length + 1 < 4398046511104 then ((some (t288 ++ [(⟨y311, true⟩ : S65), (⟨y312, false⟩ : S65)] : List (S65))).bind fun y313 => (if t291.length < 17592186044416 then (some (y313, (t291 ++ [wrap64 ((y313.length : Int) - 1)]), true)) else (none))) else (none)) = some (r1, r2, r3) := by first | (rw [hy312]; with_reducible exact H) | (have H2_ := (Option.bind_some _ _).symm.trans H; rw [hy312]; with_reducible exact H2_) | (have H2_ := (Option.bind_some _ _).symm.trans H; with_reducible exact H2_) | with_reducible exact H | (rw [hy312]; exact H) | exact H
                have Ny312 := Op.k hy312
                clear hy312
                by_cases c92 : t288.length + 1 < 4398046511104
                ·rw [if_pos c92] at H
                 have LMc92 := Op.k c92
                 clear c92
                 obtain ⟨y313, hy313⟩ : ∃ y_ : List (S65), y_ = (t288 ++ [(⟨y311, true⟩ : S65), (⟨y312, false⟩ : S65)]) := ⟨_, rfl⟩
                 replace H : (if t291.length < 17592186044416 then (some (y313, (t291 ++ [wrap64 ((y313.length : Int) - 1)]), true)) else (none)) = some (r1, r2, r3) := by first | (rw [hy313]; with_reducible exact H) | (have H2_ := (Option.bind_some _ _).symm.trans H; rw [hy313]; with_reducible exact H2_) | (have H2_ := (Option.bind_some _ _).symm.trans H; with_reducible exact H2_) | with_reducible exact H | (rw [hy313]; exact H) | exact H
                 have Ny313 := Op.k hy313
                 clear hy313
                 by_cases c93 : t291.length < 17592186044416
                 ·rw [if_pos c93] at H
                  have LMc93 := Op.k c93
                  clear c93
                  obtain ⟨y316, hy316⟩ : ∃ y_ : List Int, y_ = (t291 ++ [wrap64 ((y313.length : Int) - 1)]) := ⟨_, rfl⟩
                  replace H : (some (y313, y316, true)) = some (r1, r2, r3) := by first | (rw [hy316]; with_reducible exact H) | (have H2_ := (Option.bind_some _ _).symm.trans H; rw [hy316]; with_reducible exact H2_) | (have H2_ := (Option.bind_some _ _).symm.trans H; with_reducible exact H2_) | with_reducible exact H | (rw [hy316]; exact H) | exact H
                  have Ny316 := Op.k hy316
                  clear hy316
                  simp only [Option.some.injEq, Prod.mk.injEq] at H
                  obtain ⟨rfl, rfl, rfl⟩ := H
                  obtain ⟨Ao94, co94, eo94⟩ := Kd.R_slice HO_11.out
                  subst eo94
                  have p306 : 0 ≤ ((ji80) : Int) := Op.dt
                  have q306 : (ji80) < (x11_53.length : Int) := Op.dt
                  obtain ⟨ad306, e306, hx306_0⟩ := Kd.at_int (Kd.R_reads' HO_11.out).2.2 (ji80) p306 q306
                  cases e306
                  replace p306 := eq_true p306
                  replace q306 := eq_true q306
                  have hnb95 := NB280_281.out
                  have hnc95 := NB281_280.out
                  have hnb96 := NB280_294.out
                  have hnc96 := NB294_280.out
                  have hcz97_0 := Op.c0 BK280.out
                  have hcz97_1 := Op.c1 BK280.out
                  have hfz97_0 := Op.bf BK280.out 0
                  have hfz97_1 := Op.bf BK280.out 1
                  have p307 : 0 ≤ ((rd x11_53 (ji80)) : Int) := Op.dt
                  have q307 : (rd x11_53 (ji80)) < (l0_0.length : Int) := Op.dt
                  obtain ⟨ad307, A307_0, c307_0, e307, hx307_0, hx307_1, hl307_0, hi307_0⟩ := at_T65 HR0_0.out (rd x11_53 (ji80)) p307 q307
                  cases e307
                  replace hx307_0 := (HB.out.cell (World.block_lt_of_cell? w _ hx307_0)).trans hx307_0
                  replace hx307_1 := (HB.out.cell (World.block_lt_of_cell? w _ hx307_1)).trans hx307_1
                  have HR307_0 := Op.k hi307_0
                  have HC307_0 := Op.k hl307_0
                  clear hi307_0 hl307_0
                  replace p307 := eq_true p307
                  replace q307 := eq_true q307
                  go_wp2_with (first | ((with_reducible refine gate_callee (f := 68) rfl ?_); refine goesL_ (some 75) rfl rfl Try.func68 (by kernel_rfl) rfl #[.slice A307_0 ((rd_T65 l0_0 (rd x11_53 (ji80))).f0).length c307_0] rfl (by (try simp only [List.map_toArray, List.map_cons, List.map_nil]); first | done | (simp only [hji80]; rfl) | rfl | (simp only [List.length_drop, List.length_take]; rfl)) ?_; (with_reducible refine (slices_Clone_int_int.calls _ _ ((rd_T65 l0_0 (rd x11_53 (ji80))).f0) t308 _ ?side1 ?side2 A86.out).mono ?_); (case side1 => exact Op.ct (Kd.C_below HR307_0.out HB.out)); (case side2 => exact HC307_0.out); rintro e w98 ⟨v309, rfl, ho0, hb⟩; refine ⟨_, rfl, ?_⟩; replace HO_295000 := Op.k (Kd.S_elder' (Op.st HO_295000.out) (Kd.R_base ho0) hb); have HO310 := Op.k (Kd.R_lower (Kd.R_new' (Kd.R_new' (Kd.R_new' ho0 (Kd.R_lt (Op.rt HO_11.out))) (Kd.R_lt (Op.rt HO_12.out))) (Kd.R_lt (Op.rt HO_295001.out))) (Op.a6 (Op.ht HB.out))); replace HO_11 := Op.k (Kd.R_elder' (Op.rt HO_11.out) (Kd.R_base ho0) hb); replace HO_12 := Op.k (Kd.R_elder' (Op.rt HO_12.out) (Kd.R_base ho0) hb); replace HO_295001 := Op.k (Kd.R_elder' (Op.rt HO_295001.out) (Kd.R_base ho0) hb); replace BK280 := Op.k (Op.b4 (Op.bt BK280.out) hb); replace BK281 := Op.k (Op.b4 (Op.bt BK281.out) hb); replace BK294 := Op.k (Op.b4 (Op.bt BK294.out) hb); replace HB := Op.k (Op.a5 (Op.ht HB.out) hb); (try clear hb); (try clear hb2); (try clear hk); (try clear hi); (try clear ho0); have p90 : 0 ≤ ((ji87) : Int) := Op.dt; have q90 : ((ji87) : Int) < ((t308.length : Int) : Int) := Op.dt; obtain ⟨go90, co90, eo90, gb90, gl90, cl90, HG90⟩ := Kd.R_form HO310.out (by omega); (first | cases eo90 | (injection eo90 with ea_ en_ ec_; (first | subst ea_ | (injection ea_ with ea_; subst ea_)); subst ec_; clear en_)); have GB90 := Op.k gb90; have GG90 := Op.k HG90; clear gb90 gl90 HG90; obtain ⟨hx90_0, hf90_0⟩ := Kd.R_celln 0 HO310.out ((ji87) : Int) p90 q90; replace p90 := eq_true p90; replace q90 := eq_true q90; have n_ := Op.k (Kd.R_mono (ok' := (fun k_ => some k_ ≠ (.slice (some ad306) x11_53.length co94 : Value).ownBlock ∧ some k_ ≠ (v299 : Value).ownBlock ∧ some k_ ≠ (.slice Ao63 t291.length co63 : Value).ownBlock)) HO310.out (fun k_ hk => ⟨hk.1.1.2, ⟨hk.1.2, hk.2⟩⟩)); clear HO310; have HO310 := n_; clear n_; obtain ⟨hy99_, hz99_⟩ := Kd.R_celln 0 HO310.out ((ji87) : Int) (Op.dt) (Op.dt); have HP99 := Kd.R_putg HO310.out ((ji87) : Int) a3) | ((with_reducible refine gate_store (t := 3) (p := 80) rfl ?_); refine store_event (t := 3) (p := 80) (v := ?vo_w100) (w1 := (w98.setCell ⟨go90, ((ji87) : Int).toNat, none⟩ (.int .i64 a3))) ?hg ?ho ?hn ?hr ?_; (case ho => rfl); (case hg => rfl); (case hn => rfl); (case hr => first | (go_simp; done) | (go_simp; rfl)); intro w100 hw; have hg : w98.grownBy w100 (some go90) := (by rw [hw]; exact HP99.2); have hp_ : Kd.R (Kd.int .i64) 3 w100 w.heap.size (fun k_ => some k_ ≠ (.slice (some ad306) x11_53.length co94 : Value).ownBlock ∧ some k_ ≠ (v299 : Value).ownBlock ∧ some k_ ≠ (.slice Ao63 t291.length co63 : Value).ownBlock) (.slice (some ⟨go90, 0, none⟩) t308.length co90) y311 := (by rw [hw, Ny311.out]; exact HP99.1); clear HP99; replace HO_11 := Op.k (Kd.R_after (v := (.slice (some ⟨go90, 0, none⟩) t308.length co90)) (v1 := (.slice (some ⟨go90, 0, none⟩) t308.length co90)) (ok := (fun k_ => some k_ ≠ (v299 : Value).ownBlock ∧ some k_ ≠ (.slice Ao63 t291.length co63 : Value).ownBlock)) (Op.rt HO_11.out) hg (.inl rfl)); replace HO_12 := Op.k (Kd.R_after (v := (.slice (some ⟨go90, 0, none⟩) t308.length co90)) (v1 := (.slice (some ⟨go90, 0, none⟩) t308.length co90)) (ok := (fun k_ => some k_ ≠ (.slice (some ad306) x11_53.length co94 : Value).ownBlock ∧ some k_ ≠ (.slice Ao63 t291.length co63 : Value).ownBlock)) (Op.rt HO_12.out) hg (.inl rfl)); replace HO_295000 := Op.k (Kd.S_after (v := (.slice (some ⟨go90, 0, none⟩) t308.length co90)) (v1 := (.slice (some ⟨go90, 0, none⟩) t308.length co90)) (ok := (fun k_ => some k_ ≠ (.slice (some ad306) x11_53.length co94 : Value).ownBlock ∧ some k_ ≠ (v299 : Value).ownBlock ∧ some k_ ≠ (.slice Ao63 t291.length co63 : Value).ownBlock)) (Op.st HO_295000.out) hg (.inl rfl)); replace HO_295001 := Op.k (Kd.R_after (v := (.slice (some ⟨go90, 0, none⟩) t308.length co90)) (v1 := (.slice (some ⟨go90, 0, none⟩) t308.length co90)) (ok := (fun k_ => some k_ ≠ (.slice (some ad306) x11_53.length co94 : Value).ownBlock ∧ some k_ ≠ (v299 : Value).ownBlock)) (Op.rt HO_295001.out) hg (.inl rfl)); replace BK280 := Op.k (blk_grown (Op.bt BK280.out) hg (Kd.R_ne HO310.out BK280.out (by decide))); replace BK281 := Op.k (blk_grown (Op.bt BK281.out) hg (Kd.R_ne HO310.out BK281.out (by decide))); replace BK294 := Op.k (blk_grown (Op.bt BK294.out) hg (Kd.R_ne HO310.out BK294.out (by decide))); replace HO310 := Op.k (hp_); replace HB := Op.k ((by rw [hw]; exact below_set (HB.out) GB90.out : Below w.heap.size w w100)); clear hg hw hp_; have hnb101 := NB294_281.out; have hnc101 := NB281_294.out; have hcz102_0 := Op.c0 BK294.out; have hcz102_1 := Op.c1 BK294.out; have hfz102_0 := Op.bf BK294.out 0; have hfz102_1 := Op.bf BK294.out 1; have p91 : 0 ≤ ((ji80) : Int) := Op.dt; have q91 : ((ji80) : Int) < ((x11_53.length : Int) : Int) := Op.dt; obtain ⟨go91, co91, eo91, gb91, gl91, cl91, HG91⟩ := Kd.R_form HO_11.out (by omega); (first | cases eo91 | (injection eo91 with ea_ en_ ec_; (first | subst ea_ | (injection ea_ with ea_; subst ea_)); subst ec_; clear en_)); have GB91 := Op.k gb91; have GG91 := Op.k HG91; clear gb91 gl91 HG91; (first | simp only [add_plain] at hx306_0 | skip); obtain ⟨hx91_0, hf91_0⟩ := Kd.R_celln 0 HO_11.out ((ji80) : Int) p91 q91; replace p91 := eq_true p91; replace q91 := eq_true q91; have n_ := Op.k (Kd.R_mono (ok' := (fun k_ => some k_ ≠ (v299 : Value).ownBlock ∧ some k_ ≠ (.slice Ao63 t291.length co63 : Value).ownBlock ∧ some k_ ≠ (.slice (some ⟨go90, 0, none⟩) t308.length co90 : Value).ownBlock)) HO_11.out (fun k_ hk => ⟨hk.1.1, ⟨hk.1.2, hk.2⟩⟩)); clear HO_11; have HO_11 := n_; clear n_; obtain ⟨hy103_, hz103_⟩ := Kd.R_celln 0 HO_11.out ((ji80) : Int) (Op.dt) (Op.dt); have HP103 := Kd.R_putg HO_11.out ((ji80) : Int) (t288.length : Int)) | ((with_reducible refine gate_store (t := 3) (p := 87) rfl ?_); refine store_event (t := 3) (p := 87) (v := ?vo_w104) (w1 := (w100.setCell ⟨go91, ((ji80) : Int).toNat, none⟩ (.int .i64 (t288.length : Int)))) ?hg ?ho ?hn ?hr ?_; (case ho => rfl); (case hg => rfl); (case hn => rfl); (case hr => first | (go_simp; done) | (go_simp; rfl)); intro w104 hw; have hg : w100.grownBy w104 (some go91) := (by rw [hw]; exact HP103.2); have hp_ : Kd.R (Kd.int .i64) 3 w104 w.heap.size (fun k_ => some k_ ≠ (v299 : Value).ownBlock ∧ some k_ ≠ (.slice Ao63 t291.length co63 : Value).ownBlock ∧ some k_ ≠ (.slice (some ⟨go90, 0, none⟩) t308.length co90 : Value).ownBlock) (.slice (some ⟨go91, 0, none⟩) x11_53.length co94) y312 := (by rw [hw, Ny312.out]; exact HP103.1); clear HP103; replace HO_12 := Op.k (Kd.R_after (v := (.slice (some ⟨go91, 0, none⟩) x11_53.length co94)) (v1 := (.slice (some ⟨go91, 0, none⟩) x11_53.length co94)) (ok := (fun k_ => some k_ ≠ (.slice Ao63 t291.length co63 : Value).ownBlock ∧ some k_ ≠ (.slice (some ⟨go90, 0, none⟩) t308.length co90 : Value).ownBlock)) (Kd.R_mono (Op.rt HO_12.out) (fun _ hk => ⟨⟨hk.1.2, hk.2⟩, hk.1.1⟩)) hg (.inl rfl)); replace HO_295000 := Op.k (Kd.S_after (v := (.slice (some ⟨go91, 0, none⟩) x11_53.length co94)) (v1 := (.slice (some ⟨go91, 0, none⟩) x11_53.length co94)) (ok := (fun k_ => some k_ ≠ (v299 : Value).ownBlock ∧ some k_ ≠ (.slice Ao63 t291.length co63 : Value).ownBlock ∧ some k_ ≠ (.slice (some ⟨go90, 0, none⟩) t308.length co90 : Value).ownBlock)) (Kd.S_mono (Op.st HO_295000.out) (fun _ hk => ⟨⟨hk.1.2.1, ⟨hk.1.2.2, hk.2⟩⟩, hk.1.1⟩)) hg (.inl rfl)); replace HO_295001 := Op.k (Kd.R_after (v := (.slice (some ⟨go91, 0, none⟩) x11_53.length co94)) (v1 := (.slice (some ⟨go91, 0, none⟩) x11_53.length co94)) (ok := (fun k_ => some k_ ≠ (v299 : Value).ownBlock ∧ some k_ ≠ (.slice (some ⟨go90, 0, none⟩) t308.length co90 : Value).ownBlock)) (Kd.R_mono (Op.rt HO_295001.out) (fun _ hk => ⟨⟨hk.1.2, hk.2⟩, hk.1.1⟩)) hg (.inl rfl)); replace BK280 := Op.k (blk_grown (Op.bt BK280.out) hg (Kd.R_ne HO_11.out BK280.out (by decide))); replace BK281 := Op.k (blk_grown (Op.bt BK281.out) hg (Kd.R_ne HO_11.out BK281.out (by decide))); replace BK294 := Op.k (blk_grown (Op.bt BK294.out) hg (Kd.R_ne HO_11.out BK294.out (by decide))); replace HO_11 := Op.k (hp_); replace HO310 := Op.k (Kd.R_after (v := (.slice (some ⟨go91, 0, none⟩) x11_53.length co94)) (v1 := (.slice (some ⟨go91, 0, none⟩) x11_53.length co94)) (ok := (fun k_ => some k_ ≠ (v299 : Value).ownBlock ∧ some k_ ≠ (.slice Ao63 t291.length co63 : Value).ownBlock)) (Kd.R_mono (Op.rt HO310.out) (fun _ hk => ⟨⟨hk.2.1, hk.2.2⟩, hk.1⟩)) hg (.inl rfl)); replace HB := Op.k ((by rw [hw]; exact below_set (HB.out) GB91.out : Below w.heap.size w w104)); clear hg hw hp_; have hcz105_0 := Op.c0 BK294.out; have hcz105_1 := Op.c1 BK294.out; have hfz105_0 := Op.bf BK294.out 0; have hfz105_1 := Op.bf BK294.out 1) | ((with_reducible refine gate_builtin (b := .append) (xs := #[.tmp 89, .tmp 94]) rfl ?_); (try (refine gate_guard (by rfl) ?_; dsimp only)); at_builtin; refine Op.S_append2 k65 (w0 := w) w.heap.size rfl (.tmp 89) (.tmp 94) 22 65 (.agg #[(.slice none 0 0), (.bool false)]) 32 rfl Try.underlying22 info65 rfl (by decide) (by omega) (.slice Ao59 t288.length co59) t288 (⟨y311, true⟩ : S65) (⟨y312, false⟩ : S65) [.slice (some ⟨go90, 0, none⟩) t308.length co90, .bool true, .slice (some ⟨go91, 0, none⟩) x11_53.length co94, .bool false] [.slice (some ⟨go90, 0, none⟩) t308.length co90, .bool true] [.slice (some ⟨go91, 0, none⟩) x11_53.length co94, .bool false] (fun k_ => some k_ ≠ (v299 : Value).ownBlock ∧ some k_ ≠ (.slice Ao63 t291.length co63 : Value).ownBlock) (fun k_ => some k_ = (.slice (some ⟨go90, 0, none⟩) t308.length co90 : Value).ownBlock) (fun k_ => some k_ = (.slice (some ⟨go91, 0, none⟩) x11_53.length co94 : Value).ownBlock) rfl rfl rfl ?aP ?aQ (fun k_ e_ => (HO310.out.1 k_ e_.symm).2) (fun k_ hk_ => ((Kd.R_mono (ok' := fun k_ => ((fun k_ => some k_ ≠ (v299 : Value).ownBlock ∧ some k_ ≠ (.slice Ao63 t291.length co63 : Value).ownBlock)) k_ ∧ some k_ ≠ (.slice Ao59 t288.length co59 : Value).ownBlock) (Kd.R_apart' (HO310.out) (Kd.S_typed HO_295000.out) (by decide)) (fun k_ hk => ⟨⟨hk.1.1.1, hk.1.1.2⟩, hk.2⟩))).1 k_ hk_.symm) (fun k_ hk_ => ((Kd.R_mono (ok' := fun k_ => ((fun k_ => some k_ ≠ (v299 : Value).ownBlock ∧ some k_ ≠ (.slice Ao63 t291.length co63 : Value).ownBlock)) k_ ∧ some k_ ≠ (.slice Ao59 t288.length co59 : Value).ownBlock) (Kd.R_apart' (HO_11.out) (Kd.S_typed HO_295000.out) (by decide)) (fun k_ hk => ⟨⟨hk.1.1, hk.1.2.1⟩, hk.2⟩))).1 k_ hk_.symm) ?aF ?aO ?aB ?aS ?aL ?_; (case aP => exact k65_mkM _ _ _ (⟨y311, true⟩ : S65) (Kd.R_tight rfl (Kd.R_mono (ok' := fun k_ => ((fun k_ => some k_ ≠ (v299 : Value).ownBlock ∧ some k_ ≠ (.slice Ao63 t291.length co63 : Value).ownBlock)) k_ ∧ some k_ ≠ (.slice Ao59 t288.length co59 : Value).ownBlock) (Kd.R_apart' (HO310.out) (Kd.S_typed HO_295000.out) (by decide)) (fun k_ hk => ⟨⟨hk.1.1.1, hk.1.1.2⟩, hk.2⟩)))); (case aQ => exact k65_mkM _ _ _ (⟨y312, false⟩ : S65) (Kd.R_tight rfl (Kd.R_mono (ok' := fun k_ => ((fun k_ => some k_ ≠ (v299 : Value).ownBlock ∧ some k_ ≠ (.slice Ao63 t291.length co63 : Value).ownBlock)) k_ ∧ some k_ ≠ (.slice Ao59 t288.length co59 : Value).ownBlock) (Kd.R_apart' (HO_11.out) (Kd.S_typed HO_295000.out) (by decide)) (fun k_ hk => ⟨⟨hk.1.1, hk.1.2.1⟩, hk.2⟩)))); (case aB => exact (Op.ht HB.out)); (case aF => exact (fun k_ hk => ⟨Kd.fresh' (Kd.R_lt (Op.rt HO_12.out)) k_ hk, Kd.fresh' (Kd.R_lt (Op.rt HO_295001.out)) k_ hk⟩)); (case aO => exact (Kd.S_mono (Op.st HO_295000.out) (fun k_ hk => ⟨⟨hk.1.1, hk.1.2.1⟩, fun e_ => e_.elim (fun h_ => hk.1.2.2 h_) (fun h_ => hk.2 h_)⟩))); (case aS => exact (Op.a6 (Op.ht HB.out))); (case aL => have := LMc92.out; omega); intro v314 w106 ho hb hg hat; rw [← Ny313.out] at ho; have n0_ := Op.k (Kd.R_over' (Op.rt HO_12.out) (Kd.S_typed (Op.st HO_295000.out)) (by decide) hg); have n1_ := Op.k (Kd.R_over' (Op.rt HO_295001.out) (Kd.S_typed (Op.st HO_295000.out)) (by decide) hg); have n2_ := Op.k (blk_grown (Op.bt BK280.out) hg (Kd.S_ne HO_295000.out BK280.out (by decide))); have n3_ := Op.k (blk_grown (Op.bt BK281.out) hg (Kd.S_ne HO_295000.out BK281.out (by decide))); have n4_ := Op.k (blk_grown (Op.bt BK294.out) hg (Kd.S_ne HO_295000.out BK294.out (by decide))); have n5_ := Op.k (hb); have n6_ := Op.k (ho); clear HO_12; clear HO_295001; clear BK280; clear BK281; clear BK294; clear HB; clear HO_295000; clear HO310; clear HO_11; have HO_12 := n0_; have HO_295001 := n1_; have BK280 := n2_; have BK281 := n3_; have BK294 := n4_; have HB := n5_; have HO315 := n6_; clear n0_ n1_ n2_ n3_ n4_ n5_ n6_; clear ho hb hg hat; obtain ⟨Ao107, co107, eo107⟩ := Kd.S_slice HO315.out; subst eo107; have hcz108_0 := Op.c0 BK294.out; have hcz108_1 := Op.c1 BK294.out; have hfz108_0 := Op.bf BK294.out 0; have hfz108_1 := Op.bf BK294.out 1) | ((with_reducible refine gate_builtin (b := .append) (xs := #[.tmp 98, .tmp 103]) rfl ?_); (try (refine gate_guard (by rfl) ?_; dsimp only)); at_builtin; refine Kd.R_append (Kd.int .i64) (w0 := w) w.heap.size rfl (.tmp 98) (.tmp 103) 23 3 (.int .i64 0) 8 rfl Try.underlying23 info3 rfl (by decide) (by omega) (.slice Ao63 t291.length co63) t291 (wrap64 ((y313.length : Int) - 1)) [.int .i64 (wrap64 ((y313.length : Int) - 1))] (fun k_ => some k_ ≠ (v299 : Value).ownBlock) (fun _ => False) rfl (by first | (go_simp; done) | (go_simp; rfl)) ?aP (fun _ hk => hk.elim) ?aF ?aO ?aB ?aS ?aL ?_; (case aP => exact rfl); (case aB => exact (Op.ht HB.out)); (case aF => exact (fun k_ hk => Kd.fresh' (Kd.R_lt (Op.rf HO_12.out BK294.out)) k_ hk)); (case aO => exact (Kd.R_mono (Op.rf HO_295001.out BK294.out) (fun _ hk => hk.1.1))); (case aS => exact (Op.a6 (Op.ht HB.out))); (case aL => have := LMc93.out; omega); intro v317 w109 ho hb hg hat; rw [← Ny316.out] at ho; have n0_ := Op.k (Kd.R_after (ok := (fun _ => True)) (Kd.R_mono (Op.rf HO_12.out BK294.out) (fun _ hk => ⟨trivial, hk.1.1⟩)) hg hat); have n1_ := Op.k (blk_grown (Op.bt BK280.out) hg (Kd.R_ne HO_295001.out BK280.out (by decide))); have n2_ := Op.k (blk_grown (Op.bt BK281.out) hg (Kd.R_ne HO_295001.out BK281.out (by decide))); have n3_ := Op.k (blk_grown (g := gb294) (o := .cells #[.slice Ao107 y313.length co107, .slice Ao63 t291.length co63] 25 (0, 0)) (Op.bv BK294.out) hg (Kd.R_ne HO_295001.out BK294.out (by decide))); have n4_ := Op.k (Kd.S_after (ok := (fun k_ => some k_ ≠ (v299 : Value).ownBlock)) (Kd.S_mono (Op.sf HO315.out BK294.out) (fun _ hk => ⟨hk.1, hk.2⟩)) hg hat); have n5_ := Op.k (hb); have n6_ := Op.k (ho); clear HO_12; clear BK280; clear BK281; clear BK294; clear HO315; clear HB; clear HO_295001; have HO_12 := n0_; have BK280 := n1_; have BK281 := n2_; have BK294 := n3_; have HO315 := n4_; have HB := n5_; have HO318 := n6_; clear n0_ n1_ n2_ n3_ n4_ n5_ n6_; clear ho hb hg hat; obtain ⟨Ao110, co110, eo110⟩ := Kd.R_slice HO318.out; subst eo110; have hcz111_0 := Op.c0 BK294.out; have hcz111_1 := Op.c1 BK294.out; have hfz111_0 := Op.bf BK294.out 0; have hfz111_1 := Op.bf BK294.out 1; have hcz112_0 := Op.c0 BK281.out; have hcz112_1 := Op.c1 BK281.out; have hfz112_0 := Op.bf BK281.out 0; have hfz112_1 := Op.bf BK281.out 1))
                  refine bodyPost_ret (results_ct rfl _ _ gb281 25 #[.slice Ao107 y313.length co107, .slice Ao110 y316.length co110] (0, 0) _ rfl (Op.bv BK281.out) Try.underlying25 rfl (by kernel_rfl)) rfl ?_
                  exact ⟨_, _, by first | rfl | (simp [errW_none, errW_some] <;> rfl) | (simp only [← hji80, ← hji87]; first | rfl | (simp [errW_none, errW_some] <;> rfl)) | (simp [*, errW_none, errW_some] <;> rfl), by (with_reducible repeat (first | apply Kd.S_alloc | apply Kd.S_drewN | apply Kd.S_drew)); exact Kd.S_mono (Kd.S_far (p := ⟨gb281, 1, none⟩) (Kd.S_far (p := ⟨gb281, 0, none⟩) (Kd.S_far (p := ⟨gb294, 1, none⟩) (Kd.S_types (Kd.S_types HO315.out BK294.out (by decide)) BK281.out (by decide)) (fun _ hk => hk.1.2) (.slice Ao110 y316.length co110)) (fun _ hk => hk.2) (.slice Ao107 y313.length co107)) (fun _ hk => hk.2) (.slice Ao110 y316.length co110)) (fun _ hk => hk.1.1.2), by (with_reducible repeat (first | apply Kd.R_alloc | apply Kd.R_drewN | apply Kd.R_drew)); exact Kd.R_mono (Kd.R_far (p := ⟨gb281, 1, none⟩) (Kd.R_far (p := ⟨gb281, 0, none⟩) (Kd.R_far (p := ⟨gb294, 1, none⟩) (Kd.R_types (Kd.R_types HO318.out BK294.out (by decide)) BK281.out (by decide)) (fun _ hk => hk.1.2) (.slice Ao110 y316.length co110)) (fun _ hk => hk.2) (.slice Ao107 y313.length co107)) (fun _ hk => hk.2) (.slice Ao110 y316.length co110)) (fun _ hk => trivial), Op.ht HB.out⟩
                 ·rw [if_neg c93] at H
                  exact absurd H (by simp)
                ·rw [if_neg c92] at H
                 exact absurd H (by simp)
               ·rw [if_neg c89] at H
                exact absurd H (by simp)
              ·rw [if_neg c88] at H
               exact absurd H (by simp)
             ·rw [if_neg c85] at H
              exact absurd H (by simp)
            ·rw [if_neg c84] at H
             exact absurd H (by simp)
           ·rw [if_neg c83] at H
            have c83b0 : decide (0 ≤ (rd x11_53 (ji80))) = false := decide_eq_false c83
            clear c83
            obtain ⟨ji113, hji113⟩ : ∃ j_ : Int, (Int.tmod a2 4) = j_ := ⟨_, rfl⟩
            replace H : (if 0 ≤ (ji113) then (if (ji113) < (y298.length : Int) then (if t288.length + 1 < 4398046511104 then ((some (t288 ++ [(⟨(y298.set ((ji113) : Int).toNat a3), true⟩ : S65), (⟨(x11_53.set ((ji80) : Int).toNat (t288.length : Int)), false⟩ : S65)] : List (S65))).bind fun y321 => (if t291.length < 17592186044416 then (some (y321, (t291 ++ [wrap64 ((y321.length : Int) - 1)]), true)) else (none))) else (none)) else (none)) else (none)) = some (r1, r2, r3) := by first | (rw [hji113] at H; exact H) | (simp only [hji113] at H ⊢; exact H)
            by_cases c114 : 0 ≤ (ji113)
            ·rw [if_pos c114] at H
             have c114b0 : decide (0 ≤ (ji113)) = true := decide_eq_true c114
             clear c114
             by_cases c115 : (ji113) < (y298.length : Int)
             ·rw [if_pos c115] at H
              have c115b0 : decide ((ji113) < (y298.length : Int)) = true := decide_eq_true c115
              clear c115
              obtain ⟨y319, hy319⟩ : ∃ y_ : List Int, y_ = (y298.set ((ji113) : Int).toNat a3) := ⟨_, rfl⟩
              replace H : (if t288.length + 1 < 4398046511104 then ((some (t288 ++ [(⟨y319, true⟩ : S65), (⟨(x11_53.set ((ji80) : Int).toNat (t288.length : Int)), false⟩ : S65)] : List (S65))).bind fun y321 => (if t291.length < 17592186044416 then (some (y321, (t291 ++ [wrap64 ((y321.length : Int) - 1)]), true)) else (none))) else (none)) = some (r1, r2, r3) := by first | (rw [hy319]; with_reducible exact H) | (have H2_ := (Option.bind_some _ _).symm.trans H; rw [hy319]; with_reducible exact H2_) | (have H2_ := (Option.bind_some _ _).symm.trans H; with_reducible exact H2_) | with_reducible exact H | (rw [hy319]; exact H) | exact H
              have Ny319 := Op.k hy319
              clear hy319
              obtain ⟨y320, hy320⟩ : ∃ y_ : List Int, y_ = (x11_53.set ((ji80) : Int).toNat (t288.length : Int)) := ⟨_, rfl⟩
              replace H : (if t288.length + 1 < 4398046511104 then ((some (t288 ++ [(⟨y319, true⟩ : S65), (⟨y320, false⟩ : S65)] : List (S65))).bind fun y321 => (if t291.length < 17592186044416 then (some (y321, (t291 ++ [wrap64 ((y321.length : Int) - 1)]), true)) else (none))) else (none)) = some (r1, r2, r3) := by first | (rw [hy320]; with_reducible exact H) | (have H2_ := (Option.bind_some _ _).symm.trans H; rw [hy320]; with_reducible exact H2_) | (have H2_ := (Option.bind_some _ _).symm.trans H; with_reducible exact H2_) | with_reducible exact H | (rw [hy320]; exact H) | exact H
              have Ny320 := Op.k hy320
              clear hy320
              by_cases c118 : t288.length + 1 < 4398046511104
              ·rw [if_pos c118] at H
               have LMc118 := Op.k c118
               clear c118
               obtain ⟨y321, hy321⟩ : ∃ y_ : List (S65), y_ = (t288 ++ [(⟨y319, true⟩ : S65), (⟨y320, false⟩ : S65)]) := ⟨_, rfl⟩
               replace H : (if t291.length < 17592186044416 then (some (y321, (t291 ++ [wrap64 ((y321.length : Int) - 1)]), true)) else (none)) = some (r1, r2, r3) := by first | (rw [hy321]; with_reducible exact H) | (have H2_ := (Option.bind_some _ _).symm.trans H; rw [hy321]; with_reducible exact H2_) | (have H2_ := (Option.bind_some _ _).symm.trans H; with_reducible exact H2_) | with_reducible exact H | (rw [hy321]; exact H) | exact H
               have Ny321 := Op.k hy321
               clear hy321
               by_cases c119 : t291.length < 17592186044416
               ·rw [if_pos c119] at H
                have LMc119 := Op.k c119
                clear c119
                obtain ⟨y324, hy324⟩ : ∃ y_ : List Int, y_ = (t291 ++ [wrap64 ((y321.length : Int) - 1)]) := ⟨_, rfl⟩
                replace H : (some (y321, y324, true)) = some (r1, r2, r3) := by first | (rw [hy324]; with_reducible exact H) | (have H2_ := (Option.bind_some _ _).symm.trans H; rw [hy324]; with_reducible exact H2_) | (have H2_ := (Option.bind_some _ _).symm.trans H; with_reducible exact H2_) | with_reducible exact H | (rw [hy324]; exact H) | exact H
                have Ny324 := Op.k hy324
                clear hy324
                simp only [Option.some.injEq, Prod.mk.injEq] at H
                obtain ⟨rfl, rfl, rfl⟩ := H
                obtain ⟨Ao120, co120, eo120⟩ := Kd.R_slice HO_11.out
                subst eo120
                have p306 : 0 ≤ ((ji80) : Int) := Op.dt
                have q306 : (ji80) < (x11_53.length : Int) := Op.dt
                obtain ⟨ad306, e306, hx306_0⟩ := Kd.at_int (Kd.R_reads' HO_11.out).2.2 (ji80) p306 q306
                cases e306
                replace p306 := eq_true p306
                replace q306 := eq_true q306
                have p116 : 0 ≤ ((ji113) : Int) := Op.dt
                have q116 : ((ji113) : Int) < ((y298.length : Int) : Int) := Op.dt
                obtain ⟨go116, co116, eo116, gb116, gl116, cl116, HG116⟩ := Kd.R_form HO_12.out (by omega)
                (first | cases eo116 | (injection eo116 with ea_ en_ ec_; (first | subst ea_ | (injection ea_ with ea_; subst ea_)); subst ec_; clear en_))
                have GB116 := Op.k gb116
                have GG116 := Op.k HG116
                clear gb116 gl116 HG116
                obtain ⟨hx116_0, hf116_0⟩ := Kd.R_celln 0 HO_12.out ((ji113) : Int) p116 q116
                replace p116 := eq_true p116
                replace q116 := eq_true q116
                have HP121 := Kd.R_putg HO_12.out ((ji113) : Int) a3
                go_wp2_with (first | ((with_reducible refine gate_store (t := 3) (p := 80) rfl ?_); refine store_event (t := 3) (p := 80) (v := ?vo_w122) (w1 := (wc.setCell ⟨go116, ((ji113) : Int).toNat, none⟩ (.int .i64 a3))) ?hg ?ho ?hn ?hr ?_; (case ho => rfl); (case hg => rfl); (case hn => rfl); (case hr => first | (go_simp; done) | (go_simp; rfl)); intro w122 hw; have hg : wc.grownBy w122 (some go116) := (by rw [hw]; exact HP121.2); have hp_ : Kd.R (Kd.int .i64) 3 w122 w.heap.size (fun k_ => some k_ ≠ (.slice (some ad306) x11_53.length co120 : Value).ownBlock ∧ some k_ ≠ (.slice Ao63 t291.length co63 : Value).ownBlock) (.slice (some ⟨go116, 0, none⟩) y298.length co116) y319 := (by rw [hw, Ny319.out]; exact HP121.1); clear HP121; replace HO_11 := Op.k (Kd.R_after (v := (.slice (some ⟨go116, 0, none⟩) y298.length co116)) (v1 := (.slice (some ⟨go116, 0, none⟩) y298.length co116)) (ok := (fun k_ => some k_ ≠ (.slice Ao63 t291.length co63 : Value).ownBlock)) (Kd.R_mono (Op.rt HO_11.out) (fun _ hk => ⟨hk.2, hk.1⟩)) hg (.inl rfl)); replace HO_295000 := Op.k (Kd.S_after (v := (.slice (some ⟨go116, 0, none⟩) y298.length co116)) (v1 := (.slice (some ⟨go116, 0, none⟩) y298.length co116)) (ok := (fun k_ => some k_ ≠ (.slice (some ad306) x11_53.length co120 : Value).ownBlock ∧ some k_ ≠ (.slice Ao63 t291.length co63 : Value).ownBlock)) (Kd.S_mono (Op.st HO_295000.out) (fun _ hk => ⟨⟨hk.1, hk.2.2⟩, hk.2.1⟩)) hg (.inl rfl)); replace HO_295001 := Op.k (Kd.R_after (v := (.slice (some ⟨go116, 0, none⟩) y298.length co116)) (v1 := (.slice (some ⟨go116, 0, none⟩) y298.length co116)) (ok := (fun k_ => some k_ ≠ (.slice (some ad306) x11_53.length co120 : Value).ownBlock)) (Op.rt HO_295001.out) hg (.inl rfl)); replace BK280 := Op.k (blk_grown (Op.bt BK280.out) hg (Kd.R_ne HO_12.out BK280.out (by decide))); replace BK281 := Op.k (blk_grown (Op.bt BK281.out) hg (Kd.R_ne HO_12.out BK281.out (by decide))); replace BK294 := Op.k (blk_grown (Op.bt BK294.out) hg (Kd.R_ne HO_12.out BK294.out (by decide))); replace HO_12 := Op.k (hp_); replace HB := Op.k ((by rw [hw]; exact below_set (HB.out) GB116.out : Below w.heap.size w w122)); clear hg hw hp_; have hnb123 := NB294_280.out; have hnc123 := NB280_294.out; have hnb124 := NB294_281.out; have hnc124 := NB281_294.out; have hcz125_0 := Op.c0 BK294.out; have hcz125_1 := Op.c1 BK294.out; have hfz125_0 := Op.bf BK294.out 0; have hfz125_1 := Op.bf BK294.out 1; have p117 : 0 ≤ ((ji80) : Int) := Op.dt; have q117 : ((ji80) : Int) < ((x11_53.length : Int) : Int) := Op.dt; obtain ⟨go117, co117, eo117, gb117, gl117, cl117, HG117⟩ := Kd.R_form HO_11.out (by omega); (first | cases eo117 | (injection eo117 with ea_ en_ ec_; (first | subst ea_ | (injection ea_ with ea_; subst ea_)); subst ec_; clear en_)); have GB117 := Op.k gb117; have GG117 := Op.k HG117; clear gb117 gl117 HG117; (first | simp only [add_plain] at hx306_0 | skip); obtain ⟨hx117_0, hf117_0⟩ := Kd.R_celln 0 HO_11.out ((ji80) : Int) p117 q117; replace p117 := eq_true p117; replace q117 := eq_true q117; obtain ⟨hy126_, hz126_⟩ := Kd.R_celln 0 HO_11.out ((ji80) : Int) (Op.dt) (Op.dt); have HP126 := Kd.R_putg HO_11.out ((ji80) : Int) (t288.length : Int)) | ((with_reducible refine gate_store (t := 3) (p := 87) rfl ?_); refine store_event (t := 3) (p := 87) (v := ?vo_w127) (w1 := (w122.setCell ⟨go117, ((ji80) : Int).toNat, none⟩ (.int .i64 (t288.length : Int)))) ?hg ?ho ?hn ?hr ?_; (case ho => rfl); (case hg => rfl); (case hn => rfl); (case hr => first | (go_simp; done) | (go_simp; rfl)); intro w127 hw; have hg : w122.grownBy w127 (some go117) := (by rw [hw]; exact HP126.2); have hp_ : Kd.R (Kd.int .i64) 3 w127 w.heap.size (fun k_ => some k_ ≠ (.slice Ao63 t291.length co63 : Value).ownBlock ∧ some k_ ≠ (.slice (some ⟨go116, 0, none⟩) y298.length co116 : Value).ownBlock) (.slice (some ⟨go117, 0, none⟩) x11_53.length co120) y320 := (by rw [hw, Ny320.out]; exact HP126.1); clear HP126; replace HO_12 := Op.k (Kd.R_after (v := (.slice (some ⟨go117, 0, none⟩) x11_53.length co120)) (v1 := (.slice (some ⟨go117, 0, none⟩) x11_53.length co120)) (ok := (fun k_ => some k_ ≠ (.slice Ao63 t291.length co63 : Value).ownBlock)) (Kd.R_mono (Op.rt HO_12.out) (fun _ hk => ⟨hk.2, hk.1⟩)) hg (.inl rfl)); replace HO_295000 := Op.k (Kd.S_after (v := (.slice (some ⟨go117, 0, none⟩) x11_53.length co120)) (v1 := (.slice (some ⟨go117, 0, none⟩) x11_53.length co120)) (ok := (fun k_ => some k_ ≠ (.slice (some ⟨go116, 0, none⟩) y298.length co116 : Value).ownBlock ∧ some k_ ≠ (.slice Ao63 t291.length co63 : Value).ownBlock)) (Kd.S_mono (Op.st HO_295000.out) (fun _ hk => ⟨⟨hk.2, hk.1.2⟩, hk.1.1⟩)) hg (.inl rfl)); replace HO_295001 := Op.k (Kd.R_after (v := (.slice (some ⟨go117, 0, none⟩) x11_53.length co120)) (v1 := (.slice (some ⟨go117, 0, none⟩) x11_53.length co120)) (ok := (fun k_ => some k_ ≠ (.slice (some ⟨go116, 0, none⟩) y298.length co116 : Value).ownBlock)) (Kd.R_mono (Op.rt HO_295001.out) (fun _ hk => ⟨hk.2, hk.1⟩)) hg (.inl rfl)); replace BK280 := Op.k (blk_grown (Op.bt BK280.out) hg (Kd.R_ne HO_11.out BK280.out (by decide))); replace BK281 := Op.k (blk_grown (Op.bt BK281.out) hg (Kd.R_ne HO_11.out BK281.out (by decide))); replace BK294 := Op.k (blk_grown (Op.bt BK294.out) hg (Kd.R_ne HO_11.out BK294.out (by decide))); replace HO_11 := Op.k (hp_); replace HB := Op.k ((by rw [hw]; exact below_set (HB.out) GB117.out : Below w.heap.size w w127)); clear hg hw hp_; have hcz128_0 := Op.c0 BK294.out; have hcz128_1 := Op.c1 BK294.out; have hfz128_0 := Op.bf BK294.out 0; have hfz128_1 := Op.bf BK294.out 1) | ((with_reducible refine gate_builtin (b := .append) (xs := #[.tmp 89, .tmp 94]) rfl ?_); (try (refine gate_guard (by rfl) ?_; dsimp only)); at_builtin; refine Op.S_append2 k65 (w0 := w) w.heap.size rfl (.tmp 89) (.tmp 94) 22 65 (.agg #[(.slice none 0 0), (.bool false)]) 32 rfl Try.underlying22 info65 rfl (by decide) (by omega) (.slice Ao59 t288.length co59) t288 (⟨y319, true⟩ : S65) (⟨y320, false⟩ : S65) [.slice (some ⟨go116, 0, none⟩) y298.length co116, .bool true, .slice (some ⟨go117, 0, none⟩) x11_53.length co120, .bool false] [.slice (some ⟨go116, 0, none⟩) y298.length co116, .bool true] [.slice (some ⟨go117, 0, none⟩) x11_53.length co120, .bool false] (fun k_ => some k_ ≠ (.slice Ao63 t291.length co63 : Value).ownBlock) (fun k_ => some k_ = (.slice (some ⟨go116, 0, none⟩) y298.length co116 : Value).ownBlock) (fun k_ => some k_ = (.slice (some ⟨go117, 0, none⟩) x11_53.length co120 : Value).ownBlock) rfl rfl rfl ?aP ?aQ (fun k_ e_ => (HO_12.out.1 k_ e_.symm).2) (fun k_ hk_ => ((Kd.R_mono (ok' := fun k_ => ((fun k_ => some k_ ≠ (.slice Ao63 t291.length co63 : Value).ownBlock)) k_ ∧ some k_ ≠ (.slice Ao59 t288.length co59 : Value).ownBlock) (Kd.R_apart' (HO_12.out) (Kd.S_typed HO_295000.out) (by decide)) (fun k_ hk => ⟨hk.1.1, hk.2⟩))).1 k_ hk_.symm) (fun k_ hk_ => ((Kd.R_mono (ok' := fun k_ => ((fun k_ => some k_ ≠ (.slice Ao63 t291.length co63 : Value).ownBlock)) k_ ∧ some k_ ≠ (.slice Ao59 t288.length co59 : Value).ownBlock) (Kd.R_apart' (HO_11.out) (Kd.S_typed HO_295000.out) (by decide)) (fun k_ hk => ⟨hk.1.1, hk.2⟩))).1 k_ hk_.symm) ?aF ?aO ?aB ?aS ?aL ?_; (case aP => exact k65_mkM _ _ _ (⟨y319, true⟩ : S65) (Kd.R_tight rfl (Kd.R_mono (ok' := fun k_ => ((fun k_ => some k_ ≠ (.slice Ao63 t291.length co63 : Value).ownBlock)) k_ ∧ some k_ ≠ (.slice Ao59 t288.length co59 : Value).ownBlock) (Kd.R_apart' (HO_12.out) (Kd.S_typed HO_295000.out) (by decide)) (fun k_ hk => ⟨hk.1.1, hk.2⟩)))); (case aQ => exact k65_mkM _ _ _ (⟨y320, false⟩ : S65) (Kd.R_tight rfl (Kd.R_mono (ok' := fun k_ => ((fun k_ => some k_ ≠ (.slice Ao63 t291.length co63 : Value).ownBlock)) k_ ∧ some k_ ≠ (.slice Ao59 t288.length co59 : Value).ownBlock) (Kd.R_apart' (HO_11.out) (Kd.S_typed HO_295000.out) (by decide)) (fun k_ hk => ⟨hk.1.1, hk.2⟩)))); (case aB => exact (Op.ht HB.out)); (case aF => exact (fun k_ hk => Kd.fresh' (Kd.R_lt (Op.rt HO_295001.out)) k_ hk)); (case aO => exact (Kd.S_mono (Op.st HO_295000.out) (fun k_ hk => ⟨hk.1.2, fun e_ => e_.elim (fun h_ => hk.1.1 h_) (fun h_ => hk.2 h_)⟩))); (case aS => exact (Op.a6 (Op.ht HB.out))); (case aL => have := LMc118.out; omega); intro v322 w129 ho hb hg hat; rw [← Ny321.out] at ho; have n0_ := Op.k (Kd.R_over' (Op.rt HO_295001.out) (Kd.S_typed (Op.st HO_295000.out)) (by decide) hg); have n1_ := Op.k (blk_grown (Op.bt BK280.out) hg (Kd.S_ne HO_295000.out BK280.out (by decide))); have n2_ := Op.k (blk_grown (Op.bt BK281.out) hg (Kd.S_ne HO_295000.out BK281.out (by decide))); have n3_ := Op.k (blk_grown (Op.bt BK294.out) hg (Kd.S_ne HO_295000.out BK294.out (by decide))); have n4_ := Op.k (hb); have n5_ := Op.k (ho); clear HO_295001; clear BK280; clear BK281; clear BK294; clear HB; clear HO_295000; clear HO_11; clear HO_12; have HO_295001 := n0_; have BK280 := n1_; have BK281 := n2_; have BK294 := n3_; have HB := n4_; have HO323 := n5_; clear n0_ n1_ n2_ n3_ n4_ n5_; clear ho hb hg hat; obtain ⟨Ao130, co130, eo130⟩ := Kd.S_slice HO323.out; subst eo130; have hcz131_0 := Op.c0 BK294.out; have hcz131_1 := Op.c1 BK294.out; have hfz131_0 := Op.bf BK294.out 0; have hfz131_1 := Op.bf BK294.out 1) | ((with_reducible refine gate_builtin (b := .append) (xs := #[.tmp 98, .tmp 103]) rfl ?_); (try (refine gate_guard (by rfl) ?_; dsimp only)); at_builtin; refine Kd.R_append (Kd.int .i64) (w0 := w) w.heap.size rfl (.tmp 98) (.tmp 103) 23 3 (.int .i64 0) 8 rfl Try.underlying23 info3 rfl (by decide) (by omega) (.slice Ao63 t291.length co63) t291 (wrap64 ((y321.length : Int) - 1)) [.int .i64 (wrap64 ((y321.length : Int) - 1))] (fun _ => True) (fun _ => False) rfl (by first | (go_simp; done) | (go_simp; rfl)) ?aP (fun _ hk => hk.elim) ?aF ?aO ?aB ?aS ?aL ?_; (case aP => exact rfl); (case aB => exact (Op.ht HB.out)); (case aF => exact (fun _ _ => trivial)); (case aO => exact (Kd.R_mono (Op.rf HO_295001.out BK294.out) (fun _ hk => trivial))); (case aS => exact (Op.a6 (Op.ht HB.out))); (case aL => have := LMc119.out; omega); intro v325 w132 ho hb hg hat; rw [← Ny324.out] at ho; have n0_ := Op.k (blk_grown (Op.bt BK280.out) hg (Kd.R_ne HO_295001.out BK280.out (by decide))); have n1_ := Op.k (blk_grown (Op.bt BK281.out) hg (Kd.R_ne HO_295001.out BK281.out (by decide))); have n2_ := Op.k (blk_grown (g := gb294) (o := .cells #[.slice Ao130 y321.length co130, .slice Ao63 t291.length co63] 25 (0, 0)) (Op.bv BK294.out) hg (Kd.R_ne HO_295001.out BK294.out (by decide))); have n3_ := Op.k (Kd.S_after (ok := (fun _ => True)) (Kd.S_mono (Op.sf HO323.out BK294.out) (fun _ hk => ⟨trivial, hk⟩)) hg hat); have n4_ := Op.k (hb); have n5_ := Op.k (ho); clear BK280; clear BK281; clear BK294; clear HO323; clear HB; clear HO_295001; have BK280 := n0_; have BK281 := n1_; have BK294 := n2_; have HO323 := n3_; have HB := n4_; have HO326 := n5_; clear n0_ n1_ n2_ n3_ n4_ n5_; clear ho hb hg hat; obtain ⟨Ao133, co133, eo133⟩ := Kd.R_slice HO326.out; subst eo133; have hcz134_0 := Op.c0 BK294.out; have hcz134_1 := Op.c1 BK294.out; have hfz134_0 := Op.bf BK294.out 0; have hfz134_1 := Op.bf BK294.out 1; have hnb135 := NB281_280.out; have hnc135 := NB280_281.out; have hcz136_0 := Op.c0 BK281.out; have hcz136_1 := Op.c1 BK281.out; have hfz136_0 := Op.bf BK281.out 0; have hfz136_1 := Op.bf BK281.out 1))
                refine bodyPost_ret (results_ct rfl _ _ gb281 25 #[.slice Ao130 y321.length co130, .slice Ao133 y324.length co133] (0, 0) _ rfl (Op.bv BK281.out) Try.underlying25 rfl (by kernel_rfl)) rfl ?_
                exact ⟨_, _, by first | rfl | (simp [errW_none, errW_some] <;> rfl) | (simp only [← hji80, ← hji113]; first | rfl | (simp [errW_none, errW_some] <;> rfl)) | (simp [*, errW_none, errW_some] <;> rfl), by (with_reducible repeat (first | apply Kd.S_alloc | apply Kd.S_drewN | apply Kd.S_drew)); exact Kd.S_mono (Kd.S_far (p := ⟨gb281, 1, none⟩) (Kd.S_far (p := ⟨gb281, 0, none⟩) (Kd.S_far (p := ⟨gb294, 1, none⟩) (Kd.S_types (Kd.S_types HO323.out BK294.out (by decide)) BK281.out (by decide)) (fun _ hk => hk.1.2) (.slice Ao133 y324.length co133)) (fun _ hk => hk.2) (.slice Ao130 y321.length co130)) (fun _ hk => hk.2) (.slice Ao133 y324.length co133)) (fun _ hk => hk.1.1.2), by (with_reducible repeat (first | apply Kd.R_alloc | apply Kd.R_drewN | apply Kd.R_drew)); exact Kd.R_mono (Kd.R_far (p := ⟨gb281, 1, none⟩) (Kd.R_far (p := ⟨gb281, 0, none⟩) (Kd.R_far (p := ⟨gb294, 1, none⟩) (Kd.R_types (Kd.R_types HO326.out BK294.out (by decide)) BK281.out (by decide)) (fun _ hk => hk.1.2) (.slice Ao133 y324.length co133)) (fun _ hk => hk.2) (.slice Ao130 y321.length co130)) (fun _ hk => hk.2) (.slice Ao133 y324.length co133)) (fun _ hk => trivial), Op.ht HB.out⟩
               ·rw [if_neg c119] at H
                exact absurd H (by simp)
              ·rw [if_neg c118] at H
               exact absurd H (by simp)
             ·rw [if_neg c115] at H
              exact absurd H (by simp)
            ·rw [if_neg c114] at H
             exact absurd H (by simp)
          ·rw [if_neg c82] at H
           exact absurd H (by simp)
         ·rw [if_neg c81] at H
          exact absurd H (by simp)
      ·rw [if_neg c53] at H
       exact absurd H (by simp)
     ·rw [if_neg c52] at H
      exact absurd H (by simp)
    ·rw [if_neg c51] at H
     exact absurd H (by simp)

end Go.Proofs.Ytnafnpoflheonaa.PFnVersions
