/- Contracts of functions of the translation, written by a program of this repo (a changed copy of the printer). Not trusted: Lean checks it. -/
-- squeezed
-- compact
import Derived.Test.YtnafnpoflheonaaCc
import Derived.Test.YtnafnpoflheonaaPFnVersionsx0
import Derived.Test.YtnafnpoflheonaaPFnVersionsx1
import Derived.Test.YtnafnpoflheonaaPFnVersionsx2
import Derived.Test.YtnafnpoflheonaaPFnVersionsx4
import Derived.Test.YtnafnpoflheonaaPFnVersionsx5
namespace Go.Proofs.Ytnafnpoflheonaa.PFnVersions
open Go.RowKit Go.Proofs.YtnafnpoflheonaaW.PrintWords Go.Proofs.YtnafnpoflheonaaW.PrintLast Go.Proofs.YtnafnpoflheonaaW.PrintMore
attribute [local go_sem] max2_int min2_int max_two min_two max_three min_three max_four min_four   -- for this text's walks alone
set_option linter.unusedVariables false
set_option linter.unusedSimpArgs false

/-! ### spec_PutIn: function 33 -/
mutual
def spec_PutIn.j0 : Nat → Int → Int → Int → Bool → List (S65) → List Int → Option ((List (S65)) × List Int × Bool)
 | 0, _, _, _, _, _, _ => none
 | k + 1, x1, x2, x3, x41, x230000, x230001 => if x41 = true then (some (([] : List (S65)), ([] : List Int), false)) else ((spec_l11Own.f k x230000 x230001).bind fun bt234 => ((spec_l11Leaf.f x230000 x230001 x1 x2).bind fun t245 => (if t245 ≥ 0 then ((some (([] : List Int) : List Int)).bind fun y246 => (if 0 ≤ t245 then (if t245 < (x230000.length : Int) then (if y246.length + ((rd_T65 x230000 t245).f0).length < 17592186044416 then (spec_PutIn.j1 k x1 x2 x3 x230000 x230001 bt234.1 bt234.2 (y246 ++ ((rd_T65 x230000 t245).f0)) true) else (none)) else (none)) else (none))) else (spec_PutIn.j1 k x1 x2 x3 x230000 x230001 bt234.1 bt234.2 (([0, 0, 0, 0] : List Int)) true))))
def spec_PutIn.j1 : Nat → Int → Int → Int → List (S65) → List Int → List (S65) → List Int → List Int → Bool → Option ((List (S65)) × List Int × Bool)
 | 0, _, _, _, _, _, _, _, _, _ => none
 | k + 1, x1, x2, x3, x230000, x230001, x241000, x241001, x245000, x245001 => if 0 ≤ (Int.tmod x2 4) then (if (Int.tmod x2 4) < (x245000.length : Int) then ((some (x245000.set ((Int.tmod x2 4) : Int).toNat x3 : List Int)).bind fun y253 => ((some (([(-1), (-1), (-1), (-1)] : List Int) : List Int)).bind fun y254 => (if 0 ≤ x1 then (if x1 < (x230001.length : Int) then (if (rd x230001 x1) ≥ 0 then ((some (([] : List Int) : List Int)).bind fun y259 => (if 0 ≤ (rd x230001 x1) then (if (rd x230001 x1) < (x230000.length : Int) then (if y259.length + ((rd_T65 x230000 (rd x230001 x1)).f0).length < 17592186044416 then ((some (y259 ++ ((rd_T65 x230000 (rd x230001 x1)).f0) : List Int)).bind fun y263 => (if 0 ≤ (wrap64 (Int.tdiv x2 4)) then (if (wrap64 (Int.tdiv x2 4)) < (y263.length : Int) then (if x241000.length + 1 < 4398046511104 then ((some (x241000 ++ [(⟨y253, x245001⟩ : S65), (⟨(y263.set ((wrap64 (Int.tdiv x2 4)) : Int).toNat (x241000.length : Int)), false⟩ : S65)] : List (S65))).bind fun y267 => (if x241001.length < 17592186044416 then (some (y267, (x241001 ++ [wrap64 ((y267.length : Int) - 1)]), true)) else (none))) else (none)) else (none)) else (none))) else (none)) else (none)) else (none))) else (if 0 ≤ (wrap64 (Int.tdiv x2 4)) then (if (wrap64 (Int.tdiv x2 4)) < (y254.length : Int) then (if x241000.length + 1 < 4398046511104 then ((some (x241000 ++ [(⟨y253, x245001⟩ : S65), (⟨(y254.set ((wrap64 (Int.tdiv x2 4)) : Int).toNat (x241000.length : Int)), false⟩ : S65)] : List (S65))).bind fun y274 => (if x241001.length < 17592186044416 then (some (y274, (x241001 ++ [wrap64 ((y274.length : Int) - 1)]), true)) else (none))) else (none)) else (none)) else (none))) else (none)) else (none)))) else (none)) else (none)
end
def spec_PutIn.f (k : Nat) (l0_0 : List (S65)) (l0_1 : List Int) (a1 : Int) (a2 : Int) (a3 : Int) : Option ((List (S65)) × List Int × Bool) := (spec_l11There.f k l0_0 l0_1 a1).bind fun t231 => (if t231 = true then ((spec_l11Key.f a2).bind fun t232 => (if t232 = true then ((spec_l1In.f a3 0 9999).bind fun t233 => (if t233 = true then (if (wrap64 ((l0_0.length : Int) + 2)) > 200 then (spec_PutIn.j0 k a1 a2 a3 true l0_0 l0_1) else (spec_PutIn.j0 k a1 a2 a3 ((l0_1.length : Int) == 40) l0_0 l0_1)) else (spec_PutIn.j0 k a1 a2 a3 true l0_0 l0_1))) else (spec_PutIn.j0 k a1 a2 a3 true l0_0 l0_1))) else (spec_PutIn.j0 k a1 a2 a3 true l0_0 l0_1))
theorem spec_PutIn.mono_l : ∀ k, (∀ y0 y1 y2 y3 y4 y5, LeO (spec_PutIn.j0 k y0 y1 y2 y3 y4 y5) (spec_PutIn.j0 (k + 1) y0 y1 y2 y3 y4 y5)) ∧ (∀ y0 y1 y2 y3 y4 y5 y6 y7 y8, LeO (spec_PutIn.j1 k y0 y1 y2 y3 y4 y5 y6 y7 y8) (spec_PutIn.j1 (k + 1) y0 y1 y2 y3 y4 y5 y6 y7 y8))
 | 0 => ⟨fun _ _ _ _ _ _ r h => by simp [spec_PutIn.j0] at h, fun _ _ _ _ _ _ _ _ _ r h => by simp [spec_PutIn.j1] at h⟩
 | k + 1 => by
  obtain ⟨ih0, ih1⟩ := spec_PutIn.mono_l k
  refine ⟨?_, ?_⟩
  ·intro y0 y1 y2 y3 y4 y5
   unfold spec_PutIn.j0
   repeat' first
   | (with_reducible exact ih0 _ _ _ _ _ _)
   | (with_reducible exact ih1 _ _ _ _ _ _ _ _ _)
   | (with_reducible exact spec_l11Own.mono _ _ _)
   | (with_reducible exact spec_l11There.mono _ _ _ _)
   | (with_reducible exact LeO.refl _)
   | (with_reducible exact LeO.none _)
   | (with_reducible refine LeO.ite ?_ ?_)
   | (with_reducible refine LeO.bind ?_ (fun _ => ?_))
   | exact ih0 _ _ _ _ _ _
   | exact ih1 _ _ _ _ _ _ _ _ _
   | exact spec_l11Own.mono _ _ _
   | exact spec_l11There.mono _ _ _ _
   | exact LeO.none _
   | refine LeO.ite ?_ ?_
   | refine LeO.bind ?_ (fun _ => ?_)
  ·intro y0 y1 y2 y3 y4 y5 y6 y7 y8
   unfold spec_PutIn.j1
   repeat' first
   | (with_reducible exact ih0 _ _ _ _ _ _)
   | (with_reducible exact ih1 _ _ _ _ _ _ _ _ _)
   | (with_reducible exact spec_l11Own.mono _ _ _)
   | (with_reducible exact spec_l11There.mono _ _ _ _)
   | (with_reducible exact LeO.refl _)
   | (with_reducible exact LeO.none _)
   | (with_reducible refine LeO.ite ?_ ?_)
   | (with_reducible refine LeO.bind ?_ (fun _ => ?_))
   | exact ih0 _ _ _ _ _ _
   | exact ih1 _ _ _ _ _ _ _ _ _
   | exact spec_l11Own.mono _ _ _
   | exact spec_l11There.mono _ _ _ _
   | exact LeO.none _
   | refine LeO.ite ?_ ?_
   | refine LeO.bind ?_ (fun _ => ?_)
theorem spec_PutIn.mono : ∀ a0 a1 a2 a3 a4 k, LeO (spec_PutIn.f k a0 a1 a2 a3 a4) (spec_PutIn.f (k + 1) a0 a1 a2 a3 a4) := by
 intro a0 a1 a2 a3 a4 k
 obtain ⟨ih0, ih1⟩ := spec_PutIn.mono_l k
 unfold spec_PutIn.f
 repeat' first
   | (with_reducible exact ih0 _ _ _ _ _ _)
   | (with_reducible exact ih1 _ _ _ _ _ _ _ _ _)
   | (with_reducible exact spec_l11Own.mono _ _ _)
   | (with_reducible exact spec_l11There.mono _ _ _ _)
   | (with_reducible exact LeO.refl _)
   | (with_reducible exact LeO.none _)
   | (with_reducible refine LeO.ite ?_ ?_)
   | (with_reducible refine LeO.bind ?_ (fun _ => ?_))
   | exact ih0 _ _ _ _ _ _
   | exact ih1 _ _ _ _ _ _ _ _ _
   | exact spec_l11Own.mono _ _ _
   | exact spec_l11There.mono _ _ _ _
   | exact LeO.none _
   | refine LeO.ite ?_ ?_
   | refine LeO.bind ?_ (fun _ => ?_)
set_option maxHeartbeats 8000000 in
set_option maxRecDepth 100000 in
theorem spec_PutIn.calls (k : Nat) (A0_0 : Option Addr) (c0_0 : Nat) (l0_0 : List (S65)) (A0_1 : Option Addr) (c0_1 : Nat) (l0_1 : List Int) (a1 : Int) (a2 : Int) (a3 : Int) (r1 : List (S65)) (r2 : List Int) (r3 : Bool) (w : World) (hr0_0 : Kd.C k65 w A0_0 l0_0.length l0_0) (hc0_0 : l0_0.length ≤ c0_0) (hr0_1 : Kd.C (Kd.int .i64) w A0_1 l0_1.length l0_1) (hc0_1 : l0_1.length ≤ c0_1) (h : spec_PutIn.f k l0_0 l0_1 a1 a2 a3 = some (r1, r2, r3)) :
  Calls Try.prog 33 #[.agg #[.slice A0_0 l0_0.length c0_0, .slice A0_1 l0_1.length c0_1], .int .i64 a1, .int .i64 a2, .int .i64 a3] w fun e w' => ∃ v0_ v1_ : Value, e = .returned (.tuple #[.agg #[v0_, v1_], .bool r3]) ∧ Kd.S k65 65 w' w.heap.size (fun k_ => some k_ ≠ (v1_ : Value).ownBlock) v0_ r1 ∧ Kd.R (Kd.int .i64) 3 w' w.heap.size (fun _ => True) v1_ r2 ∧ Below w.heap.size w w' := by
 have hu25 := Try.underlying25
 have hu65 := Try.underlying65
 have HR0_0 := Op.k hr0_0
 have HC0_0 := Op.k hc0_0
 clear hr0_0 hc0_0
 have HR0_1 := Op.k hr0_1
 have HC0_1 := Op.k hc0_1
 clear hr0_1 hc0_1
 have HB := Op.k (Below.refl w.heap.size w)
 have H : ((spec_l11There.f k l0_0 l0_1 a1).bind fun t231 => (if t231 = true then ((spec_l11Key.f a2).bind fun t232 => (if t232 = true then ((spec_l1In.f a3 0 9999).bind fun t233 => (if t233 = true then (if (wrap64 ((l0_0.length : Int) + 2)) > 200 then (spec_PutIn.j0 k a1 a2 a3 true l0_0 l0_1) else (spec_PutIn.j0 k a1 a2 a3 ((l0_1.length : Int) == 40) l0_0 l0_1)) else (spec_PutIn.j0 k a1 a2 a3 true l0_0 l0_1))) else (spec_PutIn.j0 k a1 a2 a3 true l0_0 l0_1))) else (spec_PutIn.j0 k a1 a2 a3 true l0_0 l0_1))) = some (r1, r2, r3) := h
 clear h
 have HC5 := Op.k H
 clear H
 go_enter Try.func33, Try.ntmps33
 go_upto_region 1 with (first | ((with_reducible refine gate_dst (N := 4) rfl ?_); (try (refine gate_guard (by rfl) ?_; dsimp only)); refine box_event ?hg (N := 4) ?hd (cs := #[.slice A0_0 l0_0.length c0_0, .slice A0_1 l0_1.length c0_1]) (t := 25) ?hr ?_; (case hd => rfl); (case hg => rfl); (case hr => first | (go_simp; done) | (go_simp; rfl)); intro gb229 hg w6 hbox hb; have BK229 := Op.k (hbox); have GW229 := Op.k ((Op.nz hg (Op.ht HB.out) : w.heap.size ≤ gb229)); have GE229 := Op.k ((Op.nz hg (Op.ht HB.out) : w.heap.size ≤ gb229)); replace HB := Op.k (Op.a5 (Op.ht HB.out) hb); clear hb hbox hg) | ((with_reducible refine gate_dst (N := 8) rfl ?_); (try (refine gate_guard (by rfl) ?_; dsimp only)); refine box_event ?hg (N := 8) ?hd (cs := #[.slice none 0 0, .slice none 0 0]) (t := 25) ?hr ?_; (case hd => rfl); (case hg => rfl); (case hr => first | (go_simp; done) | (go_simp; rfl)); intro gb230 hg w7 hbox hb; have BK230 := Op.k (hbox); have GW230 := Op.k ((Op.nz hg (Op.ht HB.out) : w.heap.size ≤ gb230)); have GE230 := Op.k ((Op.nz hg (Op.ht HB.out) : w.heap.size ≤ gb230)); replace HB := Op.k (Op.a5 (Op.ht HB.out) hb); have NB229_230 := Op.k ((Op.nl hg (Op.bt BK229.out) : gb229 ≠ gb230)); have NB230_229 := Op.k ((Op.ng hg (Op.bt BK229.out) : gb230 ≠ gb229)); replace BK229 := Op.k (Op.b4 (Op.bt BK229.out) hb); clear hb hbox hg))
 (try simp only [Act.put, List.setIfInBounds_toArray, List.set_cons_zero, List.set_cons_succ])
 go_cut [41] (fun v41 wc => ∃ (kq : Nat) (x41_4 : Bool), v41 = .bool x41_4 ∧ Aside0 (spec_PutIn.j0 kq a1 a2 a3 x41_4 l0_0 l0_1 = some (r1, r2, r3)) ∧ Aside0 (kq ≤ k) ∧ Aside0 (wc.heap[gb229]? = some (.cells #[(.slice A0_0 l0_0.length c0_0), (.slice A0_1 l0_1.length c0_1)] 25 (0, 0))) ∧ Aside0 (wc.heap[gb230]? = some (.cells #[(.slice none 0 0), (.slice none 0 0)] 25 (0, 0))) ∧ Aside0 (Below w.heap.size w wc))
 case first =>
  have H := HC5.out
  clear HC5
  replace H := Option.bind_eq_some_iff.mp H
  obtain ⟨t231, A80, H⟩ := H
  try dsimp only at H
  have A8 := Op.k A80
  clear A80
  by_cases c9 : t231 = true
  ·subst c9
   have H1 : ((spec_l11Key.f a2).bind fun t232 => (if t232 = true then ((spec_l1In.f a3 0 9999).bind fun t233 => (if t233 = true then (if (wrap64 ((l0_0.length : Int) + 2)) > 200 then (spec_PutIn.j0 k a1 a2 a3 true l0_0 l0_1) else (spec_PutIn.j0 k a1 a2 a3 ((l0_1.length : Int) == 40) l0_0 l0_1)) else (spec_PutIn.j0 k a1 a2 a3 true l0_0 l0_1))) else (spec_PutIn.j0 k a1 a2 a3 true l0_0 l0_1))) = some (r1, r2, r3) := by rw [if_pos rfl] at H; exact H
   clear H
   have H := H1
   clear H1
   replace H := Option.bind_eq_some_iff.mp H
   obtain ⟨t232, A100, H⟩ := H
   try dsimp only at H
   have A10 := Op.k A100
   clear A100
   by_cases c11 : t232 = true
   ·subst c11
    have H1 : ((spec_l1In.f a3 0 9999).bind fun t233 => (if t233 = true then (if (wrap64 ((l0_0.length : Int) + 2)) > 200 then (spec_PutIn.j0 k a1 a2 a3 true l0_0 l0_1) else (spec_PutIn.j0 k a1 a2 a3 ((l0_1.length : Int) == 40) l0_0 l0_1)) else (spec_PutIn.j0 k a1 a2 a3 true l0_0 l0_1))) = some (r1, r2, r3) := by rw [if_pos rfl] at H; exact H
    clear H
    have H := H1
    clear H1
    replace H := Option.bind_eq_some_iff.mp H
    obtain ⟨t233, A120, H⟩ := H
    try dsimp only at H
    have A12 := Op.k A120
    clear A120
    by_cases c13 : t233 = true
    ·subst c13
     have H1 : (if (wrap64 ((l0_0.length : Int) + 2)) > 200 then (spec_PutIn.j0 k a1 a2 a3 true l0_0 l0_1) else (spec_PutIn.j0 k a1 a2 a3 ((l0_1.length : Int) == 40) l0_0 l0_1)) = some (r1, r2, r3) := by rw [if_pos rfl] at H; exact H
     clear H
     have H := H1
     clear H1
     by_cases c14 : (wrap64 ((l0_0.length : Int) + 2)) > 200
     ·rw [if_pos c14] at H
      have c14b0 : decide (200 < (wrap64 ((l0_0.length : Int) + 2))) = true := decide_eq_true c14
      clear c14
      (first | rw [c14b0] | (simp only [i64_w, i32_w]; rw [c14b0]) | skip)
      have H' := Op.k H
      clear H
      have hnb15 := NB229_230.out
      have hnc15 := NB230_229.out
      have hcz16_0 := Op.c0 BK229.out
      have hcz16_1 := Op.c1 BK229.out
      have hfz16_0 := Op.bf BK229.out 0
      have hfz16_1 := Op.bf BK229.out 1
      go_wp2_with (first | ((with_reducible refine gate_callee (f := 58) rfl ?_); refine goesL_ (some 17) rfl rfl Try.func58 (by kernel_rfl) rfl #[.agg #[.slice A0_0 l0_0.length c0_0, .slice A0_1 l0_1.length c0_1], .int .i64 a1] rfl (by (try simp only [List.map_toArray, List.map_cons, List.map_nil]); first | done | rfl | (simp only [List.length_drop, List.length_take]; rfl)) ?_; (with_reducible refine (spec_l11There.calls k _ _ l0_0 _ _ l0_1 a1 true _ ?side1 ?side2 ?side3 ?side4 A8.out).mono ?_); (case side1 => exact Op.ct (Kd.C_below HR0_0.out HB.out)); (case side2 => exact HC0_0.out); (case side3 => exact Op.ct (Kd.C_below HR0_1.out HB.out)); (case side4 => exact HC0_1.out); rintro e w17 ⟨rfl, hb⟩; refine ⟨_, rfl, ?_⟩; replace BK229 := Op.k (Op.b4 (Op.bt BK229.out) hb); replace BK230 := Op.k (Op.b4 (Op.bt BK230.out) hb); replace HB := Op.k (Op.a5 (Op.ht HB.out) hb); (try clear hb); (try clear hb2); (try clear hk); (try clear hi)) | (go_at_call 59; (with_reducible refine (spec_l11Key.calls a2 true _ A10.out).mono ?_); rintro e w' ⟨rfl, ⟨nd, rfl⟩⟩) | (go_at_call 50; (with_reducible refine (spec_l1In.calls a3 0 9999 true _ A12.out).mono ?_); rintro e w' ⟨rfl, ⟨nd, rfl⟩⟩; have hcz18_0 := Op.c0 BK229.out; have hcz18_1 := Op.c1 BK229.out; have hfz18_0 := Op.bf BK229.out 0; have hfz18_1 := Op.bf BK229.out 1))
      go_meet
      case rel => exact ⟨_, (true), (by first | rfl | (simp; done) | (simp [*]; done)), H', ⟨by first | omega | exact Nat.le_refl _⟩, ⟨Op.bt BK229.out⟩, ⟨Op.bt BK230.out⟩, ⟨Op.ht HB.out⟩⟩
     ·rw [if_neg c14] at H
      have c14b0 : decide (200 < (wrap64 ((l0_0.length : Int) + 2))) = false := decide_eq_false c14
      clear c14
      (first | rw [c14b0] | (simp only [i64_w, i32_w]; rw [c14b0]) | skip)
      have H' := Op.k H
      clear H
      have hnb19 := NB229_230.out
      have hnc19 := NB230_229.out
      have hcz20_0 := Op.c0 BK229.out
      have hcz20_1 := Op.c1 BK229.out
      have hfz20_0 := Op.bf BK229.out 0
      have hfz20_1 := Op.bf BK229.out 1
      go_wp2_with (first | ((with_reducible refine gate_callee (f := 58) rfl ?_); refine goesL_ (some 17) rfl rfl Try.func58 (by kernel_rfl) rfl #[.agg #[.slice A0_0 l0_0.length c0_0, .slice A0_1 l0_1.length c0_1], .int .i64 a1] rfl (by (try simp only [List.map_toArray, List.map_cons, List.map_nil]); first | done | rfl | (simp only [List.length_drop, List.length_take]; rfl)) ?_; (with_reducible refine (spec_l11There.calls k _ _ l0_0 _ _ l0_1 a1 true _ ?side1 ?side2 ?side3 ?side4 A8.out).mono ?_); (case side1 => exact Op.ct (Kd.C_below HR0_0.out HB.out)); (case side2 => exact HC0_0.out); (case side3 => exact Op.ct (Kd.C_below HR0_1.out HB.out)); (case side4 => exact HC0_1.out); rintro e w21 ⟨rfl, hb⟩; refine ⟨_, rfl, ?_⟩; replace BK229 := Op.k (Op.b4 (Op.bt BK229.out) hb); replace BK230 := Op.k (Op.b4 (Op.bt BK230.out) hb); replace HB := Op.k (Op.a5 (Op.ht HB.out) hb); (try clear hb); (try clear hb2); (try clear hk); (try clear hi)) | (go_at_call 59; (with_reducible refine (spec_l11Key.calls a2 true _ A10.out).mono ?_); rintro e w' ⟨rfl, ⟨nd, rfl⟩⟩) | (go_at_call 50; (with_reducible refine (spec_l1In.calls a3 0 9999 true _ A12.out).mono ?_); rintro e w' ⟨rfl, ⟨nd, rfl⟩⟩; have hcz22_0 := Op.c0 BK229.out; have hcz22_1 := Op.c1 BK229.out; have hfz22_0 := Op.bf BK229.out 0; have hfz22_1 := Op.bf BK229.out 1))
      go_meet
      case rel => exact ⟨_, (((l0_1.length : Int) == 40)), (by first | rfl | (simp; done) | (simp [*]; done)), H', ⟨by first | omega | exact Nat.le_refl _⟩, ⟨Op.bt BK229.out⟩, ⟨Op.bt BK230.out⟩, ⟨Op.ht HB.out⟩⟩
    ·replace c13 := Bool.eq_false_iff.mpr c13
     subst c13
     have H1 : (spec_PutIn.j0 k a1 a2 a3 true l0_0 l0_1) = some (r1, r2, r3) := by rw [if_neg (show ¬ (false = true) by decide)] at H; exact H
     clear H
     have H := H1
     clear H1
     have H' := Op.k H
     clear H
     have hnb23 := NB229_230.out
     have hnc23 := NB230_229.out
     have hcz24_0 := Op.c0 BK229.out
     have hcz24_1 := Op.c1 BK229.out
     have hfz24_0 := Op.bf BK229.out 0
     have hfz24_1 := Op.bf BK229.out 1
     go_wp2_with (first | ((with_reducible refine gate_callee (f := 58) rfl ?_); refine goesL_ (some 17) rfl rfl Try.func58 (by kernel_rfl) rfl #[.agg #[.slice A0_0 l0_0.length c0_0, .slice A0_1 l0_1.length c0_1], .int .i64 a1] rfl (by (try simp only [List.map_toArray, List.map_cons, List.map_nil]); first | done | rfl | (simp only [List.length_drop, List.length_take]; rfl)) ?_; (with_reducible refine (spec_l11There.calls k _ _ l0_0 _ _ l0_1 a1 true _ ?side1 ?side2 ?side3 ?side4 A8.out).mono ?_); (case side1 => exact Op.ct (Kd.C_below HR0_0.out HB.out)); (case side2 => exact HC0_0.out); (case side3 => exact Op.ct (Kd.C_below HR0_1.out HB.out)); (case side4 => exact HC0_1.out); rintro e w25 ⟨rfl, hb⟩; refine ⟨_, rfl, ?_⟩; replace BK229 := Op.k (Op.b4 (Op.bt BK229.out) hb); replace BK230 := Op.k (Op.b4 (Op.bt BK230.out) hb); replace HB := Op.k (Op.a5 (Op.ht HB.out) hb); (try clear hb); (try clear hb2); (try clear hk); (try clear hi)) | (go_at_call 59; (with_reducible refine (spec_l11Key.calls a2 true _ A10.out).mono ?_); rintro e w' ⟨rfl, ⟨nd, rfl⟩⟩) | (go_at_call 50; (with_reducible refine (spec_l1In.calls a3 0 9999 false _ A12.out).mono ?_); rintro e w' ⟨rfl, ⟨nd, rfl⟩⟩))
     go_meet
     case rel => exact ⟨_, (true), (by first | rfl | (simp; done) | (simp [*]; done)), H', ⟨by first | omega | exact Nat.le_refl _⟩, ⟨Op.bt BK229.out⟩, ⟨Op.bt BK230.out⟩, ⟨Op.ht HB.out⟩⟩
   ·replace c11 := Bool.eq_false_iff.mpr c11
    subst c11
    have H1 : (spec_PutIn.j0 k a1 a2 a3 true l0_0 l0_1) = some (r1, r2, r3) := by rw [if_neg (show ¬ (false = true) by decide)] at H; exact H
    clear H
    have H := H1
    clear H1
    have H' := Op.k H
    clear H
    have hnb26 := NB229_230.out
    have hnc26 := NB230_229.out
    have hcz27_0 := Op.c0 BK229.out
    have hcz27_1 := Op.c1 BK229.out
    have hfz27_0 := Op.bf BK229.out 0
    have hfz27_1 := Op.bf BK229.out 1
    go_wp2_with (first | ((with_reducible refine gate_callee (f := 58) rfl ?_); refine goesL_ (some 17) rfl rfl Try.func58 (by kernel_rfl) rfl #[.agg #[.slice A0_0 l0_0.length c0_0, .slice A0_1 l0_1.length c0_1], .int .i64 a1] rfl (by (try simp only [List.map_toArray, List.map_cons, List.map_nil]); first | done | rfl | (simp only [List.length_drop, List.length_take]; rfl)) ?_; (with_reducible refine (spec_l11There.calls k _ _ l0_0 _ _ l0_1 a1 true _ ?side1 ?side2 ?side3 ?side4 A8.out).mono ?_); (case side1 => exact Op.ct (Kd.C_below HR0_0.out HB.out)); (case side2 => exact HC0_0.out); (case side3 => exact Op.ct (Kd.C_below HR0_1.out HB.out)); (case side4 => exact HC0_1.out); rintro e w28 ⟨rfl, hb⟩; refine ⟨_, rfl, ?_⟩; replace BK229 := Op.k (Op.b4 (Op.bt BK229.out) hb); replace BK230 := Op.k (Op.b4 (Op.bt BK230.out) hb); replace HB := Op.k (Op.a5 (Op.ht HB.out) hb); (try clear hb); (try clear hb2); (try clear hk); (try clear hi)) | (go_at_call 59; (with_reducible refine (spec_l11Key.calls a2 false _ A10.out).mono ?_); rintro e w' ⟨rfl, ⟨nd, rfl⟩⟩))
    go_meet
    case rel => exact ⟨_, (true), (by first | rfl | (simp; done) | (simp [*]; done)), H', ⟨by first | omega | exact Nat.le_refl _⟩, ⟨Op.bt BK229.out⟩, ⟨Op.bt BK230.out⟩, ⟨Op.ht HB.out⟩⟩
  ·replace c9 := Bool.eq_false_iff.mpr c9
   subst c9
   have H1 : (spec_PutIn.j0 k a1 a2 a3 true l0_0 l0_1) = some (r1, r2, r3) := by rw [if_neg (show ¬ (false = true) by decide)] at H; exact H
   clear H
   have H := H1
   clear H1
   have H' := Op.k H
   clear H
   have hnb29 := NB229_230.out
   have hnc29 := NB230_229.out
   have hcz30_0 := Op.c0 BK229.out
   have hcz30_1 := Op.c1 BK229.out
   have hfz30_0 := Op.bf BK229.out 0
   have hfz30_1 := Op.bf BK229.out 1
   go_wp2_with (first | ((with_reducible refine gate_callee (f := 58) rfl ?_); refine goesL_ (some 17) rfl rfl Try.func58 (by kernel_rfl) rfl #[.agg #[.slice A0_0 l0_0.length c0_0, .slice A0_1 l0_1.length c0_1], .int .i64 a1] rfl (by (try simp only [List.map_toArray, List.map_cons, List.map_nil]); first | done | rfl | (simp only [List.length_drop, List.length_take]; rfl)) ?_; (with_reducible refine (spec_l11There.calls k _ _ l0_0 _ _ l0_1 a1 false _ ?side1 ?side2 ?side3 ?side4 A8.out).mono ?_); (case side1 => exact Op.ct (Kd.C_below HR0_0.out HB.out)); (case side2 => exact HC0_0.out); (case side3 => exact Op.ct (Kd.C_below HR0_1.out HB.out)); (case side4 => exact HC0_1.out); rintro e w31 ⟨rfl, hb⟩; refine ⟨_, rfl, ?_⟩; replace BK229 := Op.k (Op.b4 (Op.bt BK229.out) hb); replace BK230 := Op.k (Op.b4 (Op.bt BK230.out) hb); replace HB := Op.k (Op.a5 (Op.ht HB.out) hb); (try clear hb); (try clear hb2); (try clear hk); (try clear hi)))
   go_meet
   case rel => exact ⟨_, (true), (by first | rfl | (simp; done) | (simp [*]; done)), H', ⟨by first | omega | exact Nat.le_refl _⟩, ⟨Op.bt BK229.out⟩, ⟨Op.bt BK230.out⟩, ⟨Op.ht HB.out⟩⟩
 case rest =>
  clear HC5
  try clear c1
  try clear c2
  try clear p2
  try clear c3
  try clear c5
  try clear p6
  try clear c9
  try clear c11
  try clear c13
  try clear c14
  try clear c14b0
  try clear c15
  try clear c19
  try clear c23
  try clear c26
  try clear c29
  try clear hcz16_0
  try clear hcz16_1
  try clear hcz18_0
  try clear hcz18_1
  try clear hcz20_0
  try clear hcz20_1
  try clear hcz22_0
  try clear hcz22_1
  try clear hcz24_0
  try clear hcz24_1
  try clear hcz27_0
  try clear hcz27_1
  try clear hcz30_0
  try clear hcz30_1
  try clear hfz16_0
  try clear hfz16_1
  try clear hfz18_0
  try clear hfz18_1
  try clear hfz20_0
  try clear hfz20_1
  try clear hfz22_0
  try clear hfz22_1
  try clear hfz24_0
  try clear hfz24_1
  try clear hfz27_0
  try clear hfz27_1
  try clear hfz30_0
  try clear hfz30_1
  obtain ⟨kq, x41_4, rfl, HA, HJ4, BK229, BK230, HB⟩ := hcut
  cases kq with
  | zero => exact absurd HA.out (by simp [spec_PutIn.j0])
  | succ kj4 =>
   have H := HA.out
   clear HA
   simp only [spec_PutIn.j0] at H
   by_cases c32 : x41_4 = true
   ·subst c32
    have H1 : (some (([] : List (S65)), ([] : List Int), false)) = some (r1, r2, r3) := by rw [if_pos rfl] at H; exact H
    clear H
    have H := H1
    clear H1
    simp only [Option.some.injEq, Prod.mk.injEq] at H
    obtain ⟨rfl, rfl, rfl⟩ := H
    have hnb33 := NB230_229.out
    have hnc33 := NB229_230.out
    have hcz34_0 := Op.c0 BK230.out
    have hcz34_1 := Op.c1 BK230.out
    have hfz34_0 := Op.bf BK230.out 0
    have hfz34_1 := Op.bf BK230.out 1
    go_wp2
    refine bodyPost_ret (results_ct rfl _ _ gb230 25 #[.slice none 0 0, .slice none 0 0] (0, 0) _ rfl (Op.bv BK230.out) Try.underlying25 rfl (by kernel_rfl)) rfl ?_
    exact ⟨_, _, by first | rfl | (simp [errW_none, errW_some] <;> rfl) | (simp [*, errW_none, errW_some] <;> rfl), by first | exact Kd.S_nil _ _ _ _ _ | exact Kd.N_nil _ _ _ _ _ | exact Kd.V_nil _ _ _ _ _ | exact Kd.Q_nil _ _ _ _ _ | exact Kd.R_nil _ _ _ _ _, by first | exact Kd.R_nil _ _ _ _ _ | exact Kd.N_nil _ _ _ _ _ | exact Kd.V_nil _ _ _ _ _ | exact Kd.Q_nil _ _ _ _ _ | exact Kd.S_nil _ _ _ _ _, Op.ht HB.out⟩
   ·replace c32 := Bool.eq_false_iff.mpr c32
    subst c32
    have H1 : ((spec_l11Own.f kj4 l0_0 l0_1).bind fun bt234 => ((spec_l11Leaf.f l0_0 l0_1 a1 a2).bind fun t245 => (if t245 ≥ 0 then ((some (([] : List Int) : List Int)).bind fun y246 => (if 0 ≤ t245 then (if t245 < (l0_0.length : Int) then (if y246.length + ((rd_T65 l0_0 t245).f0).length < 17592186044416 then (spec_PutIn.j1 kj4 a1 a2 a3 l0_0 l0_1 bt234.1 bt234.2 (y246 ++ ((rd_T65 l0_0 t245).f0)) true) else (none)) else (none)) else (none))) else (spec_PutIn.j1 kj4 a1 a2 a3 l0_0 l0_1 bt234.1 bt234.2 (([0, 0, 0, 0] : List Int)) true)))) = some (r1, r2, r3) := by rw [if_neg (show ¬ (false = true) by decide)] at H; exact H
    clear H
    have H := H1
    clear H1
    replace H := Option.bind_eq_some_iff.mp H
    obtain ⟨⟨t234, t237⟩, A350, H⟩ := H
    try dsimp only at H
    have A35 := Op.k A350
    clear A350
    obtain ⟨y241, hy241⟩ : ∃ y_ : List Int, y_ = (([0, 0, 0, 0] : List Int)) := ⟨_, rfl⟩
    replace H : ((spec_l11Leaf.f l0_0 l0_1 a1 a2).bind fun t245 => (if t245 ≥ 0 then ((some (([] : List Int) : List Int)).bind fun y246 => (if 0 ≤ t245 then (if t245 < (l0_0.length : Int) then (if y246.length + ((rd_T65 l0_0 t245).f0).length < 17592186044416 then (spec_PutIn.j1 kj4 a1 a2 a3 l0_0 l0_1 t234 t237 (y246 ++ ((rd_T65 l0_0 t245).f0)) true) else (none)) else (none)) else (none))) else (spec_PutIn.j1 kj4 a1 a2 a3 l0_0 l0_1 t234 t237 y241 true))) = some (r1, r2, r3) := by first | (rw [hy241]; with_reducible exact H) | (have H2_ := (Option.bind_some _ _).symm.trans H; rw [hy241]; with_reducible exact H2_) | (have H2_ := (Option.bind_some _ _).symm.trans H; with_reducible exact H2_) | with_reducible exact H | (rw [hy241]; exact H) | exact H
    have Ny241 := Op.k hy241
    clear hy241
    replace H := Option.bind_eq_some_iff.mp H
    obtain ⟨t245, A360, H⟩ := H
    try dsimp only at H
    have A36 := Op.k A360
    clear A360
    have HC37 := Op.k H
    clear H
    have hnb38 := NB229_230.out
    have hnc38 := NB230_229.out
    have hcz39_0 := Op.c0 BK229.out
    have hcz39_1 := Op.c1 BK229.out
    have hfz39_0 := Op.bf BK229.out 0
    have hfz39_1 := Op.bf BK229.out 1
    go_upto_if 52 with (first | ((with_reducible refine gate_callee (f := 65) rfl ?_); refine goesL_ (some 44) rfl rfl Try.func65 (by kernel_rfl) rfl #[.agg #[.slice A0_0 l0_0.length c0_0, .slice A0_1 l0_1.length c0_1]] rfl (by (try simp only [List.map_toArray, List.map_cons, List.map_nil]); first | done | rfl | (simp only [List.length_drop, List.length_take]; rfl)) ?_; (with_reducible refine (spec_l11Own.calls kj4 _ _ l0_0 _ _ l0_1 t234 t237 _ ?side1 ?side2 ?side3 ?side4 A35.out).mono ?_); (case side1 => exact Op.ct (Kd.C_below HR0_0.out HB.out)); (case side2 => exact HC0_0.out); (case side3 => exact Op.ct (Kd.C_below HR0_1.out HB.out)); (case side4 => exact HC0_1.out); rintro e w40 ⟨v235, v238, rfl, ho0, ho1, hb⟩; refine ⟨_, rfl, ?_⟩; have HO236 := Op.k (Kd.S_lower ho0 (Op.a6 (Op.ht HB.out))); have HO239 := Op.k (Kd.R_lower ho1 (Op.a6 (Op.ht HB.out))); replace BK229 := Op.k (Op.b4 (Op.bt BK229.out) hb); replace BK230 := Op.k (Op.b4 (Op.bt BK230.out) hb); replace HB := Op.k (Op.a5 (Op.ht HB.out) hb); (try clear hb); (try clear hb2); (try clear hk); (try clear hi); (try clear ho0); (try clear ho1)) | ((with_reducible refine gate_dst (N := 10) rfl ?_); (try (refine gate_guard (by rfl) ?_; dsimp only)); refine box_event ?hg (N := 10) ?hd (cs := #[.slice none 0 0, .slice none 0 0]) (t := 25) ?hr ?_; (case hd => rfl); (case hg => rfl); (case hr => first | (go_simp; done) | (go_simp; rfl)); intro gb240 hg w41 hbox hb; replace HO236 := Op.k (Kd.S_below (Op.st HO236.out) hb); replace HO239 := Op.k (Kd.R_below (Op.rt HO239.out) hb); have BK240 := Op.k (hbox); have GW240 := Op.k ((Op.nz hg (Op.ht HB.out) : w.heap.size ≤ gb240)); have GE240 := Op.k ((Op.nz hg (Op.ht HB.out) : w.heap.size ≤ gb240)); replace HB := Op.k (Op.a5 (Op.ht HB.out) hb); have NB229_240 := Op.k ((Op.nl hg (Op.bt BK229.out) : gb229 ≠ gb240)); have NB240_229 := Op.k ((Op.ng hg (Op.bt BK229.out) : gb240 ≠ gb229)); replace BK229 := Op.k (Op.b4 (Op.bt BK229.out) hb); have NB230_240 := Op.k ((Op.nl hg (Op.bt BK230.out) : gb230 ≠ gb240)); have NB240_230 := Op.k ((Op.ng hg (Op.bt BK230.out) : gb240 ≠ gb230)); replace BK230 := Op.k (Op.b4 (Op.bt BK230.out) hb); clear hb hbox hg; obtain ⟨Ao42, co42, eo42⟩ := Kd.S_slice HO236.out; subst eo42; have hnb43 := NB240_229.out; have hnc43 := NB229_240.out; have hnb44 := NB240_230.out; have hnc44 := NB230_240.out; have hcz45_0 := Op.c0 BK240.out; have hcz45_1 := Op.c1 BK240.out; have hfz45_0 := Op.bf BK240.out 0; have hfz45_1 := Op.bf BK240.out 1; obtain ⟨Ao46, co46, eo46⟩ := Kd.R_slice HO239.out; subst eo46) | ((with_reducible refine gate_dst (N := 45) rfl ?_); (try (refine gate_guard (by rfl) ?_; dsimp only)); refine Kd.R_lit (Kd.int .i64) _ 3 ?hg (N := 45) ?hd (xs := ([0, 0, 0, 0] : List Int)) (inner := [.int .i64 0, .int .i64 0, .int .i64 0, .int .i64 0]) (ok := fun _ => True) (okp := fun _ => True) ?hr ?hp (fun _ hk => hk) trivial (Below.refl _ _) (Nat.le_refl _) (by simp) ?_; (case hd => rfl); (case hg => rfl); (case hr => first | (go_simp; done) | (go_simp; rfl)); (case hp => exact (Reps.one (show Kd.M (Kd.int .i64) _ _ _ 0 [.int .i64 0] from rfl) (Reps.one (show Kd.M (Kd.int .i64) _ _ _ 0 [.int .i64 0] from rfl) (Reps.one (show Kd.M (Kd.int .i64) _ _ _ 0 [.int .i64 0] from rfl) (Reps.one (show Kd.M (Kd.int .i64) _ _ _ 0 [.int .i64 0] from rfl) (Reps.none _ _)))))); intro v242 w47 ho48 hb hg_ hnew_; clear hg_ hnew_; (first | rw [← Ny241.out] at ho48 | (simp only [Int.reduceToNat] at ho48; rw [← Ny241.out] at ho48)); replace HO236 := Op.k (Kd.S_elder' (Op.sf HO236.out BK240.out) (Kd.R_base ho48) hb); have HO243 := Op.k (Kd.R_lower (Kd.R_new' ho48 (Kd.R_lt (Op.rf HO239.out BK240.out))) (Op.a6 (Op.ht HB.out))); replace HO239 := Op.k (Kd.R_elder' (Op.rf HO239.out BK240.out) (Kd.R_base ho48) hb); replace BK229 := Op.k (Op.b4 (Op.bt BK229.out) hb); replace BK230 := Op.k (Op.b4 (Op.bt BK230.out) hb); replace BK240 := Op.k (Op.b4 (g := gb240) (o := .cells #[.slice Ao42 t234.length co42, .slice Ao46 t237.length co46] 25 (0, 0)) (Op.bv BK240.out) hb); replace HB := Op.k (Op.a5 (Op.ht HB.out) hb); clear hb ho48; obtain ⟨Ao49, co49, eo49⟩ := Kd.R_slice HO243.out; subst eo49) | ((with_reducible refine gate_dst (N := 11) rfl ?_); (try (refine gate_guard (by rfl) ?_; dsimp only)); refine box_event ?hg (N := 11) ?hd (cs := #[.slice none 0 0, .bool false]) (t := 65) ?hr ?_; (case hd => rfl); (case hg => rfl); (case hr => first | (go_simp; done) | (go_simp; rfl)); intro gb244 hg w50 hbox hb; replace HO236 := Op.k (Kd.S_below (Kd.S_elderB (Op.st HO236.out) gb244 (Nat.le_of_eq hg.symm)) hb); replace HO239 := Op.k (Kd.R_below (Op.rt HO239.out) hb); replace HO243 := Op.k (Kd.R_below (Op.rt HO243.out) hb); have BK244 := Op.k (hbox); have GW244 := Op.k ((Op.nz hg (Op.ht HB.out) : w.heap.size ≤ gb244)); have GE244 := Op.k ((Op.nz hg (Op.ht HB.out) : w.heap.size ≤ gb244)); replace HB := Op.k (Op.a5 (Op.ht HB.out) hb); have NB229_244 := Op.k ((Op.nl hg (Op.bt BK229.out) : gb229 ≠ gb244)); have NB244_229 := Op.k ((Op.ng hg (Op.bt BK229.out) : gb244 ≠ gb229)); replace BK229 := Op.k (Op.b4 (Op.bt BK229.out) hb); have NB230_244 := Op.k ((Op.nl hg (Op.bt BK230.out) : gb230 ≠ gb244)); have NB244_230 := Op.k ((Op.ng hg (Op.bt BK230.out) : gb244 ≠ gb230)); replace BK230 := Op.k (Op.b4 (Op.bt BK230.out) hb); have NB240_244 := Op.k ((Op.nl hg (Op.bt BK240.out) : gb240 ≠ gb244)); have NB244_240 := Op.k ((Op.ng hg (Op.bt BK240.out) : gb244 ≠ gb240)); replace BK240 := Op.k (Op.b4 (Op.bt BK240.out) hb); clear hb hbox hg; have hnb51 := NB244_229.out; have hnc51 := NB229_244.out; have hnb52 := NB244_230.out; have hnc52 := NB230_244.out; have hnb53 := NB244_240.out; have hnc53 := NB240_244.out; have hcz54_0 := Op.c0 BK244.out; have hcz54_1 := Op.c1 BK244.out; have hfz54_0 := Op.bf BK244.out 0; have hfz54_1 := Op.bf BK244.out 1; have hcz55_0 := Op.c0 BK229.out; have hcz55_1 := Op.c1 BK229.out; have hfz55_0 := Op.bf BK229.out 0; have hfz55_1 := Op.bf BK229.out 1) | ((with_reducible refine gate_callee (f := 67) rfl ?_); refine goesL_ (some 50) rfl rfl Try.func67 (by kernel_rfl) rfl #[.agg #[.slice A0_0 l0_0.length c0_0, .slice A0_1 l0_1.length c0_1], .int .i64 a1, .int .i64 a2] rfl (by (try simp only [List.map_toArray, List.map_cons, List.map_nil]); first | done | rfl | (simp only [List.length_drop, List.length_take]; rfl)) ?_; (with_reducible refine (spec_l11Leaf.calls _ _ l0_0 _ _ l0_1 a1 a2 t245 _ ?side1 ?side2 ?side3 ?side4 A36.out).mono ?_); (case side1 => exact Kd.C_below HR0_0.out (Op.ht HB.out)); (case side2 => exact HC0_0.out); (case side3 => exact Kd.C_below HR0_1.out (Op.ht HB.out)); (case side4 => exact HC0_1.out); rintro e w56 ⟨rfl, hb⟩; refine ⟨_, rfl, ?_⟩; replace HO236 := Op.k (Kd.S_below (by (with_reducible repeat (first | apply Kd.S_alloc | apply Kd.S_drewN | apply Kd.S_drew)); exact (Kd.S_mono (Kd.S_far (p := ⟨gb244, 1, none⟩) (Kd.S_far (p := ⟨gb244, 0, none⟩) (Kd.S_mono HO236.out (fun k_ hk => (⟨hk, hk.2⟩ : _ ∧ k_ ≠ gb244))) (fun _ hk => hk.2) (.slice Ao49 y241.length co49)) (fun _ hk => hk.2) (.bool true)) (fun _ h_ => h_.1))) hb); replace HO239 := Op.k (Kd.R_below (Op.rf HO239.out BK244.out) hb); replace HO243 := Op.k (Kd.R_below (Op.rf HO243.out BK244.out) hb); replace BK229 := Op.k (Op.b4 (Op.bt BK229.out) hb); replace BK230 := Op.k (Op.b4 (Op.bt BK230.out) hb); replace BK240 := Op.k (Op.b4 (Op.bt BK240.out) hb); replace BK244 := Op.k (Op.b4 (g := gb244) (o := .cells #[.slice Ao49 y241.length co49, .bool true] 65 (0, 0)) (Op.bv BK244.out) hb); replace HB := Op.k (Op.a5 (Op.ht HB.out) hb); (try clear hb); (try clear hb2); (try clear hk); (try clear hi)))
    (try simp only [Act.put, List.setIfInBounds_toArray, List.set_cons_zero, List.set_cons_succ])
    go_cut [] (fun wc => ∃ (kq : Nat) (x245000_36 : List Int) (u245000 : Value), Aside0 (spec_PutIn.j1 kq a1 a2 a3 l0_0 l0_1 t234 t237 x245000_36 true = some (r1, r2, r3)) ∧ Aside0 (kq ≤ kj4) ∧ Aside0 (Kd.S k65 65 wc w.heap.size (fun k_ => some k_ ≠ ((.slice Ao46 t237.length co46) : Value).ownBlock ∧ some k_ ≠ (u245000 : Value).ownBlock ∧ k_ ≠ gb244) (.slice Ao42 t234.length co42) t234) ∧ Aside0 (Kd.R (Kd.int .i64) 3 wc w.heap.size (fun k_ => some k_ ≠ (u245000 : Value).ownBlock) (.slice Ao46 t237.length co46) t237) ∧ Aside0 (Kd.R (Kd.int .i64) 3 wc w.heap.size (fun k_ => some k_ ≠ ((.slice Ao46 t237.length co46) : Value).ownBlock) u245000 x245000_36) ∧ Aside0 (wc.heap[gb229]? = some (.cells #[(.slice A0_0 l0_0.length c0_0), (.slice A0_1 l0_1.length c0_1)] 25 (0, 0))) ∧ Aside0 (wc.heap[gb230]? = some (.cells #[(.slice none 0 0), (.slice none 0 0)] 25 (0, 0))) ∧ Aside0 (wc.heap[gb240]? = some (.cells #[(.slice Ao42 t234.length co42), (.slice Ao46 t237.length co46)] 25 (0, 0))) ∧ Aside0 (wc.heap[gb244]? = some (.cells #[u245000, .bool true] 65 (0, 0))) ∧ Aside0 (Below w.heap.size w wc))
    case first =>
     have H := HC37.out
     clear HC37
     by_cases c57 : t245 ≥ 0
     ·rw [if_pos c57] at H
      have c57b0 : decide (0 ≤ t245) = true := decide_eq_true c57
      clear c57
      (first | rw [c57b0] | (simp only [i64_w, i32_w]; rw [c57b0]) | skip)
      obtain ⟨y246, hy246⟩ : ∃ y_ : List Int, y_ = (([] : List Int)) := ⟨_, rfl⟩
      replace H : (if 0 ≤ t245 then (if t245 < (l0_0.length : Int) then (if y246.length + ((rd_T65 l0_0 t245).f0).length < 17592186044416 then (spec_PutIn.j1 kj4 a1 a2 a3 l0_0 l0_1 t234 t237 (y246 ++ ((rd_T65 l0_0 t245).f0)) true) else (none)) else (none)) else (none)) = some (r1, r2, r3) := by first | (rw [hy246]; with_reducible exact H) | (have H2_ := (Option.bind_some _ _).symm.trans H; rw [hy246]; with_reducible exact H2_) | (have H2_ := (Option.bind_some _ _).symm.trans H; with_reducible exact H2_) | with_reducible exact H | (rw [hy246]; exact H) | exact H
      have Ny246 := Op.k hy246
      clear hy246
      by_cases c58 : 0 ≤ t245
      ·rw [if_pos c58] at H
       have c58b0 : decide (0 ≤ t245) = true := decide_eq_true c58
       clear c58
       by_cases c59 : t245 < (l0_0.length : Int)
       ·rw [if_pos c59] at H
        have c59b0 : decide (t245 < (l0_0.length : Int)) = true := decide_eq_true c59
        clear c59
        by_cases c60 : y246.length + ((rd_T65 l0_0 t245).f0).length < 17592186044416
        ·rw [if_pos c60] at H
         have LMc60 := Op.k c60
         clear c60
         obtain ⟨y250, hy250⟩ : ∃ y_ : List Int, y_ = (y246 ++ ((rd_T65 l0_0 t245).f0)) := ⟨_, rfl⟩
         replace H : (spec_PutIn.j1 kj4 a1 a2 a3 l0_0 l0_1 t234 t237 y250 true) = some (r1, r2, r3) := by first | (rw [hy250]; with_reducible exact H) | (have H2_ := (Option.bind_some _ _).symm.trans H; rw [hy250]; with_reducible exact H2_) | (have H2_ := (Option.bind_some _ _).symm.trans H; with_reducible exact H2_) | with_reducible exact H | (rw [hy250]; exact H) | exact H
         have Ny250 := Op.k hy250
         clear hy250
         have H' := Op.k H
         clear H
         go_wp2_with (first | ((with_reducible refine gate_dst (N := 53) rfl ?_); (try (refine gate_guard (by rfl) ?_; dsimp only)); refine Kd.R_lit (Kd.int .i64) _ 3 ?hg (N := 53) ?hd (xs := ([] : List Int)) (inner := []) (ok := fun _ => True) (okp := fun _ => True) ?hr ?hp (fun _ hk => hk) trivial (Below.refl _ _) (Nat.le_refl _) (by simp) ?_; (case hd => rfl); (case hg => rfl); (case hr => first | (go_simp; done) | (go_simp; rfl)); (case hp => exact (Reps.none _ _)); intro v247 w61 ho62 hb hg_ hnew_; clear hg_ hnew_; (first | rw [← Ny246.out] at ho62 | (simp only [Int.reduceToNat] at ho62; rw [← Ny246.out] at ho62)); replace HO236 := Op.k (Kd.S_elder' (Op.st HO236.out) (Kd.R_base ho62) hb); have HO248 := Op.k (Kd.R_lower (Kd.R_new' (Kd.R_new' ho62 (Kd.R_lt (Op.rt HO239.out))) (Kd.R_lt (Op.rt HO243.out))) (Op.a6 (Op.ht HB.out))); replace HO239 := Op.k (Kd.R_elder' (Op.rt HO239.out) (Kd.R_base ho62) hb); replace HO243 := Op.k (Kd.R_elder' (Op.rt HO243.out) (Kd.R_base ho62) hb); replace BK229 := Op.k (Op.b4 (Op.bt BK229.out) hb); replace BK230 := Op.k (Op.b4 (Op.bt BK230.out) hb); replace BK240 := Op.k (Op.b4 (Op.bt BK240.out) hb); replace BK244 := Op.k (Op.b4 (Op.bt BK244.out) hb); replace HB := Op.k (Op.a5 (Op.ht HB.out) hb); clear hb ho62; have hnb63 := NB229_230.out; have hnc63 := NB230_229.out; have hnb64 := NB229_240.out; have hnc64 := NB240_229.out; have hnb65 := NB229_244.out; have hnc65 := NB244_229.out; have hcz66_0 := Op.c0 BK229.out; have hcz66_1 := Op.c1 BK229.out; have hfz66_0 := Op.bf BK229.out 0; have hfz66_1 := Op.bf BK229.out 1; have p249 : 0 ≤ (t245 : Int) := Op.dt; have q249 : t245 < (l0_0.length : Int) := Op.dt; obtain ⟨ad249, A249_0, c249_0, e249, hx249_0, hx249_1, hl249_0, hi249_0⟩ := at_T65 HR0_0.out t245 p249 q249; cases e249; replace hx249_0 := (HB.out.cell (World.block_lt_of_cell? w _ hx249_0)).trans hx249_0; replace hx249_1 := (HB.out.cell (World.block_lt_of_cell? w _ hx249_1)).trans hx249_1; have HR249_0 := Op.k hi249_0; have HC249_0 := Op.k hl249_0; clear hi249_0 hl249_0; replace p249 := eq_true p249; replace q249 := eq_true q249) | ((with_reducible refine gate_builtin (b := .append) (xs := #[.tmp 53, .tmp 59]) rfl ?_); (try (refine gate_guard (by rfl) ?_; dsimp only)); at_builtin; refine Kd.R_append_rows (Kd.int .i64) (w0 := w) w.heap.size rfl (.tmp 53) (.tmp 59) 23 3 (.int .i64 0) 8 rfl Try.underlying23 info3 rfl (by decide) (by omega) v247 y246 ((rd_T65 l0_0 t245).f0) _ _ _ (fun k_ => some k_ ≠ (.slice Ao46 t237.length co46 : Value).ownBlock ∧ some k_ ≠ (.slice Ao49 y241.length co49 : Value).ownBlock) (fun _ => False) rfl rfl ?aO ?aR (fun _ _ h => h) (fun _ h => h.elim) ?aF ?aB ?aS ?aL ?_; (case aR => exact Op.ct (Kd.C_below HR249_0.out HB.out)); (case aB => exact (Op.ht HB.out)); (case aF => exact (fun k_ hk => ⟨Kd.fresh' (Kd.R_lt (Op.rt HO239.out)) k_ hk, Kd.fresh' (Kd.R_lt (Op.rt HO243.out)) k_ hk⟩)); (case aO => exact (Kd.R_mono (Op.rt HO248.out) (fun _ hk => ⟨hk.1.2, hk.2⟩))); (case aS => exact (Op.a6 (Op.ht HB.out))); (case aL => have := LMc60.out; omega); intro v251 w67 ho hb hg hat; rw [← Ny250.out] at ho; have n0_ := Op.k (blk_grown (Op.bt BK229.out) hg (Kd.R_ne HO248.out BK229.out (by decide))); have n1_ := Op.k (blk_grown (Op.bt BK230.out) hg (Kd.R_ne HO248.out BK230.out (by decide))); have n2_ := Op.k (Kd.S_after (ok := (fun k_ => some k_ ≠ (.slice Ao46 t237.length co46 : Value).ownBlock ∧ some k_ ≠ (.slice Ao49 y241.length co49 : Value).ownBlock ∧ k_ ≠ gb244)) (Kd.S_mono (Op.st HO236.out) (fun _ hk => ⟨⟨hk.1.1.1, ⟨hk.1.1.2, hk.1.2⟩⟩, hk.2⟩)) hg hat); have n3_ := Op.k (Kd.R_after (ok := (fun k_ => some k_ ≠ (.slice Ao49 y241.length co49 : Value).ownBlock)) (Kd.R_mono (Op.rt HO239.out) (fun _ hk => ⟨hk.1.2, hk.2⟩)) hg hat); have n4_ := Op.k (blk_grown (Op.bt BK240.out) hg (Kd.R_ne HO248.out BK240.out (by decide))); have n5_ := Op.k (Kd.R_after (ok := (fun k_ => some k_ ≠ (.slice Ao46 t237.length co46 : Value).ownBlock)) (Kd.R_mono (Op.rt HO243.out) (fun _ hk => ⟨hk.1.2, hk.2⟩)) hg hat); have n6_ := Op.k (blk_grown (Op.bt BK244.out) hg (Kd.R_ne HO248.out BK244.out (by decide))); have n7_ := Op.k (hb); have n8_ := Op.k (ho); clear BK229; clear BK230; clear HO236; clear HO239; clear BK240; clear HO243; clear BK244; clear HB; clear HO248; have BK229 := n0_; have BK230 := n1_; have HO236 := n2_; have HO239 := n3_; have BK240 := n4_; have HO243 := n5_; have BK244 := n6_; have HB := n7_; have HO252 := n8_; clear n0_ n1_ n2_ n3_ n4_ n5_ n6_ n7_ n8_; clear ho hb hg hat; obtain ⟨Ao68, co68, eo68⟩ := Kd.R_slice HO252.out; subst eo68; have hnb69 := NB244_230.out; have hnc69 := NB230_244.out; have hnb70 := NB244_240.out; have hnc70 := NB240_244.out; have hcz71_0 := Op.c0 BK244.out; have hcz71_1 := Op.c1 BK244.out; have hfz71_0 := Op.bf BK244.out 0; have hfz71_1 := Op.bf BK244.out 1))
         go_meet
         case rel => exact ⟨_, (y250), (.slice Ao68 y250.length co68), H', ⟨by have := HJ4.out; first | omega | exact Nat.le_refl _⟩, ⟨by (with_reducible repeat (first | apply Kd.S_alloc | apply Kd.S_drewN | apply Kd.S_drew)); exact Kd.S_mono (Kd.S_far (p := ⟨gb244, 0, none⟩) (Kd.S_mono HO236.out (fun k_ hk => (⟨hk, hk.1.2.2⟩ : _ ∧ k_ ≠ gb244))) (fun _ hk => hk.2) (.slice Ao68 y250.length co68)) (fun _ hk => ⟨hk.1.1.1, ⟨hk.1.2, hk.1.1.2.2⟩⟩)⟩, ⟨Kd.R_mono (Op.rf HO239.out BK244.out) (fun _ hk => hk.2)⟩, ⟨Kd.R_mono (Op.rf HO252.out BK244.out) (fun _ hk => hk.1)⟩, ⟨Op.bt BK229.out⟩, ⟨Op.bt BK230.out⟩, ⟨Op.bt BK240.out⟩, ⟨Op.bv BK244.out⟩, ⟨Op.ht HB.out⟩⟩
        ·rw [if_neg c60] at H
         exact absurd H (by simp)
       ·rw [if_neg c59] at H
        exact absurd H (by simp)
      ·rw [if_neg c58] at H
       exact absurd H (by simp)
     ·rw [if_neg c57] at H
      have c57b0 : decide (0 ≤ t245) = false := decide_eq_false c57
      clear c57
      (first | rw [c57b0] | (simp only [i64_w, i32_w]; rw [c57b0]) | skip)
      have H' := Op.k H
      clear H
      go_wp2
      go_meet
      case rel => exact ⟨_, (y241), (.slice Ao49 y241.length co49), H', ⟨by have := HJ4.out; first | omega | exact Nat.le_refl _⟩, ⟨Kd.S_mono (Op.st HO236.out) (fun _ hk => ⟨hk.1.1, ⟨hk.1.2, hk.2⟩⟩)⟩, ⟨Kd.R_mono (Op.rt HO239.out) (fun _ hk => hk.2)⟩, ⟨Kd.R_mono (Op.rt HO243.out) (fun _ hk => hk.2)⟩, ⟨Op.bt BK229.out⟩, ⟨Op.bt BK230.out⟩, ⟨Op.bt BK240.out⟩, ⟨Op.bt BK244.out⟩, ⟨Op.ht HB.out⟩⟩
    case rest =>
     clear HC37
     try clear c1
     try clear c2
     try clear p2
     try clear q2
     try clear hx2
     try clear c3
     try clear c4
     try clear c5
     try clear c6
     try clear p6
     try clear c7
     try clear c9
     try clear c11
     try clear c13
     try clear c14
     try clear c14b0
     try clear c15
     try clear c19
     try clear c23
     try clear c24
     try clear p24
     try clear q24
     try clear hx24
     try clear c26
     try clear c29
     try clear c32
     try clear c33
     try clear c38
     try clear c43
     try clear c44
     try clear c51
     try clear c52
     try clear c53
     try clear c57
     try clear c57b0
     try clear c58
     try clear c58b0
     try clear c59
     try clear c59b0
     try clear c60
     try clear c63
     try clear c64
     try clear p64
     try clear c65
     try clear c67
     try clear c69
     try clear c70
     try clear hcz16_0
     try clear hcz16_1
     try clear hcz18_0
     try clear hcz18_1
     try clear hcz20_0
     try clear hcz20_1
     try clear hcz22_0
     try clear hcz22_1
     try clear hcz24_0
     try clear hcz24_1
     try clear hcz27_0
     try clear hcz27_1
     try clear hcz30_0
     try clear hcz30_1
     try clear hcz34_0
     try clear hcz34_1
     try clear hcz39_0
     try clear hcz39_1
     try clear hcz45_0
     try clear hcz45_1
     try clear hcz54_0
     try clear hcz54_1
     try clear hcz55_0
     try clear hcz55_1
     try clear hcz66_0
     try clear hcz66_1
     try clear hcz71_0
     try clear hcz71_1
     try clear hfz16_0
     try clear hfz16_1
     try clear hfz18_0
     try clear hfz18_1
     try clear hfz20_0
     try clear hfz20_1
     try clear hfz22_0
     try clear hfz22_1
     try clear hfz24_0
     try clear hfz24_1
     try clear hfz27_0
     try clear hfz27_1
     try clear hfz30_0
     try clear hfz30_1
     try clear hfz34_0
     try clear hfz34_1
     try clear hfz39_0
     try clear hfz39_1
     try clear hfz45_0
     try clear hfz45_1
     try clear hfz54_0
     try clear hfz54_1
     try clear hfz55_0
     try clear hfz55_1
     try clear hfz66_0
     try clear hfz66_1
     try clear hfz71_0
     try clear hfz71_1
     try clear hx249_0
     try clear hx249_1
     try clear p2
     try clear p249
     try clear p6
     try clear q249
     obtain ⟨kq, x245000_36, u245000, HA, HJ36, HO_241000, HO_241001, HO_245000, BK229, BK230, BK240, BK244, HB⟩ := hcut
     cases kq with
     | zero => exact absurd HA.out (by simp [spec_PutIn.j1])
     | succ kj36 =>
      have H := HA.out
      clear HA
      simp only [spec_PutIn.j1] at H
      obtain ⟨ji72, hji72⟩ : ∃ j_ : Int, (Int.tmod a2 4) = j_ := ⟨_, rfl⟩
      replace H : (if 0 ≤ (ji72) then (if (ji72) < (x245000_36.length : Int) then ((some (x245000_36.set ((ji72) : Int).toNat a3 : List Int)).bind fun y253 => ((some (([(-1), (-1), (-1), (-1)] : List Int) : List Int)).bind fun y254 => (if 0 ≤ a1 then (if a1 < (l0_1.length : Int) then (if (rd l0_1 a1) ≥ 0 then ((some (([] : List Int) : List Int)).bind fun y259 => (if 0 ≤ (rd l0_1 a1) then (if (rd l0_1 a1) < (l0_0.length : Int) then (if y259.length + ((rd_T65 l0_0 (rd l0_1 a1)).f0).length < 17592186044416 then ((some (y259 ++ ((rd_T65 l0_0 (rd l0_1 a1)).f0) : List Int)).bind fun y263 => (if 0 ≤ (wrap64 (Int.tdiv a2 4)) then (if (wrap64 (Int.tdiv a2 4)) < (y263.length : Int) then (if t234.length + 1 < 4398046511104 then ((some (t234 ++ [(⟨y253, true⟩ : S65), (⟨(y263.set ((wrap64 (Int.tdiv a2 4)) : Int).toNat (t234.length : Int)), false⟩ : S65)] : List (S65))).bind fun y267 => (if t237.length < 17592186044416 then (some (y267, (t237 ++ [wrap64 ((y267.length : Int) - 1)]), true)) else (none))) else (none)) else (none)) else (none))) else (none)) else (none)) else (none))) else (if 0 ≤ (wrap64 (Int.tdiv a2 4)) then (if (wrap64 (Int.tdiv a2 4)) < (y254.length : Int) then (if t234.length + 1 < 4398046511104 then ((some (t234 ++ [(⟨y253, true⟩ : S65), (⟨(y254.set ((wrap64 (Int.tdiv a2 4)) : Int).toNat (t234.length : Int)), false⟩ : S65)] : List (S65))).bind fun y274 => (if t237.length < 17592186044416 then (some (y274, (t237 ++ [wrap64 ((y274.length : Int) - 1)]), true)) else (none))) else (none)) else (none)) else (none))) else (none)) else (none)))) else (none)) else (none)) = some (r1, r2, r3) := by first | (rw [hji72] at H; exact H) | (simp only [hji72] at H ⊢; exact H)
      by_cases c73 : 0 ≤ (ji72)
      ·rw [if_pos c73] at H
       have c73b0 : decide (0 ≤ (ji72)) = true := decide_eq_true c73
       clear c73
       by_cases c74 : (ji72) < (x245000_36.length : Int)
       ·rw [if_pos c74] at H
        have c74b0 : decide ((ji72) < (x245000_36.length : Int)) = true := decide_eq_true c74
        clear c74
        obtain ⟨y253, hy253⟩ : ∃ y_ : List Int, y_ = (x245000_36.set ((ji72) : Int).toNat a3) := ⟨_, rfl⟩
        replace H : ((some (([(-1), (-1), (-1), (-1)] : List Int) : List Int)).bind fun y254 => (if 0 ≤ a1 then (if a1 < (l0_1.length : Int) then (if (rd l0_1 a1) ≥ 0 then ((some (([] : List Int) : List Int)).bind fun y259 => (if 0 ≤ (rd l0_1 a1) then (if (rd l0_1 a1) < (l0_0.length : Int) then (if y259.length + ((rd_T65 l0_0 (rd l0_1 a1)).f0).length < 17592186044416 then ((some (y259 ++ ((rd_T65 l0_0 (rd l0_1 a1)).f0) : List Int)).bind fun y263 => (if 0 ≤ (wrap64 (Int.tdiv a2 4)) then (if (wrap64 (Int.tdiv a2 4)) < (y263.length : Int) then (if t234.length + 1 < 4398046511104 then ((some (t234 ++ [(⟨y253, true⟩ : S65), (⟨(y263.set ((wrap64 (Int.tdiv a2 4)) : Int).toNat (t234.length : Int)), false⟩ : S65)] : List (S65))).bind fun y267 => (if t237.length < 17592186044416 then (some (y267, (t237 ++ [wrap64 ((y267.length : Int) - 1)]), true)) else (none))) else (none)) else (none)) else (none))) else (none)) else (none)) else (none))) else (if 0 ≤ (wrap64 (Int.tdiv a2 4)) then (if (wrap64 (Int.tdiv a2 4)) < (y254.length : Int) then (if t234.length + 1 < 4398046511104 then ((some (t234 ++ [(⟨y253, true⟩ : S65), (⟨(y254.set ((wrap64 (Int.tdiv a2 4)) : Int).toNat (t234.length : Int)), false⟩ : S65)] : List (S65))).bind fun y274 => (if t237.length < 17592186044416 then (some (y274, (t237 ++ [wrap64 ((y274.length : Int) - 1)]), true)) else (none))) else (none)) else (none)) else (none))) else (none)) else (none))) = some (r1, r2, r3) := by first | (rw [hy253]; with_reducible exact H) | (have H2_ := (Option.bind_some _ _).symm.trans H; rw [hy253]; with_reducible exact H2_) | (have H2_ := (Option.bind_some _ _).symm.trans H; with_reducible exact H2_) | with_reducible exact H | (rw [hy253]; exact H) | exact H
        have Ny253 := Op.k hy253
        clear hy253
        obtain ⟨y254, hy254⟩ : ∃ y_ : List Int, y_ = (([(-1), (-1), (-1), (-1)] : List Int)) := ⟨_, rfl⟩
        replace H : (if 0 ≤ a1 then (if a1 < (l0_1.length : Int) then (if (rd l0_1 a1) ≥ 0 then ((some (([] : List Int) : List Int)).bind fun y259 => (if 0 ≤ (rd l0_1 a1) then (if (rd l0_1 a1) < (l0_0.length : Int) then (if y259.length + ((rd_T65 l0_0 (rd l0_1 a1)).f0).length < 17592186044416 then ((some (y259 ++ ((rd_T65 l0_0 (rd l0_1 a1)).f0) : List Int)).bind fun y263 => (if 0 ≤ (wrap64 (Int.tdiv a2 4)) then (if (wrap64 (Int.tdiv a2 4)) < (y263.length : Int) then (if t234.length + 1 < 4398046511104 then ((some (t234 ++ [(⟨y253, true⟩ : S65), (⟨(y263.set ((wrap64 (Int.tdiv a2 4)) : Int).toNat (t234.length : Int)), false⟩ : S65)] : List (S65))).bind fun y267 => (if t237.length < 17592186044416 then (some (y267, (t237 ++ [wrap64 ((y267.length : Int) - 1)]), true)) else (none))) else (none)) else (none)) else (none))) else (none)) else (none)) else (none))) else (if 0 ≤ (wrap64 (Int.tdiv a2 4)) then (if (wrap64 (Int.tdiv a2 4)) < (y254.length : Int) then (if t234.length + 1 < 4398046511104 then ((some (t234 ++ [(⟨y253, true⟩ : S65), (⟨(y254.set ((wrap64 (Int.tdiv a2 4)) : Int).toNat (t234.length : Int)), false⟩ : S65)] : List (S65))).bind fun y274 => (if t237.length < 17592186044416 then (some (y274, (t237 ++ [wrap64 ((y274.length : Int) - 1)]), true)) else (none))) else (none)) else (none)) else (none))) else (none)) else (none)) = some (r1, r2, r3) := by first | (rw [hy254]; with_reducible exact H) | (have H2_ := (Option.bind_some _ _).symm.trans H; rw [hy254]; with_reducible exact H2_) | (have H2_ := (Option.bind_some _ _).symm.trans H; with_reducible exact H2_) | with_reducible exact H | (rw [hy254]; exact H) | exact H
        have Ny254 := Op.k hy254
        clear hy254
        by_cases c76 : 0 ≤ a1
        ·rw [if_pos c76] at H
         have c76b0 : decide (0 ≤ a1) = true := decide_eq_true c76
         clear c76
         by_cases c77 : a1 < (l0_1.length : Int)
         ·rw [if_pos c77] at H
          have c77b0 : decide (a1 < (l0_1.length : Int)) = true := decide_eq_true c77
          clear c77
          by_cases c78 : (rd l0_1 a1) ≥ 0
          ·rw [if_pos c78] at H
           have c78b0 : decide (0 ≤ (rd l0_1 a1)) = true := decide_eq_true c78
           clear c78
           obtain ⟨y259, hy259⟩ : ∃ y_ : List Int, y_ = (([] : List Int)) := ⟨_, rfl⟩
           replace H : (if 0 ≤ (rd l0_1 a1) then (if (rd l0_1 a1) < (l0_0.length : Int) then (if y259.length + ((rd_T65 l0_0 (rd l0_1 a1)).f0).length < 17592186044416 then ((some (y259 ++ ((rd_T65 l0_0 (rd l0_1 a1)).f0) : List Int)).bind fun y263 => (if 0 ≤ (wrap64 (Int.tdiv a2 4)) then (if (wrap64 (Int.tdiv a2 4)) < (y263.length : Int) then (if t234.length + 1 < 4398046511104 then ((some (t234 ++ [(⟨y253, true⟩ : S65), (⟨(y263.set ((wrap64 (Int.tdiv a2 4)) : Int).toNat (t234.length : Int)), false⟩ : S65)] : List (S65))).bind fun y267 => (if t237.length < 17592186044416 then (some (y267, (t237 ++ [wrap64 ((y267.length : Int) - 1)]), true)) else (none))) else (none)) else (none)) else (none))) else (none)) else (none)) else (none)) = some (r1, r2, r3) := by first | (rw [hy259]; with_reducible exact H) | (have H2_ := (Option.bind_some _ _).symm.trans H; rw [hy259]; with_reducible exact H2_) | (have H2_ := (Option.bind_some _ _).symm.trans H; with_reducible exact H2_) | with_reducible exact H | (rw [hy259]; exact H) | exact H
           have Ny259 := Op.k hy259
           clear hy259
           by_cases c79 : 0 ≤ (rd l0_1 a1)
           ·rw [if_pos c79] at H
            have c79b0 : decide (0 ≤ (rd l0_1 a1)) = true := decide_eq_true c79
            clear c79
            by_cases c80 : (rd l0_1 a1) < (l0_0.length : Int)
            ·rw [if_pos c80] at H
             have c80b0 : decide ((rd l0_1 a1) < (l0_0.length : Int)) = true := decide_eq_true c80
             clear c80
             by_cases c81 : y259.length + ((rd_T65 l0_0 (rd l0_1 a1)).f0).length < 17592186044416
             ·rw [if_pos c81] at H
              have LMc81 := Op.k c81
              clear c81
              obtain ⟨y263, hy263⟩ : ∃ y_ : List Int, y_ = (y259 ++ ((rd_T65 l0_0 (rd l0_1 a1)).f0)) := ⟨_, rfl⟩
              replace H : (if 0 ≤ (wrap64 (Int.tdiv a2 4)) then (if (wrap64 (Int.tdiv a2 4)) < (y263.length : Int) then (if t234.length + 1 < 4398046511104 then ((some (t234 ++ [(⟨y253, true⟩ : S65), (⟨(y263.set ((wrap64 (Int.tdiv a2 4)) : Int).toNat (t234.length : Int)), false⟩ : S65)] : List (S65))).bind fun y267 => (if t237.length < 17592186044416 then (some (y267, (t237 ++ [wrap64 ((y267.length : Int) - 1)]), true)) else (none))) else (none)) else (none)) else (none)) = some (r1, r2, r3) := by first | (rw [hy263]; with_reducible exact H) | (have H2_ := (Option.bind_some _ _).symm.trans H; rw [hy263]; with_reducible exact H2_) | (have H2_ := (Option.bind_some _ _).symm.trans H; with_reducible exact H2_) | with_reducible exact H | (rw [hy263]; exact H) | exact H
              have Ny263 := Op.k hy263
              clear hy263
              obtain ⟨ji82, hji82⟩ : ∃ j_ : Int, (wrap64 (Int.tdiv a2 4)) = j_ := ⟨_, rfl⟩
              replace H : (if 0 ≤ (ji82) then (if (ji82) < (y263.length : Int) then (if t234.length + 1 < 4398046511104 then ((some (t234 ++ [(⟨y253, true⟩ : S65), (⟨(y263.set ((ji82) : Int).toNat (t234.length : Int)), false⟩ : S65)] : List (S65))).bind fun y267 => (if t237.length < 17592186044416 then (some (y267, (t237 ++ [wrap64 ((y267.length : Int) - 1)]), true)) else (none))) else (none)) else (none)) else (none)) = some (r1, r2, r3) := by first | (rw [hji82] at H; exact H) | (simp only [hji82] at H ⊢; exact H)
              have hji82w : (IntKind.i64.wrap (Int.tdiv a2 4)) = ji82 := (i64_w _).trans hji82
              by_cases c83 : 0 ≤ (ji82)
              ·rw [if_pos c83] at H
               have c83b0 : decide (0 ≤ (ji82)) = true := decide_eq_true c83
               clear c83
               by_cases c84 : (ji82) < (y263.length : Int)
               ·rw [if_pos c84] at H
                have c84b0 : decide ((ji82) < (y263.length : Int)) = true := decide_eq_true c84
                clear c84
                obtain ⟨y266, hy266⟩ : ∃ y_ : List Int, y_ = (y263.set ((ji82) : Int).toNat (t234.length : Int)) := ⟨_, rfl⟩
                replace H : (if t234.length + 1 < 4398046511104 then ((some (t234 ++ [(⟨y253, true⟩ : S65), (⟨y266, false⟩ : S65)] : List (S65))).bind fun y267 => (if t237.length < 17592186044416 then (some (y267, (t237 ++ [wrap64 ((y267.length : Int) - 1)]), true)) else (none))) else (none)) = some (r1, r2, r3) := by first | (rw [hy266]; with_reducible exact H) | (have H2_ := (Option.bind_some _ _).symm.trans H; rw [hy266]; with_reducible exact H2_) | (have H2_ := (Option.bind_some _ _).symm.trans H; with_reducible exact H2_) | with_reducible exact H | (rw [hy266]; exact H) | exact H
                have Ny266 := Op.k hy266
                clear hy266
                by_cases c86 : t234.length + 1 < 4398046511104
                ·rw [if_pos c86] at H
                 have LMc86 := Op.k c86
                 clear c86
                 obtain ⟨y267, hy267⟩ : ∃ y_ : List (S65), y_ = (t234 ++ [(⟨y253, true⟩ : S65), (⟨y266, false⟩ : S65)]) := ⟨_, rfl⟩
                 replace H : (if t237.length < 17592186044416 then (some (y267, (t237 ++ [wrap64 ((y267.length : Int) - 1)]), true)) else (none)) = some (r1, r2, r3) := by first | (rw [hy267]; with_reducible exact H) | (have H2_ := (Option.bind_some _ _).symm.trans H; rw [hy267]; with_reducible exact H2_) | (have H2_ := (Option.bind_some _ _).symm.trans H; with_reducible exact H2_) | with_reducible exact H | (rw [hy267]; exact H) | exact H
                 have Ny267 := Op.k hy267
                 clear hy267
                 by_cases c87 : t237.length < 17592186044416
                 ·rw [if_pos c87] at H
                  have LMc87 := Op.k c87
                  clear c87
                  obtain ⟨y270, hy270⟩ : ∃ y_ : List Int, y_ = (t237 ++ [wrap64 ((y267.length : Int) - 1)]) := ⟨_, rfl⟩
                  replace H : (some (y267, y270, true)) = some (r1, r2, r3) := by first | (rw [hy270]; with_reducible exact H) | (have H2_ := (Option.bind_some _ _).symm.trans H; rw [hy270]; with_reducible exact H2_) | (have H2_ := (Option.bind_some _ _).symm.trans H; with_reducible exact H2_) | with_reducible exact H | (rw [hy270]; exact H) | exact H
                  have Ny270 := Op.k hy270
                  clear hy270
                  simp only [Option.some.injEq, Prod.mk.injEq] at H
                  obtain ⟨rfl, rfl, rfl⟩ := H
                  have hnb88 := NB244_229.out
                  have hnc88 := NB229_244.out
                  have hnb89 := NB244_230.out
                  have hnc89 := NB230_244.out
                  have hnb90 := NB244_240.out
                  have hnc90 := NB240_244.out
                  have hcz91_0 := Op.c0 BK244.out
                  have hcz91_1 := Op.c1 BK244.out
                  have hfz91_0 := Op.bf BK244.out 0
                  have hfz91_1 := Op.bf BK244.out 1
                  have p75 : 0 ≤ ((ji72) : Int) := Op.dt
                  have q75 : ((ji72) : Int) < ((x245000_36.length : Int) : Int) := Op.dt
                  obtain ⟨go75, co75, eo75, gb75, gl75, cl75, HG75⟩ := Kd.R_form HO_245000.out (by omega)
                  (first | cases eo75 | (injection eo75 with ea_ en_ ec_; (first | subst ea_ | (injection ea_ with ea_; subst ea_)); subst ec_; clear en_))
                  have GB75 := Op.k gb75
                  have GG75 := Op.k HG75
                  clear gb75 gl75 HG75
                  obtain ⟨hx75_0, hf75_0⟩ := Kd.R_celln 0 HO_245000.out ((ji72) : Int) p75 q75
                  replace p75 := eq_true p75
                  replace q75 := eq_true q75
                  have HP92 := Kd.R_putg HO_245000.out ((ji72) : Int) a3
                  go_wp2_with (first | ((with_reducible refine gate_store (t := 3) (p := 67) rfl ?_); refine store_event (t := 3) (p := 67) (v := ?vo_w93) (w1 := (wc.setCell ⟨go75, ((ji72) : Int).toNat, none⟩ (.int .i64 a3))) ?hg ?ho ?hn ?hr ?_; (case ho => rfl); (case hg => rfl); (case hn => rfl); (case hr => first | (go_simp; done) | (go_simp; rfl)); intro w93 hw; have hg : wc.grownBy w93 (some go75) := (by rw [hw]; exact HP92.2); have hp_ : Kd.R (Kd.int .i64) 3 w93 w.heap.size (fun k_ => some k_ ≠ (.slice Ao46 t237.length co46 : Value).ownBlock) (.slice (some ⟨go75, 0, none⟩) x245000_36.length co75) y253 := (by rw [hw, Ny253.out]; exact HP92.1); clear HP92; replace HO_241000 := Op.k (Kd.S_after (v := (.slice (some ⟨go75, 0, none⟩) x245000_36.length co75)) (v1 := (.slice (some ⟨go75, 0, none⟩) x245000_36.length co75)) (ok := (fun k_ => some k_ ≠ (.slice Ao46 t237.length co46 : Value).ownBlock ∧ k_ ≠ gb244)) (Kd.S_mono (Op.st HO_241000.out) (fun _ hk => ⟨⟨hk.1, hk.2.2⟩, hk.2.1⟩)) hg (.inl rfl)); replace HO_241001 := Op.k (Kd.R_after (v := (.slice (some ⟨go75, 0, none⟩) x245000_36.length co75)) (v1 := (.slice (some ⟨go75, 0, none⟩) x245000_36.length co75)) (ok := (fun _ => True)) (Kd.R_mono (Op.rt HO_241001.out) (fun _ hk => ⟨trivial, hk⟩)) hg (.inl rfl)); replace BK229 := Op.k (blk_grown (Op.bt BK229.out) hg (Kd.R_ne HO_245000.out BK229.out (by decide))); replace BK230 := Op.k (blk_grown (Op.bt BK230.out) hg (Kd.R_ne HO_245000.out BK230.out (by decide))); replace BK240 := Op.k (blk_grown (Op.bt BK240.out) hg (Kd.R_ne HO_245000.out BK240.out (by decide))); replace BK244 := Op.k (blk_grown (Op.bt BK244.out) hg (Kd.R_ne HO_245000.out BK244.out (by decide))); replace HO_245000 := Op.k (hp_); replace HB := Op.k ((by rw [hw]; exact below_set (HB.out) GB75.out : Below w.heap.size w w93)); clear hg hw hp_) | ((with_reducible refine gate_dst (N := 68) rfl ?_); (try (refine gate_guard (by rfl) ?_; dsimp only)); refine Kd.R_lit (Kd.int .i64) _ 3 ?hg (N := 68) ?hd (xs := ([(-1), (-1), (-1), (-1)] : List Int)) (inner := [.int .i64 (-1), .int .i64 (-1), .int .i64 (-1), .int .i64 (-1)]) (ok := fun _ => True) (okp := fun _ => True) ?hr ?hp (fun _ hk => hk) trivial (Below.refl _ _) (Nat.le_refl _) (by simp) ?_; (case hd => rfl); (case hg => rfl); (case hr => first | (go_simp; done) | (go_simp; rfl)); (case hp => exact (Reps.one (show Kd.M (Kd.int .i64) _ _ _ (-1) [.int .i64 (-1)] from rfl) (Reps.one (show Kd.M (Kd.int .i64) _ _ _ (-1) [.int .i64 (-1)] from rfl) (Reps.one (show Kd.M (Kd.int .i64) _ _ _ (-1) [.int .i64 (-1)] from rfl) (Reps.one (show Kd.M (Kd.int .i64) _ _ _ (-1) [.int .i64 (-1)] from rfl) (Reps.none _ _)))))); intro v255 w94 ho95 hb hg_ hnew_; clear hg_ hnew_; (first | rw [← Ny254.out] at ho95 | (simp only [Int.reduceToNat] at ho95; rw [← Ny254.out] at ho95)); replace HO_241000 := Op.k (Kd.S_elder' (Op.st HO_241000.out) (Kd.R_base ho95) hb); have HO256 := Op.k (Kd.R_lower (Kd.R_new' (Kd.R_new' ho95 (Kd.R_lt (Op.rt HO_241001.out))) (Kd.R_lt (Op.rt HO_245000.out))) (Op.a6 (Op.ht HB.out))); replace HO_241001 := Op.k (Kd.R_elder' (Op.rt HO_241001.out) (Kd.R_base ho95) hb); replace HO_245000 := Op.k (Kd.R_elder' (Op.rt HO_245000.out) (Kd.R_base ho95) hb); replace BK229 := Op.k (Op.b4 (Op.bt BK229.out) hb); replace BK230 := Op.k (Op.b4 (Op.bt BK230.out) hb); replace BK240 := Op.k (Op.b4 (Op.bt BK240.out) hb); replace BK244 := Op.k (Op.b4 (Op.bt BK244.out) hb); replace HB := Op.k (Op.a5 (Op.ht HB.out) hb); clear hb ho95; obtain ⟨Ao96, co96, eo96⟩ := Kd.R_slice HO256.out; subst eo96) | ((with_reducible refine gate_dst (N := 13) rfl ?_); (try (refine gate_guard (by rfl) ?_; dsimp only)); refine box_event ?hg (N := 13) ?hd (cs := #[.slice none 0 0, .bool false]) (t := 65) ?hr ?_; (case hd => rfl); (case hg => rfl); (case hr => first | (go_simp; done) | (go_simp; rfl)); intro gb257 hg w97 hbox hb; replace HO_241000 := Op.k (Kd.S_below (Kd.S_elderB (Op.st HO_241000.out) gb257 (Nat.le_of_eq hg.symm)) hb); replace HO_241001 := Op.k (Kd.R_below (Op.rt HO_241001.out) hb); replace HO_245000 := Op.k (Kd.R_below (Op.rt HO_245000.out) hb); replace HO256 := Op.k (Kd.R_below (Op.rt HO256.out) hb); have BK257 := Op.k (hbox); have GW257 := Op.k ((Op.nz hg (Op.ht HB.out) : w.heap.size ≤ gb257)); have GE257 := Op.k ((Op.nz hg (Op.ht HB.out) : w.heap.size ≤ gb257)); replace HB := Op.k (Op.a5 (Op.ht HB.out) hb); have NB229_257 := Op.k ((Op.nl hg (Op.bt BK229.out) : gb229 ≠ gb257)); have NB257_229 := Op.k ((Op.ng hg (Op.bt BK229.out) : gb257 ≠ gb229)); replace BK229 := Op.k (Op.b4 (Op.bt BK229.out) hb); have NB230_257 := Op.k ((Op.nl hg (Op.bt BK230.out) : gb230 ≠ gb257)); have NB257_230 := Op.k ((Op.ng hg (Op.bt BK230.out) : gb257 ≠ gb230)); replace BK230 := Op.k (Op.b4 (Op.bt BK230.out) hb); have NB240_257 := Op.k ((Op.nl hg (Op.bt BK240.out) : gb240 ≠ gb257)); have NB257_240 := Op.k ((Op.ng hg (Op.bt BK240.out) : gb257 ≠ gb240)); replace BK240 := Op.k (Op.b4 (Op.bt BK240.out) hb); have NB244_257 := Op.k ((by rw [hg]; exact Nat.ne_of_lt (blk_lt (Op.bt BK244.out)) : gb244 ≠ gb257)); have NB257_244 := Op.k ((by rw [hg]; exact Nat.ne_of_gt (blk_lt (Op.bt BK244.out)) : gb257 ≠ gb244)); replace BK244 := Op.k (Op.b4 (Op.bt BK244.out) hb); clear hb hbox hg; have hnb98 := NB257_229.out; have hnc98 := NB229_257.out; have hnb99 := NB257_230.out; have hnc99 := NB230_257.out; have hnb100 := NB257_240.out; have hnc100 := NB240_257.out; have hnb101 := NB257_244.out; have hnc101 := NB244_257.out; have hcz102_0 := Op.c0 BK257.out; have hcz102_1 := Op.c1 BK257.out; have hfz102_0 := Op.bf BK257.out 0; have hfz102_1 := Op.bf BK257.out 1; have hnb103 := NB229_230.out; have hnc103 := NB230_229.out; have hnb104 := NB229_240.out; have hnc104 := NB240_229.out; have hcz105_0 := Op.c0 BK229.out; have hcz105_1 := Op.c1 BK229.out; have hfz105_0 := Op.bf BK229.out 0; have hfz105_1 := Op.bf BK229.out 1; have p258 : 0 ≤ (a1 : Int) := Op.dt; have q258 : a1 < (l0_1.length : Int) := Op.dt; obtain ⟨ad258, e258, hx258_0⟩ := Kd.at_int HR0_1.out a1 p258 q258; cases e258; have hn258_0 : ad258.block ≠ gb257 := Nat.ne_of_lt (Nat.lt_of_lt_of_le (by have := World.block_lt_of_cell? _ _ hx258_0; first | rwa [add_block] at this | exact this) GW257.out); have hn258_1 : ad258.block ≠ gb257 := Nat.ne_of_lt (Nat.lt_of_lt_of_le (by have := World.block_lt_of_cell? _ _ hx258_0; first | rwa [add_block] at this | exact this) GW257.out); replace hx258_0 := (HB.out.cell (World.block_lt_of_cell? w _ hx258_0)).trans hx258_0; replace hx258_0 := (cell_far (p := ⟨gb257, 0, none⟩) (by first | (rw [add_block]; exact hn258_0) | (show (Addr.add _ _).block ≠ _; rw [add_block]; exact hn258_0) | exact hn258_0) (.slice Ao96 y254.length co96)).trans hx258_0; replace hx258_0 := (cell_far (p := ⟨gb257, 1, none⟩) (by first | (rw [add_block]; exact hn258_1) | (show (Addr.add _ _).block ≠ _; rw [add_block]; exact hn258_1) | exact hn258_1) (.bool false)).trans hx258_0; clear hn258_0; clear hn258_1; replace p258 := eq_true p258; replace q258 := eq_true q258) | ((with_reducible refine gate_dst (N := 77) rfl ?_); (try (refine gate_guard (by rfl) ?_; dsimp only)); refine Kd.R_lit (Kd.int .i64) _ 3 ?hg (N := 77) ?hd (xs := ([] : List Int)) (inner := []) (ok := fun _ => True) (okp := fun _ => True) ?hr ?hp (fun _ hk => hk) trivial (Below.refl _ _) (Nat.le_refl _) (by simp) ?_; (case hd => rfl); (case hg => rfl); (case hr => first | (go_simp; done) | (go_simp; rfl)); (case hp => exact (Reps.none _ _)); intro v260 w106 ho107 hb hg_ hnew_; clear hg_ hnew_; (first | rw [← Ny259.out] at ho107 | (simp only [Int.reduceToNat] at ho107; rw [← Ny259.out] at ho107)); replace HO_241000 := Op.k (Kd.S_elder' (by (with_reducible repeat (first | apply Kd.S_alloc | apply Kd.S_drewN | apply Kd.S_drew)); exact (Kd.S_mono (Kd.S_far (p := ⟨gb257, 1, none⟩) (Kd.S_far (p := ⟨gb257, 0, none⟩) (Kd.S_mono HO_241000.out (fun k_ hk => (⟨hk, hk.2⟩ : _ ∧ k_ ≠ gb257))) (fun _ hk => hk.2) (.slice Ao96 y254.length co96)) (fun _ hk => hk.2) (.bool false)) (fun _ h_ => h_.1))) (Kd.R_base ho107) hb); have HO261 := Op.k (Kd.R_lower (Kd.R_new' (Kd.R_new' (Kd.R_new' ho107 (Kd.R_lt (Op.rf HO_241001.out BK257.out))) (Kd.R_lt (Op.rf HO_245000.out BK257.out))) (Kd.R_lt (Op.rf HO256.out BK257.out))) (Op.a6 (Op.ht HB.out))); replace HO_241001 := Op.k (Kd.R_elder' (Op.rf HO_241001.out BK257.out) (Kd.R_base ho107) hb); replace HO_245000 := Op.k (Kd.R_elder' (Op.rf HO_245000.out BK257.out) (Kd.R_base ho107) hb); replace HO256 := Op.k (Kd.R_elder' (Op.rf HO256.out BK257.out) (Kd.R_base ho107) hb); replace BK229 := Op.k (Op.b4 (Op.bt BK229.out) hb); replace BK230 := Op.k (Op.b4 (Op.bt BK230.out) hb); replace BK240 := Op.k (Op.b4 (Op.bt BK240.out) hb); replace BK244 := Op.k (Op.b4 (Op.bt BK244.out) hb); replace BK257 := Op.k (Op.b4 (g := gb257) (o := .cells #[.slice Ao96 y254.length co96, .bool false] 65 (0, 0)) (Op.bv BK257.out) hb); replace HB := Op.k (Op.a5 (Op.ht HB.out) hb); clear hb ho107; have hcz108_0 := Op.c0 BK229.out; have hcz108_1 := Op.c1 BK229.out; have hfz108_0 := Op.bf BK229.out 0; have hfz108_1 := Op.bf BK229.out 1; have p262 : 0 ≤ ((rd l0_1 a1) : Int) := Op.dt; have q262 : (rd l0_1 a1) < (l0_0.length : Int) := Op.dt; obtain ⟨ad262, A262_0, c262_0, e262, hx262_0, hx262_1, hl262_0, hi262_0⟩ := at_T65 HR0_0.out (rd l0_1 a1) p262 q262; cases e262; replace hx262_0 := (HB.out.cell (World.block_lt_of_cell? w _ hx262_0)).trans hx262_0; replace hx262_1 := (HB.out.cell (World.block_lt_of_cell? w _ hx262_1)).trans hx262_1; have HR262_0 := Op.k hi262_0; have HC262_0 := Op.k hl262_0; clear hi262_0 hl262_0; replace p262 := eq_true p262; replace q262 := eq_true q262) | ((with_reducible refine gate_builtin (b := .append) (xs := #[.tmp 77, .tmp 83]) rfl ?_); (try (refine gate_guard (by rfl) ?_; dsimp only)); at_builtin; refine Kd.R_append_rows (Kd.int .i64) (w0 := w) w.heap.size rfl (.tmp 77) (.tmp 83) 23 3 (.int .i64 0) 8 rfl Try.underlying23 info3 rfl (by decide) (by omega) v260 y259 ((rd_T65 l0_0 (rd l0_1 a1)).f0) _ _ _ (fun k_ => some k_ ≠ (.slice Ao46 t237.length co46 : Value).ownBlock ∧ some k_ ≠ (.slice (some ⟨go75, 0, none⟩) x245000_36.length co75 : Value).ownBlock ∧ some k_ ≠ (.slice Ao96 y254.length co96 : Value).ownBlock) (fun _ => False) rfl rfl ?aO ?aR (fun _ _ h => h) (fun _ h => h.elim) ?aF ?aB ?aS ?aL ?_; (case aR => exact Op.ct (Kd.C_below HR262_0.out HB.out)); (case aB => exact (Op.ht HB.out)); (case aF => exact (fun k_ hk => ⟨Kd.fresh' (Kd.R_lt (Op.rt HO_241001.out)) k_ hk, Kd.fresh' (Kd.R_lt (Op.rt HO_245000.out)) k_ hk, Kd.fresh' (Kd.R_lt (Op.rt HO256.out)) k_ hk⟩)); (case aO => exact (Kd.R_mono (Op.rt HO261.out) (fun _ hk => ⟨hk.1.1.2, ⟨hk.1.2, hk.2⟩⟩))); (case aS => exact (Op.a6 (Op.ht HB.out))); (case aL => have := LMc81.out; omega); intro v264 w109 ho hb hg hat; rw [← Ny263.out] at ho; have n0_ := Op.k (Kd.S_after (ok := (fun k_ => some k_ ≠ (.slice Ao46 t237.length co46 : Value).ownBlock ∧ some k_ ≠ (.slice (some ⟨go75, 0, none⟩) x245000_36.length co75 : Value).ownBlock ∧ some k_ ≠ (.slice Ao96 y254.length co96 : Value).ownBlock ∧ k_ ≠ gb244 ∧ k_ ≠ gb257)) (Kd.S_mono (Op.st HO_241000.out) (fun _ hk => ⟨⟨hk.1.1.1.1.1, ⟨hk.1.1.1.2, ⟨hk.1.1.2, ⟨hk.1.1.1.1.2, hk.1.2⟩⟩⟩⟩, hk.2⟩)) hg hat); have n1_ := Op.k (Kd.R_after (ok := (fun k_ => some k_ ≠ (.slice (some ⟨go75, 0, none⟩) x245000_36.length co75 : Value).ownBlock ∧ some k_ ≠ (.slice Ao96 y254.length co96 : Value).ownBlock)) (Kd.R_mono (Op.rt HO_241001.out) (fun _ hk => ⟨⟨hk.1.1.2, hk.1.2⟩, hk.2⟩)) hg hat); have n2_ := Op.k (Kd.R_after (ok := (fun k_ => some k_ ≠ (.slice Ao46 t237.length co46 : Value).ownBlock ∧ some k_ ≠ (.slice Ao96 y254.length co96 : Value).ownBlock)) (Op.rt HO_245000.out) hg hat); have n3_ := Op.k (blk_grown (Op.bt BK229.out) hg (Kd.R_ne HO261.out BK229.out (by decide))); have n4_ := Op.k (blk_grown (Op.bt BK230.out) hg (Kd.R_ne HO261.out BK230.out (by decide))); have n5_ := Op.k (blk_grown (Op.bt BK240.out) hg (Kd.R_ne HO261.out BK240.out (by decide))); have n6_ := Op.k (blk_grown (Op.bt BK244.out) hg (Kd.R_ne HO261.out BK244.out (by decide))); have n7_ := Op.k (Kd.R_after (ok := (fun k_ => some k_ ≠ (.slice Ao46 t237.length co46 : Value).ownBlock ∧ some k_ ≠ (.slice (some ⟨go75, 0, none⟩) x245000_36.length co75 : Value).ownBlock)) (Kd.R_mono (Op.rt HO256.out) (fun _ hk => ⟨⟨hk.1.1.2, hk.1.2⟩, hk.2⟩)) hg hat); have n8_ := Op.k (blk_grown (Op.bt BK257.out) hg (Kd.R_ne HO261.out BK257.out (by decide))); have n9_ := Op.k (hb); have n10_ := Op.k (ho); clear HO_241000; clear HO_241001; clear HO_245000; clear BK229; clear BK230; clear BK240; clear BK244; clear HO256; clear BK257; clear HB; clear HO261; have HO_241000 := n0_; have HO_241001 := n1_; have HO_245000 := n2_; have BK229 := n3_; have BK230 := n4_; have BK240 := n5_; have BK244 := n6_; have HO256 := n7_; have BK257 := n8_; have HB := n9_; have HO265 := n10_; clear n0_ n1_ n2_ n3_ n4_ n5_ n6_ n7_ n8_ n9_ n10_; clear ho hb hg hat; obtain ⟨Ao110, co110, eo110⟩ := Kd.R_slice HO265.out; subst eo110; have hcz111_0 := Op.c0 BK257.out; have hcz111_1 := Op.c1 BK257.out; have hfz111_0 := Op.bf BK257.out 0; have hfz111_1 := Op.bf BK257.out 1) | ((with_reducible refine gate_store (t := 23) (p := 85) rfl ?_); refine store_event (t := 23) (p := 85) (v := ?vo_w112) (w1 := (w109.setCell ⟨gb257, 0, none⟩ (.slice Ao110 y263.length co110))) ?hg ?ho ?hn ?hr ?_; (case ho => rfl); (case hg => rfl); (case hn => rfl); (case hr => first | (go_simp; done) | (go_simp; rfl)); intro w112 hw; have n0_ : Aside0 (Kd.S k65 65 w112 w.heap.size (fun k_ => some k_ ≠ (.slice Ao46 t237.length co46 : Value).ownBlock ∧ some k_ ≠ (.slice (some ⟨go75, 0, none⟩) x245000_36.length co75 : Value).ownBlock ∧ some k_ ≠ (.slice Ao96 y254.length co96 : Value).ownBlock ∧ some k_ ≠ (.slice Ao110 y263.length co110 : Value).ownBlock ∧ k_ ≠ gb244 ∧ k_ ≠ gb257) (.slice Ao42 t234.length co42) t234) := ⟨(by rw [hw]; exact (by (with_reducible repeat (first | apply Kd.S_alloc | apply Kd.S_drewN | apply Kd.S_drew)); exact Kd.S_mono (Kd.S_far (p := ⟨gb257, 0, none⟩) (Kd.S_mono HO_241000.out (fun k_ hk => (⟨hk, hk.1.2.2.2.2⟩ : _ ∧ k_ ≠ gb257))) (fun _ hk => hk.2) (.slice Ao110 y263.length co110)) (fun _ hk => ⟨hk.1.1.1, ⟨hk.1.1.2.1, ⟨hk.1.1.2.2.1, ⟨hk.1.2, ⟨hk.1.1.2.2.2.1, hk.1.1.2.2.2.2⟩⟩⟩⟩⟩)))⟩; have n1_ : Aside0 (Kd.R (Kd.int .i64) 3 w112 w.heap.size (fun k_ => some k_ ≠ (.slice (some ⟨go75, 0, none⟩) x245000_36.length co75 : Value).ownBlock ∧ some k_ ≠ (.slice Ao96 y254.length co96 : Value).ownBlock ∧ some k_ ≠ (.slice Ao110 y263.length co110 : Value).ownBlock) (.slice Ao46 t237.length co46) t237) := ⟨(by rw [hw]; exact (Kd.R_mono (Op.rf HO_241001.out BK257.out) (fun _ hk => ⟨hk.1.1, ⟨hk.1.2, hk.2⟩⟩)))⟩; have n2_ : Aside0 (Kd.R (Kd.int .i64) 3 w112 w.heap.size (fun k_ => some k_ ≠ (.slice Ao46 t237.length co46 : Value).ownBlock ∧ some k_ ≠ (.slice Ao96 y254.length co96 : Value).ownBlock ∧ some k_ ≠ (.slice Ao110 y263.length co110 : Value).ownBlock) (.slice (some ⟨go75, 0, none⟩) x245000_36.length co75) y253) := ⟨(by rw [hw]; exact (Kd.R_mono (Op.rf HO_245000.out BK257.out) (fun _ hk => ⟨hk.1.1, ⟨hk.1.2, hk.2⟩⟩)))⟩; have n3_ : Aside0 (Kd.R (Kd.int .i64) 3 w112 w.heap.size (fun k_ => some k_ ≠ (.slice Ao46 t237.length co46 : Value).ownBlock ∧ some k_ ≠ (.slice (some ⟨go75, 0, none⟩) x245000_36.length co75 : Value).ownBlock ∧ some k_ ≠ (.slice Ao110 y263.length co110 : Value).ownBlock) (.slice Ao96 y254.length co96) y254) := ⟨(by rw [hw]; exact (Kd.R_mono (Op.rf HO256.out BK257.out) (fun _ hk => ⟨hk.1.1, ⟨hk.1.2, hk.2⟩⟩)))⟩; have n4_ : Aside0 (Kd.R (Kd.int .i64) 3 w112 w.heap.size (fun k_ => some k_ ≠ (.slice Ao46 t237.length co46 : Value).ownBlock ∧ some k_ ≠ (.slice (some ⟨go75, 0, none⟩) x245000_36.length co75 : Value).ownBlock ∧ some k_ ≠ (.slice Ao96 y254.length co96 : Value).ownBlock) (.slice Ao110 y263.length co110) y263) := ⟨(by rw [hw]; exact (Kd.R_mono (Op.rf HO265.out BK257.out) (fun _ hk => ⟨hk.1, ⟨hk.2.1, hk.2.2⟩⟩)))⟩; have n5_ : Aside0 (w112.heap[gb229]? = some (.cells #[.slice (some ad262) l0_0.length c0_0, .slice (some ad258) l0_1.length c0_1] 25 (0, 0))) := ⟨(by rw [hw]; exact (Op.bt BK229.out))⟩; have n6_ : Aside0 (w112.heap[gb230]? = some (.cells #[.slice none 0 0, .slice none 0 0] 25 (0, 0))) := ⟨(by rw [hw]; exact (Op.bt BK230.out))⟩; have n7_ : Aside0 (w112.heap[gb240]? = some (.cells #[.slice Ao42 t234.length co42, .slice Ao46 t237.length co46] 25 (0, 0))) := ⟨(by rw [hw]; exact (Op.bt BK240.out))⟩; have n8_ : Aside0 (w112.heap[gb244]? = some (.cells #[.slice (some ⟨go75, 0, none⟩) x245000_36.length co75, .bool true] 65 (0, 0))) := ⟨(by rw [hw]; exact (Op.bt BK244.out))⟩; have n9_ : Aside0 (w112.heap[gb257]? = some (.cells #[.slice Ao110 y263.length co110, .bool false] 65 (0, 0))) := ⟨(by rw [hw]; exact (Op.bv BK257.out))⟩; have n10_ : Aside0 (Below w.heap.size w w112) := ⟨(by rw [hw]; exact (Op.ht HB.out))⟩; clear hw; clear HO_241000; clear HO_241001; clear HO_245000; clear HO256; clear HO265; clear BK229; clear BK230; clear BK240; clear BK244; clear BK257; clear HB; have HO_241000 := n0_; have HO_241001 := n1_; have HO_245000 := n2_; have HO256 := n3_; have HO265 := n4_; have BK229 := n5_; have BK230 := n6_; have BK240 := n7_; have BK244 := n8_; have BK257 := n9_; have HB := n10_; clear n0_ n1_ n2_ n3_ n4_ n5_ n6_ n7_ n8_ n9_ n10_; have hcz113_0 := Op.c0 BK257.out; have hcz113_1 := Op.c1 BK257.out; have hfz113_0 := Op.bf BK257.out 0; have hfz113_1 := Op.bf BK257.out 1; have hnb114 := NB240_230.out; have hnc114 := NB230_240.out; have hcz115_0 := Op.c0 BK240.out; have hcz115_1 := Op.c1 BK240.out; have hfz115_0 := Op.bf BK240.out 0; have hfz115_1 := Op.bf BK240.out 1; have p85 : 0 ≤ ((ji82) : Int) := Op.dt; have q85 : ((ji82) : Int) < ((y263.length : Int) : Int) := Op.dt; obtain ⟨go85, co85, eo85, gb85, gl85, cl85, HG85⟩ := Kd.R_form HO265.out (by omega); (first | cases eo85 | (injection eo85 with ea_ en_ ec_; (first | subst ea_ | (injection ea_ with ea_; subst ea_)); subst ec_; clear en_)); have GB85 := Op.k gb85; have GG85 := Op.k HG85; clear gb85 gl85 HG85; obtain ⟨hx85_0, hf85_0⟩ := Kd.R_celln 0 HO265.out ((ji82) : Int) p85 q85; replace p85 := eq_true p85; replace q85 := eq_true q85; obtain ⟨hy116_, hz116_⟩ := Kd.R_celln 0 HO265.out ((ji82) : Int) (Op.dt) (Op.dt); have HP116 := Kd.R_putg HO265.out ((ji82) : Int) (t234.length : Int)) | ((with_reducible refine gate_store (t := 3) (p := 93) rfl ?_); refine store_event (t := 3) (p := 93) (v := ?vo_w117) (w1 := (w112.setCell ⟨go85, ((ji82) : Int).toNat, none⟩ (.int .i64 (t234.length : Int)))) ?hg ?ho ?hn ?hr ?_; (case ho => rfl); (case hg => rfl); (case hn => rfl); (case hr => first | (go_simp; done) | (go_simp; rfl)); intro w117 hw; have hg : w112.grownBy w117 (some go85) := (by rw [hw]; exact HP116.2); have hp_ : Kd.R (Kd.int .i64) 3 w117 w.heap.size (fun k_ => some k_ ≠ (.slice Ao46 t237.length co46 : Value).ownBlock ∧ some k_ ≠ (.slice (some ⟨go75, 0, none⟩) x245000_36.length co75 : Value).ownBlock ∧ some k_ ≠ (.slice Ao96 y254.length co96 : Value).ownBlock) (.slice (some ⟨go85, 0, none⟩) y263.length co110) y266 := (by rw [hw, Ny266.out]; exact HP116.1); clear HP116; replace HO_241000 := Op.k (Kd.S_after (v := (.slice (some ⟨go85, 0, none⟩) y263.length co110)) (v1 := (.slice (some ⟨go85, 0, none⟩) y263.length co110)) (ok := (fun k_ => some k_ ≠ (.slice Ao46 t237.length co46 : Value).ownBlock ∧ some k_ ≠ (.slice (some ⟨go75, 0, none⟩) x245000_36.length co75 : Value).ownBlock ∧ some k_ ≠ (.slice Ao96 y254.length co96 : Value).ownBlock ∧ k_ ≠ gb244 ∧ k_ ≠ gb257)) (Kd.S_mono (Op.st HO_241000.out) (fun _ hk => ⟨⟨hk.1, ⟨hk.2.1, ⟨hk.2.2.1, ⟨hk.2.2.2.2.1, hk.2.2.2.2.2⟩⟩⟩⟩, hk.2.2.2.1⟩)) hg (.inl rfl)); replace HO_241001 := Op.k (Kd.R_after (v := (.slice (some ⟨go85, 0, none⟩) y263.length co110)) (v1 := (.slice (some ⟨go85, 0, none⟩) y263.length co110)) (ok := (fun k_ => some k_ ≠ (.slice (some ⟨go75, 0, none⟩) x245000_36.length co75 : Value).ownBlock ∧ some k_ ≠ (.slice Ao96 y254.length co96 : Value).ownBlock)) (Kd.R_mono (Op.rt HO_241001.out) (fun _ hk => ⟨⟨hk.1, hk.2.1⟩, hk.2.2⟩)) hg (.inl rfl)); replace HO_245000 := Op.k (Kd.R_after (v := (.slice (some ⟨go85, 0, none⟩) y263.length co110)) (v1 := (.slice (some ⟨go85, 0, none⟩) y263.length co110)) (ok := (fun k_ => some k_ ≠ (.slice Ao46 t237.length co46 : Value).ownBlock ∧ some k_ ≠ (.slice Ao96 y254.length co96 : Value).ownBlock)) (Kd.R_mono (Op.rt HO_245000.out) (fun _ hk => ⟨⟨hk.1, hk.2.1⟩, hk.2.2⟩)) hg (.inl rfl)); replace BK229 := Op.k (blk_grown (Op.bt BK229.out) hg (Kd.R_ne HO265.out BK229.out (by decide))); replace BK230 := Op.k (blk_grown (Op.bt BK230.out) hg (Kd.R_ne HO265.out BK230.out (by decide))); replace BK240 := Op.k (blk_grown (Op.bt BK240.out) hg (Kd.R_ne HO265.out BK240.out (by decide))); replace BK244 := Op.k (blk_grown (Op.bt BK244.out) hg (Kd.R_ne HO265.out BK244.out (by decide))); replace HO256 := Op.k (Kd.R_after (v := (.slice (some ⟨go85, 0, none⟩) y263.length co110)) (v1 := (.slice (some ⟨go85, 0, none⟩) y263.length co110)) (ok := (fun k_ => some k_ ≠ (.slice Ao46 t237.length co46 : Value).ownBlock ∧ some k_ ≠ (.slice (some ⟨go75, 0, none⟩) x245000_36.length co75 : Value).ownBlock)) (Kd.R_mono (Op.rt HO256.out) (fun _ hk => ⟨⟨hk.1, hk.2.1⟩, hk.2.2⟩)) hg (.inl rfl)); replace BK257 := Op.k (blk_grown (Op.bt BK257.out) hg (Kd.R_ne HO265.out BK257.out (by decide))); replace HO265 := Op.k (hp_); replace HB := Op.k ((by rw [hw]; exact below_set (HB.out) GB85.out : Below w.heap.size w w117)); clear hg hw hp_; have hcz118_0 := Op.c0 BK240.out; have hcz118_1 := Op.c1 BK240.out; have hfz118_0 := Op.bf BK240.out 0; have hfz118_1 := Op.bf BK240.out 1; have hcz119_0 := Op.c0 BK244.out; have hcz119_1 := Op.c1 BK244.out; have hfz119_0 := Op.bf BK244.out 0; have hfz119_1 := Op.bf BK244.out 1; have hcz120_0 := Op.c0 BK257.out; have hcz120_1 := Op.c1 BK257.out; have hfz120_0 := Op.bf BK257.out 0; have hfz120_1 := Op.bf BK257.out 1) | ((with_reducible refine gate_builtin (b := .append) (xs := #[.tmp 95, .tmp 98]) rfl ?_); (try (refine gate_guard (by rfl) ?_; dsimp only)); at_builtin; refine Op.S_append2 k65 (w0 := w) w.heap.size rfl (.tmp 95) (.tmp 98) 22 65 (.agg #[(.slice none 0 0), (.bool false)]) 32 rfl Try.underlying22 info65 rfl (by decide) (by omega) (.slice Ao42 t234.length co42) t234 (⟨y253, true⟩ : S65) (⟨y266, false⟩ : S65) [.slice (some ⟨go75, 0, none⟩) x245000_36.length co75, .bool true, .slice (some ⟨go85, 0, none⟩) y263.length co110, .bool false] [.slice (some ⟨go75, 0, none⟩) x245000_36.length co75, .bool true] [.slice (some ⟨go85, 0, none⟩) y263.length co110, .bool false] (fun k_ => some k_ ≠ (.slice Ao46 t237.length co46 : Value).ownBlock ∧ some k_ ≠ (.slice Ao96 y254.length co96 : Value).ownBlock ∧ k_ ≠ gb244 ∧ k_ ≠ gb257) (fun k_ => some k_ = (.slice (some ⟨go75, 0, none⟩) x245000_36.length co75 : Value).ownBlock) (fun k_ => some k_ = (.slice (some ⟨go85, 0, none⟩) y263.length co110 : Value).ownBlock) rfl rfl rfl ?aP ?aQ (fun k_ e_ => (HO_245000.out.1 k_ e_.symm).2) (fun k_ hk_ => ((Kd.R_mono (ok' := fun k_ => ((fun k_ => some k_ ≠ (.slice Ao46 t237.length co46 : Value).ownBlock ∧ some k_ ≠ (.slice Ao96 y254.length co96 : Value).ownBlock ∧ k_ ≠ gb244 ∧ k_ ≠ gb257)) k_ ∧ some k_ ≠ (.slice Ao42 t234.length co42 : Value).ownBlock) (Kd.R_types (Kd.R_types (Kd.R_apart' (HO_245000.out) (Kd.S_typed HO_241000.out) (by decide)) BK244.out (by decide)) BK257.out (by decide)) (fun k_ hk => ⟨⟨hk.1.1.1.1.1, ⟨hk.1.1.1.1.2, ⟨hk.1.2, hk.2⟩⟩⟩, hk.1.1.2⟩))).1 k_ hk_.symm) (fun k_ hk_ => ((Kd.R_mono (ok' := fun k_ => ((fun k_ => some k_ ≠ (.slice Ao46 t237.length co46 : Value).ownBlock ∧ some k_ ≠ (.slice Ao96 y254.length co96 : Value).ownBlock ∧ k_ ≠ gb244 ∧ k_ ≠ gb257)) k_ ∧ some k_ ≠ (.slice Ao42 t234.length co42 : Value).ownBlock) (Kd.R_types (Kd.R_types (Kd.R_apart' (HO265.out) (Kd.S_typed HO_241000.out) (by decide)) BK244.out (by decide)) BK257.out (by decide)) (fun k_ hk => ⟨⟨hk.1.1.1.1, ⟨hk.1.1.1.2.2, ⟨hk.1.2, hk.2⟩⟩⟩, hk.1.1.2⟩))).1 k_ hk_.symm) ?aF ?aO ?aB ?aS ?aL ?_; (case aP => exact k65_mkM _ _ _ (⟨y253, true⟩ : S65) (Kd.R_tight rfl (Kd.R_mono (ok' := fun k_ => ((fun k_ => some k_ ≠ (.slice Ao46 t237.length co46 : Value).ownBlock ∧ some k_ ≠ (.slice Ao96 y254.length co96 : Value).ownBlock ∧ k_ ≠ gb244 ∧ k_ ≠ gb257)) k_ ∧ some k_ ≠ (.slice Ao42 t234.length co42 : Value).ownBlock) (Kd.R_types (Kd.R_types (Kd.R_apart' (HO_245000.out) (Kd.S_typed HO_241000.out) (by decide)) BK244.out (by decide)) BK257.out (by decide)) (fun k_ hk => ⟨⟨hk.1.1.1.1.1, ⟨hk.1.1.1.1.2, ⟨hk.1.2, hk.2⟩⟩⟩, hk.1.1.2⟩)))); (case aQ => exact k65_mkM _ _ _ (⟨y266, false⟩ : S65) (Kd.R_tight rfl (Kd.R_mono (ok' := fun k_ => ((fun k_ => some k_ ≠ (.slice Ao46 t237.length co46 : Value).ownBlock ∧ some k_ ≠ (.slice Ao96 y254.length co96 : Value).ownBlock ∧ k_ ≠ gb244 ∧ k_ ≠ gb257)) k_ ∧ some k_ ≠ (.slice Ao42 t234.length co42 : Value).ownBlock) (Kd.R_types (Kd.R_types (Kd.R_apart' (HO265.out) (Kd.S_typed HO_241000.out) (by decide)) BK244.out (by decide)) BK257.out (by decide)) (fun k_ hk => ⟨⟨hk.1.1.1.1, ⟨hk.1.1.1.2.2, ⟨hk.1.2, hk.2⟩⟩⟩, hk.1.1.2⟩)))); (case aB => exact (Op.ht HB.out)); (case aF => exact (fun k_ hk => ⟨Kd.fresh' (Kd.R_lt (Op.rt HO_241001.out)) k_ hk, Kd.fresh' (Kd.R_lt (Op.rt HO256.out)) k_ hk, Kd.freshB (Op.bt BK244.out) k_ hk, Kd.freshB (Op.bt BK257.out) k_ hk⟩)); (case aO => exact (Kd.S_mono (Op.st HO_241000.out) (fun k_ hk => ⟨⟨hk.1.1, ⟨hk.1.2.2.1, ⟨hk.1.2.2.2.1, hk.1.2.2.2.2⟩⟩⟩, fun e_ => e_.elim (fun h_ => hk.1.2.1 h_) (fun h_ => hk.2 h_)⟩))); (case aS => exact (Op.a6 (Op.ht HB.out))); (case aL => have := LMc86.out; omega); intro v268 w121 ho hb hg hat; rw [← Ny267.out] at ho; have n0_ := Op.k (Kd.R_over' (Op.rt HO_241001.out) (Kd.S_typed (Op.st HO_241000.out)) (by decide) hg); have n1_ := Op.k (blk_grown (Op.bt BK229.out) hg (Kd.S_ne HO_241000.out BK229.out (by decide))); have n2_ := Op.k (blk_grown (Op.bt BK230.out) hg (Kd.S_ne HO_241000.out BK230.out (by decide))); have n3_ := Op.k (blk_grown (Op.bt BK240.out) hg (Kd.S_ne HO_241000.out BK240.out (by decide))); have n4_ := Op.k (blk_grown (Op.bt BK244.out) hg (Kd.S_away HO_241000.out (fun _ hk => hk.1.2.2.2.1))); have n5_ := Op.k (Kd.R_over' (Op.rt HO256.out) (Kd.S_typed (Op.st HO_241000.out)) (by decide) hg); have n6_ := Op.k (blk_grown (Op.bt BK257.out) hg (Kd.S_away HO_241000.out (fun _ hk => hk.1.2.2.2.2))); have n7_ := Op.k (hb); have n8_ := Op.k (ho); clear HO_241001; clear BK229; clear BK230; clear BK240; clear BK244; clear HO256; clear BK257; clear HB; clear HO_241000; clear HO265; clear HO_245000; have HO_241001 := n0_; have BK229 := n1_; have BK230 := n2_; have BK240 := n3_; have BK244 := n4_; have HO256 := n5_; have BK257 := n6_; have HB := n7_; have HO269 := n8_; clear n0_ n1_ n2_ n3_ n4_ n5_ n6_ n7_ n8_; clear ho hb hg hat; obtain ⟨Ao122, co122, eo122⟩ := Kd.S_slice HO269.out; subst eo122; have hcz123_0 := Op.c0 BK240.out; have hcz123_1 := Op.c1 BK240.out; have hfz123_0 := Op.bf BK240.out 0; have hfz123_1 := Op.bf BK240.out 1) | ((with_reducible refine gate_builtin (b := .append) (xs := #[.tmp 102, .tmp 107]) rfl ?_); (try (refine gate_guard (by rfl) ?_; dsimp only)); at_builtin; refine Kd.R_append (Kd.int .i64) (w0 := w) w.heap.size rfl (.tmp 102) (.tmp 107) 23 3 (.int .i64 0) 8 rfl Try.underlying23 info3 rfl (by decide) (by omega) (.slice Ao46 t237.length co46) t237 (wrap64 ((y267.length : Int) - 1)) [.int .i64 (wrap64 ((y267.length : Int) - 1))] (fun k_ => some k_ ≠ (.slice Ao96 y254.length co96 : Value).ownBlock) (fun _ => False) rfl (by first | (go_simp; done) | (go_simp; rfl)) ?aP (fun _ hk => hk.elim) ?aF ?aO ?aB ?aS ?aL ?_; (case aP => exact rfl); (case aB => exact (Op.ht HB.out)); (case aF => exact (fun k_ hk => Kd.fresh' (Kd.R_lt (Op.rf HO256.out BK240.out)) k_ hk)); (case aO => exact (Kd.R_mono (Op.rf HO_241001.out BK240.out) (fun _ hk => hk.1.2))); (case aS => exact (Op.a6 (Op.ht HB.out))); (case aL => have := LMc87.out; omega); intro v271 w124 ho hb hg hat; rw [← Ny270.out] at ho; have n0_ := Op.k (blk_grown (Op.bt BK229.out) hg (Kd.R_ne HO_241001.out BK229.out (by decide))); have n1_ := Op.k (blk_grown (Op.bt BK230.out) hg (Kd.R_ne HO_241001.out BK230.out (by decide))); have n2_ := Op.k (blk_grown (g := gb240) (o := .cells #[.slice Ao122 y267.length co122, .slice Ao46 t237.length co46] 25 (0, 0)) (Op.bv BK240.out) hg (Kd.R_ne HO_241001.out BK240.out (by decide))); have n3_ := Op.k (blk_grown (Op.bt BK244.out) hg (Kd.R_ne HO_241001.out BK244.out (by decide))); have n4_ := Op.k (Kd.R_after (ok := (fun _ => True)) (Kd.R_mono (Op.rf HO256.out BK240.out) (fun _ hk => ⟨trivial, hk.1.1⟩)) hg hat); have n5_ := Op.k (blk_grown (Op.bt BK257.out) hg (Kd.R_ne HO_241001.out BK257.out (by decide))); have n6_ := Op.k (Kd.S_after (ok := (fun k_ => some k_ ≠ (.slice Ao96 y254.length co96 : Value).ownBlock ∧ k_ ≠ gb244 ∧ k_ ≠ gb257)) (Kd.S_mono (Op.sf HO269.out BK240.out) (fun _ hk => ⟨⟨hk.2.1, ⟨hk.2.2.1, hk.2.2.2⟩⟩, hk.1⟩)) hg hat); have n7_ := Op.k (hb); have n8_ := Op.k (ho); clear BK229; clear BK230; clear BK240; clear BK244; clear HO256; clear BK257; clear HO269; clear HB; clear HO_241001; have BK229 := n0_; have BK230 := n1_; have BK240 := n2_; have BK244 := n3_; have HO256 := n4_; have BK257 := n5_; have HO269 := n6_; have HB := n7_; have HO272 := n8_; clear n0_ n1_ n2_ n3_ n4_ n5_ n6_ n7_ n8_; clear ho hb hg hat; obtain ⟨Ao125, co125, eo125⟩ := Kd.R_slice HO272.out; subst eo125; have hcz126_0 := Op.c0 BK240.out; have hcz126_1 := Op.c1 BK240.out; have hfz126_0 := Op.bf BK240.out 0; have hfz126_1 := Op.bf BK240.out 1; have hcz127_0 := Op.c0 BK230.out; have hcz127_1 := Op.c1 BK230.out; have hfz127_0 := Op.bf BK230.out 0; have hfz127_1 := Op.bf BK230.out 1))
                  refine bodyPost_ret (results_ct rfl _ _ gb230 25 #[.slice Ao122 y267.length co122, .slice Ao125 y270.length co125] (0, 0) _ rfl (Op.bv BK230.out) Try.underlying25 rfl (by kernel_rfl)) rfl ?_
                  exact ⟨_, _, by first | rfl | (simp [errW_none, errW_some] <;> rfl) | (simp only [← hji72, ← hji82]; first | rfl | (simp [errW_none, errW_some] <;> rfl)) | (simp [*, errW_none, errW_some] <;> rfl), by (with_reducible repeat (first | apply Kd.S_alloc | apply Kd.S_drewN | apply Kd.S_drew)); exact Kd.S_mono (Kd.S_far (p := ⟨gb230, 1, none⟩) (Kd.S_far (p := ⟨gb230, 0, none⟩) (Kd.S_far (p := ⟨gb240, 1, none⟩) (Kd.S_types (Kd.S_types HO269.out BK240.out (by decide)) BK230.out (by decide)) (fun _ hk => hk.1.2) (.slice Ao125 y270.length co125)) (fun _ hk => hk.2) (.slice Ao122 y267.length co122)) (fun _ hk => hk.2) (.slice Ao125 y270.length co125)) (fun _ hk => hk.1.1.2), by (with_reducible repeat (first | apply Kd.R_alloc | apply Kd.R_drewN | apply Kd.R_drew)); exact Kd.R_mono (Kd.R_far (p := ⟨gb230, 1, none⟩) (Kd.R_far (p := ⟨gb230, 0, none⟩) (Kd.R_far (p := ⟨gb240, 1, none⟩) (Kd.R_types (Kd.R_types HO272.out BK240.out (by decide)) BK230.out (by decide)) (fun _ hk => hk.1.2) (.slice Ao125 y270.length co125)) (fun _ hk => hk.2) (.slice Ao122 y267.length co122)) (fun _ hk => hk.2) (.slice Ao125 y270.length co125)) (fun _ hk => trivial), Op.ht HB.out⟩
                 ·rw [if_neg c87] at H
                  exact absurd H (by simp)
                ·rw [if_neg c86] at H
                 exact absurd H (by simp)
               ·rw [if_neg c84] at H
                exact absurd H (by simp)
              ·rw [if_neg c83] at H
               exact absurd H (by simp)
             ·rw [if_neg c81] at H
              exact absurd H (by simp)
            ·rw [if_neg c80] at H
             exact absurd H (by simp)
           ·rw [if_neg c79] at H
            exact absurd H (by simp)
          ·rw [if_neg c78] at H
           have c78b0 : decide (0 ≤ (rd l0_1 a1)) = false := decide_eq_false c78
           clear c78
           obtain ⟨ji128, hji128⟩ : ∃ j_ : Int, (wrap64 (Int.tdiv a2 4)) = j_ := ⟨_, rfl⟩
           replace H : (if 0 ≤ (ji128) then (if (ji128) < (y254.length : Int) then (if t234.length + 1 < 4398046511104 then ((some (t234 ++ [(⟨y253, true⟩ : S65), (⟨(y254.set ((ji128) : Int).toNat (t234.length : Int)), false⟩ : S65)] : List (S65))).bind fun y274 => (if t237.length < 17592186044416 then (some (y274, (t237 ++ [wrap64 ((y274.length : Int) - 1)]), true)) else (none))) else (none)) else (none)) else (none)) = some (r1, r2, r3) := by first | (rw [hji128] at H; exact H) | (simp only [hji128] at H ⊢; exact H)
           have hji128w : (IntKind.i64.wrap (Int.tdiv a2 4)) = ji128 := (i64_w _).trans hji128
           by_cases c129 : 0 ≤ (ji128)
           ·rw [if_pos c129] at H
            have c129b0 : decide (0 ≤ (ji128)) = true := decide_eq_true c129
            clear c129
            by_cases c130 : (ji128) < (y254.length : Int)
            ·rw [if_pos c130] at H
             have c130b0 : decide ((ji128) < (y254.length : Int)) = true := decide_eq_true c130
             clear c130
             obtain ⟨y273, hy273⟩ : ∃ y_ : List Int, y_ = (y254.set ((ji128) : Int).toNat (t234.length : Int)) := ⟨_, rfl⟩
             replace H : (if t234.length + 1 < 4398046511104 then ((some (t234 ++ [(⟨y253, true⟩ : S65), (⟨y273, false⟩ : S65)] : List (S65))).bind fun y274 => (if t237.length < 17592186044416 then (some (y274, (t237 ++ [wrap64 ((y274.length : Int) - 1)]), true)) else (none))) else (none)) = some (r1, r2, r3) := by first | (rw [hy273]; with_reducible exact H) | (have H2_ := (Option.bind_some _ _).symm.trans H; rw [hy273]; with_reducible exact H2_) | (have H2_ := (Option.bind_some _ _).symm.trans H; with_reducible exact H2_) | with_reducible exact H | (rw [hy273]; exact H) | exact H
             have Ny273 := Op.k hy273
             clear hy273
             by_cases c132 : t234.length + 1 < 4398046511104
             ·rw [if_pos c132] at H
              have LMc132 := Op.k c132
              clear c132
              obtain ⟨y274, hy274⟩ : ∃ y_ : List (S65), y_ = (t234 ++ [(⟨y253, true⟩ : S65), (⟨y273, false⟩ : S65)]) := ⟨_, rfl⟩
              replace H : (if t237.length < 17592186044416 then (some (y274, (t237 ++ [wrap64 ((y274.length : Int) - 1)]), true)) else (none)) = some (r1, r2, r3) := by first | (rw [hy274]; with_reducible exact H) | (have H2_ := (Option.bind_some _ _).symm.trans H; rw [hy274]; with_reducible exact H2_) | (have H2_ := (Option.bind_some _ _).symm.trans H; with_reducible exact H2_) | with_reducible exact H | (rw [hy274]; exact H) | exact H
              have Ny274 := Op.k hy274
              clear hy274
              by_cases c133 : t237.length < 17592186044416
              ·rw [if_pos c133] at H
               have LMc133 := Op.k c133
               clear c133
               obtain ⟨y277, hy277⟩ : ∃ y_ : List Int, y_ = (t237 ++ [wrap64 ((y274.length : Int) - 1)]) := ⟨_, rfl⟩
               replace H : (some (y274, y277, true)) = some (r1, r2, r3) := by first | (rw [hy277]; with_reducible exact H) | (have H2_ := (Option.bind_some _ _).symm.trans H; rw [hy277]; with_reducible exact H2_) | (have H2_ := (Option.bind_some _ _).symm.trans H; with_reducible exact H2_) | with_reducible exact H | (rw [hy277]; exact H) | exact H
               have Ny277 := Op.k hy277
               clear hy277
               simp only [Option.some.injEq, Prod.mk.injEq] at H
               obtain ⟨rfl, rfl, rfl⟩ := H
               have hnb134 := NB244_229.out
               have hnc134 := NB229_244.out
               have hnb135 := NB244_230.out
               have hnc135 := NB230_244.out
               have hnb136 := NB244_240.out
               have hnc136 := NB240_244.out
               have hcz137_0 := Op.c0 BK244.out
               have hcz137_1 := Op.c1 BK244.out
               have hfz137_0 := Op.bf BK244.out 0
               have hfz137_1 := Op.bf BK244.out 1
               have p75 : 0 ≤ ((ji72) : Int) := Op.dt
               have q75 : ((ji72) : Int) < ((x245000_36.length : Int) : Int) := Op.dt
               obtain ⟨go75, co75, eo75, gb75, gl75, cl75, HG75⟩ := Kd.R_form HO_245000.out (by omega)
               (first | cases eo75 | (injection eo75 with ea_ en_ ec_; (first | subst ea_ | (injection ea_ with ea_; subst ea_)); subst ec_; clear en_))
               have GB75 := Op.k gb75
               have GG75 := Op.k HG75
               clear gb75 gl75 HG75
               obtain ⟨hx75_0, hf75_0⟩ := Kd.R_celln 0 HO_245000.out ((ji72) : Int) p75 q75
               replace p75 := eq_true p75
               replace q75 := eq_true q75
               have HP138 := Kd.R_putg HO_245000.out ((ji72) : Int) a3
               go_wp2_with (first | ((with_reducible refine gate_store (t := 3) (p := 67) rfl ?_); refine store_event (t := 3) (p := 67) (v := ?vo_w139) (w1 := (wc.setCell ⟨go75, ((ji72) : Int).toNat, none⟩ (.int .i64 a3))) ?hg ?ho ?hn ?hr ?_; (case ho => rfl); (case hg => rfl); (case hn => rfl); (case hr => first | (go_simp; done) | (go_simp; rfl)); intro w139 hw; have hg : wc.grownBy w139 (some go75) := (by rw [hw]; exact HP138.2); have hp_ : Kd.R (Kd.int .i64) 3 w139 w.heap.size (fun k_ => some k_ ≠ (.slice Ao46 t237.length co46 : Value).ownBlock) (.slice (some ⟨go75, 0, none⟩) x245000_36.length co75) y253 := (by rw [hw, Ny253.out]; exact HP138.1); clear HP138; replace HO_241000 := Op.k (Kd.S_after (v := (.slice (some ⟨go75, 0, none⟩) x245000_36.length co75)) (v1 := (.slice (some ⟨go75, 0, none⟩) x245000_36.length co75)) (ok := (fun k_ => some k_ ≠ (.slice Ao46 t237.length co46 : Value).ownBlock ∧ k_ ≠ gb244)) (Kd.S_mono (Op.st HO_241000.out) (fun _ hk => ⟨⟨hk.1, hk.2.2⟩, hk.2.1⟩)) hg (.inl rfl)); replace HO_241001 := Op.k (Kd.R_after (v := (.slice (some ⟨go75, 0, none⟩) x245000_36.length co75)) (v1 := (.slice (some ⟨go75, 0, none⟩) x245000_36.length co75)) (ok := (fun _ => True)) (Kd.R_mono (Op.rt HO_241001.out) (fun _ hk => ⟨trivial, hk⟩)) hg (.inl rfl)); replace BK229 := Op.k (blk_grown (Op.bt BK229.out) hg (Kd.R_ne HO_245000.out BK229.out (by decide))); replace BK230 := Op.k (blk_grown (Op.bt BK230.out) hg (Kd.R_ne HO_245000.out BK230.out (by decide))); replace BK240 := Op.k (blk_grown (Op.bt BK240.out) hg (Kd.R_ne HO_245000.out BK240.out (by decide))); replace BK244 := Op.k (blk_grown (Op.bt BK244.out) hg (Kd.R_ne HO_245000.out BK244.out (by decide))); replace HO_245000 := Op.k (hp_); replace HB := Op.k ((by rw [hw]; exact below_set (HB.out) GB75.out : Below w.heap.size w w139)); clear hg hw hp_) | ((with_reducible refine gate_dst (N := 68) rfl ?_); (try (refine gate_guard (by rfl) ?_; dsimp only)); refine Kd.R_lit (Kd.int .i64) _ 3 ?hg (N := 68) ?hd (xs := ([(-1), (-1), (-1), (-1)] : List Int)) (inner := [.int .i64 (-1), .int .i64 (-1), .int .i64 (-1), .int .i64 (-1)]) (ok := fun _ => True) (okp := fun _ => True) ?hr ?hp (fun _ hk => hk) trivial (Below.refl _ _) (Nat.le_refl _) (by simp) ?_; (case hd => rfl); (case hg => rfl); (case hr => first | (go_simp; done) | (go_simp; rfl)); (case hp => exact (Reps.one (show Kd.M (Kd.int .i64) _ _ _ (-1) [.int .i64 (-1)] from rfl) (Reps.one (show Kd.M (Kd.int .i64) _ _ _ (-1) [.int .i64 (-1)] from rfl) (Reps.one (show Kd.M (Kd.int .i64) _ _ _ (-1) [.int .i64 (-1)] from rfl) (Reps.one (show Kd.M (Kd.int .i64) _ _ _ (-1) [.int .i64 (-1)] from rfl) (Reps.none _ _)))))); intro v255 w140 ho141 hb hg_ hnew_; clear hg_ hnew_; (first | rw [← Ny254.out] at ho141 | (simp only [Int.reduceToNat] at ho141; rw [← Ny254.out] at ho141)); replace HO_241000 := Op.k (Kd.S_elder' (Op.st HO_241000.out) (Kd.R_base ho141) hb); have HO256 := Op.k (Kd.R_lower (Kd.R_new' (Kd.R_new' ho141 (Kd.R_lt (Op.rt HO_241001.out))) (Kd.R_lt (Op.rt HO_245000.out))) (Op.a6 (Op.ht HB.out))); replace HO_241001 := Op.k (Kd.R_elder' (Op.rt HO_241001.out) (Kd.R_base ho141) hb); replace HO_245000 := Op.k (Kd.R_elder' (Op.rt HO_245000.out) (Kd.R_base ho141) hb); replace BK229 := Op.k (Op.b4 (Op.bt BK229.out) hb); replace BK230 := Op.k (Op.b4 (Op.bt BK230.out) hb); replace BK240 := Op.k (Op.b4 (Op.bt BK240.out) hb); replace BK244 := Op.k (Op.b4 (Op.bt BK244.out) hb); replace HB := Op.k (Op.a5 (Op.ht HB.out) hb); clear hb ho141; obtain ⟨Ao142, co142, eo142⟩ := Kd.R_slice HO256.out; subst eo142) | ((with_reducible refine gate_dst (N := 13) rfl ?_); (try (refine gate_guard (by rfl) ?_; dsimp only)); refine box_event ?hg (N := 13) ?hd (cs := #[.slice none 0 0, .bool false]) (t := 65) ?hr ?_; (case hd => rfl); (case hg => rfl); (case hr => first | (go_simp; done) | (go_simp; rfl)); intro gb257 hg w143 hbox hb; replace HO_241000 := Op.k (Kd.S_below (Kd.S_elderB (Op.st HO_241000.out) gb257 (Nat.le_of_eq hg.symm)) hb); replace HO_241001 := Op.k (Kd.R_below (Op.rt HO_241001.out) hb); replace HO_245000 := Op.k (Kd.R_below (Op.rt HO_245000.out) hb); replace HO256 := Op.k (Kd.R_below (Op.rt HO256.out) hb); have BK257 := Op.k (hbox); have GW257 := Op.k ((Op.nz hg (Op.ht HB.out) : w.heap.size ≤ gb257)); have GE257 := Op.k ((Op.nz hg (Op.ht HB.out) : w.heap.size ≤ gb257)); replace HB := Op.k (Op.a5 (Op.ht HB.out) hb); have NB229_257 := Op.k ((Op.nl hg (Op.bt BK229.out) : gb229 ≠ gb257)); have NB257_229 := Op.k ((Op.ng hg (Op.bt BK229.out) : gb257 ≠ gb229)); replace BK229 := Op.k (Op.b4 (Op.bt BK229.out) hb); have NB230_257 := Op.k ((Op.nl hg (Op.bt BK230.out) : gb230 ≠ gb257)); have NB257_230 := Op.k ((Op.ng hg (Op.bt BK230.out) : gb257 ≠ gb230)); replace BK230 := Op.k (Op.b4 (Op.bt BK230.out) hb); have NB240_257 := Op.k ((Op.nl hg (Op.bt BK240.out) : gb240 ≠ gb257)); have NB257_240 := Op.k ((Op.ng hg (Op.bt BK240.out) : gb257 ≠ gb240)); replace BK240 := Op.k (Op.b4 (Op.bt BK240.out) hb); have NB244_257 := Op.k ((by rw [hg]; exact Nat.ne_of_lt (blk_lt (Op.bt BK244.out)) : gb244 ≠ gb257)); have NB257_244 := Op.k ((by rw [hg]; exact Nat.ne_of_gt (blk_lt (Op.bt BK244.out)) : gb257 ≠ gb244)); replace BK244 := Op.k (Op.b4 (Op.bt BK244.out) hb); clear hb hbox hg; have hnb144 := NB257_229.out; have hnc144 := NB229_257.out; have hnb145 := NB257_230.out; have hnc145 := NB230_257.out; have hnb146 := NB257_240.out; have hnc146 := NB240_257.out; have hnb147 := NB257_244.out; have hnc147 := NB244_257.out; have hcz148_0 := Op.c0 BK257.out; have hcz148_1 := Op.c1 BK257.out; have hfz148_0 := Op.bf BK257.out 0; have hfz148_1 := Op.bf BK257.out 1) | ((with_reducible refine gate_store (t := 65) (p := 13) rfl ?_); refine store_event (t := 65) (p := 13) (v := ?vo_w149) (w1 := ((w143.setCell ⟨gb257, 0, none⟩ (.slice Ao142 y254.length co142)).setCell ⟨gb257, 1, none⟩ (.bool false))) ?hg ?ho ?hn ?hr ?_; (case ho => rfl); (case hg => rfl); (case hn => rfl); (case hr => first | (go_simp; done) | (go_simp; rfl)); intro w149 hw; have n0_ : Aside0 (Kd.S k65 65 w149 w.heap.size (fun k_ => some k_ ≠ (.slice Ao46 t237.length co46 : Value).ownBlock ∧ some k_ ≠ (.slice (some ⟨go75, 0, none⟩) x245000_36.length co75 : Value).ownBlock ∧ some k_ ≠ (.slice Ao142 y254.length co142 : Value).ownBlock ∧ k_ ≠ gb244 ∧ k_ ≠ gb257) (.slice Ao42 t234.length co42) t234) := ⟨(by rw [hw]; exact (by (with_reducible repeat (first | apply Kd.S_alloc | apply Kd.S_drewN | apply Kd.S_drew)); exact Kd.S_mono (Kd.S_far (p := ⟨gb257, 1, none⟩) (Kd.S_far (p := ⟨gb257, 0, none⟩) (Kd.S_mono HO_241000.out (fun k_ hk => (⟨hk, hk.2⟩ : _ ∧ k_ ≠ gb257))) (fun _ hk => hk.2) (.slice Ao142 y254.length co142)) (fun _ hk => hk.2) (.bool false)) (fun _ hk => ⟨hk.1.1.1.1.1, ⟨hk.1.1.1.2, ⟨hk.1.1.2, ⟨hk.1.1.1.1.2, hk.1.2⟩⟩⟩⟩)))⟩; have n1_ : Aside0 (Kd.R (Kd.int .i64) 3 w149 w.heap.size (fun k_ => some k_ ≠ (.slice (some ⟨go75, 0, none⟩) x245000_36.length co75 : Value).ownBlock ∧ some k_ ≠ (.slice Ao142 y254.length co142 : Value).ownBlock) (.slice Ao46 t237.length co46) t237) := ⟨(by rw [hw]; exact (Kd.R_mono (Op.rf HO_241001.out BK257.out) (fun _ hk => ⟨hk.1.2, hk.2⟩)))⟩; have n2_ : Aside0 (Kd.R (Kd.int .i64) 3 w149 w.heap.size (fun k_ => some k_ ≠ (.slice Ao46 t237.length co46 : Value).ownBlock ∧ some k_ ≠ (.slice Ao142 y254.length co142 : Value).ownBlock) (.slice (some ⟨go75, 0, none⟩) x245000_36.length co75) y253) := ⟨(by rw [hw]; exact (Kd.R_mono (Op.rf HO_245000.out BK257.out) (fun _ hk => ⟨hk.1, hk.2⟩)))⟩; have n3_ : Aside0 (Kd.R (Kd.int .i64) 3 w149 w.heap.size (fun k_ => some k_ ≠ (.slice Ao46 t237.length co46 : Value).ownBlock ∧ some k_ ≠ (.slice (some ⟨go75, 0, none⟩) x245000_36.length co75 : Value).ownBlock) (.slice Ao142 y254.length co142) y254) := ⟨(by rw [hw]; exact (Kd.R_mono (Op.rf HO256.out BK257.out) (fun _ hk => ⟨hk.1.2, hk.2⟩)))⟩; have n4_ : Aside0 (w149.heap[gb229]? = some (.cells #[.slice A0_0 l0_0.length c0_0, .slice A0_1 l0_1.length c0_1] 25 (0, 0))) := ⟨(by rw [hw]; exact (Op.bt BK229.out))⟩; have n5_ : Aside0 (w149.heap[gb230]? = some (.cells #[.slice none 0 0, .slice none 0 0] 25 (0, 0))) := ⟨(by rw [hw]; exact (Op.bt BK230.out))⟩; have n6_ : Aside0 (w149.heap[gb240]? = some (.cells #[.slice Ao42 t234.length co42, .slice Ao46 t237.length co46] 25 (0, 0))) := ⟨(by rw [hw]; exact (Op.bt BK240.out))⟩; have n7_ : Aside0 (w149.heap[gb244]? = some (.cells #[.slice (some ⟨go75, 0, none⟩) x245000_36.length co75, .bool true] 65 (0, 0))) := ⟨(by rw [hw]; exact (Op.bt BK244.out))⟩; have n8_ : Aside0 (w149.heap[gb257]? = some (.cells #[.slice Ao142 y254.length co142, .bool false] 65 (0, 0))) := ⟨(by rw [hw]; exact (Op.bv BK257.out))⟩; have n9_ : Aside0 (Below w.heap.size w w149) := ⟨(by rw [hw]; exact (Op.ht HB.out))⟩; clear hw; clear HO_241000; clear HO_241001; clear HO_245000; clear HO256; clear BK229; clear BK230; clear BK240; clear BK244; clear BK257; clear HB; have HO_241000 := n0_; have HO_241001 := n1_; have HO_245000 := n2_; have HO256 := n3_; have BK229 := n4_; have BK230 := n5_; have BK240 := n6_; have BK244 := n7_; have BK257 := n8_; have HB := n9_; clear n0_ n1_ n2_ n3_ n4_ n5_ n6_ n7_ n8_ n9_; have hnb150 := NB229_230.out; have hnc150 := NB230_229.out; have hnb151 := NB229_240.out; have hnc151 := NB240_229.out; have hcz152_0 := Op.c0 BK229.out; have hcz152_1 := Op.c1 BK229.out; have hfz152_0 := Op.bf BK229.out 0; have hfz152_1 := Op.bf BK229.out 1; have p258 : 0 ≤ (a1 : Int) := Op.dt; have q258 : a1 < (l0_1.length : Int) := Op.dt; obtain ⟨ad258, e258, hx258_0⟩ := Kd.at_int HR0_1.out a1 p258 q258; cases e258; replace hx258_0 := (HB.out.cell (World.block_lt_of_cell? w _ hx258_0)).trans hx258_0; replace p258 := eq_true p258; replace q258 := eq_true q258; have hcz153_0 := Op.c0 BK257.out; have hcz153_1 := Op.c1 BK257.out; have hfz153_0 := Op.bf BK257.out 0; have hfz153_1 := Op.bf BK257.out 1; have hnb154 := NB240_230.out; have hnc154 := NB230_240.out; have hcz155_0 := Op.c0 BK240.out; have hcz155_1 := Op.c1 BK240.out; have hfz155_0 := Op.bf BK240.out 0; have hfz155_1 := Op.bf BK240.out 1; have p131 : 0 ≤ ((ji128) : Int) := Op.dt; have q131 : ((ji128) : Int) < ((y254.length : Int) : Int) := Op.dt; obtain ⟨go131, co131, eo131, gb131, gl131, cl131, HG131⟩ := Kd.R_form HO256.out (by omega); (first | cases eo131 | (injection eo131 with ea_ en_ ec_; (first | subst ea_ | (injection ea_ with ea_; subst ea_)); subst ec_; clear en_)); have GB131 := Op.k gb131; have GG131 := Op.k HG131; clear gb131 gl131 HG131; obtain ⟨hx131_0, hf131_0⟩ := Kd.R_celln 0 HO256.out ((ji128) : Int) p131 q131; replace p131 := eq_true p131; replace q131 := eq_true q131; obtain ⟨hy156_, hz156_⟩ := Kd.R_celln 0 HO256.out ((ji128) : Int) (Op.dt) (Op.dt); have HP156 := Kd.R_putg HO256.out ((ji128) : Int) (t234.length : Int)) | ((with_reducible refine gate_store (t := 3) (p := 93) rfl ?_); refine store_event (t := 3) (p := 93) (v := ?vo_w157) (w1 := (w149.setCell ⟨go131, ((ji128) : Int).toNat, none⟩ (.int .i64 (t234.length : Int)))) ?hg ?ho ?hn ?hr ?_; (case ho => rfl); (case hg => rfl); (case hn => rfl); (case hr => first | (go_simp; done) | (go_simp; rfl)); intro w157 hw; have hg : w149.grownBy w157 (some go131) := (by rw [hw]; exact HP156.2); have hp_ : Kd.R (Kd.int .i64) 3 w157 w.heap.size (fun k_ => some k_ ≠ (.slice Ao46 t237.length co46 : Value).ownBlock ∧ some k_ ≠ (.slice (some ⟨go75, 0, none⟩) x245000_36.length co75 : Value).ownBlock) (.slice (some ⟨go131, 0, none⟩) y254.length co142) y273 := (by rw [hw, Ny273.out]; exact HP156.1); clear HP156; replace HO_241000 := Op.k (Kd.S_after (v := (.slice (some ⟨go131, 0, none⟩) y254.length co142)) (v1 := (.slice (some ⟨go131, 0, none⟩) y254.length co142)) (ok := (fun k_ => some k_ ≠ (.slice Ao46 t237.length co46 : Value).ownBlock ∧ some k_ ≠ (.slice (some ⟨go75, 0, none⟩) x245000_36.length co75 : Value).ownBlock ∧ k_ ≠ gb244 ∧ k_ ≠ gb257)) (Kd.S_mono (Op.st HO_241000.out) (fun _ hk => ⟨⟨hk.1, ⟨hk.2.1, ⟨hk.2.2.2.1, hk.2.2.2.2⟩⟩⟩, hk.2.2.1⟩)) hg (.inl rfl)); replace HO_241001 := Op.k (Kd.R_after (v := (.slice (some ⟨go131, 0, none⟩) y254.length co142)) (v1 := (.slice (some ⟨go131, 0, none⟩) y254.length co142)) (ok := (fun k_ => some k_ ≠ (.slice (some ⟨go75, 0, none⟩) x245000_36.length co75 : Value).ownBlock)) (Op.rt HO_241001.out) hg (.inl rfl)); replace HO_245000 := Op.k (Kd.R_after (v := (.slice (some ⟨go131, 0, none⟩) y254.length co142)) (v1 := (.slice (some ⟨go131, 0, none⟩) y254.length co142)) (ok := (fun k_ => some k_ ≠ (.slice Ao46 t237.length co46 : Value).ownBlock)) (Op.rt HO_245000.out) hg (.inl rfl)); replace BK229 := Op.k (blk_grown (Op.bt BK229.out) hg (Kd.R_ne HO256.out BK229.out (by decide))); replace BK230 := Op.k (blk_grown (Op.bt BK230.out) hg (Kd.R_ne HO256.out BK230.out (by decide))); replace BK240 := Op.k (blk_grown (Op.bt BK240.out) hg (Kd.R_ne HO256.out BK240.out (by decide))); replace BK244 := Op.k (blk_grown (Op.bt BK244.out) hg (Kd.R_ne HO256.out BK244.out (by decide))); replace BK257 := Op.k (blk_grown (Op.bt BK257.out) hg (Kd.R_ne HO256.out BK257.out (by decide))); replace HO256 := Op.k (hp_); replace HB := Op.k ((by rw [hw]; exact below_set (HB.out) GB131.out : Below w.heap.size w w157)); clear hg hw hp_; have hcz158_0 := Op.c0 BK240.out; have hcz158_1 := Op.c1 BK240.out; have hfz158_0 := Op.bf BK240.out 0; have hfz158_1 := Op.bf BK240.out 1; have hcz159_0 := Op.c0 BK244.out; have hcz159_1 := Op.c1 BK244.out; have hfz159_0 := Op.bf BK244.out 0; have hfz159_1 := Op.bf BK244.out 1; have hcz160_0 := Op.c0 BK257.out; have hcz160_1 := Op.c1 BK257.out; have hfz160_0 := Op.bf BK257.out 0; have hfz160_1 := Op.bf BK257.out 1) | ((with_reducible refine gate_builtin (b := .append) (xs := #[.tmp 95, .tmp 98]) rfl ?_); (try (refine gate_guard (by rfl) ?_; dsimp only)); at_builtin; refine Op.S_append2 k65 (w0 := w) w.heap.size rfl (.tmp 95) (.tmp 98) 22 65 (.agg #[(.slice none 0 0), (.bool false)]) 32 rfl Try.underlying22 info65 rfl (by decide) (by omega) (.slice Ao42 t234.length co42) t234 (⟨y253, true⟩ : S65) (⟨y273, false⟩ : S65) [.slice (some ⟨go75, 0, none⟩) x245000_36.length co75, .bool true, .slice (some ⟨go131, 0, none⟩) y254.length co142, .bool false] [.slice (some ⟨go75, 0, none⟩) x245000_36.length co75, .bool true] [.slice (some ⟨go131, 0, none⟩) y254.length co142, .bool false] (fun k_ => some k_ ≠ (.slice Ao46 t237.length co46 : Value).ownBlock ∧ k_ ≠ gb244 ∧ k_ ≠ gb257) (fun k_ => some k_ = (.slice (some ⟨go75, 0, none⟩) x245000_36.length co75 : Value).ownBlock) (fun k_ => some k_ = (.slice (some ⟨go131, 0, none⟩) y254.length co142 : Value).ownBlock) rfl rfl rfl ?aP ?aQ (fun k_ e_ => (HO_245000.out.1 k_ e_.symm).2) (fun k_ hk_ => ((Kd.R_mono (ok' := fun k_ => ((fun k_ => some k_ ≠ (.slice Ao46 t237.length co46 : Value).ownBlock ∧ k_ ≠ gb244 ∧ k_ ≠ gb257)) k_ ∧ some k_ ≠ (.slice Ao42 t234.length co42 : Value).ownBlock) (Kd.R_types (Kd.R_types (Kd.R_apart' (HO_245000.out) (Kd.S_typed HO_241000.out) (by decide)) BK244.out (by decide)) BK257.out (by decide)) (fun k_ hk => ⟨⟨hk.1.1.1.1, ⟨hk.1.2, hk.2⟩⟩, hk.1.1.2⟩))).1 k_ hk_.symm) (fun k_ hk_ => ((Kd.R_mono (ok' := fun k_ => ((fun k_ => some k_ ≠ (.slice Ao46 t237.length co46 : Value).ownBlock ∧ k_ ≠ gb244 ∧ k_ ≠ gb257)) k_ ∧ some k_ ≠ (.slice Ao42 t234.length co42 : Value).ownBlock) (Kd.R_types (Kd.R_types (Kd.R_apart' (HO256.out) (Kd.S_typed HO_241000.out) (by decide)) BK244.out (by decide)) BK257.out (by decide)) (fun k_ hk => ⟨⟨hk.1.1.1.1, ⟨hk.1.2, hk.2⟩⟩, hk.1.1.2⟩))).1 k_ hk_.symm) ?aF ?aO ?aB ?aS ?aL ?_; (case aP => exact k65_mkM _ _ _ (⟨y253, true⟩ : S65) (Kd.R_tight rfl (Kd.R_mono (ok' := fun k_ => ((fun k_ => some k_ ≠ (.slice Ao46 t237.length co46 : Value).ownBlock ∧ k_ ≠ gb244 ∧ k_ ≠ gb257)) k_ ∧ some k_ ≠ (.slice Ao42 t234.length co42 : Value).ownBlock) (Kd.R_types (Kd.R_types (Kd.R_apart' (HO_245000.out) (Kd.S_typed HO_241000.out) (by decide)) BK244.out (by decide)) BK257.out (by decide)) (fun k_ hk => ⟨⟨hk.1.1.1.1, ⟨hk.1.2, hk.2⟩⟩, hk.1.1.2⟩)))); (case aQ => exact k65_mkM _ _ _ (⟨y273, false⟩ : S65) (Kd.R_tight rfl (Kd.R_mono (ok' := fun k_ => ((fun k_ => some k_ ≠ (.slice Ao46 t237.length co46 : Value).ownBlock ∧ k_ ≠ gb244 ∧ k_ ≠ gb257)) k_ ∧ some k_ ≠ (.slice Ao42 t234.length co42 : Value).ownBlock) (Kd.R_types (Kd.R_types (Kd.R_apart' (HO256.out) (Kd.S_typed HO_241000.out) (by decide)) BK244.out (by decide)) BK257.out (by decide)) (fun k_ hk => ⟨⟨hk.1.1.1.1, ⟨hk.1.2, hk.2⟩⟩, hk.1.1.2⟩)))); (case aB => exact (Op.ht HB.out)); (case aF => exact (fun k_ hk => ⟨Kd.fresh' (Kd.R_lt (Op.rt HO_241001.out)) k_ hk, Kd.freshB (Op.bt BK244.out) k_ hk, Kd.freshB (Op.bt BK257.out) k_ hk⟩)); (case aO => exact (Kd.S_mono (Op.st HO_241000.out) (fun k_ hk => ⟨⟨hk.1.1, ⟨hk.1.2.2.1, hk.1.2.2.2⟩⟩, fun e_ => e_.elim (fun h_ => hk.1.2.1 h_) (fun h_ => hk.2 h_)⟩))); (case aS => exact (Op.a6 (Op.ht HB.out))); (case aL => have := LMc132.out; omega); intro v275 w161 ho hb hg hat; rw [← Ny274.out] at ho; have n0_ := Op.k (Kd.R_over' (Op.rt HO_241001.out) (Kd.S_typed (Op.st HO_241000.out)) (by decide) hg); have n1_ := Op.k (blk_grown (Op.bt BK229.out) hg (Kd.S_ne HO_241000.out BK229.out (by decide))); have n2_ := Op.k (blk_grown (Op.bt BK230.out) hg (Kd.S_ne HO_241000.out BK230.out (by decide))); have n3_ := Op.k (blk_grown (Op.bt BK240.out) hg (Kd.S_ne HO_241000.out BK240.out (by decide))); have n4_ := Op.k (blk_grown (Op.bt BK244.out) hg (Kd.S_away HO_241000.out (fun _ hk => hk.1.2.2.1))); have n5_ := Op.k (blk_grown (Op.bt BK257.out) hg (Kd.S_away HO_241000.out (fun _ hk => hk.1.2.2.2))); have n6_ := Op.k (hb); have n7_ := Op.k (ho); clear HO_241001; clear BK229; clear BK230; clear BK240; clear BK244; clear BK257; clear HB; clear HO_241000; clear HO256; clear HO_245000; have HO_241001 := n0_; have BK229 := n1_; have BK230 := n2_; have BK240 := n3_; have BK244 := n4_; have BK257 := n5_; have HB := n6_; have HO276 := n7_; clear n0_ n1_ n2_ n3_ n4_ n5_ n6_ n7_; clear ho hb hg hat; obtain ⟨Ao162, co162, eo162⟩ := Kd.S_slice HO276.out; subst eo162; have hcz163_0 := Op.c0 BK240.out; have hcz163_1 := Op.c1 BK240.out; have hfz163_0 := Op.bf BK240.out 0; have hfz163_1 := Op.bf BK240.out 1) | ((with_reducible refine gate_builtin (b := .append) (xs := #[.tmp 102, .tmp 107]) rfl ?_); (try (refine gate_guard (by rfl) ?_; dsimp only)); at_builtin; refine Kd.R_append (Kd.int .i64) (w0 := w) w.heap.size rfl (.tmp 102) (.tmp 107) 23 3 (.int .i64 0) 8 rfl Try.underlying23 info3 rfl (by decide) (by omega) (.slice Ao46 t237.length co46) t237 (wrap64 ((y274.length : Int) - 1)) [.int .i64 (wrap64 ((y274.length : Int) - 1))] (fun _ => True) (fun _ => False) rfl (by first | (go_simp; done) | (go_simp; rfl)) ?aP (fun _ hk => hk.elim) ?aF ?aO ?aB ?aS ?aL ?_; (case aP => exact rfl); (case aB => exact (Op.ht HB.out)); (case aF => exact (fun _ _ => trivial)); (case aO => exact (Kd.R_mono (Op.rf HO_241001.out BK240.out) (fun _ hk => trivial))); (case aS => exact (Op.a6 (Op.ht HB.out))); (case aL => have := LMc133.out; omega); intro v278 w164 ho hb hg hat; rw [← Ny277.out] at ho; have n0_ := Op.k (blk_grown (Op.bt BK229.out) hg (Kd.R_ne HO_241001.out BK229.out (by decide))); have n1_ := Op.k (blk_grown (Op.bt BK230.out) hg (Kd.R_ne HO_241001.out BK230.out (by decide))); have n2_ := Op.k (blk_grown (g := gb240) (o := .cells #[.slice Ao162 y274.length co162, .slice Ao46 t237.length co46] 25 (0, 0)) (Op.bv BK240.out) hg (Kd.R_ne HO_241001.out BK240.out (by decide))); have n3_ := Op.k (blk_grown (Op.bt BK244.out) hg (Kd.R_ne HO_241001.out BK244.out (by decide))); have n4_ := Op.k (blk_grown (Op.bt BK257.out) hg (Kd.R_ne HO_241001.out BK257.out (by decide))); have n5_ := Op.k (Kd.S_after (ok := (fun k_ => k_ ≠ gb244 ∧ k_ ≠ gb257)) (Kd.S_mono (Op.sf HO276.out BK240.out) (fun _ hk => ⟨⟨hk.2.1, hk.2.2⟩, hk.1⟩)) hg hat); have n6_ := Op.k (hb); have n7_ := Op.k (ho); clear BK229; clear BK230; clear BK240; clear BK244; clear BK257; clear HO276; clear HB; clear HO_241001; have BK229 := n0_; have BK230 := n1_; have BK240 := n2_; have BK244 := n3_; have BK257 := n4_; have HO276 := n5_; have HB := n6_; have HO279 := n7_; clear n0_ n1_ n2_ n3_ n4_ n5_ n6_ n7_; clear ho hb hg hat; obtain ⟨Ao165, co165, eo165⟩ := Kd.R_slice HO279.out; subst eo165; have hcz166_0 := Op.c0 BK240.out; have hcz166_1 := Op.c1 BK240.out; have hfz166_0 := Op.bf BK240.out 0; have hfz166_1 := Op.bf BK240.out 1; have hcz167_0 := Op.c0 BK230.out; have hcz167_1 := Op.c1 BK230.out; have hfz167_0 := Op.bf BK230.out 0; have hfz167_1 := Op.bf BK230.out 1))
               refine bodyPost_ret (results_ct rfl _ _ gb230 25 #[.slice Ao162 y274.length co162, .slice Ao165 y277.length co165] (0, 0) _ rfl (Op.bv BK230.out) Try.underlying25 rfl (by kernel_rfl)) rfl ?_
               exact ⟨_, _, by first | rfl | (simp [errW_none, errW_some] <;> rfl) | (simp only [← hji72, ← hji128]; first | rfl | (simp [errW_none, errW_some] <;> rfl)) | (simp [*, errW_none, errW_some] <;> rfl), by (with_reducible repeat (first | apply Kd.S_alloc | apply Kd.S_drewN | apply Kd.S_drew)); exact Kd.S_mono (Kd.S_far (p := ⟨gb230, 1, none⟩) (Kd.S_far (p := ⟨gb230, 0, none⟩) (Kd.S_far (p := ⟨gb240, 1, none⟩) (Kd.S_types (Kd.S_types HO276.out BK240.out (by decide)) BK230.out (by decide)) (fun _ hk => hk.1.2) (.slice Ao165 y277.length co165)) (fun _ hk => hk.2) (.slice Ao162 y274.length co162)) (fun _ hk => hk.2) (.slice Ao165 y277.length co165)) (fun _ hk => hk.1.1.2), by (with_reducible repeat (first | apply Kd.R_alloc | apply Kd.R_drewN | apply Kd.R_drew)); exact Kd.R_mono (Kd.R_far (p := ⟨gb230, 1, none⟩) (Kd.R_far (p := ⟨gb230, 0, none⟩) (Kd.R_far (p := ⟨gb240, 1, none⟩) (Kd.R_types (Kd.R_types HO279.out BK240.out (by decide)) BK230.out (by decide)) (fun _ hk => hk.1.2) (.slice Ao165 y277.length co165)) (fun _ hk => hk.2) (.slice Ao162 y274.length co162)) (fun _ hk => hk.2) (.slice Ao165 y277.length co165)) (fun _ hk => trivial), Op.ht HB.out⟩
              ·rw [if_neg c133] at H
               exact absurd H (by simp)
             ·rw [if_neg c132] at H
              exact absurd H (by simp)
            ·rw [if_neg c130] at H
             exact absurd H (by simp)
           ·rw [if_neg c129] at H
            exact absurd H (by simp)
         ·rw [if_neg c77] at H
          exact absurd H (by simp)
        ·rw [if_neg c76] at H
         exact absurd H (by simp)
       ·rw [if_neg c74] at H
        exact absurd H (by simp)
      ·rw [if_neg c73] at H
       exact absurd H (by simp)

end Go.Proofs.Ytnafnpoflheonaa.PFnVersions
