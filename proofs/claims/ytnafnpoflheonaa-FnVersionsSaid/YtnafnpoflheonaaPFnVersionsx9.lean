/- Contracts of functions of the translation, written by a program of this repo (a changed copy of the printer). Not trusted: Lean checks it. -/
-- squeezed
-- compact
import Derived.Test.YtnafnpoflheonaaCc
import Derived.Test.YtnafnpoflheonaaPFnVersionsx0
import Derived.Test.YtnafnpoflheonaaPFnVersionsx4
import Derived.Test.YtnafnpoflheonaaPFnVersionsx6
import Derived.Test.YtnafnpoflheonaaPFnVersionsx8
namespace Go.Proofs.Ytnafnpoflheonaa.PFnVersions
open Go.RowKit Go.Proofs.YtnafnpoflheonaaW.PrintWords Go.Proofs.YtnafnpoflheonaaW.PrintLast Go.Proofs.YtnafnpoflheonaaW.PrintMore
attribute [local go_sem] max2_int min2_int max_two min_two max_three min_three max_four min_four   -- for this text's walks alone
set_option linter.unusedVariables false
set_option linter.unusedSimpArgs false

/-! ### spec_l1Cur_pool: function 69 -/
mutual
def spec_l1Cur_pool.j0 : Nat → Int → List Int → Int → Int → List (S65) → List Int → Option ((List (S65)) × List Int × Int × Int)
 | 0, _, _, _, _, _, _ => none
 | k + 1, x4, x1000, x1001, x1002, x364000, x364001 => spec_l1Cur_pool.l0 k x4 x1000 x1001 x1002 x364000 x364001
def spec_l1Cur_pool.l0 : Nat → Int → List Int → Int → Int → List (S65) → List Int → Option ((List (S65)) × List Int × Int × Int)
 | 0, _, _, _, _, _, _ => none
 | k + 1, x4, x1000, x1001, x1002, x364000, x364001 => if x4 > 0 then ((spec_l1Cur_pick.f x1000 x1001 x1002 (x364001.length : Int)).bind fun bt370 => ((spec_l1Cur_one.f x1000 bt370.2.1 bt370.2.2 5).bind fun bt373 => (if bt373.1 = true then ((spec_CloneOf.f k x364000 x364001 bt370.1).bind fun bt376 => (if bt376.2.2 = true then (spec_l1Cur_pool.l0 k (wrap64 (x4 - 1)) x1000 bt373.2.1 bt373.2.2 bt376.1 bt376.2.1) else (spec_l1Cur_pool.l0 k (wrap64 (x4 - 1)) x1000 bt373.2.1 bt373.2.2 x364000 x364001))) else ((spec_l1Cur_pick.f x1000 bt373.2.1 bt373.2.2 16).bind fun bt384 => ((spec_l1Cur_pick.f x1000 bt384.2.1 bt384.2.2 9).bind fun bt387 => ((spec_PutIn.f k x364000 x364001 bt370.1 bt384.1 bt387.1).bind fun bt390 => (if bt390.2.2 = true then (spec_l1Cur_pool.l0 k (wrap64 (x4 - 1)) x1000 bt387.2.1 bt387.2.2 bt390.1 bt390.2.1) else (spec_l1Cur_pool.l0 k (wrap64 (x4 - 1)) x1000 bt387.2.1 bt387.2.2 x364000 x364001)))))))) else ((spec_l1Cur_one.f x1000 x1001 x1002 4).bind fun bt398 => (if bt398.1 = true then (spec_l1Cur_pool.j2 k (decide ((x364001.length : Int) > 1)) x1000 bt398.2.1 bt398.2.2 x364000 x364001) else (spec_l1Cur_pool.j2 k false x1000 bt398.2.1 bt398.2.2 x364000 x364001)))
def spec_l1Cur_pool.j2 : Nat → Bool → List Int → Int → Int → List (S65) → List Int → Option ((List (S65)) × List Int × Int × Int)
 | 0, _, _, _, _, _, _ => none
 | k + 1, x53, x1000, x1001, x1002, x364000, x364001 => if x53 = true then ((spec_l1Cur_pick.f x1000 x1001 x1002 (x364001.length : Int)).bind fun bt401 => ((spec_l10Without.f x364001 bt401.1).bind fun t404 => (spec_l1Cur_pool.j3 k x1000 bt401.2.1 bt401.2.2 x364000 t404))) else (spec_l1Cur_pool.j3 k x1000 x1001 x1002 x364000 x364001)
def spec_l1Cur_pool.j3 : Nat → List Int → Int → Int → List (S65) → List Int → Option ((List (S65)) × List Int × Int × Int)
 | 0, _, _, _, _, _ => none
 | k + 1, x1000, x1001, x1002, x364000, x364001 => (spec_l1Cur_pick.f x1000 x1001 x1002 30).bind fun bt407 => (if bt407.1 = 0 then ((spec_l1Cur_pick.f x1000 bt407.2.1 bt407.2.2 9).bind fun bt410 => (if 0 < (x364001.length : Int) then (some (x364000, (x364001.set (0 : Int).toNat (wrap64 (bt410.1 - 1))), bt410.2.1, bt410.2.2)) else (none))) else (if bt407.1 = 1 then (if (x364000.length : Int) > 0 then (if 0 < (x364000.length : Int) then ((spec_l1Cur_among.f x1000 bt407.2.1 bt407.2.2 (([(-1), 9999, 10000] : List Int))).bind fun bt418 => (if 0 < (((rd_T65 x364000 0).f0).length : Int) then (some ((x364000.set (0 : Int).toNat (⟨(((rd_T65 x364000 0).f0).set (0 : Int).toNat bt418.1), (rd_T65 x364000 0).f1⟩ : S65)), x364001, bt418.2.1, bt418.2.2)) else (none))) else (none)) else (some (x364000, x364001, bt407.2.1, bt407.2.2))) else (some (x364000, x364001, bt407.2.1, bt407.2.2))))
end
def spec_l1Cur_pool.f (k : Nat) (s0_0 : List Int) (s0_1 : Int) (s0_2 : Int) : Option ((List (S65)) × List Int × Int × Int) := (spec_NewPool.f).bind fun bt357 => ((spec_l1Cur_pick.f s0_0 s0_1 s0_2 9).bind fun bt364 => ((spec_l1Cur_one.f s0_0 bt364.2.1 bt364.2.2 20).bind fun bt367 => (if bt367.1 = true then (spec_l1Cur_pool.j0 k 42 s0_0 bt367.2.1 bt367.2.2 bt357.1 bt357.2) else (spec_l1Cur_pool.j0 k bt364.1 s0_0 bt367.2.1 bt367.2.2 bt357.1 bt357.2))))
theorem spec_l1Cur_pool.mono_l : ∀ k, (∀ y0 y1 y2 y3 y4 y5, LeO (spec_l1Cur_pool.j0 k y0 y1 y2 y3 y4 y5) (spec_l1Cur_pool.j0 (k + 1) y0 y1 y2 y3 y4 y5)) ∧ (∀ y0 y1 y2 y3 y4 y5, LeO (spec_l1Cur_pool.l0 k y0 y1 y2 y3 y4 y5) (spec_l1Cur_pool.l0 (k + 1) y0 y1 y2 y3 y4 y5)) ∧ (∀ y0 y1 y2 y3 y4 y5, LeO (spec_l1Cur_pool.j2 k y0 y1 y2 y3 y4 y5) (spec_l1Cur_pool.j2 (k + 1) y0 y1 y2 y3 y4 y5)) ∧ (∀ y0 y1 y2 y3 y4, LeO (spec_l1Cur_pool.j3 k y0 y1 y2 y3 y4) (spec_l1Cur_pool.j3 (k + 1) y0 y1 y2 y3 y4))
 | 0 => ⟨fun _ _ _ _ _ _ r h => by simp [spec_l1Cur_pool.j0] at h, fun _ _ _ _ _ _ r h => by simp [spec_l1Cur_pool.l0] at h, fun _ _ _ _ _ _ r h => by simp [spec_l1Cur_pool.j2] at h, fun _ _ _ _ _ r h => by simp [spec_l1Cur_pool.j3] at h⟩
 | k + 1 => by
  obtain ⟨ih0, ih1, ih2, ih3⟩ := spec_l1Cur_pool.mono_l k
  refine ⟨?_, ?_, ?_, ?_⟩
  ·intro y0 y1 y2 y3 y4 y5
   unfold spec_l1Cur_pool.j0
   repeat' first
   | (with_reducible exact ih0 _ _ _ _ _ _)
   | (with_reducible exact ih1 _ _ _ _ _ _)
   | (with_reducible exact ih2 _ _ _ _ _ _)
   | (with_reducible exact ih3 _ _ _ _ _)
   | (with_reducible exact spec_CloneOf.mono _ _ _ _)
   | (with_reducible exact spec_PutIn.mono _ _ _ _ _ _)
   | (with_reducible exact LeO.refl _)
   | (with_reducible exact LeO.none _)
   | (with_reducible refine LeO.ite ?_ ?_)
   | (with_reducible refine LeO.bind ?_ (fun _ => ?_))
   | exact ih0 _ _ _ _ _ _
   | exact ih1 _ _ _ _ _ _
   | exact ih2 _ _ _ _ _ _
   | exact ih3 _ _ _ _ _
   | exact spec_CloneOf.mono _ _ _ _
   | exact spec_PutIn.mono _ _ _ _ _ _
   | exact LeO.none _
   | refine LeO.ite ?_ ?_
   | refine LeO.bind ?_ (fun _ => ?_)
  ·intro y0 y1 y2 y3 y4 y5
   unfold spec_l1Cur_pool.l0
   repeat' first
   | (with_reducible exact ih0 _ _ _ _ _ _)
   | (with_reducible exact ih1 _ _ _ _ _ _)
   | (with_reducible exact ih2 _ _ _ _ _ _)
   | (with_reducible exact ih3 _ _ _ _ _)
   | (with_reducible exact spec_CloneOf.mono _ _ _ _)
   | (with_reducible exact spec_PutIn.mono _ _ _ _ _ _)
   | (with_reducible exact LeO.refl _)
   | (with_reducible exact LeO.none _)
   | (with_reducible refine LeO.ite ?_ ?_)
   | (with_reducible refine LeO.bind ?_ (fun _ => ?_))
   | exact ih0 _ _ _ _ _ _
   | exact ih1 _ _ _ _ _ _
   | exact ih2 _ _ _ _ _ _
   | exact ih3 _ _ _ _ _
   | exact spec_CloneOf.mono _ _ _ _
   | exact spec_PutIn.mono _ _ _ _ _ _
   | exact LeO.none _
   | refine LeO.ite ?_ ?_
   | refine LeO.bind ?_ (fun _ => ?_)
  ·intro y0 y1 y2 y3 y4 y5
   unfold spec_l1Cur_pool.j2
   repeat' first
   | (with_reducible exact ih0 _ _ _ _ _ _)
   | (with_reducible exact ih1 _ _ _ _ _ _)
   | (with_reducible exact ih2 _ _ _ _ _ _)
   | (with_reducible exact ih3 _ _ _ _ _)
   | (with_reducible exact spec_CloneOf.mono _ _ _ _)
   | (with_reducible exact spec_PutIn.mono _ _ _ _ _ _)
   | (with_reducible exact LeO.refl _)
   | (with_reducible exact LeO.none _)
   | (with_reducible refine LeO.ite ?_ ?_)
   | (with_reducible refine LeO.bind ?_ (fun _ => ?_))
   | exact ih0 _ _ _ _ _ _
   | exact ih1 _ _ _ _ _ _
   | exact ih2 _ _ _ _ _ _
   | exact ih3 _ _ _ _ _
   | exact spec_CloneOf.mono _ _ _ _
   | exact spec_PutIn.mono _ _ _ _ _ _
   | exact LeO.none _
   | refine LeO.ite ?_ ?_
   | refine LeO.bind ?_ (fun _ => ?_)
  ·intro y0 y1 y2 y3 y4
   unfold spec_l1Cur_pool.j3
   repeat' first
   | (with_reducible exact ih0 _ _ _ _ _ _)
   | (with_reducible exact ih1 _ _ _ _ _ _)
   | (with_reducible exact ih2 _ _ _ _ _ _)
   | (with_reducible exact ih3 _ _ _ _ _)
   | (with_reducible exact spec_CloneOf.mono _ _ _ _)
   | (with_reducible exact spec_PutIn.mono _ _ _ _ _ _)
   | (with_reducible exact LeO.refl _)
   | (with_reducible exact LeO.none _)
   | (with_reducible refine LeO.ite ?_ ?_)
   | (with_reducible refine LeO.bind ?_ (fun _ => ?_))
   | exact ih0 _ _ _ _ _ _
   | exact ih1 _ _ _ _ _ _
   | exact ih2 _ _ _ _ _ _
   | exact ih3 _ _ _ _ _
   | exact spec_CloneOf.mono _ _ _ _
   | exact spec_PutIn.mono _ _ _ _ _ _
   | exact LeO.none _
   | refine LeO.ite ?_ ?_
   | refine LeO.bind ?_ (fun _ => ?_)
theorem spec_l1Cur_pool.mono : ∀ a0 a1 a2 k, LeO (spec_l1Cur_pool.f k a0 a1 a2) (spec_l1Cur_pool.f (k + 1) a0 a1 a2) := by
 intro a0 a1 a2 k
 obtain ⟨ih0, ih1, ih2, ih3⟩ := spec_l1Cur_pool.mono_l k
 unfold spec_l1Cur_pool.f
 repeat' first
   | (with_reducible exact ih0 _ _ _ _ _ _)
   | (with_reducible exact ih1 _ _ _ _ _ _)
   | (with_reducible exact ih2 _ _ _ _ _ _)
   | (with_reducible exact ih3 _ _ _ _ _)
   | (with_reducible exact spec_CloneOf.mono _ _ _ _)
   | (with_reducible exact spec_PutIn.mono _ _ _ _ _ _)
   | (with_reducible exact LeO.refl _)
   | (with_reducible exact LeO.none _)
   | (with_reducible refine LeO.ite ?_ ?_)
   | (with_reducible refine LeO.bind ?_ (fun _ => ?_))
   | exact ih0 _ _ _ _ _ _
   | exact ih1 _ _ _ _ _ _
   | exact ih2 _ _ _ _ _ _
   | exact ih3 _ _ _ _ _
   | exact spec_CloneOf.mono _ _ _ _
   | exact spec_PutIn.mono _ _ _ _ _ _
   | exact LeO.none _
   | refine LeO.ite ?_ ?_
   | refine LeO.bind ?_ (fun _ => ?_)
def spec_l1Cur_pool.T12 : Bool × List (List Nat × List Nat) := (true, [([], []), ([], []), ([], []), ([2], [2]), ([], []), ([4, 3], [4]), ([0, 1, 3, 5, 5], [0, 1, 3, 5]), ([6], [6]), ([7], [7]), ([7], [7]), ([], []), ([10, 8, 6, 0, 1, 2, 3, 4, 5, 6, 7, 8, 10], [8, 10]), ([9, 11, 0, 1, 2, 3, 4, 5, 6, 7, 8, 9, 10, 11], [9])])
def spec_l1Cur_pool.B12 : List Nat := [0, 0, 0, 4, 0, 28, 63, 127, 255, 255, 0, 1535, 4095]
theorem spec_l1Cur_pool.tab12 : rtab .any (opsOf Try.f69 12) = spec_l1Cur_pool.T12 := by kernel_rfl
theorem spec_l1Cur_pool.bits12 : waitsOk spec_l1Cur_pool.T12.2 spec_l1Cur_pool.B12 = true := by kernel_rfl
def spec_l1Cur_pool.T16 : Bool × List (List Nat × List Nat) := (true, [([], []), ([0], [0]), ([], []), ([], []), ([3], [3]), ([4], [4]), ([2, 5], [2, 5]), ([1, 6, 6], [1, 6]), ([0, 1, 2, 3, 4, 5, 6, 7], []), ([8, 7, 7, 0, 1, 2, 3, 4, 5, 6, 7], [7, 8])])
def spec_l1Cur_pool.B16 : List Nat := [0, 1, 0, 0, 8, 24, 60, 127, 255, 511]
theorem spec_l1Cur_pool.tab16 : rtab .any (opsOf Try.f69 16) = spec_l1Cur_pool.T16 := by kernel_rfl
theorem spec_l1Cur_pool.bits16 : waitsOk spec_l1Cur_pool.T16.2 spec_l1Cur_pool.B16 = true := by kernel_rfl
def spec_l1Cur_pool.T22 : Bool × List (List Nat × List Nat) := (true, [([], []), ([0], [0]), ([1], [1]), ([2], [2]), ([3], [3]), ([], []), ([], []), ([5, 6], [5, 6]), ([4, 0, 1, 2, 3, 4, 5, 6, 7], [4]), ([8, 7, 7, 0, 1, 2, 3, 4, 5, 6, 7], [7, 8])])
def spec_l1Cur_pool.B22 : List Nat := [0, 1, 3, 7, 15, 0, 0, 96, 255, 511]
theorem spec_l1Cur_pool.tab22 : rtab .any (opsOf Try.f69 22) = spec_l1Cur_pool.T22 := by kernel_rfl
theorem spec_l1Cur_pool.bits22 : waitsOk spec_l1Cur_pool.T22.2 spec_l1Cur_pool.B22 = true := by kernel_rfl
set_option maxHeartbeats 8000000 in
set_option maxRecDepth 100000 in
theorem spec_l1Cur_pool.calls (k : Nat) (g : Nat) (s0_0 : List Int) (s0_1 : Int) (s0_2 : Int) (r1 : List (S65)) (r2 : List Int) (r3 : Int) (r4 : Int) (w0 w : World) (hI : IsS80 w0 w g s0_0 s0_1 s0_2) (hB : Below w0.heap.size w0 w) (h : spec_l1Cur_pool.f k s0_0 s0_1 s0_2 = some (r1, r2, r3, r4)) :
  Calls Try.prog 69 #[.pointer (some ⟨g, 0, none⟩)] w fun e w' => ∃ v0_ v1_ : Value, e = .returned (.agg #[v0_, v1_]) ∧ Kd.S k65 65 w' w.heap.size (fun k_ => some k_ ≠ (v1_ : Value).ownBlock) v0_ r1 ∧ Kd.R (Kd.int .i64) 3 w' w.heap.size (fun _ => True) v1_ r2 ∧ IsS80 w0 w' g s0_0 r3 r4 ∧ Below w0.heap.size w0 w' ∧ KeepBut w w' g none := by
 have hu25 := Try.underlying25
 have HI0 := Op.k hI
 have HK := Op.k (KeepBut.refl w g none)
 have HL := Op.k hB.size
 clear hI
 have HW0 := Op.k hB.size
 have HB := Op.k hB
 clear hB
 have H : ((spec_NewPool.f).bind fun bt357 => ((spec_l1Cur_pick.f s0_0 s0_1 s0_2 9).bind fun bt364 => ((spec_l1Cur_one.f s0_0 bt364.2.1 bt364.2.2 20).bind fun bt367 => (if bt367.1 = true then (spec_l1Cur_pool.j0 k 42 s0_0 bt367.2.1 bt367.2.2 bt357.1 bt357.2) else (spec_l1Cur_pool.j0 k bt364.1 s0_0 bt367.2.1 bt367.2.2 bt357.1 bt357.2))))) = some (r1, r2, r3, r4) := h
 clear h
 replace H := Option.bind_eq_some_iff.mp H
 obtain ⟨⟨t357, t360⟩, A20, H⟩ := H
 try dsimp only at H
 have A2 := Op.k A20
 clear A20
 replace H := Option.bind_eq_some_iff.mp H
 obtain ⟨⟨t364, t365, t366⟩, A30, H⟩ := H
 try dsimp only at H
 have A3 := Op.k A30
 clear A30
 replace H := Option.bind_eq_some_iff.mp H
 obtain ⟨⟨t367, t368, t369⟩, A40, H⟩ := H
 try dsimp only at H
 have A4 := Op.k A40
 clear A40
 have HC5 := Op.k H
 clear H
 go_enter Try.func69, Try.ntmps69
 go_upto_if 14 with (first | ((with_reducible refine gate_dst (N := 2) rfl ?_); (try (refine gate_guard (by rfl) ?_; dsimp only)); refine box_event ?hg (N := 2) ?hd (cs := #[.slice none 0 0, .slice none 0 0]) (t := 25) ?hr ?_; (case hd => rfl); (case hg => rfl); (case hr => first | (go_simp; done) | (go_simp; rfl)); intro gb356 hg w6 hbox hb; replace HB := Op.k (Op.a5 (Op.hu HB.out (IsS80.ge HI0.out)) hb); have BK356 := Op.k (hbox); have GW356 := Op.k ((Op.ny hg (Op.kt HK.out) : w.heap.size ≤ gb356)); have GE356 := Op.k ((Nat.le_trans HW0.out (Op.ny hg (Op.kt HK.out) : w.heap.size ≤ gb356) : w0.heap.size ≤ gb356)); replace HK := Op.k (KeepBut.trans (Op.kt HK.out) (KeepBut.of_below hb g none) (.inl rfl)); have NB0_356 := Op.k ((by rw [hg]; exact Nat.ne_of_lt (IsS80.lt (show IsS80 w0 _ g s0_0 s0_1 s0_2 from IsS80.it HI0.out)) : g ≠ gb356)); have NB356_0 := Op.k ((by rw [hg]; exact Nat.ne_of_gt (IsS80.lt (show IsS80 w0 _ g s0_0 s0_1 s0_2 from IsS80.it HI0.out)) : gb356 ≠ g)); replace HI0 := Op.k (IsS80.below (IsS80.it HI0.out) hb); clear hb hbox hg) | ((with_reducible refine gate_callee (f := 13) rfl ?_); refine goesL_ (some 10) rfl rfl Try.func13 (by kernel_rfl) rfl #[] rfl (by (try simp only [List.map_toArray, List.map_cons, List.map_nil]); first | done | rfl | (simp only [List.length_drop, List.length_take]; rfl)) ?_; (with_reducible refine (spec_NewPool.calls  t357 t360 _ A2.out).mono ?_); rintro e w7 ⟨v358, v361, rfl, ho0, ho1, hb⟩; refine ⟨_, rfl, ?_⟩; have HO359 := Op.k (Kd.S_lower ho0 (keep_size (w := w) (g := g) (row := none) (Op.kt HK.out))); have HO362 := Op.k (Kd.R_lower ho1 (keep_size (w := w) (g := g) (row := none) (Op.kt HK.out))); replace BK356 := Op.k (Op.b4 (Op.bt BK356.out) hb); replace HK := Op.k (KeepBut.trans (Op.kt HK.out) (KeepBut.of_below hb g none) (.inl rfl)); replace HB := Op.k (Op.a5 (Op.hu HB.out (IsS80.ge HI0.out)) hb); replace HI0 := Op.k (IsS80.below (IsS80.it HI0.out) hb); (try clear hb); (try clear hb2); (try clear hk); (try clear hi); (try clear ho0); (try clear ho1)) | ((with_reducible refine gate_dst (N := 3) rfl ?_); (try (refine gate_guard (by rfl) ?_; dsimp only)); refine box_event ?hg (N := 3) ?hd (cs := #[.slice none 0 0, .slice none 0 0]) (t := 25) ?hr ?_; (case hd => rfl); (case hg => rfl); (case hr => first | (go_simp; done) | (go_simp; rfl)); intro gb363 hg w8 hbox hb; replace HO359 := Op.k (Kd.S_below (Op.st HO359.out) hb); replace HO362 := Op.k (Kd.R_below (Op.rt HO362.out) hb); replace HB := Op.k (Op.a5 (Op.hu HB.out (IsS80.ge HI0.out)) hb); have BK363 := Op.k (hbox); have GW363 := Op.k ((Op.ny hg (Op.kt HK.out) : w.heap.size ≤ gb363)); have GE363 := Op.k ((Nat.le_trans HW0.out (Op.ny hg (Op.kt HK.out) : w.heap.size ≤ gb363) : w0.heap.size ≤ gb363)); replace HK := Op.k (KeepBut.trans (Op.kt HK.out) (KeepBut.of_below hb g none) (.inl rfl)); have NB356_363 := Op.k ((Op.nl hg (Op.bt BK356.out) : gb356 ≠ gb363)); have NB363_356 := Op.k ((Op.ng hg (Op.bt BK356.out) : gb363 ≠ gb356)); replace BK356 := Op.k (Op.b4 (Op.bt BK356.out) hb); have NB0_363 := Op.k ((by rw [hg]; exact Nat.ne_of_lt (IsS80.lt (show IsS80 w0 _ g s0_0 s0_1 s0_2 from IsS80.it HI0.out)) : g ≠ gb363)); have NB363_0 := Op.k ((by rw [hg]; exact Nat.ne_of_gt (IsS80.lt (show IsS80 w0 _ g s0_0 s0_1 s0_2 from IsS80.it HI0.out)) : gb363 ≠ g)); replace HI0 := Op.k (IsS80.below (IsS80.it HI0.out) hb); clear hb hbox hg; obtain ⟨Ao9, co9, eo9⟩ := Kd.S_slice HO359.out; subst eo9; have hnb10 := NB363_356.out; have hnc10 := NB356_363.out; have hnb11 := NB363_0.out; have hnc11 := NB0_363.out; have hcz12_0 := Op.c0 BK363.out; have hcz12_1 := Op.c1 BK363.out; have hfz12_0 := Op.bf BK363.out 0; have hfz12_1 := Op.bf BK363.out 1; obtain ⟨Ao13, co13, eo13⟩ := Kd.R_slice HO362.out; subst eo13) | ((with_reducible refine gate_callee (f := 70) rfl ?_); refine goesL_ (some 12) rfl rfl Try.func70 (by kernel_rfl) rfl #[.pointer (some ⟨g, 0, none⟩), .int .i64 9] rfl (by (try simp only [List.map_toArray, List.map_cons, List.map_nil]); first | done | rfl | (simp only [List.length_drop, List.length_take]; rfl)) ?_; (with_reducible refine (spec_l1Cur_pick.calls g s0_0 s0_1 s0_2 9 t364 t365 t366 w0 _ ?side1 ?side2 A3.out).mono ?_); (case side1 => exact IsS80.it HI0.out); (case side2 => exact Op.hu HB.out (IsS80.ge HI0.out)); rintro e w14 ⟨rfl, hi, hb, hk⟩; refine ⟨_, rfl, ?_⟩; replace BK356 := Op.k (KeepBut.blk hk (Op.bt BK356.out) NB356_0.out (by simp)); replace HO359 := Op.k (Kd.S_mono (Kd.S_keep (IsS80.apartS (show IsS80 w0 _ g s0_0 s0_1 s0_2 from IsS80.it HI0.out) (Op.sf HO359.out BK363.out) (by decide)) hk (fun _ h => h.2)) (fun _ h => h.1)); replace HO362 := Op.k (Kd.R_mono (Kd.R_keep (IsS80.apart (show IsS80 w0 _ g s0_0 s0_1 s0_2 from IsS80.it HI0.out) (Op.rf HO362.out BK363.out) (by decide)) hk (fun _ h => h.2)) (fun _ h => h.1)); replace BK363 := Op.k (KeepBut.blk hk (g' := gb363) (o := .cells #[.slice Ao9 t357.length co9, .slice Ao13 t360.length co13] 25 (0, 0)) (Op.bv BK363.out) NB363_0.out (by simp)); replace HK := Op.k (KeepBut.trans (Op.kt HK.out) hk (.inl rfl)); replace HB := Op.k (hb); replace HI0 := Op.k (hi); (try clear hb); (try clear hb2); (try clear hk); (try clear hi)) | ((with_reducible refine gate_callee (f := 80) rfl ?_); refine goesL_ (some 14) rfl rfl Try.func80 (by kernel_rfl) rfl #[.pointer (some ⟨g, 0, none⟩), .int .i64 20] rfl (by (try simp only [List.map_toArray, List.map_cons, List.map_nil]); first | done | rfl | (simp only [List.length_drop, List.length_take]; rfl)) ?_; (with_reducible refine (spec_l1Cur_one.calls g s0_0 t365 t366 20 t367 t368 t369 w0 _ ?side1 ?side2 A4.out).mono ?_); (case side1 => exact IsS80.it HI0.out); (case side2 => exact Op.hu HB.out (IsS80.ge HI0.out)); rintro e w15 ⟨rfl, hi, hb, hk⟩; refine ⟨_, rfl, ?_⟩; replace BK356 := Op.k (KeepBut.blk hk (Op.bt BK356.out) NB356_0.out (by simp)); replace HO359 := Op.k (Kd.S_mono (Kd.S_keep (IsS80.apartS (show IsS80 w0 _ g s0_0 t365 t366 from IsS80.it HI0.out) (Op.st HO359.out) (by decide)) hk (fun _ h => h.2)) (fun _ h => h.1)); replace HO362 := Op.k (Kd.R_mono (Kd.R_keep (IsS80.apart (show IsS80 w0 _ g s0_0 t365 t366 from IsS80.it HI0.out) (Op.rt HO362.out) (by decide)) hk (fun _ h => h.2)) (fun _ h => h.1)); replace BK363 := Op.k (KeepBut.blk hk (Op.bt BK363.out) NB363_0.out (by simp)); replace HK := Op.k (KeepBut.trans (Op.kt HK.out) hk (.inl rfl)); replace HB := Op.k (hb); replace HI0 := Op.k (hi); (try clear hb); (try clear hb2); (try clear hk); (try clear hi)))
 (try simp only [Act.put, List.setIfInBounds_toArray, List.set_cons_zero, List.set_cons_succ])
 go_cut [4] (fun v4 wc => ∃ (kq : Nat) (x4_4 : Int), v4 = .int .i64 x4_4 ∧ Aside0 (spec_l1Cur_pool.j0 kq x4_4 s0_0 t368 t369 t357 t360 = some (r1, r2, r3, r4)) ∧ Aside0 (kq ≤ k) ∧ Aside0 (Kd.S k65 65 wc w.heap.size (fun k_ => some k_ ≠ ((.slice Ao13 t360.length co13) : Value).ownBlock) (.slice Ao9 t357.length co9) t357) ∧ Aside0 (Kd.R (Kd.int .i64) 3 wc w.heap.size (fun _ => True) (.slice Ao13 t360.length co13) t360) ∧ Aside0 (wc.heap[gb356]? = some (.cells #[(.slice none 0 0), (.slice none 0 0)] 25 (0, 0))) ∧ Aside0 (wc.heap[gb363]? = some (.cells #[(.slice Ao9 t357.length co9), (.slice Ao13 t360.length co13)] 25 (0, 0))) ∧ Aside0 (IsS80 w0 wc g s0_0 t368 t369) ∧ Aside0 (KeepBut w wc g none) ∧ Aside0 (Below w0.heap.size w0 wc))
 case first =>
  have H := HC5.out
  clear HC5
  by_cases c16 : t367 = true
  ·subst c16
   have H1 : (spec_l1Cur_pool.j0 k 42 s0_0 t368 t369 t357 t360) = some (r1, r2, r3, r4) := by rw [if_pos rfl] at H; exact H
   clear H
   have H := H1
   clear H1
   have H' := Op.k H
   clear H
   go_wp2
   go_meet
   case rel => exact ⟨_, (42), (by first | rfl | (simp; done) | (simp [*]; done)), H', ⟨by first | omega | exact Nat.le_refl _⟩, ⟨Op.st HO359.out⟩, ⟨Op.rt HO362.out⟩, ⟨Op.bt BK356.out⟩, ⟨Op.bt BK363.out⟩, ⟨IsS80.it HI0.out⟩, ⟨Op.kt HK.out⟩, ⟨Op.hu HB.out (IsS80.ge HI0.out)⟩⟩
  ·replace c16 := Bool.eq_false_iff.mpr c16
   subst c16
   have H1 : (spec_l1Cur_pool.j0 k t364 s0_0 t368 t369 t357 t360) = some (r1, r2, r3, r4) := by rw [if_neg (show ¬ (false = true) by decide)] at H; exact H
   clear H
   have H := H1
   clear H1
   have H' := Op.k H
   clear H
   go_wp2
   go_meet
   case rel => exact ⟨_, (t364), (by first | rfl | (simp; done) | (simp [*]; done)), H', ⟨by first | omega | exact Nat.le_refl _⟩, ⟨Op.st HO359.out⟩, ⟨Op.rt HO362.out⟩, ⟨Op.bt BK356.out⟩, ⟨Op.bt BK363.out⟩, ⟨IsS80.it HI0.out⟩, ⟨Op.kt HK.out⟩, ⟨Op.hu HB.out (IsS80.ge HI0.out)⟩⟩
 case rest =>
  clear HC5
  try clear c1
  try clear p2
  try clear c6
  try clear c7
  try clear c8
  try clear c10
  try clear c11
  try clear c13
  try clear c16
  try clear hcz12_0
  try clear hcz12_1
  try clear hfz12_0
  try clear hfz12_1
  obtain ⟨kq, x4_4, rfl, HA, HJ4, HO_364000, HO_364001, BK356, BK363, HI0, HK, HB⟩ := hcut
  cases kq with
  | zero => exact absurd HA.out (by simp [spec_l1Cur_pool.j0])
  | succ kj4 =>
   have H := HA.out
   clear HA
   simp only [spec_l1Cur_pool.j0] at H
   have H' := Op.k H
   clear H
   go_wp2
   go_loopg [4] kj4 (fun kq v4 w' => ∃ (x4_2 : Int) (x1001_2 : Int) (x1002_2 : Int) (x364000_2 : List (S65)) (x364001_2 : List Int) (u364000 : Value) (u364001 : Value), v4 = .int .i64 x4_2 ∧ Aside0 (spec_l1Cur_pool.l0 kq x4_2 s0_0 x1001_2 x1002_2 x364000_2 x364001_2 = some (r1, r2, r3, r4)) ∧ Aside0 (kq ≤ kj4) ∧ Aside0 (Kd.S k65 65 w' w.heap.size (fun k_ => some k_ ≠ (u364001 : Value).ownBlock) u364000 x364000_2) ∧ Aside0 (Kd.R (Kd.int .i64) 3 w' w.heap.size (fun _ => True) u364001 x364001_2) ∧ Aside0 (w'.heap[gb356]? = some (.cells #[(.slice none 0 0), (.slice none 0 0)] 25 (0, 0))) ∧ Aside0 (w'.heap[gb363]? = some (.cells #[u364000, u364001] 25 (0, 0))) ∧ Aside0 (IsS80 w0 w' g s0_0 x1001_2 x1002_2) ∧ Aside0 (KeepBut w w' g none) ∧ Aside0 (Below w0.heap.size w0 w'))
   case atStart => exact ⟨(x4_4), (t368), (t369), (t357), (t360), (.slice Ao9 t357.length co9), (.slice Ao13 t360.length co13), (by first | rfl | (simp; done) | (simp [*]; done)), H', ⟨Nat.le_refl _⟩, ⟨Op.st HO_364000.out⟩, ⟨Op.rt HO_364001.out⟩, ⟨Op.bt BK356.out⟩, ⟨Op.bt BK363.out⟩, ⟨IsS80.it HI0.out⟩, ⟨Op.kt HK.out⟩, ⟨Op.hu HB.out (IsS80.ge HI0.out)⟩⟩
   case round =>
    clear H'
    try clear c1
    try clear p2
    try clear c6
    try clear c7
    try clear c8
    try clear c10
    try clear c11
    try clear c13
    try clear c16
    try clear hcz12_0
    try clear hcz12_1
    try clear hfz12_0
    try clear hfz12_1
    try clear p2
    obtain ⟨x4_2, x1001_2, x1002_2, x364000_2, x364001_2, u364000, u364001, rfl, HA, HK2, HO_364000, HO_364001, BK356, BK363, HI0, HK, HB⟩ := hrel
    cases gk with
    | zero => exact absurd HA.out (by simp [spec_l1Cur_pool.l0])
    | succ k2 =>
     have H := HA.out
     clear HA
     simp only [spec_l1Cur_pool.l0] at H
     by_cases c17 : x4_2 > 0
     ·rw [if_pos c17] at H
      have c17b0 : decide (0 < x4_2) = true := decide_eq_true c17
      clear c17
      replace H := Option.bind_eq_some_iff.mp H
      obtain ⟨⟨t370, t371, t372⟩, A180, H⟩ := H
      try dsimp only at H
      have A18 := Op.k A180
      clear A180
      replace H := Option.bind_eq_some_iff.mp H
      obtain ⟨⟨t373, t374, t375⟩, A190, H⟩ := H
      try dsimp only at H
      have A19 := Op.k A190
      clear A190
      by_cases c20 : t373 = true
      ·subst c20
       have H1 : ((spec_CloneOf.f k2 x364000_2 x364001_2 t370).bind fun bt376 => (if bt376.2.2 = true then (spec_l1Cur_pool.l0 k2 (wrap64 (x4_2 - 1)) s0_0 t374 t375 bt376.1 bt376.2.1) else (spec_l1Cur_pool.l0 k2 (wrap64 (x4_2 - 1)) s0_0 t374 t375 x364000_2 x364001_2))) = some (r1, r2, r3, r4) := by rw [if_pos rfl] at H; exact H
       clear H
       have H := H1
       clear H1
       replace H := Option.bind_eq_some_iff.mp H
       obtain ⟨⟨t376, t379, t382⟩, A210, H⟩ := H
       try dsimp only at H
       have A21 := Op.k A210
       clear A210
       by_cases c22 : t382 = true
       ·subst c22
        have H1 : (spec_l1Cur_pool.l0 k2 (wrap64 (x4_2 - 1)) s0_0 t374 t375 t376 t379) = some (r1, r2, r3, r4) := by rw [if_pos rfl] at H; exact H
        clear H
        have H := H1
        clear H1
        have H' := Op.k H
        clear H
        have hnb23 := NB363_356.out
        have hnc23 := NB356_363.out
        have hnb24 := NB363_0.out
        have hnc24 := NB0_363.out
        have hcz25_0 := Op.c0 BK363.out
        have hcz25_1 := Op.c1 BK363.out
        have hfz25_0 := Op.bf BK363.out 0
        have hfz25_1 := Op.bf BK363.out 1
        obtain ⟨Ao26, co26, eo26⟩ := Kd.R_slice HO_364001.out
        subst eo26
        go_wp2_with (first | ((with_reducible refine gate_callee (f := 70) rfl ?_); refine goesL_ (some 23) rfl rfl Try.func70 (by kernel_rfl) rfl #[.pointer (some ⟨g, 0, none⟩), .int .i64 (x364001_2.length : Int)] rfl (by (try simp only [List.map_toArray, List.map_cons, List.map_nil]); first | done | rfl | (simp only [List.length_drop, List.length_take]; rfl)) ?_; (with_reducible refine (spec_l1Cur_pick.calls g s0_0 x1001_2 x1002_2 (x364001_2.length : Int) t370 t371 t372 w0 _ ?side1 ?side2 A18.out).mono ?_); (case side1 => exact IsS80.it HI0.out); (case side2 => exact Op.hu HB.out (IsS80.ge HI0.out)); rintro e w27 ⟨rfl, hi, hb, hk⟩; refine ⟨_, rfl, ?_⟩; replace HO_364000 := Op.k (Kd.S_mono (Kd.S_keep (IsS80.apartS (show IsS80 w0 _ g s0_0 x1001_2 x1002_2 from IsS80.it HI0.out) (Op.st HO_364000.out) (by decide)) hk (fun _ h => h.2)) (fun _ h => h.1)); replace HO_364001 := Op.k (Kd.R_mono (Kd.R_keep (IsS80.apart (show IsS80 w0 _ g s0_0 x1001_2 x1002_2 from IsS80.it HI0.out) (Op.rt HO_364001.out) (by decide)) hk (fun _ h => h.2)) (fun _ h => h.1)); replace BK356 := Op.k (KeepBut.blk hk (Op.bt BK356.out) NB356_0.out (by simp)); replace BK363 := Op.k (KeepBut.blk hk (Op.bt BK363.out) NB363_0.out (by simp)); replace HK := Op.k (KeepBut.trans (Op.kt HK.out) hk (.inl rfl)); replace HB := Op.k (hb); replace HI0 := Op.k (hi); (try clear hb); (try clear hb2); (try clear hk); (try clear hi)) | ((with_reducible refine gate_callee (f := 80) rfl ?_); refine goesL_ (some 25) rfl rfl Try.func80 (by kernel_rfl) rfl #[.pointer (some ⟨g, 0, none⟩), .int .i64 5] rfl (by (try simp only [List.map_toArray, List.map_cons, List.map_nil]); first | done | rfl | (simp only [List.length_drop, List.length_take]; rfl)) ?_; (with_reducible refine (spec_l1Cur_one.calls g s0_0 t371 t372 5 true t374 t375 w0 _ ?side1 ?side2 A19.out).mono ?_); (case side1 => exact IsS80.it HI0.out); (case side2 => exact Op.hu HB.out (IsS80.ge HI0.out)); rintro e w28 ⟨rfl, hi, hb, hk⟩; refine ⟨_, rfl, ?_⟩; replace HO_364000 := Op.k (Kd.S_mono (Kd.S_keep (IsS80.apartS (show IsS80 w0 _ g s0_0 t371 t372 from IsS80.it HI0.out) (Op.st HO_364000.out) (by decide)) hk (fun _ h => h.2)) (fun _ h => h.1)); replace HO_364001 := Op.k (Kd.R_mono (Kd.R_keep (IsS80.apart (show IsS80 w0 _ g s0_0 t371 t372 from IsS80.it HI0.out) (Op.rt HO_364001.out) (by decide)) hk (fun _ h => h.2)) (fun _ h => h.1)); replace BK356 := Op.k (KeepBut.blk hk (Op.bt BK356.out) NB356_0.out (by simp)); replace BK363 := Op.k (KeepBut.blk hk (Op.bt BK363.out) NB363_0.out (by simp)); replace HK := Op.k (KeepBut.trans (Op.kt HK.out) hk (.inl rfl)); replace HB := Op.k (hb); replace HI0 := Op.k (hi); (try clear hb); (try clear hb2); (try clear hk); (try clear hi); have hcz29_0 := Op.c0 BK363.out; have hcz29_1 := Op.c1 BK363.out; have hfz29_0 := Op.bf BK363.out 0; have hfz29_1 := Op.bf BK363.out 1; obtain ⟨Ao30, co30, eo30⟩ := Kd.S_slice HO_364000.out; subst eo30) | ((with_reducible refine gate_callee (f := 31) rfl ?_); refine goesL_ (some 29) rfl rfl Try.func31 (by kernel_rfl) rfl #[.agg #[.slice Ao30 x364000_2.length co30, .slice Ao26 x364001_2.length co26], .int .i64 t370] rfl (by (try simp only [List.map_toArray, List.map_cons, List.map_nil]); first | done | rfl | (simp only [List.length_drop, List.length_take]; rfl)) ?_; (with_reducible refine (spec_CloneOf.calls k2 _ _ x364000_2 _ _ x364001_2 t370 t376 t379 true _ ?side1 ?side2 ?side3 ?side4 A21.out).mono ?_); (case side1 => exact Op.ct (Kd.S_reads' HO_364000.out).2.2); (case side2 => exact (Kd.S_reads' HO_364000.out).2.1); (case side3 => exact Op.ct (Kd.R_reads' HO_364001.out).2.2); (case side4 => exact (Kd.R_reads' HO_364001.out).2.1); rintro e w31 ⟨v377, v380, rfl, ho0, ho1, hb⟩; refine ⟨_, rfl, ?_⟩; have HO378 := Op.k (Kd.S_lower (Kd.S_new' (Kd.S_new' ho0 (Kd.S_lt (Op.st HO_364000.out))) (Kd.R_lt (Op.rt HO_364001.out))) (keep_size (w := w) (g := g) (row := none) (Op.kt HK.out))); replace HO_364000 := Op.k (Kd.S_mono (Kd.S_told (Kd.S_told (Kd.S_old (Op.st HO_364000.out) hb) (Kd.S_base ho0)) (Kd.R_base ho1)) (fun _ h_ => h_.1)); have HO381 := Op.k (Kd.R_lower (Kd.R_new' ho1 (Kd.R_lt (Op.rt HO_364001.out))) (keep_size (w := w) (g := g) (row := none) (Op.kt HK.out))); replace HO_364001 := Op.k (Kd.R_elder' (Op.rt HO_364001.out) (Kd.R_base ho1) hb); replace BK356 := Op.k (Op.b4 (Op.bt BK356.out) hb); replace BK363 := Op.k (Op.b4 (Op.bt BK363.out) hb); replace HK := Op.k (KeepBut.trans (Op.kt HK.out) (KeepBut.of_below hb g none) (.inl rfl)); replace HB := Op.k (Op.a5 (Op.hu HB.out (IsS80.ge HI0.out)) hb); replace HI0 := Op.k (IsS80.below (IsS80.it HI0.out) hb); (try clear hb); (try clear hb2); (try clear hk); (try clear hi); (try clear ho0); (try clear ho1)) | ((with_reducible refine gate_dst (N := 6) rfl ?_); (try (refine gate_guard (by rfl) ?_; dsimp only)); refine box_event ?hg (N := 6) ?hd (cs := #[.slice none 0 0, .slice none 0 0]) (t := 25) ?hr ?_; (case hd => rfl); (case hg => rfl); (case hr => first | (go_simp; done) | (go_simp; rfl)); intro gb383 hg w32 hbox hb; replace HO_364000 := Op.k (Kd.S_below (Op.st HO_364000.out) hb); replace HO_364001 := Op.k (Kd.R_below (Op.rt HO_364001.out) hb); replace HO378 := Op.k (Kd.S_below (Op.st HO378.out) hb); replace HO381 := Op.k (Kd.R_below (Op.rt HO381.out) hb); replace HB := Op.k (Op.a5 (Op.hu HB.out (IsS80.ge HI0.out)) hb); have BK383 := Op.k (hbox); have GW383 := Op.k ((Op.ny hg (Op.kt HK.out) : w.heap.size ≤ gb383)); have GE383 := Op.k ((Nat.le_trans HW0.out (Op.ny hg (Op.kt HK.out) : w.heap.size ≤ gb383) : w0.heap.size ≤ gb383)); replace HK := Op.k (KeepBut.trans (Op.kt HK.out) (KeepBut.of_below hb g none) (.inl rfl)); have NB356_383 := Op.k ((Op.nl hg (Op.bt BK356.out) : gb356 ≠ gb383)); have NB383_356 := Op.k ((Op.ng hg (Op.bt BK356.out) : gb383 ≠ gb356)); replace BK356 := Op.k (Op.b4 (Op.bt BK356.out) hb); have NB363_383 := Op.k ((Op.nl hg (Op.bt BK363.out) : gb363 ≠ gb383)); have NB383_363 := Op.k ((Op.ng hg (Op.bt BK363.out) : gb383 ≠ gb363)); replace BK363 := Op.k (Op.b4 (Op.bt BK363.out) hb); have NB0_383 := Op.k ((by rw [hg]; exact Nat.ne_of_lt (IsS80.lt (show IsS80 w0 _ g s0_0 t374 t375 from IsS80.it HI0.out)) : g ≠ gb383)); have NB383_0 := Op.k ((by rw [hg]; exact Nat.ne_of_gt (IsS80.lt (show IsS80 w0 _ g s0_0 t374 t375 from IsS80.it HI0.out)) : gb383 ≠ g)); replace HI0 := Op.k (IsS80.below (IsS80.it HI0.out) hb); clear hb hbox hg; obtain ⟨Ao33, co33, eo33⟩ := Kd.S_slice HO378.out; subst eo33; have hnb34 := NB383_356.out; have hnc34 := NB356_383.out; have hnb35 := NB383_363.out; have hnc35 := NB363_383.out; have hnb36 := NB383_0.out; have hnc36 := NB0_383.out; have hcz37_0 := Op.c0 BK383.out; have hcz37_1 := Op.c1 BK383.out; have hfz37_0 := Op.bf BK383.out 0; have hfz37_1 := Op.bf BK383.out 1; obtain ⟨Ao38, co38, eo38⟩ := Kd.R_slice HO381.out; subst eo38; have hcz39_0 := Op.c0 BK363.out; have hcz39_1 := Op.c1 BK363.out; have hfz39_0 := Op.bf BK363.out 0; have hfz39_1 := Op.bf BK363.out 1))
        go_roundg k2
        case measure => have := HJ4.out; have := HK2.out; omega
        case rel => exact ⟨(wrap64 (x4_2 - 1)), (t374), (t375), (t376), (t379), (.slice Ao33 t376.length co33), (.slice Ao38 t379.length co38), (by first | rfl | (simp; done) | (simp [*]; done)), H', ⟨by have := HJ4.out; have := HK2.out; omega⟩, ⟨by (with_reducible repeat (first | apply Kd.S_alloc | apply Kd.S_drewN | apply Kd.S_drew)); exact Kd.S_mono (Kd.S_far (p := ⟨gb363, 1, none⟩) (Kd.S_far (p := ⟨gb363, 0, none⟩) (Kd.S_far (p := ⟨gb383, 1, none⟩) (Kd.S_far (p := ⟨gb383, 0, none⟩) (Kd.S_types (Kd.S_types HO378.out BK383.out (by decide)) BK363.out (by decide)) (fun _ hk => hk.1.2) (.slice Ao33 t376.length co33)) (fun _ hk => hk.1.2) (.slice Ao38 t379.length co38)) (fun _ hk => hk.2) (.slice Ao33 t376.length co33)) (fun _ hk => hk.2) (.slice Ao38 t379.length co38)) (fun _ hk => hk.1.1.1.1)⟩, ⟨by (with_reducible repeat (first | apply Kd.R_alloc | apply Kd.R_drewN | apply Kd.R_drew)); exact Kd.R_mono (Kd.R_far (p := ⟨gb363, 1, none⟩) (Kd.R_far (p := ⟨gb363, 0, none⟩) (Kd.R_far (p := ⟨gb383, 1, none⟩) (Kd.R_far (p := ⟨gb383, 0, none⟩) (Kd.R_types (Kd.R_types HO381.out BK383.out (by decide)) BK363.out (by decide)) (fun _ hk => hk.1.2) (.slice Ao33 t376.length co33)) (fun _ hk => hk.1.2) (.slice Ao38 t379.length co38)) (fun _ hk => hk.2) (.slice Ao33 t376.length co33)) (fun _ hk => hk.2) (.slice Ao38 t379.length co38)) (fun _ hk => trivial)⟩, ⟨Op.bt BK356.out⟩, ⟨Op.bv BK363.out⟩, ⟨IsS80.it HI0.out⟩, ⟨Op.kt HK.out⟩, ⟨Op.hu HB.out (IsS80.ge HI0.out)⟩⟩
       ·replace c22 := Bool.eq_false_iff.mpr c22
        subst c22
        have H1 : (spec_l1Cur_pool.l0 k2 (wrap64 (x4_2 - 1)) s0_0 t374 t375 x364000_2 x364001_2) = some (r1, r2, r3, r4) := by rw [if_neg (show ¬ (false = true) by decide)] at H; exact H
        clear H
        have H := H1
        clear H1
        have H' := Op.k H
        clear H
        have hnb40 := NB363_356.out
        have hnc40 := NB356_363.out
        have hnb41 := NB363_0.out
        have hnc41 := NB0_363.out
        have hcz42_0 := Op.c0 BK363.out
        have hcz42_1 := Op.c1 BK363.out
        have hfz42_0 := Op.bf BK363.out 0
        have hfz42_1 := Op.bf BK363.out 1
        obtain ⟨Ao43, co43, eo43⟩ := Kd.R_slice HO_364001.out
        subst eo43
        go_wp2_with (first | ((with_reducible refine gate_callee (f := 70) rfl ?_); refine goesL_ (some 23) rfl rfl Try.func70 (by kernel_rfl) rfl #[.pointer (some ⟨g, 0, none⟩), .int .i64 (x364001_2.length : Int)] rfl (by (try simp only [List.map_toArray, List.map_cons, List.map_nil]); first | done | rfl | (simp only [List.length_drop, List.length_take]; rfl)) ?_; (with_reducible refine (spec_l1Cur_pick.calls g s0_0 x1001_2 x1002_2 (x364001_2.length : Int) t370 t371 t372 w0 _ ?side1 ?side2 A18.out).mono ?_); (case side1 => exact IsS80.it HI0.out); (case side2 => exact Op.hu HB.out (IsS80.ge HI0.out)); rintro e w44 ⟨rfl, hi, hb, hk⟩; refine ⟨_, rfl, ?_⟩; replace HO_364000 := Op.k (Kd.S_mono (Kd.S_keep (IsS80.apartS (show IsS80 w0 _ g s0_0 x1001_2 x1002_2 from IsS80.it HI0.out) (Op.st HO_364000.out) (by decide)) hk (fun _ h => h.2)) (fun _ h => h.1)); replace HO_364001 := Op.k (Kd.R_mono (Kd.R_keep (IsS80.apart (show IsS80 w0 _ g s0_0 x1001_2 x1002_2 from IsS80.it HI0.out) (Op.rt HO_364001.out) (by decide)) hk (fun _ h => h.2)) (fun _ h => h.1)); replace BK356 := Op.k (KeepBut.blk hk (Op.bt BK356.out) NB356_0.out (by simp)); replace BK363 := Op.k (KeepBut.blk hk (Op.bt BK363.out) NB363_0.out (by simp)); replace HK := Op.k (KeepBut.trans (Op.kt HK.out) hk (.inl rfl)); replace HB := Op.k (hb); replace HI0 := Op.k (hi); (try clear hb); (try clear hb2); (try clear hk); (try clear hi)) | ((with_reducible refine gate_callee (f := 80) rfl ?_); refine goesL_ (some 25) rfl rfl Try.func80 (by kernel_rfl) rfl #[.pointer (some ⟨g, 0, none⟩), .int .i64 5] rfl (by (try simp only [List.map_toArray, List.map_cons, List.map_nil]); first | done | rfl | (simp only [List.length_drop, List.length_take]; rfl)) ?_; (with_reducible refine (spec_l1Cur_one.calls g s0_0 t371 t372 5 true t374 t375 w0 _ ?side1 ?side2 A19.out).mono ?_); (case side1 => exact IsS80.it HI0.out); (case side2 => exact Op.hu HB.out (IsS80.ge HI0.out)); rintro e w45 ⟨rfl, hi, hb, hk⟩; refine ⟨_, rfl, ?_⟩; replace HO_364000 := Op.k (Kd.S_mono (Kd.S_keep (IsS80.apartS (show IsS80 w0 _ g s0_0 t371 t372 from IsS80.it HI0.out) (Op.st HO_364000.out) (by decide)) hk (fun _ h => h.2)) (fun _ h => h.1)); replace HO_364001 := Op.k (Kd.R_mono (Kd.R_keep (IsS80.apart (show IsS80 w0 _ g s0_0 t371 t372 from IsS80.it HI0.out) (Op.rt HO_364001.out) (by decide)) hk (fun _ h => h.2)) (fun _ h => h.1)); replace BK356 := Op.k (KeepBut.blk hk (Op.bt BK356.out) NB356_0.out (by simp)); replace BK363 := Op.k (KeepBut.blk hk (Op.bt BK363.out) NB363_0.out (by simp)); replace HK := Op.k (KeepBut.trans (Op.kt HK.out) hk (.inl rfl)); replace HB := Op.k (hb); replace HI0 := Op.k (hi); (try clear hb); (try clear hb2); (try clear hk); (try clear hi); have hcz46_0 := Op.c0 BK363.out; have hcz46_1 := Op.c1 BK363.out; have hfz46_0 := Op.bf BK363.out 0; have hfz46_1 := Op.bf BK363.out 1; obtain ⟨Ao47, co47, eo47⟩ := Kd.S_slice HO_364000.out; subst eo47) | ((with_reducible refine gate_callee (f := 31) rfl ?_); refine goesL_ (some 29) rfl rfl Try.func31 (by kernel_rfl) rfl #[.agg #[.slice Ao47 x364000_2.length co47, .slice Ao43 x364001_2.length co43], .int .i64 t370] rfl (by (try simp only [List.map_toArray, List.map_cons, List.map_nil]); first | done | rfl | (simp only [List.length_drop, List.length_take]; rfl)) ?_; (with_reducible refine (spec_CloneOf.calls k2 _ _ x364000_2 _ _ x364001_2 t370 t376 t379 false _ ?side1 ?side2 ?side3 ?side4 A21.out).mono ?_); (case side1 => exact Op.ct (Kd.S_reads' HO_364000.out).2.2); (case side2 => exact (Kd.S_reads' HO_364000.out).2.1); (case side3 => exact Op.ct (Kd.R_reads' HO_364001.out).2.2); (case side4 => exact (Kd.R_reads' HO_364001.out).2.1); rintro e w48 ⟨v377, v380, rfl, ho0, ho1, hb⟩; refine ⟨_, rfl, ?_⟩; have HO378 := Op.k (Kd.S_lower (Kd.S_new' (Kd.S_new' ho0 (Kd.S_lt (Op.st HO_364000.out))) (Kd.R_lt (Op.rt HO_364001.out))) (keep_size (w := w) (g := g) (row := none) (Op.kt HK.out))); replace HO_364000 := Op.k (Kd.S_mono (Kd.S_told (Kd.S_told (Kd.S_old (Op.st HO_364000.out) hb) (Kd.S_base ho0)) (Kd.R_base ho1)) (fun _ h_ => h_.1)); have HO381 := Op.k (Kd.R_lower (Kd.R_new' ho1 (Kd.R_lt (Op.rt HO_364001.out))) (keep_size (w := w) (g := g) (row := none) (Op.kt HK.out))); replace HO_364001 := Op.k (Kd.R_elder' (Op.rt HO_364001.out) (Kd.R_base ho1) hb); replace BK356 := Op.k (Op.b4 (Op.bt BK356.out) hb); replace BK363 := Op.k (Op.b4 (Op.bt BK363.out) hb); replace HK := Op.k (KeepBut.trans (Op.kt HK.out) (KeepBut.of_below hb g none) (.inl rfl)); replace HB := Op.k (Op.a5 (Op.hu HB.out (IsS80.ge HI0.out)) hb); replace HI0 := Op.k (IsS80.below (IsS80.it HI0.out) hb); (try clear hb); (try clear hb2); (try clear hk); (try clear hi); (try clear ho0); (try clear ho1)) | ((with_reducible refine gate_dst (N := 6) rfl ?_); (try (refine gate_guard (by rfl) ?_; dsimp only)); refine box_event ?hg (N := 6) ?hd (cs := #[.slice none 0 0, .slice none 0 0]) (t := 25) ?hr ?_; (case hd => rfl); (case hg => rfl); (case hr => first | (go_simp; done) | (go_simp; rfl)); intro gb383 hg w49 hbox hb; replace HO_364000 := Op.k (Kd.S_below (Op.st HO_364000.out) hb); replace HO_364001 := Op.k (Kd.R_below (Op.rt HO_364001.out) hb); replace HO378 := Op.k (Kd.S_below (Op.st HO378.out) hb); replace HO381 := Op.k (Kd.R_below (Op.rt HO381.out) hb); replace HB := Op.k (Op.a5 (Op.hu HB.out (IsS80.ge HI0.out)) hb); have BK383 := Op.k (hbox); have GW383 := Op.k ((Op.ny hg (Op.kt HK.out) : w.heap.size ≤ gb383)); have GE383 := Op.k ((Nat.le_trans HW0.out (Op.ny hg (Op.kt HK.out) : w.heap.size ≤ gb383) : w0.heap.size ≤ gb383)); replace HK := Op.k (KeepBut.trans (Op.kt HK.out) (KeepBut.of_below hb g none) (.inl rfl)); have NB356_383 := Op.k ((Op.nl hg (Op.bt BK356.out) : gb356 ≠ gb383)); have NB383_356 := Op.k ((Op.ng hg (Op.bt BK356.out) : gb383 ≠ gb356)); replace BK356 := Op.k (Op.b4 (Op.bt BK356.out) hb); have NB363_383 := Op.k ((Op.nl hg (Op.bt BK363.out) : gb363 ≠ gb383)); have NB383_363 := Op.k ((Op.ng hg (Op.bt BK363.out) : gb383 ≠ gb363)); replace BK363 := Op.k (Op.b4 (Op.bt BK363.out) hb); have NB0_383 := Op.k ((by rw [hg]; exact Nat.ne_of_lt (IsS80.lt (show IsS80 w0 _ g s0_0 t374 t375 from IsS80.it HI0.out)) : g ≠ gb383)); have NB383_0 := Op.k ((by rw [hg]; exact Nat.ne_of_gt (IsS80.lt (show IsS80 w0 _ g s0_0 t374 t375 from IsS80.it HI0.out)) : gb383 ≠ g)); replace HI0 := Op.k (IsS80.below (IsS80.it HI0.out) hb); clear hb hbox hg; obtain ⟨Ao50, co50, eo50⟩ := Kd.S_slice HO378.out; subst eo50; have hnb51 := NB383_356.out; have hnc51 := NB356_383.out; have hnb52 := NB383_363.out; have hnc52 := NB363_383.out; have hnb53 := NB383_0.out; have hnc53 := NB0_383.out; have hcz54_0 := Op.c0 BK383.out; have hcz54_1 := Op.c1 BK383.out; have hfz54_0 := Op.bf BK383.out 0; have hfz54_1 := Op.bf BK383.out 1; obtain ⟨Ao55, co55, eo55⟩ := Kd.R_slice HO381.out; subst eo55))
        go_roundg k2
        case measure => have := HJ4.out; have := HK2.out; omega
        case rel => exact ⟨(wrap64 (x4_2 - 1)), (t374), (t375), (x364000_2), (x364001_2), (.slice Ao47 x364000_2.length co47), (.slice Ao43 x364001_2.length co43), (by first | rfl | (simp; done) | (simp [*]; done)), H', ⟨by have := HJ4.out; have := HK2.out; omega⟩, ⟨Kd.S_mono (Op.sf HO_364000.out BK383.out) (fun _ hk => hk.1.1)⟩, ⟨Kd.R_mono (Op.rf HO_364001.out BK383.out) (fun _ hk => trivial)⟩, ⟨Op.bt BK356.out⟩, ⟨Op.bt BK363.out⟩, ⟨IsS80.it HI0.out⟩, ⟨Op.kt HK.out⟩, ⟨Op.hu HB.out (IsS80.ge HI0.out)⟩⟩
      ·replace c20 := Bool.eq_false_iff.mpr c20
       subst c20
       have H1 : ((spec_l1Cur_pick.f s0_0 t374 t375 16).bind fun bt384 => ((spec_l1Cur_pick.f s0_0 bt384.2.1 bt384.2.2 9).bind fun bt387 => ((spec_PutIn.f k2 x364000_2 x364001_2 t370 bt384.1 bt387.1).bind fun bt390 => (if bt390.2.2 = true then (spec_l1Cur_pool.l0 k2 (wrap64 (x4_2 - 1)) s0_0 bt387.2.1 bt387.2.2 bt390.1 bt390.2.1) else (spec_l1Cur_pool.l0 k2 (wrap64 (x4_2 - 1)) s0_0 bt387.2.1 bt387.2.2 x364000_2 x364001_2))))) = some (r1, r2, r3, r4) := by rw [if_neg (show ¬ (false = true) by decide)] at H; exact H
       clear H
       have H := H1
       clear H1
       replace H := Option.bind_eq_some_iff.mp H
       obtain ⟨⟨t384, t385, t386⟩, A560, H⟩ := H
       try dsimp only at H
       have A56 := Op.k A560
       clear A560
       replace H := Option.bind_eq_some_iff.mp H
       obtain ⟨⟨t387, t388, t389⟩, A570, H⟩ := H
       try dsimp only at H
       have A57 := Op.k A570
       clear A570
       replace H := Option.bind_eq_some_iff.mp H
       obtain ⟨⟨t390, t393, t396⟩, A580, H⟩ := H
       try dsimp only at H
       have A58 := Op.k A580
       clear A580
       by_cases c59 : t396 = true
       ·subst c59
        have H1 : (spec_l1Cur_pool.l0 k2 (wrap64 (x4_2 - 1)) s0_0 t388 t389 t390 t393) = some (r1, r2, r3, r4) := by rw [if_pos rfl] at H; exact H
        clear H
        have H := H1
        clear H1
        have H' := Op.k H
        clear H
        have hnb60 := NB363_356.out
        have hnc60 := NB356_363.out
        have hnb61 := NB363_0.out
        have hnc61 := NB0_363.out
        have hcz62_0 := Op.c0 BK363.out
        have hcz62_1 := Op.c1 BK363.out
        have hfz62_0 := Op.bf BK363.out 0
        have hfz62_1 := Op.bf BK363.out 1
        obtain ⟨Ao63, co63, eo63⟩ := Kd.R_slice HO_364001.out
        subst eo63
        try go_wp2_with (first | ((with_reducible refine gate_callee (f := 70) rfl ?_); refine goesL_ (some 23) rfl rfl Try.func70 (by kernel_rfl) rfl #[.pointer (some ⟨g, 0, none⟩), .int .i64 (x364001_2.length : Int)] rfl (by (try simp only [List.map_toArray, List.map_cons, List.map_nil]); first | done | rfl | (simp only [List.length_drop, List.length_take]; rfl)) ?_; (with_reducible refine (spec_l1Cur_pick.calls g s0_0 x1001_2 x1002_2 (x364001_2.length : Int) t370 t371 t372 w0 _ ?side1 ?side2 A18.out).mono ?_); (case side1 => exact IsS80.it HI0.out); (case side2 => exact Op.hu HB.out (IsS80.ge HI0.out)); rintro e w64 ⟨rfl, hi, hb, hk⟩; refine ⟨_, rfl, ?_⟩; replace HO_364000 := Op.k (Kd.S_mono (Kd.S_keep (IsS80.apartS (show IsS80 w0 _ g s0_0 x1001_2 x1002_2 from IsS80.it HI0.out) (Op.st HO_364000.out) (by decide)) hk (fun _ h => h.2)) (fun _ h => h.1)); replace HO_364001 := Op.k (Kd.R_mono (Kd.R_keep (IsS80.apart (show IsS80 w0 _ g s0_0 x1001_2 x1002_2 from IsS80.it HI0.out) (Op.rt HO_364001.out) (by decide)) hk (fun _ h => h.2)) (fun _ h => h.1)); replace BK356 := Op.k (KeepBut.blk hk (Op.bt BK356.out) NB356_0.out (by simp)); replace BK363 := Op.k (KeepBut.blk hk (Op.bt BK363.out) NB363_0.out (by simp)); replace HK := Op.k (KeepBut.trans (Op.kt HK.out) hk (.inl rfl)); replace HB := Op.k (hb); replace HI0 := Op.k (hi); (try clear hb); (try clear hb2); (try clear hk); (try clear hi)) | ((with_reducible refine gate_callee (f := 80) rfl ?_); refine goesL_ (some 25) rfl rfl Try.func80 (by kernel_rfl) rfl #[.pointer (some ⟨g, 0, none⟩), .int .i64 5] rfl (by (try simp only [List.map_toArray, List.map_cons, List.map_nil]); first | done | rfl | (simp only [List.length_drop, List.length_take]; rfl)) ?_; (with_reducible refine (spec_l1Cur_one.calls g s0_0 t371 t372 5 false t374 t375 w0 _ ?side1 ?side2 A19.out).mono ?_); (case side1 => exact IsS80.it HI0.out); (case side2 => exact Op.hu HB.out (IsS80.ge HI0.out)); rintro e w65 ⟨rfl, hi, hb, hk⟩; refine ⟨_, rfl, ?_⟩; replace HO_364000 := Op.k (Kd.S_mono (Kd.S_keep (IsS80.apartS (show IsS80 w0 _ g s0_0 t371 t372 from IsS80.it HI0.out) (Op.st HO_364000.out) (by decide)) hk (fun _ h => h.2)) (fun _ h => h.1)); replace HO_364001 := Op.k (Kd.R_mono (Kd.R_keep (IsS80.apart (show IsS80 w0 _ g s0_0 t371 t372 from IsS80.it HI0.out) (Op.rt HO_364001.out) (by decide)) hk (fun _ h => h.2)) (fun _ h => h.1)); replace BK356 := Op.k (KeepBut.blk hk (Op.bt BK356.out) NB356_0.out (by simp)); replace BK363 := Op.k (KeepBut.blk hk (Op.bt BK363.out) NB363_0.out (by simp)); replace HK := Op.k (KeepBut.trans (Op.kt HK.out) hk (.inl rfl)); replace HB := Op.k (hb); replace HI0 := Op.k (hi); (try clear hb); (try clear hb2); (try clear hk); (try clear hi); obtain ⟨Ao66, co66, eo66⟩ := Kd.S_slice HO_364000.out; subst eo66))
        replace HO_364000 := Op.k (Kd.S_drew HO_364000.out)
        replace HO_364001 := Op.k (Kd.R_drew HO_364001.out)
        replace BK356 := Op.k (Op.b2 BK356.out)
        replace BK363 := Op.k (Op.b2 BK363.out)
        replace HI0 := Op.k (IsS80.drew HI0.out)
        replace HK := Op.k (keep_drew HK.out)
        replace HB := Op.k (Op.a3 HB.out)
        refine start_ (n := 13) (S := fun w' => w'.cell? ⟨gb363, 0, none⟩ = some (.slice Ao66 x364000_2.length co66) ∧ w'.cell? ⟨gb363, 1, none⟩ = some (.slice Ao63 x364001_2.length co63)) (ds := []) #[false, false, false, false, false, false, false, false, false, false, false, false, false] (by kernel_rfl) rfl rfl ⟨(blk_cell BK363.out 0).trans rfl, (blk_cell BK363.out 1).trans rfl⟩ (fun hHeld => ?_); refine with_tabW spec_l1Cur_pool.tab12 spec_l1Cur_pool.bits12 (fun HT_ HW_ => ?_)
        generalize w65.drew = w67 at HO_364000 HO_364001 BK356 BK363 HI0 HK HB hHeld ⊢
        refine pure_ (i := 1) (N := some 36) (v := ?_) (a' := ?_) #[false, true, false, false, false, false, false, false, false, false, false, false, false] rfl rfl (any_of HT_.out (by kernel_rfl)) (fun _ _ _ h => h) (Or.inl ⟨by rfl, ?_⟩) ?_ ?_
        rotate_left
        ·intro w'
         go_simp
         with_reducible rfl
        rotate_left
        ·simp only [Act.put, List.setIfInBounds_toArray, List.set_cons_zero, List.set_cons_succ, i64_w, i32_w]
         rfl
        refine pure_ (i := 2) (N := some 37) (v := ?_) (a' := ?_) #[false, true, true, false, false, false, false, false, false, false, false, false, false] rfl rfl (any_of HT_.out (by kernel_rfl)) (fun _ _ _ h => h) (Or.inl ⟨by rfl, ?_⟩) ?_ ?_
        rotate_left
        ·intro w'
         go_simp
         with_reducible rfl
        rotate_left
        ·simp only [Act.put, List.setIfInBounds_toArray, List.set_cons_zero, List.set_cons_succ, i64_w, i32_w]
         rfl
        refine pure_ (i := 4) (N := some 39) (v := ?_) (a' := ?_) #[false, true, true, false, true, false, false, false, false, false, false, false, false] rfl rfl (any_of HT_.out (by kernel_rfl)) (fun _ _ _ h => h) (Or.inl ⟨by rfl, ?_⟩) ?_ ?_
        rotate_left
        ·intro w'
         go_simp
         with_reducible rfl
        rotate_left
        ·simp only [Act.put, List.setIfInBounds_toArray, List.set_cons_zero, List.set_cons_succ, i64_w, i32_w]
         rfl
        refine take_ (i := 0) (N := some 35) (v := ?_) (a' := ?_) #[true, true, true, false, true, false, false, false, false, false, false, false, false] rfl rfl (take_ofW HT_.out HW_.out (by kernel_rfl)) (fun _ _ _ h => h) (Or.inl ⟨by rfl, ?_⟩) hHeld ?_ ?_
        rotate_left
        ·rintro w' ⟨s0, s1⟩
         go_simp
         with_reducible rfl
        rotate_left
        ·simp only [Act.put, List.setIfInBounds_toArray, List.set_cons_zero, List.set_cons_succ, i64_w, i32_w]
         rfl
        refine join_ (σ := Value × Value × Nat) 2 #[true, true, true, true, true, true, true, true, true, true, true, false, false] (fun s_ => [(38, .int .i64 t384), (40, .int .i64 t387), (41, .tuple #[.agg #[s_.1, s_.2.1], .bool true]), (8, .pointer (some ⟨s_.2.2, 0, none⟩)), (34, .tuple #[.agg #[s_.1, s_.2.1], .bool true]), (42, .agg #[s_.1, s_.2.1]), (43, .bool true)]) (fun s_ w' => (w'.cell? ⟨gb363, 0, none⟩ = some (.slice Ao66 x364000_2.length co66) ∧ w'.cell? ⟨gb363, 1, none⟩ = some (.slice Ao63 x364001_2.length co63)) ∧ (Kd.S k65 65 w' w.heap.size (fun k_ => some k_ ≠ (s_.2.1 : Value).ownBlock ∧ some k_ ≠ (.slice Ao66 x364000_2.length co66 : Value).ownBlock ∧ some k_ ≠ (.slice Ao63 x364001_2.length co63 : Value).ownBlock) s_.1 t390) ∧ (Kd.R (Kd.int .i64) 3 w' w.heap.size (fun k_ => some k_ ≠ (.slice Ao63 x364001_2.length co63 : Value).ownBlock) s_.2.1 t393) ∧ (Kd.S k65 65 w' w.heap.size (fun k_ => some k_ ≠ (s_.1 : Value).ownBlock ∧ some k_ ≠ (s_.2.1 : Value).ownBlock ∧ some k_ ≠ (.slice Ao63 x364001_2.length co63 : Value).ownBlock) (.slice Ao66 x364000_2.length co66) x364000_2) ∧ (Kd.R (Kd.int .i64) 3 w' w.heap.size (fun k_ => some k_ ≠ (s_.2.1 : Value).ownBlock) (.slice Ao63 x364001_2.length co63) x364001_2) ∧ (w'.heap[gb356]? = some (.cells #[.slice none 0 0, .slice none 0 0] 25 (0, 0))) ∧ (w'.heap[gb363]? = some (.cells #[.slice Ao66 x364000_2.length co66, .slice Ao63 x364001_2.length co63] 25 (0, 0))) ∧ (w'.heap[s_.2.2]? = some (.cells #[.slice none 0 0, .slice none 0 0] 25 (0, 0))) ∧ (w.heap.size ≤ s_.2.2) ∧ (w0.heap.size ≤ s_.2.2) ∧ (g ≠ s_.2.2) ∧ (s_.2.2 ≠ g) ∧ (gb356 ≠ s_.2.2) ∧ (s_.2.2 ≠ gb356) ∧ (gb363 ≠ s_.2.2) ∧ (s_.2.2 ≠ gb363) ∧ (IsS80 w0 w' g s0_0 t388 t389) ∧ (KeepBut w w' g none) ∧ (Below w0.heap.size w0 w')) ?_ ?_
        rotate_left
        ·intro hCont
         refine two_ (i := 3) (j := 10) (Ni := some 38) (Nj := some 8) #[true, true, true, true, true, false, false, false, false, false, false, false, false] #[true, true, true, false, true, false, false, false, false, false, true, false, false] rfl rfl rfl rfl (two_of HT_.out (by kernel_rfl)) (by decide) (by decide) (fun K hK => ?_) (fun K hK => ?_)
         ·skip
          refine goes_ Try.func70 (by kernel_rfl) rfl #[.pointer (some ⟨g, 0, none⟩), .int .i64 16] (by rfl) rfl rfl (by (try simp only [List.map_toArray, List.map_cons, List.map_nil]); first | done | rfl | (simp only [List.length_drop, List.length_take]; rfl)) ?_
          with_reducible refine (spec_l1Cur_pick.calls g s0_0 t374 t375 16 t384 t385 t386 w0 _ ?side1 ?side2 A56.out).mono ?_
          (case side1 => exact IsS80.it HI0.out)
          (case side2 => exact Op.hu HB.out (IsS80.ge HI0.out))
          rintro e w68 ⟨rfl, hi, hb, hk⟩
          refine ⟨_, rfl, ?_⟩
          replace HO_364000 := Op.k (Kd.S_mono (Kd.S_keep (IsS80.apartS (show IsS80 w0 _ g s0_0 t374 t375 from IsS80.it HI0.out) (Op.st HO_364000.out) (by decide)) hk (fun _ h => h.2)) (fun _ h => h.1))
          replace HO_364001 := Op.k (Kd.R_mono (Kd.R_keep (IsS80.apart (show IsS80 w0 _ g s0_0 t374 t375 from IsS80.it HI0.out) (Op.rt HO_364001.out) (by decide)) hk (fun _ h => h.2)) (fun _ h => h.1))
          replace BK356 := Op.k (KeepBut.blk hk (Op.bt BK356.out) NB356_0.out (by simp))
          replace BK363 := Op.k (KeepBut.blk hk (Op.bt BK363.out) NB363_0.out (by simp))
          replace HK := Op.k (KeepBut.trans (Op.kt HK.out) hk (.inl rfl))
          replace HB := Op.k (hb)
          replace HI0 := Op.k (hi)
          (try clear hb)
          (try clear hb2)
          (try clear hk)
          (try clear hi)
          refine hK.out _ _ ⟨(blk_cell BK363.out 0).trans rfl, (blk_cell BK363.out 1).trans rfl⟩ (fun hHeld => ?_)
          clear hK K
          refine norm_ (a' := ?_) ?_ ?_
          rotate_left
          ·show Act.put _ (some 38) _ = _
           simp only [Act.put, List.setIfInBounds_toArray, List.set_cons_zero, List.set_cons_succ, i64_w, i32_w]
           rfl
          refine two_ (i := 5) (j := 10) (Ni := some 40) (Nj := some 8) #[true, true, true, true, true, true, false, false, false, false, false, false, false] #[true, true, true, true, true, false, false, false, false, false, true, false, false] rfl rfl rfl rfl (two_of HT_.out (by kernel_rfl)) (by decide) (by decide) (fun K hK => ?_) (fun K hK => ?_)
          ·skip
           refine goes_ Try.func70 (by kernel_rfl) rfl #[.pointer (some ⟨g, 0, none⟩), .int .i64 9] (by rfl) rfl rfl (by (try simp only [List.map_toArray, List.map_cons, List.map_nil]); first | done | rfl | (simp only [List.length_drop, List.length_take]; rfl)) ?_
           with_reducible refine (spec_l1Cur_pick.calls g s0_0 t385 t386 9 t387 t388 t389 w0 _ ?side1 ?side2 A57.out).mono ?_
           (case side1 => exact IsS80.it HI0.out)
           (case side2 => exact Op.hu HB.out (IsS80.ge HI0.out))
           rintro e w69 ⟨rfl, hi, hb, hk⟩
           refine ⟨_, rfl, ?_⟩
           replace HO_364000 := Op.k (Kd.S_mono (Kd.S_keep (IsS80.apartS (show IsS80 w0 _ g s0_0 t385 t386 from IsS80.it HI0.out) (Op.st HO_364000.out) (by decide)) hk (fun _ h => h.2)) (fun _ h => h.1))
           replace HO_364001 := Op.k (Kd.R_mono (Kd.R_keep (IsS80.apart (show IsS80 w0 _ g s0_0 t385 t386 from IsS80.it HI0.out) (Op.rt HO_364001.out) (by decide)) hk (fun _ h => h.2)) (fun _ h => h.1))
           replace BK356 := Op.k (KeepBut.blk hk (Op.bt BK356.out) NB356_0.out (by simp))
           replace BK363 := Op.k (KeepBut.blk hk (Op.bt BK363.out) NB363_0.out (by simp))
           replace HK := Op.k (KeepBut.trans (Op.kt HK.out) hk (.inl rfl))
           replace HB := Op.k (hb)
           replace HI0 := Op.k (hi)
           (try clear hb)
           (try clear hb2)
           (try clear hk)
           (try clear hi)
           refine hK.out _ _ ⟨(blk_cell BK363.out 0).trans rfl, (blk_cell BK363.out 1).trans rfl⟩ (fun hHeld => ?_)
           clear hK K
           refine norm_ (a' := ?_) ?_ ?_
           rotate_left
           ·show Act.put _ (some 40) _ = _
            simp only [Act.put, List.setIfInBounds_toArray, List.set_cons_zero, List.set_cons_succ, i64_w, i32_w]
            rfl
           refine two_ (i := 6) (j := 10) (Ni := some 41) (Nj := some 8) #[true, true, true, true, true, true, true, false, false, false, false, false, false] #[true, true, true, true, true, true, false, false, false, false, true, false, false] rfl rfl rfl rfl (two_of HT_.out (by kernel_rfl)) (by decide) (by decide) (fun K hK => ?_) (fun K hK => ?_)
           ·skip
            refine goes_ Try.func33 (by kernel_rfl) rfl #[.agg #[.slice Ao66 x364000_2.length co66, .slice Ao63 x364001_2.length co63], .int .i64 t370, .int .i64 t384, .int .i64 t387] (by rfl) rfl rfl (by (try simp only [List.map_toArray, List.map_cons, List.map_nil]); first | done | rfl | (simp only [List.length_drop, List.length_take]; rfl)) ?_
            with_reducible refine (spec_PutIn.calls k2 _ _ x364000_2 _ _ x364001_2 t370 t384 t387 t390 t393 true _ ?side1 ?side2 ?side3 ?side4 A58.out).mono ?_
            (case side1 => exact Op.ct (Kd.S_reads' HO_364000.out).2.2)
            (case side2 => exact (Kd.S_reads' HO_364000.out).2.1)
            (case side3 => exact Op.ct (Kd.R_reads' HO_364001.out).2.2)
            (case side4 => exact (Kd.R_reads' HO_364001.out).2.1)
            rintro e w70 ⟨v391, v394, rfl, ho0, ho1, hb⟩
            refine ⟨_, rfl, ?_⟩
            have HO392 := Op.k (Kd.S_lower (Kd.S_new' (Kd.S_new' ho0 (Kd.S_lt (Op.st HO_364000.out))) (Kd.R_lt (Op.rt HO_364001.out))) (keep_size (w := w) (g := g) (row := none) (Op.kt HK.out)))
            replace HO_364000 := Op.k (Kd.S_mono (Kd.S_told (Kd.S_told (Kd.S_old (Op.st HO_364000.out) hb) (Kd.S_base ho0)) (Kd.R_base ho1)) (fun _ h_ => h_.1))
            have HO395 := Op.k (Kd.R_lower (Kd.R_new' ho1 (Kd.R_lt (Op.rt HO_364001.out))) (keep_size (w := w) (g := g) (row := none) (Op.kt HK.out)))
            replace HO_364001 := Op.k (Kd.R_elder' (Op.rt HO_364001.out) (Kd.R_base ho1) hb)
            replace BK356 := Op.k (Op.b4 (Op.bt BK356.out) hb)
            replace BK363 := Op.k (Op.b4 (Op.bt BK363.out) hb)
            replace HK := Op.k (KeepBut.trans (Op.kt HK.out) (KeepBut.of_below hb g none) (.inl rfl))
            replace HB := Op.k (Op.a5 (Op.hu HB.out (IsS80.ge HI0.out)) hb)
            replace HI0 := Op.k (IsS80.below (IsS80.it HI0.out) hb)
            (try clear hb)
            (try clear hb2)
            (try clear hk)
            (try clear hi)
            (try clear ho0)
            (try clear ho1)
            refine hK.out _ _ ⟨(blk_cell BK363.out 0).trans rfl, (blk_cell BK363.out 1).trans rfl⟩ (fun hHeld => ?_)
            clear hK K
            refine norm_ (a' := ?_) ?_ ?_
            rotate_left
            ·show Act.put _ (some 41) _ = _
             simp only [Act.put, List.setIfInBounds_toArray, List.set_cons_zero, List.set_cons_succ, i64_w, i32_w]
             rfl
            refine pure_ (i := 7) (N := some 34) (v := ?_) (a' := ?_) #[true, true, true, true, true, true, true, true, false, false, false, false, false] rfl rfl (any_of HT_.out (by kernel_rfl)) (fun _ _ _ h => h) (Or.inl ⟨by rfl, ?_⟩) ?_ ?_
            rotate_left
            ·intro w'
             go_simp
             with_reducible rfl
            rotate_left
            ·simp only [Act.put, List.setIfInBounds_toArray, List.set_cons_zero, List.set_cons_succ, i64_w, i32_w]
             rfl
            refine pure_ (i := 8) (N := some 42) (v := ?_) (a' := ?_) #[true, true, true, true, true, true, true, true, true, false, false, false, false] rfl rfl (any_of HT_.out (by kernel_rfl)) (fun _ _ _ h => h) (Or.inl ⟨by rfl, ?_⟩) ?_ ?_
            rotate_left
            ·intro w'
             go_simp
             with_reducible rfl
            rotate_left
            ·simp only [Act.put, List.setIfInBounds_toArray, List.set_cons_zero, List.set_cons_succ, i64_w, i32_w]
             rfl
            refine pure_ (i := 9) (N := some 43) (v := ?_) (a' := ?_) #[true, true, true, true, true, true, true, true, true, true, false, false, false] rfl rfl (any_of HT_.out (by kernel_rfl)) (fun _ _ _ h => h) (Or.inl ⟨by rfl, ?_⟩) ?_ ?_
            rotate_left
            ·intro w'
             go_simp
             with_reducible rfl
            rotate_left
            ·simp only [Act.put, List.setIfInBounds_toArray, List.set_cons_zero, List.set_cons_succ, i64_w, i32_w]
             rfl
            refine one_ (i := 10) (N := some 8) #[true, true, true, true, true, true, true, true, true, true, true, false, false] rfl rfl (one_of HT_.out (by kernel_rfl)) (by decide) (fun K hK => ?_)
            refine box_step ?hg (N := 8) ?hd (cs := #[.slice none 0 0, .slice none 0 0]) (t := 25) ?hr ?_; (case hd => rfl); (case hg => rfl); (case hr => first | (go_simp; done) | (go_simp; rfl))
            intro gb397 hg w71 hbox hb
            replace HO_364000 := Op.k (Kd.S_below (Op.st HO_364000.out) hb)
            replace HO_364001 := Op.k (Kd.R_below (Op.rt HO_364001.out) hb)
            replace HO392 := Op.k (Kd.S_below (Op.st HO392.out) hb)
            replace HO395 := Op.k (Kd.R_below (Op.rt HO395.out) hb)
            replace HB := Op.k (Op.a5 (Op.hu HB.out (IsS80.ge HI0.out)) hb)
            have BK397 := Op.k (hbox)
            have GW397 := Op.k ((Op.ny hg (Op.kt HK.out) : w.heap.size ≤ gb397))
            have GE397 := Op.k ((Nat.le_trans HW0.out (Op.ny hg (Op.kt HK.out) : w.heap.size ≤ gb397) : w0.heap.size ≤ gb397))
            replace HK := Op.k (KeepBut.trans (Op.kt HK.out) (KeepBut.of_below hb g none) (.inl rfl))
            have NB356_397 := Op.k ((Op.nl hg (Op.bt BK356.out) : gb356 ≠ gb397))
            have NB397_356 := Op.k ((Op.ng hg (Op.bt BK356.out) : gb397 ≠ gb356))
            replace BK356 := Op.k (Op.b4 (Op.bt BK356.out) hb)
            have NB363_397 := Op.k ((Op.nl hg (Op.bt BK363.out) : gb363 ≠ gb397))
            have NB397_363 := Op.k ((Op.ng hg (Op.bt BK363.out) : gb397 ≠ gb363))
            replace BK363 := Op.k (Op.b4 (Op.bt BK363.out) hb)
            have NB0_397 := Op.k ((by rw [hg]; exact Nat.ne_of_lt (IsS80.lt (show IsS80 w0 _ g s0_0 t388 t389 from IsS80.it HI0.out)) : g ≠ gb397))
            have NB397_0 := Op.k ((by rw [hg]; exact Nat.ne_of_gt (IsS80.lt (show IsS80 w0 _ g s0_0 t388 t389 from IsS80.it HI0.out)) : gb397 ≠ g))
            replace HI0 := Op.k (IsS80.below (IsS80.it HI0.out) hb)
            clear hb hbox hg
            refine hK.out _ _ ⟨(blk_cell BK363.out 0).trans rfl, (blk_cell BK363.out 1).trans rfl⟩ (fun hHeld => ?_)
            clear hK K
            refine norm_ (a' := ?_) ?_ ?_
            rotate_left
            ·show Act.put _ (some 8) _ = _
             simp only [Act.put, List.setIfInBounds_toArray, List.set_cons_zero, List.set_cons_succ, i64_w, i32_w]
             rfl
            exact norm_ (by simp only [putAll, Act.put, List.setIfInBounds_toArray, List.set_cons_zero, List.set_cons_succ]) (hCont (v391, v394, gb397) _ ⟨hHeld, (Kd.S_mono (Op.st HO392.out) (fun _ hk => ⟨hk.1.1, ⟨hk.1.2, hk.2⟩⟩)), (Kd.R_mono (Op.rt HO395.out) (fun _ hk => hk.2)), (Kd.S_mono (Op.st HO_364000.out) (fun _ hk => ⟨hk.1.2, ⟨hk.2, hk.1.1⟩⟩)), (Kd.R_mono (Op.rt HO_364001.out) (fun _ hk => hk.2)), (Op.bt BK356.out), (Op.bt BK363.out), (Op.bt BK397.out), GW397.out, GE397.out, NB0_397.out, NB397_0.out, NB356_397.out, NB397_356.out, NB363_397.out, NB397_363.out, (IsS80.it HI0.out), (Op.kt HK.out), (Op.hu HB.out (IsS80.ge HI0.out))⟩)
           ·skip
            refine box_step ?hg (N := 8) ?hd (cs := #[.slice none 0 0, .slice none 0 0]) (t := 25) ?hr ?_; (case hd => rfl); (case hg => rfl); (case hr => first | (go_simp; done) | (go_simp; rfl))
            intro gb397 hg w70 hbox hb
            replace HO_364000 := Op.k (Kd.S_below (Op.st HO_364000.out) hb)
            replace HO_364001 := Op.k (Kd.R_below (Op.rt HO_364001.out) hb)
            replace HB := Op.k (Op.a5 (Op.hu HB.out (IsS80.ge HI0.out)) hb)
            have BK397 := Op.k (hbox)
            have GW397 := Op.k ((Op.ny hg (Op.kt HK.out) : w.heap.size ≤ gb397))
            have GE397 := Op.k ((Nat.le_trans HW0.out (Op.ny hg (Op.kt HK.out) : w.heap.size ≤ gb397) : w0.heap.size ≤ gb397))
            replace HK := Op.k (KeepBut.trans (Op.kt HK.out) (KeepBut.of_below hb g none) (.inl rfl))
            have NB356_397 := Op.k ((Op.nl hg (Op.bt BK356.out) : gb356 ≠ gb397))
            have NB397_356 := Op.k ((Op.ng hg (Op.bt BK356.out) : gb397 ≠ gb356))
            replace BK356 := Op.k (Op.b4 (Op.bt BK356.out) hb)
            have NB363_397 := Op.k ((Op.nl hg (Op.bt BK363.out) : gb363 ≠ gb397))
            have NB397_363 := Op.k ((Op.ng hg (Op.bt BK363.out) : gb397 ≠ gb363))
            replace BK363 := Op.k (Op.b4 (Op.bt BK363.out) hb)
            have NB0_397 := Op.k ((by rw [hg]; exact Nat.ne_of_lt (IsS80.lt (show IsS80 w0 _ g s0_0 t388 t389 from IsS80.it HI0.out)) : g ≠ gb397))
            have NB397_0 := Op.k ((by rw [hg]; exact Nat.ne_of_gt (IsS80.lt (show IsS80 w0 _ g s0_0 t388 t389 from IsS80.it HI0.out)) : gb397 ≠ g))
            replace HI0 := Op.k (IsS80.below (IsS80.it HI0.out) hb)
            clear hb hbox hg
            refine hK.out _ _ ⟨(blk_cell BK363.out 0).trans rfl, (blk_cell BK363.out 1).trans rfl⟩ (fun hHeld => ?_)
            clear hK K
            refine norm_ (a' := ?_) ?_ ?_
            rotate_left
            ·show Act.put _ (some 8) _ = _
             simp only [Act.put, List.setIfInBounds_toArray, List.set_cons_zero, List.set_cons_succ, i64_w, i32_w]
             rfl
            refine one_ (i := 6) (N := some 41) #[true, true, true, true, true, true, true, false, false, false, true, false, false] rfl rfl (one_of HT_.out (by kernel_rfl)) (by decide) (fun K hK => ?_)
            refine goes_ Try.func33 (by kernel_rfl) rfl #[.agg #[.slice Ao66 x364000_2.length co66, .slice Ao63 x364001_2.length co63], .int .i64 t370, .int .i64 t384, .int .i64 t387] (by rfl) rfl rfl (by (try simp only [List.map_toArray, List.map_cons, List.map_nil]); first | done | rfl | (simp only [List.length_drop, List.length_take]; rfl)) ?_
            with_reducible refine (spec_PutIn.calls k2 _ _ x364000_2 _ _ x364001_2 t370 t384 t387 t390 t393 true _ ?side1 ?side2 ?side3 ?side4 A58.out).mono ?_
            (case side1 => exact Op.ct (Kd.S_reads' HO_364000.out).2.2)
            (case side2 => exact (Kd.S_reads' HO_364000.out).2.1)
            (case side3 => exact Op.ct (Kd.R_reads' HO_364001.out).2.2)
            (case side4 => exact (Kd.R_reads' HO_364001.out).2.1)
            rintro e w71 ⟨v391, v394, rfl, ho0, ho1, hb⟩
            refine ⟨_, rfl, ?_⟩
            have HO392 := Op.k (Kd.S_lower (Kd.S_new' (Kd.S_new' ho0 (Kd.S_lt (Op.st HO_364000.out))) (Kd.R_lt (Op.rt HO_364001.out))) (keep_size (w := w) (g := g) (row := none) (Op.kt HK.out)))
            replace HO_364000 := Op.k (Kd.S_mono (Kd.S_told (Kd.S_told (Kd.S_old (Op.st HO_364000.out) hb) (Kd.S_base ho0)) (Kd.R_base ho1)) (fun _ h_ => h_.1))
            have HO395 := Op.k (Kd.R_lower (Kd.R_new' ho1 (Kd.R_lt (Op.rt HO_364001.out))) (keep_size (w := w) (g := g) (row := none) (Op.kt HK.out)))
            replace HO_364001 := Op.k (Kd.R_elder' (Op.rt HO_364001.out) (Kd.R_base ho1) hb)
            replace BK356 := Op.k (Op.b4 (Op.bt BK356.out) hb)
            replace BK363 := Op.k (Op.b4 (Op.bt BK363.out) hb)
            replace BK397 := Op.k (Op.b4 (Op.bt BK397.out) hb)
            replace HK := Op.k (KeepBut.trans (Op.kt HK.out) (KeepBut.of_below hb g none) (.inl rfl))
            replace HB := Op.k (Op.a5 (Op.hu HB.out (IsS80.ge HI0.out)) hb)
            replace HI0 := Op.k (IsS80.below (IsS80.it HI0.out) hb)
            (try clear hb)
            (try clear hb2)
            (try clear hk)
            (try clear hi)
            (try clear ho0)
            (try clear ho1)
            refine hK.out _ _ ⟨(blk_cell BK363.out 0).trans rfl, (blk_cell BK363.out 1).trans rfl⟩ (fun hHeld => ?_)
            clear hK K
            refine norm_ (a' := ?_) ?_ ?_
            rotate_left
            ·show Act.put _ (some 41) _ = _
             simp only [Act.put, List.setIfInBounds_toArray, List.set_cons_zero, List.set_cons_succ, i64_w, i32_w]
             rfl
            refine pure_ (i := 7) (N := some 34) (v := ?_) (a' := ?_) #[true, true, true, true, true, true, true, true, false, false, true, false, false] rfl rfl (any_of HT_.out (by kernel_rfl)) (fun _ _ _ h => h) (Or.inl ⟨by rfl, ?_⟩) ?_ ?_
            rotate_left
            ·intro w'
             go_simp
             with_reducible rfl
            rotate_left
            ·simp only [Act.put, List.setIfInBounds_toArray, List.set_cons_zero, List.set_cons_succ, i64_w, i32_w]
             rfl
            refine pure_ (i := 8) (N := some 42) (v := ?_) (a' := ?_) #[true, true, true, true, true, true, true, true, true, false, true, false, false] rfl rfl (any_of HT_.out (by kernel_rfl)) (fun _ _ _ h => h) (Or.inl ⟨by rfl, ?_⟩) ?_ ?_
            rotate_left
            ·intro w'
             go_simp
             with_reducible rfl
            rotate_left
            ·simp only [Act.put, List.setIfInBounds_toArray, List.set_cons_zero, List.set_cons_succ, i64_w, i32_w]
             rfl
            refine pure_ (i := 9) (N := some 43) (v := ?_) (a' := ?_) #[true, true, true, true, true, true, true, true, true, true, true, false, false] rfl rfl (any_of HT_.out (by kernel_rfl)) (fun _ _ _ h => h) (Or.inl ⟨by rfl, ?_⟩) ?_ ?_
            rotate_left
            ·intro w'
             go_simp
             with_reducible rfl
            rotate_left
            ·simp only [Act.put, List.setIfInBounds_toArray, List.set_cons_zero, List.set_cons_succ, i64_w, i32_w]
             rfl
            exact norm_ (by simp only [putAll, Act.put, List.setIfInBounds_toArray, List.set_cons_zero, List.set_cons_succ]) (hCont (v391, v394, gb397) _ ⟨hHeld, (Kd.S_mono (Op.st HO392.out) (fun _ hk => ⟨hk.1.1, ⟨hk.1.2, hk.2⟩⟩)), (Kd.R_mono (Op.rt HO395.out) (fun _ hk => hk.2)), (Kd.S_mono (Op.st HO_364000.out) (fun _ hk => ⟨hk.1.2, ⟨hk.2, hk.1.1⟩⟩)), (Kd.R_mono (Op.rt HO_364001.out) (fun _ hk => hk.2)), (Op.bt BK356.out), (Op.bt BK363.out), (Op.bt BK397.out), GW397.out, GE397.out, NB0_397.out, NB397_0.out, NB356_397.out, NB397_356.out, NB363_397.out, NB397_363.out, (IsS80.it HI0.out), (Op.kt HK.out), (Op.hu HB.out (IsS80.ge HI0.out))⟩)
          ·skip
           refine box_step ?hg (N := 8) ?hd (cs := #[.slice none 0 0, .slice none 0 0]) (t := 25) ?hr ?_; (case hd => rfl); (case hg => rfl); (case hr => first | (go_simp; done) | (go_simp; rfl))
           intro gb397 hg w69 hbox hb
           replace HO_364000 := Op.k (Kd.S_below (Op.st HO_364000.out) hb)
           replace HO_364001 := Op.k (Kd.R_below (Op.rt HO_364001.out) hb)
           replace HB := Op.k (Op.a5 (Op.hu HB.out (IsS80.ge HI0.out)) hb)
           have BK397 := Op.k (hbox)
           have GW397 := Op.k ((Op.ny hg (Op.kt HK.out) : w.heap.size ≤ gb397))
           have GE397 := Op.k ((Nat.le_trans HW0.out (Op.ny hg (Op.kt HK.out) : w.heap.size ≤ gb397) : w0.heap.size ≤ gb397))
           replace HK := Op.k (KeepBut.trans (Op.kt HK.out) (KeepBut.of_below hb g none) (.inl rfl))
           have NB356_397 := Op.k ((Op.nl hg (Op.bt BK356.out) : gb356 ≠ gb397))
           have NB397_356 := Op.k ((Op.ng hg (Op.bt BK356.out) : gb397 ≠ gb356))
           replace BK356 := Op.k (Op.b4 (Op.bt BK356.out) hb)
           have NB363_397 := Op.k ((Op.nl hg (Op.bt BK363.out) : gb363 ≠ gb397))
           have NB397_363 := Op.k ((Op.ng hg (Op.bt BK363.out) : gb397 ≠ gb363))
           replace BK363 := Op.k (Op.b4 (Op.bt BK363.out) hb)
           have NB0_397 := Op.k ((by rw [hg]; exact Nat.ne_of_lt (IsS80.lt (show IsS80 w0 _ g s0_0 t385 t386 from IsS80.it HI0.out)) : g ≠ gb397))
           have NB397_0 := Op.k ((by rw [hg]; exact Nat.ne_of_gt (IsS80.lt (show IsS80 w0 _ g s0_0 t385 t386 from IsS80.it HI0.out)) : gb397 ≠ g))
           replace HI0 := Op.k (IsS80.below (IsS80.it HI0.out) hb)
           clear hb hbox hg
           refine hK.out _ _ ⟨(blk_cell BK363.out 0).trans rfl, (blk_cell BK363.out 1).trans rfl⟩ (fun hHeld => ?_)
           clear hK K
           refine norm_ (a' := ?_) ?_ ?_
           rotate_left
           ·show Act.put _ (some 8) _ = _
            simp only [Act.put, List.setIfInBounds_toArray, List.set_cons_zero, List.set_cons_succ, i64_w, i32_w]
            rfl
           refine one_ (i := 5) (N := some 40) #[true, true, true, true, true, true, false, false, false, false, true, false, false] rfl rfl (one_of HT_.out (by kernel_rfl)) (by decide) (fun K hK => ?_)
           refine goes_ Try.func70 (by kernel_rfl) rfl #[.pointer (some ⟨g, 0, none⟩), .int .i64 9] (by rfl) rfl rfl (by (try simp only [List.map_toArray, List.map_cons, List.map_nil]); first | done | rfl | (simp only [List.length_drop, List.length_take]; rfl)) ?_
           with_reducible refine (spec_l1Cur_pick.calls g s0_0 t385 t386 9 t387 t388 t389 w0 _ ?side1 ?side2 A57.out).mono ?_
           (case side1 => exact IsS80.it HI0.out)
           (case side2 => exact Op.hu HB.out (IsS80.ge HI0.out))
           rintro e w70 ⟨rfl, hi, hb, hk⟩
           refine ⟨_, rfl, ?_⟩
           replace HO_364000 := Op.k (Kd.S_mono (Kd.S_keep (IsS80.apartS (show IsS80 w0 _ g s0_0 t385 t386 from IsS80.it HI0.out) (Op.st HO_364000.out) (by decide)) hk (fun _ h => h.2)) (fun _ h => h.1))
           replace HO_364001 := Op.k (Kd.R_mono (Kd.R_keep (IsS80.apart (show IsS80 w0 _ g s0_0 t385 t386 from IsS80.it HI0.out) (Op.rt HO_364001.out) (by decide)) hk (fun _ h => h.2)) (fun _ h => h.1))
           replace BK356 := Op.k (KeepBut.blk hk (Op.bt BK356.out) NB356_0.out (by simp))
           replace BK363 := Op.k (KeepBut.blk hk (Op.bt BK363.out) NB363_0.out (by simp))
           replace BK397 := Op.k (KeepBut.blk hk (Op.bt BK397.out) NB397_0.out (by simp))
           replace HK := Op.k (KeepBut.trans (Op.kt HK.out) hk (.inl rfl))
           replace HB := Op.k (hb)
           replace HI0 := Op.k (hi)
           (try clear hb)
           (try clear hb2)
           (try clear hk)
           (try clear hi)
           refine hK.out _ _ ⟨(blk_cell BK363.out 0).trans rfl, (blk_cell BK363.out 1).trans rfl⟩ (fun hHeld => ?_)
           clear hK K
           refine norm_ (a' := ?_) ?_ ?_
           rotate_left
           ·show Act.put _ (some 40) _ = _
            simp only [Act.put, List.setIfInBounds_toArray, List.set_cons_zero, List.set_cons_succ, i64_w, i32_w]
            rfl
           refine one_ (i := 6) (N := some 41) #[true, true, true, true, true, true, true, false, false, false, true, false, false] rfl rfl (one_of HT_.out (by kernel_rfl)) (by decide) (fun K hK => ?_)
           refine goes_ Try.func33 (by kernel_rfl) rfl #[.agg #[.slice Ao66 x364000_2.length co66, .slice Ao63 x364001_2.length co63], .int .i64 t370, .int .i64 t384, .int .i64 t387] (by rfl) rfl rfl (by (try simp only [List.map_toArray, List.map_cons, List.map_nil]); first | done | rfl | (simp only [List.length_drop, List.length_take]; rfl)) ?_
           with_reducible refine (spec_PutIn.calls k2 _ _ x364000_2 _ _ x364001_2 t370 t384 t387 t390 t393 true _ ?side1 ?side2 ?side3 ?side4 A58.out).mono ?_
           (case side1 => exact Op.ct (Kd.S_reads' HO_364000.out).2.2)
           (case side2 => exact (Kd.S_reads' HO_364000.out).2.1)
           (case side3 => exact Op.ct (Kd.R_reads' HO_364001.out).2.2)
           (case side4 => exact (Kd.R_reads' HO_364001.out).2.1)
           rintro e w71 ⟨v391, v394, rfl, ho0, ho1, hb⟩
           refine ⟨_, rfl, ?_⟩
           have HO392 := Op.k (Kd.S_lower (Kd.S_new' (Kd.S_new' ho0 (Kd.S_lt (Op.st HO_364000.out))) (Kd.R_lt (Op.rt HO_364001.out))) (keep_size (w := w) (g := g) (row := none) (Op.kt HK.out)))
           replace HO_364000 := Op.k (Kd.S_mono (Kd.S_told (Kd.S_told (Kd.S_old (Op.st HO_364000.out) hb) (Kd.S_base ho0)) (Kd.R_base ho1)) (fun _ h_ => h_.1))
           have HO395 := Op.k (Kd.R_lower (Kd.R_new' ho1 (Kd.R_lt (Op.rt HO_364001.out))) (keep_size (w := w) (g := g) (row := none) (Op.kt HK.out)))
           replace HO_364001 := Op.k (Kd.R_elder' (Op.rt HO_364001.out) (Kd.R_base ho1) hb)
           replace BK356 := Op.k (Op.b4 (Op.bt BK356.out) hb)
           replace BK363 := Op.k (Op.b4 (Op.bt BK363.out) hb)
           replace BK397 := Op.k (Op.b4 (Op.bt BK397.out) hb)
           replace HK := Op.k (KeepBut.trans (Op.kt HK.out) (KeepBut.of_below hb g none) (.inl rfl))
           replace HB := Op.k (Op.a5 (Op.hu HB.out (IsS80.ge HI0.out)) hb)
           replace HI0 := Op.k (IsS80.below (IsS80.it HI0.out) hb)
           (try clear hb)
           (try clear hb2)
           (try clear hk)
           (try clear hi)
           (try clear ho0)
           (try clear ho1)
           refine hK.out _ _ ⟨(blk_cell BK363.out 0).trans rfl, (blk_cell BK363.out 1).trans rfl⟩ (fun hHeld => ?_)
           clear hK K
           refine norm_ (a' := ?_) ?_ ?_
           rotate_left
           ·show Act.put _ (some 41) _ = _
            simp only [Act.put, List.setIfInBounds_toArray, List.set_cons_zero, List.set_cons_succ, i64_w, i32_w]
            rfl
           refine pure_ (i := 7) (N := some 34) (v := ?_) (a' := ?_) #[true, true, true, true, true, true, true, true, false, false, true, false, false] rfl rfl (any_of HT_.out (by kernel_rfl)) (fun _ _ _ h => h) (Or.inl ⟨by rfl, ?_⟩) ?_ ?_
           rotate_left
           ·intro w'
            go_simp
            with_reducible rfl
           rotate_left
           ·simp only [Act.put, List.setIfInBounds_toArray, List.set_cons_zero, List.set_cons_succ, i64_w, i32_w]
            rfl
           refine pure_ (i := 8) (N := some 42) (v := ?_) (a' := ?_) #[true, true, true, true, true, true, true, true, true, false, true, false, false] rfl rfl (any_of HT_.out (by kernel_rfl)) (fun _ _ _ h => h) (Or.inl ⟨by rfl, ?_⟩) ?_ ?_
           rotate_left
           ·intro w'
            go_simp
            with_reducible rfl
           rotate_left
           ·simp only [Act.put, List.setIfInBounds_toArray, List.set_cons_zero, List.set_cons_succ, i64_w, i32_w]
            rfl
           refine pure_ (i := 9) (N := some 43) (v := ?_) (a' := ?_) #[true, true, true, true, true, true, true, true, true, true, true, false, false] rfl rfl (any_of HT_.out (by kernel_rfl)) (fun _ _ _ h => h) (Or.inl ⟨by rfl, ?_⟩) ?_ ?_
           rotate_left
           ·intro w'
            go_simp
            with_reducible rfl
           rotate_left
           ·simp only [Act.put, List.setIfInBounds_toArray, List.set_cons_zero, List.set_cons_succ, i64_w, i32_w]
            rfl
           exact norm_ (by simp only [putAll, Act.put, List.setIfInBounds_toArray, List.set_cons_zero, List.set_cons_succ]) (hCont (v391, v394, gb397) _ ⟨hHeld, (Kd.S_mono (Op.st HO392.out) (fun _ hk => ⟨hk.1.1, ⟨hk.1.2, hk.2⟩⟩)), (Kd.R_mono (Op.rt HO395.out) (fun _ hk => hk.2)), (Kd.S_mono (Op.st HO_364000.out) (fun _ hk => ⟨hk.1.2, ⟨hk.2, hk.1.1⟩⟩)), (Kd.R_mono (Op.rt HO_364001.out) (fun _ hk => hk.2)), (Op.bt BK356.out), (Op.bt BK363.out), (Op.bt BK397.out), GW397.out, GE397.out, NB0_397.out, NB397_0.out, NB356_397.out, NB397_356.out, NB363_397.out, NB397_363.out, (IsS80.it HI0.out), (Op.kt HK.out), (Op.hu HB.out (IsS80.ge HI0.out))⟩)
         ·skip
          refine box_step ?hg (N := 8) ?hd (cs := #[.slice none 0 0, .slice none 0 0]) (t := 25) ?hr ?_; (case hd => rfl); (case hg => rfl); (case hr => first | (go_simp; done) | (go_simp; rfl))
          intro gb397 hg w68 hbox hb
          replace HO_364000 := Op.k (Kd.S_below (Op.st HO_364000.out) hb)
          replace HO_364001 := Op.k (Kd.R_below (Op.rt HO_364001.out) hb)
          replace HB := Op.k (Op.a5 (Op.hu HB.out (IsS80.ge HI0.out)) hb)
          have BK397 := Op.k (hbox)
          have GW397 := Op.k ((Op.ny hg (Op.kt HK.out) : w.heap.size ≤ gb397))
          have GE397 := Op.k ((Nat.le_trans HW0.out (Op.ny hg (Op.kt HK.out) : w.heap.size ≤ gb397) : w0.heap.size ≤ gb397))
          replace HK := Op.k (KeepBut.trans (Op.kt HK.out) (KeepBut.of_below hb g none) (.inl rfl))
          have NB356_397 := Op.k ((Op.nl hg (Op.bt BK356.out) : gb356 ≠ gb397))
          have NB397_356 := Op.k ((Op.ng hg (Op.bt BK356.out) : gb397 ≠ gb356))
          replace BK356 := Op.k (Op.b4 (Op.bt BK356.out) hb)
          have NB363_397 := Op.k ((Op.nl hg (Op.bt BK363.out) : gb363 ≠ gb397))
          have NB397_363 := Op.k ((Op.ng hg (Op.bt BK363.out) : gb397 ≠ gb363))
          replace BK363 := Op.k (Op.b4 (Op.bt BK363.out) hb)
          have NB0_397 := Op.k ((by rw [hg]; exact Nat.ne_of_lt (IsS80.lt (show IsS80 w0 _ g s0_0 t374 t375 from IsS80.it HI0.out)) : g ≠ gb397))
          have NB397_0 := Op.k ((by rw [hg]; exact Nat.ne_of_gt (IsS80.lt (show IsS80 w0 _ g s0_0 t374 t375 from IsS80.it HI0.out)) : gb397 ≠ g))
          replace HI0 := Op.k (IsS80.below (IsS80.it HI0.out) hb)
          clear hb hbox hg
          refine hK.out _ _ ⟨(blk_cell BK363.out 0).trans rfl, (blk_cell BK363.out 1).trans rfl⟩ (fun hHeld => ?_)
          clear hK K
          refine norm_ (a' := ?_) ?_ ?_
          rotate_left
          ·show Act.put _ (some 8) _ = _
           simp only [Act.put, List.setIfInBounds_toArray, List.set_cons_zero, List.set_cons_succ, i64_w, i32_w]
           rfl
          refine one_ (i := 3) (N := some 38) #[true, true, true, true, true, false, false, false, false, false, true, false, false] rfl rfl (one_of HT_.out (by kernel_rfl)) (by decide) (fun K hK => ?_)
          refine goes_ Try.func70 (by kernel_rfl) rfl #[.pointer (some ⟨g, 0, none⟩), .int .i64 16] (by rfl) rfl rfl (by (try simp only [List.map_toArray, List.map_cons, List.map_nil]); first | done | rfl | (simp only [List.length_drop, List.length_take]; rfl)) ?_
          with_reducible refine (spec_l1Cur_pick.calls g s0_0 t374 t375 16 t384 t385 t386 w0 _ ?side1 ?side2 A56.out).mono ?_
          (case side1 => exact IsS80.it HI0.out)
          (case side2 => exact Op.hu HB.out (IsS80.ge HI0.out))
          rintro e w69 ⟨rfl, hi, hb, hk⟩
          refine ⟨_, rfl, ?_⟩
          replace HO_364000 := Op.k (Kd.S_mono (Kd.S_keep (IsS80.apartS (show IsS80 w0 _ g s0_0 t374 t375 from IsS80.it HI0.out) (Op.st HO_364000.out) (by decide)) hk (fun _ h => h.2)) (fun _ h => h.1))
          replace HO_364001 := Op.k (Kd.R_mono (Kd.R_keep (IsS80.apart (show IsS80 w0 _ g s0_0 t374 t375 from IsS80.it HI0.out) (Op.rt HO_364001.out) (by decide)) hk (fun _ h => h.2)) (fun _ h => h.1))
          replace BK356 := Op.k (KeepBut.blk hk (Op.bt BK356.out) NB356_0.out (by simp))
          replace BK363 := Op.k (KeepBut.blk hk (Op.bt BK363.out) NB363_0.out (by simp))
          replace BK397 := Op.k (KeepBut.blk hk (Op.bt BK397.out) NB397_0.out (by simp))
          replace HK := Op.k (KeepBut.trans (Op.kt HK.out) hk (.inl rfl))
          replace HB := Op.k (hb)
          replace HI0 := Op.k (hi)
          (try clear hb)
          (try clear hb2)
          (try clear hk)
          (try clear hi)
          refine hK.out _ _ ⟨(blk_cell BK363.out 0).trans rfl, (blk_cell BK363.out 1).trans rfl⟩ (fun hHeld => ?_)
          clear hK K
          refine norm_ (a' := ?_) ?_ ?_
          rotate_left
          ·show Act.put _ (some 38) _ = _
           simp only [Act.put, List.setIfInBounds_toArray, List.set_cons_zero, List.set_cons_succ, i64_w, i32_w]
           rfl
          refine one_ (i := 5) (N := some 40) #[true, true, true, true, true, true, false, false, false, false, true, false, false] rfl rfl (one_of HT_.out (by kernel_rfl)) (by decide) (fun K hK => ?_)
          refine goes_ Try.func70 (by kernel_rfl) rfl #[.pointer (some ⟨g, 0, none⟩), .int .i64 9] (by rfl) rfl rfl (by (try simp only [List.map_toArray, List.map_cons, List.map_nil]); first | done | rfl | (simp only [List.length_drop, List.length_take]; rfl)) ?_
          with_reducible refine (spec_l1Cur_pick.calls g s0_0 t385 t386 9 t387 t388 t389 w0 _ ?side1 ?side2 A57.out).mono ?_
          (case side1 => exact IsS80.it HI0.out)
          (case side2 => exact Op.hu HB.out (IsS80.ge HI0.out))
          rintro e w70 ⟨rfl, hi, hb, hk⟩
          refine ⟨_, rfl, ?_⟩
          replace HO_364000 := Op.k (Kd.S_mono (Kd.S_keep (IsS80.apartS (show IsS80 w0 _ g s0_0 t385 t386 from IsS80.it HI0.out) (Op.st HO_364000.out) (by decide)) hk (fun _ h => h.2)) (fun _ h => h.1))
          replace HO_364001 := Op.k (Kd.R_mono (Kd.R_keep (IsS80.apart (show IsS80 w0 _ g s0_0 t385 t386 from IsS80.it HI0.out) (Op.rt HO_364001.out) (by decide)) hk (fun _ h => h.2)) (fun _ h => h.1))
          replace BK356 := Op.k (KeepBut.blk hk (Op.bt BK356.out) NB356_0.out (by simp))
          replace BK363 := Op.k (KeepBut.blk hk (Op.bt BK363.out) NB363_0.out (by simp))
          replace BK397 := Op.k (KeepBut.blk hk (Op.bt BK397.out) NB397_0.out (by simp))
          replace HK := Op.k (KeepBut.trans (Op.kt HK.out) hk (.inl rfl))
          replace HB := Op.k (hb)
          replace HI0 := Op.k (hi)
          (try clear hb)
          (try clear hb2)
          (try clear hk)
          (try clear hi)
          refine hK.out _ _ ⟨(blk_cell BK363.out 0).trans rfl, (blk_cell BK363.out 1).trans rfl⟩ (fun hHeld => ?_)
          clear hK K
          refine norm_ (a' := ?_) ?_ ?_
          rotate_left
          ·show Act.put _ (some 40) _ = _
           simp only [Act.put, List.setIfInBounds_toArray, List.set_cons_zero, List.set_cons_succ, i64_w, i32_w]
           rfl
          refine one_ (i := 6) (N := some 41) #[true, true, true, true, true, true, true, false, false, false, true, false, false] rfl rfl (one_of HT_.out (by kernel_rfl)) (by decide) (fun K hK => ?_)
          refine goes_ Try.func33 (by kernel_rfl) rfl #[.agg #[.slice Ao66 x364000_2.length co66, .slice Ao63 x364001_2.length co63], .int .i64 t370, .int .i64 t384, .int .i64 t387] (by rfl) rfl rfl (by (try simp only [List.map_toArray, List.map_cons, List.map_nil]); first | done | rfl | (simp only [List.length_drop, List.length_take]; rfl)) ?_
          with_reducible refine (spec_PutIn.calls k2 _ _ x364000_2 _ _ x364001_2 t370 t384 t387 t390 t393 true _ ?side1 ?side2 ?side3 ?side4 A58.out).mono ?_
          (case side1 => exact Op.ct (Kd.S_reads' HO_364000.out).2.2)
          (case side2 => exact (Kd.S_reads' HO_364000.out).2.1)
          (case side3 => exact Op.ct (Kd.R_reads' HO_364001.out).2.2)
          (case side4 => exact (Kd.R_reads' HO_364001.out).2.1)
          rintro e w71 ⟨v391, v394, rfl, ho0, ho1, hb⟩
          refine ⟨_, rfl, ?_⟩
          have HO392 := Op.k (Kd.S_lower (Kd.S_new' (Kd.S_new' ho0 (Kd.S_lt (Op.st HO_364000.out))) (Kd.R_lt (Op.rt HO_364001.out))) (keep_size (w := w) (g := g) (row := none) (Op.kt HK.out)))
          replace HO_364000 := Op.k (Kd.S_mono (Kd.S_told (Kd.S_told (Kd.S_old (Op.st HO_364000.out) hb) (Kd.S_base ho0)) (Kd.R_base ho1)) (fun _ h_ => h_.1))
          have HO395 := Op.k (Kd.R_lower (Kd.R_new' ho1 (Kd.R_lt (Op.rt HO_364001.out))) (keep_size (w := w) (g := g) (row := none) (Op.kt HK.out)))
          replace HO_364001 := Op.k (Kd.R_elder' (Op.rt HO_364001.out) (Kd.R_base ho1) hb)
          replace BK356 := Op.k (Op.b4 (Op.bt BK356.out) hb)
          replace BK363 := Op.k (Op.b4 (Op.bt BK363.out) hb)
          replace BK397 := Op.k (Op.b4 (Op.bt BK397.out) hb)
          replace HK := Op.k (KeepBut.trans (Op.kt HK.out) (KeepBut.of_below hb g none) (.inl rfl))
          replace HB := Op.k (Op.a5 (Op.hu HB.out (IsS80.ge HI0.out)) hb)
          replace HI0 := Op.k (IsS80.below (IsS80.it HI0.out) hb)
          (try clear hb)
          (try clear hb2)
          (try clear hk)
          (try clear hi)
          (try clear ho0)
          (try clear ho1)
          refine hK.out _ _ ⟨(blk_cell BK363.out 0).trans rfl, (blk_cell BK363.out 1).trans rfl⟩ (fun hHeld => ?_)
          clear hK K
          refine norm_ (a' := ?_) ?_ ?_
          rotate_left
          ·show Act.put _ (some 41) _ = _
           simp only [Act.put, List.setIfInBounds_toArray, List.set_cons_zero, List.set_cons_succ, i64_w, i32_w]
           rfl
          refine pure_ (i := 7) (N := some 34) (v := ?_) (a' := ?_) #[true, true, true, true, true, true, true, true, false, false, true, false, false] rfl rfl (any_of HT_.out (by kernel_rfl)) (fun _ _ _ h => h) (Or.inl ⟨by rfl, ?_⟩) ?_ ?_
          rotate_left
          ·intro w'
           go_simp
           with_reducible rfl
          rotate_left
          ·simp only [Act.put, List.setIfInBounds_toArray, List.set_cons_zero, List.set_cons_succ, i64_w, i32_w]
           rfl
          refine pure_ (i := 8) (N := some 42) (v := ?_) (a' := ?_) #[true, true, true, true, true, true, true, true, true, false, true, false, false] rfl rfl (any_of HT_.out (by kernel_rfl)) (fun _ _ _ h => h) (Or.inl ⟨by rfl, ?_⟩) ?_ ?_
          rotate_left
          ·intro w'
           go_simp
           with_reducible rfl
          rotate_left
          ·simp only [Act.put, List.setIfInBounds_toArray, List.set_cons_zero, List.set_cons_succ, i64_w, i32_w]
           rfl
          refine pure_ (i := 9) (N := some 43) (v := ?_) (a' := ?_) #[true, true, true, true, true, true, true, true, true, true, true, false, false] rfl rfl (any_of HT_.out (by kernel_rfl)) (fun _ _ _ h => h) (Or.inl ⟨by rfl, ?_⟩) ?_ ?_
          rotate_left
          ·intro w'
           go_simp
           with_reducible rfl
          rotate_left
          ·simp only [Act.put, List.setIfInBounds_toArray, List.set_cons_zero, List.set_cons_succ, i64_w, i32_w]
           rfl
          exact norm_ (by simp only [putAll, Act.put, List.setIfInBounds_toArray, List.set_cons_zero, List.set_cons_succ]) (hCont (v391, v394, gb397) _ ⟨hHeld, (Kd.S_mono (Op.st HO392.out) (fun _ hk => ⟨hk.1.1, ⟨hk.1.2, hk.2⟩⟩)), (Kd.R_mono (Op.rt HO395.out) (fun _ hk => hk.2)), (Kd.S_mono (Op.st HO_364000.out) (fun _ hk => ⟨hk.1.2, ⟨hk.2, hk.1.1⟩⟩)), (Kd.R_mono (Op.rt HO_364001.out) (fun _ hk => hk.2)), (Op.bt BK356.out), (Op.bt BK363.out), (Op.bt BK397.out), GW397.out, GE397.out, NB0_397.out, NB397_0.out, NB356_397.out, NB397_356.out, NB363_397.out, NB397_363.out, (IsS80.it HI0.out), (Op.kt HK.out), (Op.hu HB.out (IsS80.ge HI0.out))⟩)
        rintro ⟨v391, v394, gb397⟩ w72 ⟨hS_, h0_, h1_, h2_, h3_, h4_, h5_, h6_, h7_, h8_, h9_, h10_, h11_, h12_, h13_, h14_, h15_, h16_, h17_⟩
        have n0_ : Aside0 (Kd.S k65 65 w72 w.heap.size (fun k_ => some k_ ≠ (v394 : Value).ownBlock ∧ some k_ ≠ (.slice Ao66 x364000_2.length co66 : Value).ownBlock ∧ some k_ ≠ (.slice Ao63 x364001_2.length co63 : Value).ownBlock) v391 t390) := ⟨h0_⟩
        have n1_ : Aside0 (Kd.R (Kd.int .i64) 3 w72 w.heap.size (fun k_ => some k_ ≠ (.slice Ao63 x364001_2.length co63 : Value).ownBlock) v394 t393) := ⟨h1_⟩
        have n2_ : Aside0 (Kd.S k65 65 w72 w.heap.size (fun k_ => some k_ ≠ (v391 : Value).ownBlock ∧ some k_ ≠ (v394 : Value).ownBlock ∧ some k_ ≠ (.slice Ao63 x364001_2.length co63 : Value).ownBlock) (.slice Ao66 x364000_2.length co66) x364000_2) := ⟨h2_⟩
        have n3_ : Aside0 (Kd.R (Kd.int .i64) 3 w72 w.heap.size (fun k_ => some k_ ≠ (v394 : Value).ownBlock) (.slice Ao63 x364001_2.length co63) x364001_2) := ⟨h3_⟩
        have n4_ : Aside0 (w72.heap[gb356]? = some (.cells #[.slice none 0 0, .slice none 0 0] 25 (0, 0))) := ⟨h4_⟩
        have n5_ : Aside0 (w72.heap[gb363]? = some (.cells #[.slice Ao66 x364000_2.length co66, .slice Ao63 x364001_2.length co63] 25 (0, 0))) := ⟨h5_⟩
        have n6_ : Aside0 (w72.heap[gb397]? = some (.cells #[.slice none 0 0, .slice none 0 0] 25 (0, 0))) := ⟨h6_⟩
        have n7_ : Aside0 (w.heap.size ≤ gb397) := ⟨h7_⟩
        have n8_ : Aside0 (w0.heap.size ≤ gb397) := ⟨h8_⟩
        have n9_ : Aside0 (g ≠ gb397) := ⟨h9_⟩
        have n10_ : Aside0 (gb397 ≠ g) := ⟨h10_⟩
        have n11_ : Aside0 (gb356 ≠ gb397) := ⟨h11_⟩
        have n12_ : Aside0 (gb397 ≠ gb356) := ⟨h12_⟩
        have n13_ : Aside0 (gb363 ≠ gb397) := ⟨h13_⟩
        have n14_ : Aside0 (gb397 ≠ gb363) := ⟨h14_⟩
        have n15_ : Aside0 (IsS80 w0 w72 g s0_0 t388 t389) := ⟨h15_⟩
        have n16_ : Aside0 (KeepBut w w72 g none) := ⟨h16_⟩
        have n17_ : Aside0 (Below w0.heap.size w0 w72) := ⟨h17_⟩
        clear HO_364000
        clear HO_364001
        clear BK356
        clear BK363
        clear HI0
        clear HK
        clear HB
        clear h0_ h1_ h2_ h3_ h4_ h5_ h6_ h7_ h8_ h9_ h10_ h11_ h12_ h13_ h14_ h15_ h16_ h17_
        have HO392 := n0_
        have HO395 := n1_
        have HO_364000 := n2_
        have HO_364001 := n3_
        have BK356 := n4_
        have BK363 := n5_
        have BK397 := n6_
        have GW397 := n7_
        have GE397 := n8_
        have NB0_397 := n9_
        have NB397_0 := n10_
        have NB356_397 := n11_
        have NB397_356 := n12_
        have NB363_397 := n13_
        have NB397_363 := n14_
        have HI0 := n15_
        have HK := n16_
        have HB := n17_
        clear n0_ n1_ n2_ n3_ n4_ n5_ n6_ n7_ n8_ n9_ n10_ n11_ n12_ n13_ n14_ n15_ n16_ n17_
        have hHeld : w72.cell? ⟨gb363, 0, none⟩ = some (.slice Ao66 x364000_2.length co66) ∧ w72.cell? ⟨gb363, 1, none⟩ = some (.slice Ao63 x364001_2.length co63) := hS_
        obtain ⟨Ao73, co73, eo73⟩ := Kd.S_slice HO392.out
        (first | subst eo73 | (injection eo73 with f1_ f2_ f3_; have f4_ := f1_.symm; have f5_ := f3_.symm; clear f1_ f2_ f3_; subst f4_; subst f5_))
        obtain ⟨Ao75, co75, eo75⟩ := Kd.R_slice HO395.out
        (first | subst eo75 | (injection eo75 with f1_ f2_ f3_; have f4_ := f1_.symm; have f5_ := f3_.symm; clear f1_ f2_ f3_; subst f4_; subst f5_))
        refine norm_ (a' := ?_) ?_ ?_
        rotate_left
        ·simp only [putAll, Act.put, List.setIfInBounds_toArray, List.set_cons_zero, List.set_cons_succ]
         rfl
        refine one_ (i := 11) (N := none) #[true, true, true, true, true, true, true, true, true, true, true, true, false] rfl rfl (one_of HT_.out (by kernel_rfl)) (by decide) (fun K hK => ?_)
        have hs74 : w72.cell? ⟨gb397, 0, none⟩ = some (.slice none 0 0) := (blk_cell BK397.out 0).trans rfl
        have hfs74 := Op.bf BK397.out 0
        have hns74_0 := NB356_397.out
        have hns74_1 := NB363_397.out
        have hms74_0 := NB397_356.out
        have hms74_1 := NB397_363.out
        have hs76 : w72.cell? ⟨gb397, 1, none⟩ = some (.slice none 0 0) := (blk_cell BK397.out 1).trans rfl
        have hfs76 := Op.bf BK397.out 1
        have hns76_0 := NB356_397.out
        have hns76_1 := NB363_397.out
        have hms76_0 := NB397_356.out
        have hms76_1 := NB397_363.out
        refine skip_ (w1 := ?_) (by rfl) rfl ?_ ?_
        rotate_left
        ·go_simp
         rfl
        refine hK.out _ _ ⟨((cell_far (p := ⟨gb397, _, none⟩) NB363_397.out _).trans (((cell_far (p := ⟨gb397, _, none⟩) NB363_397.out _).trans (hHeld.1)))), ((cell_far (p := ⟨gb397, _, none⟩) NB363_397.out _).trans (((cell_far (p := ⟨gb397, _, none⟩) NB363_397.out _).trans (hHeld.2))))⟩ (fun hHeld => ?_)
        clear hK K
        refine pure_ (i := 12) (N := some 9) (v := ?_) (a' := ?_) #[true, true, true, true, true, true, true, true, true, true, true, true, true] rfl rfl (any_of HT_.out (by kernel_rfl)) (fun _ _ _ h => h) (Or.inl ⟨by rfl, ?_⟩) ?_ ?_
        rotate_left
        ·intro w'
         go_simp
         with_reducible rfl
        rotate_left
        ·simp only [Act.put, List.setIfInBounds_toArray, List.set_cons_zero, List.set_cons_succ, i64_w, i32_w]
         rfl
        refine done_ (done_of HT_.out (by kernel_rfl)) ?_
        have hnb77 := NB397_356.out
        have hnc77 := NB356_397.out
        have hnb78 := NB397_363.out
        have hnc78 := NB363_397.out
        have hnb79 := NB397_0.out
        have hnc79 := NB0_397.out
        have hcz80_0 := Op.c0 BK397.out
        have hcz80_1 := Op.c1 BK397.out
        have hfz80_0 := Op.bf BK397.out 0
        have hfz80_1 := Op.bf BK397.out 1
        have hcz81_0 := Op.c0 BK363.out
        have hcz81_1 := Op.c1 BK363.out
        have hfz81_0 := Op.bf BK363.out 0
        have hfz81_1 := Op.bf BK363.out 1
        try go_wp2
        go_roundg k2
        case measure => have := HJ4.out; have := HK2.out; omega
        case rel => exact ⟨(wrap64 (x4_2 - 1)), (t388), (t389), (t390), (t393), (.slice Ao73 t390.length co73), (.slice Ao75 t393.length co75), (by first | rfl | (simp; done) | (simp [*]; done)), H', ⟨by have := HJ4.out; have := HK2.out; omega⟩, ⟨by (with_reducible repeat (first | apply Kd.S_alloc | apply Kd.S_drewN | apply Kd.S_drew)); exact Kd.S_mono (Kd.S_far (p := ⟨gb363, 1, none⟩) (Kd.S_far (p := ⟨gb363, 0, none⟩) (Kd.S_far (p := ⟨gb397, 1, none⟩) (Kd.S_far (p := ⟨gb397, 0, none⟩) (Kd.S_types (Kd.S_types HO392.out BK397.out (by decide)) BK363.out (by decide)) (fun _ hk => hk.1.2) (.slice Ao73 t390.length co73)) (fun _ hk => hk.1.2) (.slice Ao75 t393.length co75)) (fun _ hk => hk.2) (.slice Ao73 t390.length co73)) (fun _ hk => hk.2) (.slice Ao75 t393.length co75)) (fun _ hk => hk.1.1.1)⟩, ⟨by (with_reducible repeat (first | apply Kd.R_alloc | apply Kd.R_drewN | apply Kd.R_drew)); exact Kd.R_mono (Kd.R_far (p := ⟨gb363, 1, none⟩) (Kd.R_far (p := ⟨gb363, 0, none⟩) (Kd.R_far (p := ⟨gb397, 1, none⟩) (Kd.R_far (p := ⟨gb397, 0, none⟩) (Kd.R_types (Kd.R_types HO395.out BK397.out (by decide)) BK363.out (by decide)) (fun _ hk => hk.1.2) (.slice Ao73 t390.length co73)) (fun _ hk => hk.1.2) (.slice Ao75 t393.length co75)) (fun _ hk => hk.2) (.slice Ao73 t390.length co73)) (fun _ hk => hk.2) (.slice Ao75 t393.length co75)) (fun _ hk => trivial)⟩, ⟨Op.bt BK356.out⟩, ⟨Op.bv BK363.out⟩, ⟨IsS80.it HI0.out⟩, ⟨Op.kt HK.out⟩, ⟨Op.hu HB.out (IsS80.ge HI0.out)⟩⟩
       ·replace c59 := Bool.eq_false_iff.mpr c59
        subst c59
        have H1 : (spec_l1Cur_pool.l0 k2 (wrap64 (x4_2 - 1)) s0_0 t388 t389 x364000_2 x364001_2) = some (r1, r2, r3, r4) := by rw [if_neg (show ¬ (false = true) by decide)] at H; exact H
        clear H
        have H := H1
        clear H1
        have H' := Op.k H
        clear H
        have hnb82 := NB363_356.out
        have hnc82 := NB356_363.out
        have hnb83 := NB363_0.out
        have hnc83 := NB0_363.out
        have hcz84_0 := Op.c0 BK363.out
        have hcz84_1 := Op.c1 BK363.out
        have hfz84_0 := Op.bf BK363.out 0
        have hfz84_1 := Op.bf BK363.out 1
        obtain ⟨Ao85, co85, eo85⟩ := Kd.R_slice HO_364001.out
        subst eo85
        try go_wp2_with (first | ((with_reducible refine gate_callee (f := 70) rfl ?_); refine goesL_ (some 23) rfl rfl Try.func70 (by kernel_rfl) rfl #[.pointer (some ⟨g, 0, none⟩), .int .i64 (x364001_2.length : Int)] rfl (by (try simp only [List.map_toArray, List.map_cons, List.map_nil]); first | done | rfl | (simp only [List.length_drop, List.length_take]; rfl)) ?_; (with_reducible refine (spec_l1Cur_pick.calls g s0_0 x1001_2 x1002_2 (x364001_2.length : Int) t370 t371 t372 w0 _ ?side1 ?side2 A18.out).mono ?_); (case side1 => exact IsS80.it HI0.out); (case side2 => exact Op.hu HB.out (IsS80.ge HI0.out)); rintro e w86 ⟨rfl, hi, hb, hk⟩; refine ⟨_, rfl, ?_⟩; replace HO_364000 := Op.k (Kd.S_mono (Kd.S_keep (IsS80.apartS (show IsS80 w0 _ g s0_0 x1001_2 x1002_2 from IsS80.it HI0.out) (Op.st HO_364000.out) (by decide)) hk (fun _ h => h.2)) (fun _ h => h.1)); replace HO_364001 := Op.k (Kd.R_mono (Kd.R_keep (IsS80.apart (show IsS80 w0 _ g s0_0 x1001_2 x1002_2 from IsS80.it HI0.out) (Op.rt HO_364001.out) (by decide)) hk (fun _ h => h.2)) (fun _ h => h.1)); replace BK356 := Op.k (KeepBut.blk hk (Op.bt BK356.out) NB356_0.out (by simp)); replace BK363 := Op.k (KeepBut.blk hk (Op.bt BK363.out) NB363_0.out (by simp)); replace HK := Op.k (KeepBut.trans (Op.kt HK.out) hk (.inl rfl)); replace HB := Op.k (hb); replace HI0 := Op.k (hi); (try clear hb); (try clear hb2); (try clear hk); (try clear hi)) | ((with_reducible refine gate_callee (f := 80) rfl ?_); refine goesL_ (some 25) rfl rfl Try.func80 (by kernel_rfl) rfl #[.pointer (some ⟨g, 0, none⟩), .int .i64 5] rfl (by (try simp only [List.map_toArray, List.map_cons, List.map_nil]); first | done | rfl | (simp only [List.length_drop, List.length_take]; rfl)) ?_; (with_reducible refine (spec_l1Cur_one.calls g s0_0 t371 t372 5 false t374 t375 w0 _ ?side1 ?side2 A19.out).mono ?_); (case side1 => exact IsS80.it HI0.out); (case side2 => exact Op.hu HB.out (IsS80.ge HI0.out)); rintro e w87 ⟨rfl, hi, hb, hk⟩; refine ⟨_, rfl, ?_⟩; replace HO_364000 := Op.k (Kd.S_mono (Kd.S_keep (IsS80.apartS (show IsS80 w0 _ g s0_0 t371 t372 from IsS80.it HI0.out) (Op.st HO_364000.out) (by decide)) hk (fun _ h => h.2)) (fun _ h => h.1)); replace HO_364001 := Op.k (Kd.R_mono (Kd.R_keep (IsS80.apart (show IsS80 w0 _ g s0_0 t371 t372 from IsS80.it HI0.out) (Op.rt HO_364001.out) (by decide)) hk (fun _ h => h.2)) (fun _ h => h.1)); replace BK356 := Op.k (KeepBut.blk hk (Op.bt BK356.out) NB356_0.out (by simp)); replace BK363 := Op.k (KeepBut.blk hk (Op.bt BK363.out) NB363_0.out (by simp)); replace HK := Op.k (KeepBut.trans (Op.kt HK.out) hk (.inl rfl)); replace HB := Op.k (hb); replace HI0 := Op.k (hi); (try clear hb); (try clear hb2); (try clear hk); (try clear hi); obtain ⟨Ao88, co88, eo88⟩ := Kd.S_slice HO_364000.out; subst eo88))
        replace HO_364000 := Op.k (Kd.S_drew HO_364000.out)
        replace HO_364001 := Op.k (Kd.R_drew HO_364001.out)
        replace BK356 := Op.k (Op.b2 BK356.out)
        replace BK363 := Op.k (Op.b2 BK363.out)
        replace HI0 := Op.k (IsS80.drew HI0.out)
        replace HK := Op.k (keep_drew HK.out)
        replace HB := Op.k (Op.a3 HB.out)
        refine start_ (n := 13) (S := fun w' => w'.cell? ⟨gb363, 0, none⟩ = some (.slice Ao88 x364000_2.length co88) ∧ w'.cell? ⟨gb363, 1, none⟩ = some (.slice Ao85 x364001_2.length co85)) (ds := []) #[false, false, false, false, false, false, false, false, false, false, false, false, false] (by kernel_rfl) rfl rfl ⟨(blk_cell BK363.out 0).trans rfl, (blk_cell BK363.out 1).trans rfl⟩ (fun hHeld => ?_); refine with_tabW spec_l1Cur_pool.tab12 spec_l1Cur_pool.bits12 (fun HT_ HW_ => ?_)
        generalize w87.drew = w89 at HO_364000 HO_364001 BK356 BK363 HI0 HK HB hHeld ⊢
        refine pure_ (i := 1) (N := some 36) (v := ?_) (a' := ?_) #[false, true, false, false, false, false, false, false, false, false, false, false, false] rfl rfl (any_of HT_.out (by kernel_rfl)) (fun _ _ _ h => h) (Or.inl ⟨by rfl, ?_⟩) ?_ ?_
        rotate_left
        ·intro w'
         go_simp
         with_reducible rfl
        rotate_left
        ·simp only [Act.put, List.setIfInBounds_toArray, List.set_cons_zero, List.set_cons_succ, i64_w, i32_w]
         rfl
        refine pure_ (i := 2) (N := some 37) (v := ?_) (a' := ?_) #[false, true, true, false, false, false, false, false, false, false, false, false, false] rfl rfl (any_of HT_.out (by kernel_rfl)) (fun _ _ _ h => h) (Or.inl ⟨by rfl, ?_⟩) ?_ ?_
        rotate_left
        ·intro w'
         go_simp
         with_reducible rfl
        rotate_left
        ·simp only [Act.put, List.setIfInBounds_toArray, List.set_cons_zero, List.set_cons_succ, i64_w, i32_w]
         rfl
        refine pure_ (i := 4) (N := some 39) (v := ?_) (a' := ?_) #[false, true, true, false, true, false, false, false, false, false, false, false, false] rfl rfl (any_of HT_.out (by kernel_rfl)) (fun _ _ _ h => h) (Or.inl ⟨by rfl, ?_⟩) ?_ ?_
        rotate_left
        ·intro w'
         go_simp
         with_reducible rfl
        rotate_left
        ·simp only [Act.put, List.setIfInBounds_toArray, List.set_cons_zero, List.set_cons_succ, i64_w, i32_w]
         rfl
        refine take_ (i := 0) (N := some 35) (v := ?_) (a' := ?_) #[true, true, true, false, true, false, false, false, false, false, false, false, false] rfl rfl (take_ofW HT_.out HW_.out (by kernel_rfl)) (fun _ _ _ h => h) (Or.inl ⟨by rfl, ?_⟩) hHeld ?_ ?_
        rotate_left
        ·rintro w' ⟨s0, s1⟩
         go_simp
         with_reducible rfl
        rotate_left
        ·simp only [Act.put, List.setIfInBounds_toArray, List.set_cons_zero, List.set_cons_succ, i64_w, i32_w]
         rfl
        refine join_ (σ := Value × Value × Nat) 2 #[true, true, true, true, true, true, true, true, true, true, true, false, false] (fun s_ => [(38, .int .i64 t384), (40, .int .i64 t387), (41, .tuple #[.agg #[s_.1, s_.2.1], .bool false]), (8, .pointer (some ⟨s_.2.2, 0, none⟩)), (34, .tuple #[.agg #[s_.1, s_.2.1], .bool false]), (42, .agg #[s_.1, s_.2.1]), (43, .bool false)]) (fun s_ w' => (w'.cell? ⟨gb363, 0, none⟩ = some (.slice Ao88 x364000_2.length co88) ∧ w'.cell? ⟨gb363, 1, none⟩ = some (.slice Ao85 x364001_2.length co85)) ∧ (Kd.S k65 65 w' w.heap.size (fun k_ => some k_ ≠ (s_.2.1 : Value).ownBlock ∧ some k_ ≠ (.slice Ao88 x364000_2.length co88 : Value).ownBlock ∧ some k_ ≠ (.slice Ao85 x364001_2.length co85 : Value).ownBlock) s_.1 t390) ∧ (Kd.R (Kd.int .i64) 3 w' w.heap.size (fun k_ => some k_ ≠ (.slice Ao85 x364001_2.length co85 : Value).ownBlock) s_.2.1 t393) ∧ (Kd.S k65 65 w' w.heap.size (fun k_ => some k_ ≠ (s_.1 : Value).ownBlock ∧ some k_ ≠ (s_.2.1 : Value).ownBlock ∧ some k_ ≠ (.slice Ao85 x364001_2.length co85 : Value).ownBlock) (.slice Ao88 x364000_2.length co88) x364000_2) ∧ (Kd.R (Kd.int .i64) 3 w' w.heap.size (fun k_ => some k_ ≠ (s_.2.1 : Value).ownBlock) (.slice Ao85 x364001_2.length co85) x364001_2) ∧ (w'.heap[gb356]? = some (.cells #[.slice none 0 0, .slice none 0 0] 25 (0, 0))) ∧ (w'.heap[gb363]? = some (.cells #[.slice Ao88 x364000_2.length co88, .slice Ao85 x364001_2.length co85] 25 (0, 0))) ∧ (w'.heap[s_.2.2]? = some (.cells #[.slice none 0 0, .slice none 0 0] 25 (0, 0))) ∧ (w.heap.size ≤ s_.2.2) ∧ (w0.heap.size ≤ s_.2.2) ∧ (g ≠ s_.2.2) ∧ (s_.2.2 ≠ g) ∧ (gb356 ≠ s_.2.2) ∧ (s_.2.2 ≠ gb356) ∧ (gb363 ≠ s_.2.2) ∧ (s_.2.2 ≠ gb363) ∧ (IsS80 w0 w' g s0_0 t388 t389) ∧ (KeepBut w w' g none) ∧ (Below w0.heap.size w0 w')) ?_ ?_
        rotate_left
        ·intro hCont
         refine two_ (i := 3) (j := 10) (Ni := some 38) (Nj := some 8) #[true, true, true, true, true, false, false, false, false, false, false, false, false] #[true, true, true, false, true, false, false, false, false, false, true, false, false] rfl rfl rfl rfl (two_of HT_.out (by kernel_rfl)) (by decide) (by decide) (fun K hK => ?_) (fun K hK => ?_)
         ·skip
          refine goes_ Try.func70 (by kernel_rfl) rfl #[.pointer (some ⟨g, 0, none⟩), .int .i64 16] (by rfl) rfl rfl (by (try simp only [List.map_toArray, List.map_cons, List.map_nil]); first | done | rfl | (simp only [List.length_drop, List.length_take]; rfl)) ?_
          with_reducible refine (spec_l1Cur_pick.calls g s0_0 t374 t375 16 t384 t385 t386 w0 _ ?side1 ?side2 A56.out).mono ?_
          (case side1 => exact IsS80.it HI0.out)
          (case side2 => exact Op.hu HB.out (IsS80.ge HI0.out))
          rintro e w90 ⟨rfl, hi, hb, hk⟩
          refine ⟨_, rfl, ?_⟩
          replace HO_364000 := Op.k (Kd.S_mono (Kd.S_keep (IsS80.apartS (show IsS80 w0 _ g s0_0 t374 t375 from IsS80.it HI0.out) (Op.st HO_364000.out) (by decide)) hk (fun _ h => h.2)) (fun _ h => h.1))
          replace HO_364001 := Op.k (Kd.R_mono (Kd.R_keep (IsS80.apart (show IsS80 w0 _ g s0_0 t374 t375 from IsS80.it HI0.out) (Op.rt HO_364001.out) (by decide)) hk (fun _ h => h.2)) (fun _ h => h.1))
          replace BK356 := Op.k (KeepBut.blk hk (Op.bt BK356.out) NB356_0.out (by simp))
          replace BK363 := Op.k (KeepBut.blk hk (Op.bt BK363.out) NB363_0.out (by simp))
          replace HK := Op.k (KeepBut.trans (Op.kt HK.out) hk (.inl rfl))
          replace HB := Op.k (hb)
          replace HI0 := Op.k (hi)
          (try clear hb)
          (try clear hb2)
          (try clear hk)
          (try clear hi)
          refine hK.out _ _ ⟨(blk_cell BK363.out 0).trans rfl, (blk_cell BK363.out 1).trans rfl⟩ (fun hHeld => ?_)
          clear hK K
          refine norm_ (a' := ?_) ?_ ?_
          rotate_left
          ·show Act.put _ (some 38) _ = _
           simp only [Act.put, List.setIfInBounds_toArray, List.set_cons_zero, List.set_cons_succ, i64_w, i32_w]
           rfl
          refine two_ (i := 5) (j := 10) (Ni := some 40) (Nj := some 8) #[true, true, true, true, true, true, false, false, false, false, false, false, false] #[true, true, true, true, true, false, false, false, false, false, true, false, false] rfl rfl rfl rfl (two_of HT_.out (by kernel_rfl)) (by decide) (by decide) (fun K hK => ?_) (fun K hK => ?_)
          ·skip
           refine goes_ Try.func70 (by kernel_rfl) rfl #[.pointer (some ⟨g, 0, none⟩), .int .i64 9] (by rfl) rfl rfl (by (try simp only [List.map_toArray, List.map_cons, List.map_nil]); first | done | rfl | (simp only [List.length_drop, List.length_take]; rfl)) ?_
           with_reducible refine (spec_l1Cur_pick.calls g s0_0 t385 t386 9 t387 t388 t389 w0 _ ?side1 ?side2 A57.out).mono ?_
           (case side1 => exact IsS80.it HI0.out)
           (case side2 => exact Op.hu HB.out (IsS80.ge HI0.out))
           rintro e w91 ⟨rfl, hi, hb, hk⟩
           refine ⟨_, rfl, ?_⟩
           replace HO_364000 := Op.k (Kd.S_mono (Kd.S_keep (IsS80.apartS (show IsS80 w0 _ g s0_0 t385 t386 from IsS80.it HI0.out) (Op.st HO_364000.out) (by decide)) hk (fun _ h => h.2)) (fun _ h => h.1))
           replace HO_364001 := Op.k (Kd.R_mono (Kd.R_keep (IsS80.apart (show IsS80 w0 _ g s0_0 t385 t386 from IsS80.it HI0.out) (Op.rt HO_364001.out) (by decide)) hk (fun _ h => h.2)) (fun _ h => h.1))
           replace BK356 := Op.k (KeepBut.blk hk (Op.bt BK356.out) NB356_0.out (by simp))
           replace BK363 := Op.k (KeepBut.blk hk (Op.bt BK363.out) NB363_0.out (by simp))
           replace HK := Op.k (KeepBut.trans (Op.kt HK.out) hk (.inl rfl))
           replace HB := Op.k (hb)
           replace HI0 := Op.k (hi)
           (try clear hb)
           (try clear hb2)
           (try clear hk)
           (try clear hi)
           refine hK.out _ _ ⟨(blk_cell BK363.out 0).trans rfl, (blk_cell BK363.out 1).trans rfl⟩ (fun hHeld => ?_)
           clear hK K
           refine norm_ (a' := ?_) ?_ ?_
           rotate_left
           ·show Act.put _ (some 40) _ = _
            simp only [Act.put, List.setIfInBounds_toArray, List.set_cons_zero, List.set_cons_succ, i64_w, i32_w]
            rfl
           refine two_ (i := 6) (j := 10) (Ni := some 41) (Nj := some 8) #[true, true, true, true, true, true, true, false, false, false, false, false, false] #[true, true, true, true, true, true, false, false, false, false, true, false, false] rfl rfl rfl rfl (two_of HT_.out (by kernel_rfl)) (by decide) (by decide) (fun K hK => ?_) (fun K hK => ?_)
           ·skip
            refine goes_ Try.func33 (by kernel_rfl) rfl #[.agg #[.slice Ao88 x364000_2.length co88, .slice Ao85 x364001_2.length co85], .int .i64 t370, .int .i64 t384, .int .i64 t387] (by rfl) rfl rfl (by (try simp only [List.map_toArray, List.map_cons, List.map_nil]); first | done | rfl | (simp only [List.length_drop, List.length_take]; rfl)) ?_
            with_reducible refine (spec_PutIn.calls k2 _ _ x364000_2 _ _ x364001_2 t370 t384 t387 t390 t393 false _ ?side1 ?side2 ?side3 ?side4 A58.out).mono ?_
            (case side1 => exact Op.ct (Kd.S_reads' HO_364000.out).2.2)
            (case side2 => exact (Kd.S_reads' HO_364000.out).2.1)
            (case side3 => exact Op.ct (Kd.R_reads' HO_364001.out).2.2)
            (case side4 => exact (Kd.R_reads' HO_364001.out).2.1)
            rintro e w92 ⟨v391, v394, rfl, ho0, ho1, hb⟩
            refine ⟨_, rfl, ?_⟩
            have HO392 := Op.k (Kd.S_lower (Kd.S_new' (Kd.S_new' ho0 (Kd.S_lt (Op.st HO_364000.out))) (Kd.R_lt (Op.rt HO_364001.out))) (keep_size (w := w) (g := g) (row := none) (Op.kt HK.out)))
            replace HO_364000 := Op.k (Kd.S_mono (Kd.S_told (Kd.S_told (Kd.S_old (Op.st HO_364000.out) hb) (Kd.S_base ho0)) (Kd.R_base ho1)) (fun _ h_ => h_.1))
            have HO395 := Op.k (Kd.R_lower (Kd.R_new' ho1 (Kd.R_lt (Op.rt HO_364001.out))) (keep_size (w := w) (g := g) (row := none) (Op.kt HK.out)))
            replace HO_364001 := Op.k (Kd.R_elder' (Op.rt HO_364001.out) (Kd.R_base ho1) hb)
            replace BK356 := Op.k (Op.b4 (Op.bt BK356.out) hb)
            replace BK363 := Op.k (Op.b4 (Op.bt BK363.out) hb)
            replace HK := Op.k (KeepBut.trans (Op.kt HK.out) (KeepBut.of_below hb g none) (.inl rfl))
            replace HB := Op.k (Op.a5 (Op.hu HB.out (IsS80.ge HI0.out)) hb)
            replace HI0 := Op.k (IsS80.below (IsS80.it HI0.out) hb)
            (try clear hb)
            (try clear hb2)
            (try clear hk)
            (try clear hi)
            (try clear ho0)
            (try clear ho1)
            refine hK.out _ _ ⟨(blk_cell BK363.out 0).trans rfl, (blk_cell BK363.out 1).trans rfl⟩ (fun hHeld => ?_)
            clear hK K
            refine norm_ (a' := ?_) ?_ ?_
            rotate_left
            ·show Act.put _ (some 41) _ = _
             simp only [Act.put, List.setIfInBounds_toArray, List.set_cons_zero, List.set_cons_succ, i64_w, i32_w]
             rfl
            refine pure_ (i := 7) (N := some 34) (v := ?_) (a' := ?_) #[true, true, true, true, true, true, true, true, false, false, false, false, false] rfl rfl (any_of HT_.out (by kernel_rfl)) (fun _ _ _ h => h) (Or.inl ⟨by rfl, ?_⟩) ?_ ?_
            rotate_left
            ·intro w'
             go_simp
             with_reducible rfl
            rotate_left
            ·simp only [Act.put, List.setIfInBounds_toArray, List.set_cons_zero, List.set_cons_succ, i64_w, i32_w]
             rfl
            refine pure_ (i := 8) (N := some 42) (v := ?_) (a' := ?_) #[true, true, true, true, true, true, true, true, true, false, false, false, false] rfl rfl (any_of HT_.out (by kernel_rfl)) (fun _ _ _ h => h) (Or.inl ⟨by rfl, ?_⟩) ?_ ?_
            rotate_left
            ·intro w'
             go_simp
             with_reducible rfl
            rotate_left
            ·simp only [Act.put, List.setIfInBounds_toArray, List.set_cons_zero, List.set_cons_succ, i64_w, i32_w]
             rfl
            refine pure_ (i := 9) (N := some 43) (v := ?_) (a' := ?_) #[true, true, true, true, true, true, true, true, true, true, false, false, false] rfl rfl (any_of HT_.out (by kernel_rfl)) (fun _ _ _ h => h) (Or.inl ⟨by rfl, ?_⟩) ?_ ?_
            rotate_left
            ·intro w'
             go_simp
             with_reducible rfl
            rotate_left
            ·simp only [Act.put, List.setIfInBounds_toArray, List.set_cons_zero, List.set_cons_succ, i64_w, i32_w]
             rfl
            refine one_ (i := 10) (N := some 8) #[true, true, true, true, true, true, true, true, true, true, true, false, false] rfl rfl (one_of HT_.out (by kernel_rfl)) (by decide) (fun K hK => ?_)
            refine box_step ?hg (N := 8) ?hd (cs := #[.slice none 0 0, .slice none 0 0]) (t := 25) ?hr ?_; (case hd => rfl); (case hg => rfl); (case hr => first | (go_simp; done) | (go_simp; rfl))
            intro gb397 hg w93 hbox hb
            replace HO_364000 := Op.k (Kd.S_below (Op.st HO_364000.out) hb)
            replace HO_364001 := Op.k (Kd.R_below (Op.rt HO_364001.out) hb)
            replace HO392 := Op.k (Kd.S_below (Op.st HO392.out) hb)
            replace HO395 := Op.k (Kd.R_below (Op.rt HO395.out) hb)
            replace HB := Op.k (Op.a5 (Op.hu HB.out (IsS80.ge HI0.out)) hb)
            have BK397 := Op.k (hbox)
            have GW397 := Op.k ((Op.ny hg (Op.kt HK.out) : w.heap.size ≤ gb397))
            have GE397 := Op.k ((Nat.le_trans HW0.out (Op.ny hg (Op.kt HK.out) : w.heap.size ≤ gb397) : w0.heap.size ≤ gb397))
            replace HK := Op.k (KeepBut.trans (Op.kt HK.out) (KeepBut.of_below hb g none) (.inl rfl))
            have NB356_397 := Op.k ((Op.nl hg (Op.bt BK356.out) : gb356 ≠ gb397))
            have NB397_356 := Op.k ((Op.ng hg (Op.bt BK356.out) : gb397 ≠ gb356))
            replace BK356 := Op.k (Op.b4 (Op.bt BK356.out) hb)
            have NB363_397 := Op.k ((Op.nl hg (Op.bt BK363.out) : gb363 ≠ gb397))
            have NB397_363 := Op.k ((Op.ng hg (Op.bt BK363.out) : gb397 ≠ gb363))
            replace BK363 := Op.k (Op.b4 (Op.bt BK363.out) hb)
            have NB0_397 := Op.k ((by rw [hg]; exact Nat.ne_of_lt (IsS80.lt (show IsS80 w0 _ g s0_0 t388 t389 from IsS80.it HI0.out)) : g ≠ gb397))
            have NB397_0 := Op.k ((by rw [hg]; exact Nat.ne_of_gt (IsS80.lt (show IsS80 w0 _ g s0_0 t388 t389 from IsS80.it HI0.out)) : gb397 ≠ g))
            replace HI0 := Op.k (IsS80.below (IsS80.it HI0.out) hb)
            clear hb hbox hg
            refine hK.out _ _ ⟨(blk_cell BK363.out 0).trans rfl, (blk_cell BK363.out 1).trans rfl⟩ (fun hHeld => ?_)
            clear hK K
            refine norm_ (a' := ?_) ?_ ?_
            rotate_left
            ·show Act.put _ (some 8) _ = _
             simp only [Act.put, List.setIfInBounds_toArray, List.set_cons_zero, List.set_cons_succ, i64_w, i32_w]
             rfl
            exact norm_ (by simp only [putAll, Act.put, List.setIfInBounds_toArray, List.set_cons_zero, List.set_cons_succ]) (hCont (v391, v394, gb397) _ ⟨hHeld, (Kd.S_mono (Op.st HO392.out) (fun _ hk => ⟨hk.1.1, ⟨hk.1.2, hk.2⟩⟩)), (Kd.R_mono (Op.rt HO395.out) (fun _ hk => hk.2)), (Kd.S_mono (Op.st HO_364000.out) (fun _ hk => ⟨hk.1.2, ⟨hk.2, hk.1.1⟩⟩)), (Kd.R_mono (Op.rt HO_364001.out) (fun _ hk => hk.2)), (Op.bt BK356.out), (Op.bt BK363.out), (Op.bt BK397.out), GW397.out, GE397.out, NB0_397.out, NB397_0.out, NB356_397.out, NB397_356.out, NB363_397.out, NB397_363.out, (IsS80.it HI0.out), (Op.kt HK.out), (Op.hu HB.out (IsS80.ge HI0.out))⟩)
           ·skip
            refine box_step ?hg (N := 8) ?hd (cs := #[.slice none 0 0, .slice none 0 0]) (t := 25) ?hr ?_; (case hd => rfl); (case hg => rfl); (case hr => first | (go_simp; done) | (go_simp; rfl))
            intro gb397 hg w92 hbox hb
            replace HO_364000 := Op.k (Kd.S_below (Op.st HO_364000.out) hb)
            replace HO_364001 := Op.k (Kd.R_below (Op.rt HO_364001.out) hb)
            replace HB := Op.k (Op.a5 (Op.hu HB.out (IsS80.ge HI0.out)) hb)
            have BK397 := Op.k (hbox)
            have GW397 := Op.k ((Op.ny hg (Op.kt HK.out) : w.heap.size ≤ gb397))
            have GE397 := Op.k ((Nat.le_trans HW0.out (Op.ny hg (Op.kt HK.out) : w.heap.size ≤ gb397) : w0.heap.size ≤ gb397))
            replace HK := Op.k (KeepBut.trans (Op.kt HK.out) (KeepBut.of_below hb g none) (.inl rfl))
            have NB356_397 := Op.k ((Op.nl hg (Op.bt BK356.out) : gb356 ≠ gb397))
            have NB397_356 := Op.k ((Op.ng hg (Op.bt BK356.out) : gb397 ≠ gb356))
            replace BK356 := Op.k (Op.b4 (Op.bt BK356.out) hb)
            have NB363_397 := Op.k ((Op.nl hg (Op.bt BK363.out) : gb363 ≠ gb397))
            have NB397_363 := Op.k ((Op.ng hg (Op.bt BK363.out) : gb397 ≠ gb363))
            replace BK363 := Op.k (Op.b4 (Op.bt BK363.out) hb)
            have NB0_397 := Op.k ((by rw [hg]; exact Nat.ne_of_lt (IsS80.lt (show IsS80 w0 _ g s0_0 t388 t389 from IsS80.it HI0.out)) : g ≠ gb397))
            have NB397_0 := Op.k ((by rw [hg]; exact Nat.ne_of_gt (IsS80.lt (show IsS80 w0 _ g s0_0 t388 t389 from IsS80.it HI0.out)) : gb397 ≠ g))
            replace HI0 := Op.k (IsS80.below (IsS80.it HI0.out) hb)
            clear hb hbox hg
            refine hK.out _ _ ⟨(blk_cell BK363.out 0).trans rfl, (blk_cell BK363.out 1).trans rfl⟩ (fun hHeld => ?_)
            clear hK K
            refine norm_ (a' := ?_) ?_ ?_
            rotate_left
            ·show Act.put _ (some 8) _ = _
             simp only [Act.put, List.setIfInBounds_toArray, List.set_cons_zero, List.set_cons_succ, i64_w, i32_w]
             rfl
            refine one_ (i := 6) (N := some 41) #[true, true, true, true, true, true, true, false, false, false, true, false, false] rfl rfl (one_of HT_.out (by kernel_rfl)) (by decide) (fun K hK => ?_)
            refine goes_ Try.func33 (by kernel_rfl) rfl #[.agg #[.slice Ao88 x364000_2.length co88, .slice Ao85 x364001_2.length co85], .int .i64 t370, .int .i64 t384, .int .i64 t387] (by rfl) rfl rfl (by (try simp only [List.map_toArray, List.map_cons, List.map_nil]); first | done | rfl | (simp only [List.length_drop, List.length_take]; rfl)) ?_
            with_reducible refine (spec_PutIn.calls k2 _ _ x364000_2 _ _ x364001_2 t370 t384 t387 t390 t393 false _ ?side1 ?side2 ?side3 ?side4 A58.out).mono ?_
            (case side1 => exact Op.ct (Kd.S_reads' HO_364000.out).2.2)
            (case side2 => exact (Kd.S_reads' HO_364000.out).2.1)
            (case side3 => exact Op.ct (Kd.R_reads' HO_364001.out).2.2)
            (case side4 => exact (Kd.R_reads' HO_364001.out).2.1)
            rintro e w93 ⟨v391, v394, rfl, ho0, ho1, hb⟩
            refine ⟨_, rfl, ?_⟩
            have HO392 := Op.k (Kd.S_lower (Kd.S_new' (Kd.S_new' ho0 (Kd.S_lt (Op.st HO_364000.out))) (Kd.R_lt (Op.rt HO_364001.out))) (keep_size (w := w) (g := g) (row := none) (Op.kt HK.out)))
            replace HO_364000 := Op.k (Kd.S_mono (Kd.S_told (Kd.S_told (Kd.S_old (Op.st HO_364000.out) hb) (Kd.S_base ho0)) (Kd.R_base ho1)) (fun _ h_ => h_.1))
            have HO395 := Op.k (Kd.R_lower (Kd.R_new' ho1 (Kd.R_lt (Op.rt HO_364001.out))) (keep_size (w := w) (g := g) (row := none) (Op.kt HK.out)))
            replace HO_364001 := Op.k (Kd.R_elder' (Op.rt HO_364001.out) (Kd.R_base ho1) hb)
            replace BK356 := Op.k (Op.b4 (Op.bt BK356.out) hb)
            replace BK363 := Op.k (Op.b4 (Op.bt BK363.out) hb)
            replace BK397 := Op.k (Op.b4 (Op.bt BK397.out) hb)
            replace HK := Op.k (KeepBut.trans (Op.kt HK.out) (KeepBut.of_below hb g none) (.inl rfl))
            replace HB := Op.k (Op.a5 (Op.hu HB.out (IsS80.ge HI0.out)) hb)
            replace HI0 := Op.k (IsS80.below (IsS80.it HI0.out) hb)
            (try clear hb)
            (try clear hb2)
            (try clear hk)
            (try clear hi)
            (try clear ho0)
            (try clear ho1)
            refine hK.out _ _ ⟨(blk_cell BK363.out 0).trans rfl, (blk_cell BK363.out 1).trans rfl⟩ (fun hHeld => ?_)
            clear hK K
            refine norm_ (a' := ?_) ?_ ?_
            rotate_left
            ·show Act.put _ (some 41) _ = _
             simp only [Act.put, List.setIfInBounds_toArray, List.set_cons_zero, List.set_cons_succ, i64_w, i32_w]
             rfl
            refine pure_ (i := 7) (N := some 34) (v := ?_) (a' := ?_) #[true, true, true, true, true, true, true, true, false, false, true, false, false] rfl rfl (any_of HT_.out (by kernel_rfl)) (fun _ _ _ h => h) (Or.inl ⟨by rfl, ?_⟩) ?_ ?_
            rotate_left
            ·intro w'
             go_simp
             with_reducible rfl
            rotate_left
            ·simp only [Act.put, List.setIfInBounds_toArray, List.set_cons_zero, List.set_cons_succ, i64_w, i32_w]
             rfl
            refine pure_ (i := 8) (N := some 42) (v := ?_) (a' := ?_) #[true, true, true, true, true, true, true, true, true, false, true, false, false] rfl rfl (any_of HT_.out (by kernel_rfl)) (fun _ _ _ h => h) (Or.inl ⟨by rfl, ?_⟩) ?_ ?_
            rotate_left
            ·intro w'
             go_simp
             with_reducible rfl
            rotate_left
            ·simp only [Act.put, List.setIfInBounds_toArray, List.set_cons_zero, List.set_cons_succ, i64_w, i32_w]
             rfl
            refine pure_ (i := 9) (N := some 43) (v := ?_) (a' := ?_) #[true, true, true, true, true, true, true, true, true, true, true, false, false] rfl rfl (any_of HT_.out (by kernel_rfl)) (fun _ _ _ h => h) (Or.inl ⟨by rfl, ?_⟩) ?_ ?_
            rotate_left
            ·intro w'
             go_simp
             with_reducible rfl
            rotate_left
            ·simp only [Act.put, List.setIfInBounds_toArray, List.set_cons_zero, List.set_cons_succ, i64_w, i32_w]
             rfl
            exact norm_ (by simp only [putAll, Act.put, List.setIfInBounds_toArray, List.set_cons_zero, List.set_cons_succ]) (hCont (v391, v394, gb397) _ ⟨hHeld, (Kd.S_mono (Op.st HO392.out) (fun _ hk => ⟨hk.1.1, ⟨hk.1.2, hk.2⟩⟩)), (Kd.R_mono (Op.rt HO395.out) (fun _ hk => hk.2)), (Kd.S_mono (Op.st HO_364000.out) (fun _ hk => ⟨hk.1.2, ⟨hk.2, hk.1.1⟩⟩)), (Kd.R_mono (Op.rt HO_364001.out) (fun _ hk => hk.2)), (Op.bt BK356.out), (Op.bt BK363.out), (Op.bt BK397.out), GW397.out, GE397.out, NB0_397.out, NB397_0.out, NB356_397.out, NB397_356.out, NB363_397.out, NB397_363.out, (IsS80.it HI0.out), (Op.kt HK.out), (Op.hu HB.out (IsS80.ge HI0.out))⟩)
          ·skip
           refine box_step ?hg (N := 8) ?hd (cs := #[.slice none 0 0, .slice none 0 0]) (t := 25) ?hr ?_; (case hd => rfl); (case hg => rfl); (case hr => first | (go_simp; done) | (go_simp; rfl))
           intro gb397 hg w91 hbox hb
           replace HO_364000 := Op.k (Kd.S_below (Op.st HO_364000.out) hb)
           replace HO_364001 := Op.k (Kd.R_below (Op.rt HO_364001.out) hb)
           replace HB := Op.k (Op.a5 (Op.hu HB.out (IsS80.ge HI0.out)) hb)
           have BK397 := Op.k (hbox)
           have GW397 := Op.k ((Op.ny hg (Op.kt HK.out) : w.heap.size ≤ gb397))
           have GE397 := Op.k ((Nat.le_trans HW0.out (Op.ny hg (Op.kt HK.out) : w.heap.size ≤ gb397) : w0.heap.size ≤ gb397))
           replace HK := Op.k (KeepBut.trans (Op.kt HK.out) (KeepBut.of_below hb g none) (.inl rfl))
           have NB356_397 := Op.k ((Op.nl hg (Op.bt BK356.out) : gb356 ≠ gb397))
           have NB397_356 := Op.k ((Op.ng hg (Op.bt BK356.out) : gb397 ≠ gb356))
           replace BK356 := Op.k (Op.b4 (Op.bt BK356.out) hb)
           have NB363_397 := Op.k ((Op.nl hg (Op.bt BK363.out) : gb363 ≠ gb397))
           have NB397_363 := Op.k ((Op.ng hg (Op.bt BK363.out) : gb397 ≠ gb363))
           replace BK363 := Op.k (Op.b4 (Op.bt BK363.out) hb)
           have NB0_397 := Op.k ((by rw [hg]; exact Nat.ne_of_lt (IsS80.lt (show IsS80 w0 _ g s0_0 t385 t386 from IsS80.it HI0.out)) : g ≠ gb397))
           have NB397_0 := Op.k ((by rw [hg]; exact Nat.ne_of_gt (IsS80.lt (show IsS80 w0 _ g s0_0 t385 t386 from IsS80.it HI0.out)) : gb397 ≠ g))
           replace HI0 := Op.k (IsS80.below (IsS80.it HI0.out) hb)
           clear hb hbox hg
           refine hK.out _ _ ⟨(blk_cell BK363.out 0).trans rfl, (blk_cell BK363.out 1).trans rfl⟩ (fun hHeld => ?_)
           clear hK K
           refine norm_ (a' := ?_) ?_ ?_
           rotate_left
           ·show Act.put _ (some 8) _ = _
            simp only [Act.put, List.setIfInBounds_toArray, List.set_cons_zero, List.set_cons_succ, i64_w, i32_w]
            rfl
           refine one_ (i := 5) (N := some 40) #[true, true, true, true, true, true, false, false, false, false, true, false, false] rfl rfl (one_of HT_.out (by kernel_rfl)) (by decide) (fun K hK => ?_)
           refine goes_ Try.func70 (by kernel_rfl) rfl #[.pointer (some ⟨g, 0, none⟩), .int .i64 9] (by rfl) rfl rfl (by (try simp only [List.map_toArray, List.map_cons, List.map_nil]); first | done | rfl | (simp only [List.length_drop, List.length_take]; rfl)) ?_
           with_reducible refine (spec_l1Cur_pick.calls g s0_0 t385 t386 9 t387 t388 t389 w0 _ ?side1 ?side2 A57.out).mono ?_
           (case side1 => exact IsS80.it HI0.out)
           (case side2 => exact Op.hu HB.out (IsS80.ge HI0.out))
           rintro e w92 ⟨rfl, hi, hb, hk⟩
           refine ⟨_, rfl, ?_⟩
           replace HO_364000 := Op.k (Kd.S_mono (Kd.S_keep (IsS80.apartS (show IsS80 w0 _ g s0_0 t385 t386 from IsS80.it HI0.out) (Op.st HO_364000.out) (by decide)) hk (fun _ h => h.2)) (fun _ h => h.1))
           replace HO_364001 := Op.k (Kd.R_mono (Kd.R_keep (IsS80.apart (show IsS80 w0 _ g s0_0 t385 t386 from IsS80.it HI0.out) (Op.rt HO_364001.out) (by decide)) hk (fun _ h => h.2)) (fun _ h => h.1))
           replace BK356 := Op.k (KeepBut.blk hk (Op.bt BK356.out) NB356_0.out (by simp))
           replace BK363 := Op.k (KeepBut.blk hk (Op.bt BK363.out) NB363_0.out (by simp))
           replace BK397 := Op.k (KeepBut.blk hk (Op.bt BK397.out) NB397_0.out (by simp))
           replace HK := Op.k (KeepBut.trans (Op.kt HK.out) hk (.inl rfl))
           replace HB := Op.k (hb)
           replace HI0 := Op.k (hi)
           (try clear hb)
           (try clear hb2)
           (try clear hk)
           (try clear hi)
           refine hK.out _ _ ⟨(blk_cell BK363.out 0).trans rfl, (blk_cell BK363.out 1).trans rfl⟩ (fun hHeld => ?_)
           clear hK K
           refine norm_ (a' := ?_) ?_ ?_
           rotate_left
           ·show Act.put _ (some 40) _ = _
            simp only [Act.put, List.setIfInBounds_toArray, List.set_cons_zero, List.set_cons_succ, i64_w, i32_w]
            rfl
           refine one_ (i := 6) (N := some 41) #[true, true, true, true, true, true, true, false, false, false, true, false, false] rfl rfl (one_of HT_.out (by kernel_rfl)) (by decide) (fun K hK => ?_)
           refine goes_ Try.func33 (by kernel_rfl) rfl #[.agg #[.slice Ao88 x364000_2.length co88, .slice Ao85 x364001_2.length co85], .int .i64 t370, .int .i64 t384, .int .i64 t387] (by rfl) rfl rfl (by (try simp only [List.map_toArray, List.map_cons, List.map_nil]); first | done | rfl | (simp only [List.length_drop, List.length_take]; rfl)) ?_
           with_reducible refine (spec_PutIn.calls k2 _ _ x364000_2 _ _ x364001_2 t370 t384 t387 t390 t393 false _ ?side1 ?side2 ?side3 ?side4 A58.out).mono ?_
           (case side1 => exact Op.ct (Kd.S_reads' HO_364000.out).2.2)
           (case side2 => exact (Kd.S_reads' HO_364000.out).2.1)
           (case side3 => exact Op.ct (Kd.R_reads' HO_364001.out).2.2)
           (case side4 => exact (Kd.R_reads' HO_364001.out).2.1)
           rintro e w93 ⟨v391, v394, rfl, ho0, ho1, hb⟩
           refine ⟨_, rfl, ?_⟩
           have HO392 := Op.k (Kd.S_lower (Kd.S_new' (Kd.S_new' ho0 (Kd.S_lt (Op.st HO_364000.out))) (Kd.R_lt (Op.rt HO_364001.out))) (keep_size (w := w) (g := g) (row := none) (Op.kt HK.out)))
           replace HO_364000 := Op.k (Kd.S_mono (Kd.S_told (Kd.S_told (Kd.S_old (Op.st HO_364000.out) hb) (Kd.S_base ho0)) (Kd.R_base ho1)) (fun _ h_ => h_.1))
           have HO395 := Op.k (Kd.R_lower (Kd.R_new' ho1 (Kd.R_lt (Op.rt HO_364001.out))) (keep_size (w := w) (g := g) (row := none) (Op.kt HK.out)))
           replace HO_364001 := Op.k (Kd.R_elder' (Op.rt HO_364001.out) (Kd.R_base ho1) hb)
           replace BK356 := Op.k (Op.b4 (Op.bt BK356.out) hb)
           replace BK363 := Op.k (Op.b4 (Op.bt BK363.out) hb)
           replace BK397 := Op.k (Op.b4 (Op.bt BK397.out) hb)
           replace HK := Op.k (KeepBut.trans (Op.kt HK.out) (KeepBut.of_below hb g none) (.inl rfl))
           replace HB := Op.k (Op.a5 (Op.hu HB.out (IsS80.ge HI0.out)) hb)
           replace HI0 := Op.k (IsS80.below (IsS80.it HI0.out) hb)
           (try clear hb)
           (try clear hb2)
           (try clear hk)
           (try clear hi)
           (try clear ho0)
           (try clear ho1)
           refine hK.out _ _ ⟨(blk_cell BK363.out 0).trans rfl, (blk_cell BK363.out 1).trans rfl⟩ (fun hHeld => ?_)
           clear hK K
           refine norm_ (a' := ?_) ?_ ?_
           rotate_left
           ·show Act.put _ (some 41) _ = _
            simp only [Act.put, List.setIfInBounds_toArray, List.set_cons_zero, List.set_cons_succ, i64_w, i32_w]
            rfl
           refine pure_ (i := 7) (N := some 34) (v := ?_) (a' := ?_) #[true, true, true, true, true, true, true, true, false, false, true, false, false] rfl rfl (any_of HT_.out (by kernel_rfl)) (fun _ _ _ h => h) (Or.inl ⟨by rfl, ?_⟩) ?_ ?_
           rotate_left
           ·intro w'
            go_simp
            with_reducible rfl
           rotate_left
           ·simp only [Act.put, List.setIfInBounds_toArray, List.set_cons_zero, List.set_cons_succ, i64_w, i32_w]
            rfl
           refine pure_ (i := 8) (N := some 42) (v := ?_) (a' := ?_) #[true, true, true, true, true, true, true, true, true, false, true, false, false] rfl rfl (any_of HT_.out (by kernel_rfl)) (fun _ _ _ h => h) (Or.inl ⟨by rfl, ?_⟩) ?_ ?_
           rotate_left
           ·intro w'
            go_simp
            with_reducible rfl
           rotate_left
           ·simp only [Act.put, List.setIfInBounds_toArray, List.set_cons_zero, List.set_cons_succ, i64_w, i32_w]
            rfl
           refine pure_ (i := 9) (N := some 43) (v := ?_) (a' := ?_) #[true, true, true, true, true, true, true, true, true, true, true, false, false] rfl rfl (any_of HT_.out (by kernel_rfl)) (fun _ _ _ h => h) (Or.inl ⟨by rfl, ?_⟩) ?_ ?_
           rotate_left
           ·intro w'
            go_simp
            with_reducible rfl
           rotate_left
           ·simp only [Act.put, List.setIfInBounds_toArray, List.set_cons_zero, List.set_cons_succ, i64_w, i32_w]
            rfl
           exact norm_ (by simp only [putAll, Act.put, List.setIfInBounds_toArray, List.set_cons_zero, List.set_cons_succ]) (hCont (v391, v394, gb397) _ ⟨hHeld, (Kd.S_mono (Op.st HO392.out) (fun _ hk => ⟨hk.1.1, ⟨hk.1.2, hk.2⟩⟩)), (Kd.R_mono (Op.rt HO395.out) (fun _ hk => hk.2)), (Kd.S_mono (Op.st HO_364000.out) (fun _ hk => ⟨hk.1.2, ⟨hk.2, hk.1.1⟩⟩)), (Kd.R_mono (Op.rt HO_364001.out) (fun _ hk => hk.2)), (Op.bt BK356.out), (Op.bt BK363.out), (Op.bt BK397.out), GW397.out, GE397.out, NB0_397.out, NB397_0.out, NB356_397.out, NB397_356.out, NB363_397.out, NB397_363.out, (IsS80.it HI0.out), (Op.kt HK.out), (Op.hu HB.out (IsS80.ge HI0.out))⟩)
         ·skip
          refine box_step ?hg (N := 8) ?hd (cs := #[.slice none 0 0, .slice none 0 0]) (t := 25) ?hr ?_; (case hd => rfl); (case hg => rfl); (case hr => first | (go_simp; done) | (go_simp; rfl))
          intro gb397 hg w90 hbox hb
          replace HO_364000 := Op.k (Kd.S_below (Op.st HO_364000.out) hb)
          replace HO_364001 := Op.k (Kd.R_below (Op.rt HO_364001.out) hb)
          replace HB := Op.k (Op.a5 (Op.hu HB.out (IsS80.ge HI0.out)) hb)
          have BK397 := Op.k (hbox)
          have GW397 := Op.k ((Op.ny hg (Op.kt HK.out) : w.heap.size ≤ gb397))
          have GE397 := Op.k ((Nat.le_trans HW0.out (Op.ny hg (Op.kt HK.out) : w.heap.size ≤ gb397) : w0.heap.size ≤ gb397))
          replace HK := Op.k (KeepBut.trans (Op.kt HK.out) (KeepBut.of_below hb g none) (.inl rfl))
          have NB356_397 := Op.k ((Op.nl hg (Op.bt BK356.out) : gb356 ≠ gb397))
          have NB397_356 := Op.k ((Op.ng hg (Op.bt BK356.out) : gb397 ≠ gb356))
          replace BK356 := Op.k (Op.b4 (Op.bt BK356.out) hb)
          have NB363_397 := Op.k ((Op.nl hg (Op.bt BK363.out) : gb363 ≠ gb397))
          have NB397_363 := Op.k ((Op.ng hg (Op.bt BK363.out) : gb397 ≠ gb363))
          replace BK363 := Op.k (Op.b4 (Op.bt BK363.out) hb)
          have NB0_397 := Op.k ((by rw [hg]; exact Nat.ne_of_lt (IsS80.lt (show IsS80 w0 _ g s0_0 t374 t375 from IsS80.it HI0.out)) : g ≠ gb397))
          have NB397_0 := Op.k ((by rw [hg]; exact Nat.ne_of_gt (IsS80.lt (show IsS80 w0 _ g s0_0 t374 t375 from IsS80.it HI0.out)) : gb397 ≠ g))
          replace HI0 := Op.k (IsS80.below (IsS80.it HI0.out) hb)
          clear hb hbox hg
          refine hK.out _ _ ⟨(blk_cell BK363.out 0).trans rfl, (blk_cell BK363.out 1).trans rfl⟩ (fun hHeld => ?_)
          clear hK K
          refine norm_ (a' := ?_) ?_ ?_
          rotate_left
          ·show Act.put _ (some 8) _ = _
           simp only [Act.put, List.setIfInBounds_toArray, List.set_cons_zero, List.set_cons_succ, i64_w, i32_w]
           rfl
          refine one_ (i := 3) (N := some 38) #[true, true, true, true, true, false, false, false, false, false, true, false, false] rfl rfl (one_of HT_.out (by kernel_rfl)) (by decide) (fun K hK => ?_)
          refine goes_ Try.func70 (by kernel_rfl) rfl #[.pointer (some ⟨g, 0, none⟩), .int .i64 16] (by rfl) rfl rfl (by (try simp only [List.map_toArray, List.map_cons, List.map_nil]); first | done | rfl | (simp only [List.length_drop, List.length_take]; rfl)) ?_
          with_reducible refine (spec_l1Cur_pick.calls g s0_0 t374 t375 16 t384 t385 t386 w0 _ ?side1 ?side2 A56.out).mono ?_
          (case side1 => exact IsS80.it HI0.out)
          (case side2 => exact Op.hu HB.out (IsS80.ge HI0.out))
          rintro e w91 ⟨rfl, hi, hb, hk⟩
          refine ⟨_, rfl, ?_⟩
          replace HO_364000 := Op.k (Kd.S_mono (Kd.S_keep (IsS80.apartS (show IsS80 w0 _ g s0_0 t374 t375 from IsS80.it HI0.out) (Op.st HO_364000.out) (by decide)) hk (fun _ h => h.2)) (fun _ h => h.1))
          replace HO_364001 := Op.k (Kd.R_mono (Kd.R_keep (IsS80.apart (show IsS80 w0 _ g s0_0 t374 t375 from IsS80.it HI0.out) (Op.rt HO_364001.out) (by decide)) hk (fun _ h => h.2)) (fun _ h => h.1))
          replace BK356 := Op.k (KeepBut.blk hk (Op.bt BK356.out) NB356_0.out (by simp))
          replace BK363 := Op.k (KeepBut.blk hk (Op.bt BK363.out) NB363_0.out (by simp))
          replace BK397 := Op.k (KeepBut.blk hk (Op.bt BK397.out) NB397_0.out (by simp))
          replace HK := Op.k (KeepBut.trans (Op.kt HK.out) hk (.inl rfl))
          replace HB := Op.k (hb)
          replace HI0 := Op.k (hi)
          (try clear hb)
          (try clear hb2)
          (try clear hk)
          (try clear hi)
          refine hK.out _ _ ⟨(blk_cell BK363.out 0).trans rfl, (blk_cell BK363.out 1).trans rfl⟩ (fun hHeld => ?_)
          clear hK K
          refine norm_ (a' := ?_) ?_ ?_
          rotate_left
          ·show Act.put _ (some 38) _ = _
           simp only [Act.put, List.setIfInBounds_toArray, List.set_cons_zero, List.set_cons_succ, i64_w, i32_w]
           rfl
          refine one_ (i := 5) (N := some 40) #[true, true, true, true, true, true, false, false, false, false, true, false, false] rfl rfl (one_of HT_.out (by kernel_rfl)) (by decide) (fun K hK => ?_)
          refine goes_ Try.func70 (by kernel_rfl) rfl #[.pointer (some ⟨g, 0, none⟩), .int .i64 9] (by rfl) rfl rfl (by (try simp only [List.map_toArray, List.map_cons, List.map_nil]); first | done | rfl | (simp only [List.length_drop, List.length_take]; rfl)) ?_
          with_reducible refine (spec_l1Cur_pick.calls g s0_0 t385 t386 9 t387 t388 t389 w0 _ ?side1 ?side2 A57.out).mono ?_
          (case side1 => exact IsS80.it HI0.out)
          (case side2 => exact Op.hu HB.out (IsS80.ge HI0.out))
          rintro e w92 ⟨rfl, hi, hb, hk⟩
          refine ⟨_, rfl, ?_⟩
          replace HO_364000 := Op.k (Kd.S_mono (Kd.S_keep (IsS80.apartS (show IsS80 w0 _ g s0_0 t385 t386 from IsS80.it HI0.out) (Op.st HO_364000.out) (by decide)) hk (fun _ h => h.2)) (fun _ h => h.1))
          replace HO_364001 := Op.k (Kd.R_mono (Kd.R_keep (IsS80.apart (show IsS80 w0 _ g s0_0 t385 t386 from IsS80.it HI0.out) (Op.rt HO_364001.out) (by decide)) hk (fun _ h => h.2)) (fun _ h => h.1))
          replace BK356 := Op.k (KeepBut.blk hk (Op.bt BK356.out) NB356_0.out (by simp))
          replace BK363 := Op.k (KeepBut.blk hk (Op.bt BK363.out) NB363_0.out (by simp))
          replace BK397 := Op.k (KeepBut.blk hk (Op.bt BK397.out) NB397_0.out (by simp))
          replace HK := Op.k (KeepBut.trans (Op.kt HK.out) hk (.inl rfl))
          replace HB := Op.k (hb)
          replace HI0 := Op.k (hi)
          (try clear hb)
          (try clear hb2)
          (try clear hk)
          (try clear hi)
          refine hK.out _ _ ⟨(blk_cell BK363.out 0).trans rfl, (blk_cell BK363.out 1).trans rfl⟩ (fun hHeld => ?_)
          clear hK K
          refine norm_ (a' := ?_) ?_ ?_
          rotate_left
          ·show Act.put _ (some 40) _ = _
           simp only [Act.put, List.setIfInBounds_toArray, List.set_cons_zero, List.set_cons_succ, i64_w, i32_w]
           rfl
          refine one_ (i := 6) (N := some 41) #[true, true, true, true, true, true, true, false, false, false, true, false, false] rfl rfl (one_of HT_.out (by kernel_rfl)) (by decide) (fun K hK => ?_)
          refine goes_ Try.func33 (by kernel_rfl) rfl #[.agg #[.slice Ao88 x364000_2.length co88, .slice Ao85 x364001_2.length co85], .int .i64 t370, .int .i64 t384, .int .i64 t387] (by rfl) rfl rfl (by (try simp only [List.map_toArray, List.map_cons, List.map_nil]); first | done | rfl | (simp only [List.length_drop, List.length_take]; rfl)) ?_
          with_reducible refine (spec_PutIn.calls k2 _ _ x364000_2 _ _ x364001_2 t370 t384 t387 t390 t393 false _ ?side1 ?side2 ?side3 ?side4 A58.out).mono ?_
          (case side1 => exact Op.ct (Kd.S_reads' HO_364000.out).2.2)
          (case side2 => exact (Kd.S_reads' HO_364000.out).2.1)
          (case side3 => exact Op.ct (Kd.R_reads' HO_364001.out).2.2)
          (case side4 => exact (Kd.R_reads' HO_364001.out).2.1)
          rintro e w93 ⟨v391, v394, rfl, ho0, ho1, hb⟩
          refine ⟨_, rfl, ?_⟩
          have HO392 := Op.k (Kd.S_lower (Kd.S_new' (Kd.S_new' ho0 (Kd.S_lt (Op.st HO_364000.out))) (Kd.R_lt (Op.rt HO_364001.out))) (keep_size (w := w) (g := g) (row := none) (Op.kt HK.out)))
          replace HO_364000 := Op.k (Kd.S_mono (Kd.S_told (Kd.S_told (Kd.S_old (Op.st HO_364000.out) hb) (Kd.S_base ho0)) (Kd.R_base ho1)) (fun _ h_ => h_.1))
          have HO395 := Op.k (Kd.R_lower (Kd.R_new' ho1 (Kd.R_lt (Op.rt HO_364001.out))) (keep_size (w := w) (g := g) (row := none) (Op.kt HK.out)))
          replace HO_364001 := Op.k (Kd.R_elder' (Op.rt HO_364001.out) (Kd.R_base ho1) hb)
          replace BK356 := Op.k (Op.b4 (Op.bt BK356.out) hb)
          replace BK363 := Op.k (Op.b4 (Op.bt BK363.out) hb)
          replace BK397 := Op.k (Op.b4 (Op.bt BK397.out) hb)
          replace HK := Op.k (KeepBut.trans (Op.kt HK.out) (KeepBut.of_below hb g none) (.inl rfl))
          replace HB := Op.k (Op.a5 (Op.hu HB.out (IsS80.ge HI0.out)) hb)
          replace HI0 := Op.k (IsS80.below (IsS80.it HI0.out) hb)
          (try clear hb)
          (try clear hb2)
          (try clear hk)
          (try clear hi)
          (try clear ho0)
          (try clear ho1)
          refine hK.out _ _ ⟨(blk_cell BK363.out 0).trans rfl, (blk_cell BK363.out 1).trans rfl⟩ (fun hHeld => ?_)
          clear hK K
          refine norm_ (a' := ?_) ?_ ?_
          rotate_left
          ·show Act.put _ (some 41) _ = _
           simp only [Act.put, List.setIfInBounds_toArray, List.set_cons_zero, List.set_cons_succ, i64_w, i32_w]
           rfl
          refine pure_ (i := 7) (N := some 34) (v := ?_) (a' := ?_) #[true, true, true, true, true, true, true, true, false, false, true, false, false] rfl rfl (any_of HT_.out (by kernel_rfl)) (fun _ _ _ h => h) (Or.inl ⟨by rfl, ?_⟩) ?_ ?_
          rotate_left
          ·intro w'
           go_simp
           with_reducible rfl
          rotate_left
          ·simp only [Act.put, List.setIfInBounds_toArray, List.set_cons_zero, List.set_cons_succ, i64_w, i32_w]
           rfl
          refine pure_ (i := 8) (N := some 42) (v := ?_) (a' := ?_) #[true, true, true, true, true, true, true, true, true, false, true, false, false] rfl rfl (any_of HT_.out (by kernel_rfl)) (fun _ _ _ h => h) (Or.inl ⟨by rfl, ?_⟩) ?_ ?_
          rotate_left
          ·intro w'
           go_simp
           with_reducible rfl
          rotate_left
          ·simp only [Act.put, List.setIfInBounds_toArray, List.set_cons_zero, List.set_cons_succ, i64_w, i32_w]
           rfl
          refine pure_ (i := 9) (N := some 43) (v := ?_) (a' := ?_) #[true, true, true, true, true, true, true, true, true, true, true, false, false] rfl rfl (any_of HT_.out (by kernel_rfl)) (fun _ _ _ h => h) (Or.inl ⟨by rfl, ?_⟩) ?_ ?_
          rotate_left
          ·intro w'
           go_simp
           with_reducible rfl
          rotate_left
          ·simp only [Act.put, List.setIfInBounds_toArray, List.set_cons_zero, List.set_cons_succ, i64_w, i32_w]
           rfl
          exact norm_ (by simp only [putAll, Act.put, List.setIfInBounds_toArray, List.set_cons_zero, List.set_cons_succ]) (hCont (v391, v394, gb397) _ ⟨hHeld, (Kd.S_mono (Op.st HO392.out) (fun _ hk => ⟨hk.1.1, ⟨hk.1.2, hk.2⟩⟩)), (Kd.R_mono (Op.rt HO395.out) (fun _ hk => hk.2)), (Kd.S_mono (Op.st HO_364000.out) (fun _ hk => ⟨hk.1.2, ⟨hk.2, hk.1.1⟩⟩)), (Kd.R_mono (Op.rt HO_364001.out) (fun _ hk => hk.2)), (Op.bt BK356.out), (Op.bt BK363.out), (Op.bt BK397.out), GW397.out, GE397.out, NB0_397.out, NB397_0.out, NB356_397.out, NB397_356.out, NB363_397.out, NB397_363.out, (IsS80.it HI0.out), (Op.kt HK.out), (Op.hu HB.out (IsS80.ge HI0.out))⟩)
        rintro ⟨v391, v394, gb397⟩ w94 ⟨hS_, h0_, h1_, h2_, h3_, h4_, h5_, h6_, h7_, h8_, h9_, h10_, h11_, h12_, h13_, h14_, h15_, h16_, h17_⟩
        have n0_ : Aside0 (Kd.S k65 65 w94 w.heap.size (fun k_ => some k_ ≠ (v394 : Value).ownBlock ∧ some k_ ≠ (.slice Ao88 x364000_2.length co88 : Value).ownBlock ∧ some k_ ≠ (.slice Ao85 x364001_2.length co85 : Value).ownBlock) v391 t390) := ⟨h0_⟩
        have n1_ : Aside0 (Kd.R (Kd.int .i64) 3 w94 w.heap.size (fun k_ => some k_ ≠ (.slice Ao85 x364001_2.length co85 : Value).ownBlock) v394 t393) := ⟨h1_⟩
        have n2_ : Aside0 (Kd.S k65 65 w94 w.heap.size (fun k_ => some k_ ≠ (v391 : Value).ownBlock ∧ some k_ ≠ (v394 : Value).ownBlock ∧ some k_ ≠ (.slice Ao85 x364001_2.length co85 : Value).ownBlock) (.slice Ao88 x364000_2.length co88) x364000_2) := ⟨h2_⟩
        have n3_ : Aside0 (Kd.R (Kd.int .i64) 3 w94 w.heap.size (fun k_ => some k_ ≠ (v394 : Value).ownBlock) (.slice Ao85 x364001_2.length co85) x364001_2) := ⟨h3_⟩
        have n4_ : Aside0 (w94.heap[gb356]? = some (.cells #[.slice none 0 0, .slice none 0 0] 25 (0, 0))) := ⟨h4_⟩
        have n5_ : Aside0 (w94.heap[gb363]? = some (.cells #[.slice Ao88 x364000_2.length co88, .slice Ao85 x364001_2.length co85] 25 (0, 0))) := ⟨h5_⟩
        have n6_ : Aside0 (w94.heap[gb397]? = some (.cells #[.slice none 0 0, .slice none 0 0] 25 (0, 0))) := ⟨h6_⟩
        have n7_ : Aside0 (w.heap.size ≤ gb397) := ⟨h7_⟩
        have n8_ : Aside0 (w0.heap.size ≤ gb397) := ⟨h8_⟩
        have n9_ : Aside0 (g ≠ gb397) := ⟨h9_⟩
        have n10_ : Aside0 (gb397 ≠ g) := ⟨h10_⟩
        have n11_ : Aside0 (gb356 ≠ gb397) := ⟨h11_⟩
        have n12_ : Aside0 (gb397 ≠ gb356) := ⟨h12_⟩
        have n13_ : Aside0 (gb363 ≠ gb397) := ⟨h13_⟩
        have n14_ : Aside0 (gb397 ≠ gb363) := ⟨h14_⟩
        have n15_ : Aside0 (IsS80 w0 w94 g s0_0 t388 t389) := ⟨h15_⟩
        have n16_ : Aside0 (KeepBut w w94 g none) := ⟨h16_⟩
        have n17_ : Aside0 (Below w0.heap.size w0 w94) := ⟨h17_⟩
        clear HO_364000
        clear HO_364001
        clear BK356
        clear BK363
        clear HI0
        clear HK
        clear HB
        clear h0_ h1_ h2_ h3_ h4_ h5_ h6_ h7_ h8_ h9_ h10_ h11_ h12_ h13_ h14_ h15_ h16_ h17_
        have HO392 := n0_
        have HO395 := n1_
        have HO_364000 := n2_
        have HO_364001 := n3_
        have BK356 := n4_
        have BK363 := n5_
        have BK397 := n6_
        have GW397 := n7_
        have GE397 := n8_
        have NB0_397 := n9_
        have NB397_0 := n10_
        have NB356_397 := n11_
        have NB397_356 := n12_
        have NB363_397 := n13_
        have NB397_363 := n14_
        have HI0 := n15_
        have HK := n16_
        have HB := n17_
        clear n0_ n1_ n2_ n3_ n4_ n5_ n6_ n7_ n8_ n9_ n10_ n11_ n12_ n13_ n14_ n15_ n16_ n17_
        have hHeld : w94.cell? ⟨gb363, 0, none⟩ = some (.slice Ao88 x364000_2.length co88) ∧ w94.cell? ⟨gb363, 1, none⟩ = some (.slice Ao85 x364001_2.length co85) := hS_
        obtain ⟨Ao95, co95, eo95⟩ := Kd.S_slice HO392.out
        (first | subst eo95 | (injection eo95 with f1_ f2_ f3_; have f4_ := f1_.symm; have f5_ := f3_.symm; clear f1_ f2_ f3_; subst f4_; subst f5_))
        obtain ⟨Ao97, co97, eo97⟩ := Kd.R_slice HO395.out
        (first | subst eo97 | (injection eo97 with f1_ f2_ f3_; have f4_ := f1_.symm; have f5_ := f3_.symm; clear f1_ f2_ f3_; subst f4_; subst f5_))
        refine norm_ (a' := ?_) ?_ ?_
        rotate_left
        ·simp only [putAll, Act.put, List.setIfInBounds_toArray, List.set_cons_zero, List.set_cons_succ]
         rfl
        refine one_ (i := 11) (N := none) #[true, true, true, true, true, true, true, true, true, true, true, true, false] rfl rfl (one_of HT_.out (by kernel_rfl)) (by decide) (fun K hK => ?_)
        have hs96 : w94.cell? ⟨gb397, 0, none⟩ = some (.slice none 0 0) := (blk_cell BK397.out 0).trans rfl
        have hfs96 := Op.bf BK397.out 0
        have hns96_0 := NB356_397.out
        have hns96_1 := NB363_397.out
        have hms96_0 := NB397_356.out
        have hms96_1 := NB397_363.out
        have hs98 : w94.cell? ⟨gb397, 1, none⟩ = some (.slice none 0 0) := (blk_cell BK397.out 1).trans rfl
        have hfs98 := Op.bf BK397.out 1
        have hns98_0 := NB356_397.out
        have hns98_1 := NB363_397.out
        have hms98_0 := NB397_356.out
        have hms98_1 := NB397_363.out
        refine skip_ (w1 := ?_) (by rfl) rfl ?_ ?_
        rotate_left
        ·go_simp
         rfl
        refine hK.out _ _ ⟨((cell_far (p := ⟨gb397, _, none⟩) NB363_397.out _).trans (((cell_far (p := ⟨gb397, _, none⟩) NB363_397.out _).trans (hHeld.1)))), ((cell_far (p := ⟨gb397, _, none⟩) NB363_397.out _).trans (((cell_far (p := ⟨gb397, _, none⟩) NB363_397.out _).trans (hHeld.2))))⟩ (fun hHeld => ?_)
        clear hK K
        refine pure_ (i := 12) (N := some 9) (v := ?_) (a' := ?_) #[true, true, true, true, true, true, true, true, true, true, true, true, true] rfl rfl (any_of HT_.out (by kernel_rfl)) (fun _ _ _ h => h) (Or.inl ⟨by rfl, ?_⟩) ?_ ?_
        rotate_left
        ·intro w'
         go_simp
         with_reducible rfl
        rotate_left
        ·simp only [Act.put, List.setIfInBounds_toArray, List.set_cons_zero, List.set_cons_succ, i64_w, i32_w]
         rfl
        refine done_ (done_of HT_.out (by kernel_rfl)) ?_
        try go_wp2
        go_roundg k2
        case measure => have := HJ4.out; have := HK2.out; omega
        case rel => exact ⟨(wrap64 (x4_2 - 1)), (t388), (t389), (x364000_2), (x364001_2), (.slice Ao88 x364000_2.length co88), (.slice Ao85 x364001_2.length co85), (by first | rfl | (simp; done) | (simp [*]; done)), H', ⟨by have := HJ4.out; have := HK2.out; omega⟩, ⟨Kd.S_mono (Op.sf HO_364000.out BK397.out) (fun _ hk => hk.2.2)⟩, ⟨Kd.R_mono (Op.rf HO_364001.out BK397.out) (fun _ hk => trivial)⟩, ⟨Op.bt BK356.out⟩, ⟨Op.bt BK363.out⟩, ⟨IsS80.it HI0.out⟩, ⟨Op.kt HK.out⟩, ⟨Op.hu HB.out (IsS80.ge HI0.out)⟩⟩
     ·rw [if_neg c17] at H
      have c17b0 : decide (0 < x4_2) = false := decide_eq_false c17
      clear c17
      have HC99 := Op.k H
      clear H
      go_upto_region 15 with (fail)
      go_cut [53] (fun v53 wc => ∃ (kq : Nat) (x53_98 : Bool) (x1001_98 : Int) (x1002_98 : Int), v53 = .bool x53_98 ∧ Aside0 (spec_l1Cur_pool.j2 kq x53_98 s0_0 x1001_98 x1002_98 x364000_2 x364001_2 = some (r1, r2, r3, r4)) ∧ Aside0 (kq ≤ k2) ∧ Aside0 (Kd.S k65 65 wc w.heap.size (fun k_ => some k_ ≠ (u364001 : Value).ownBlock) u364000 x364000_2) ∧ Aside0 (Kd.R (Kd.int .i64) 3 wc w.heap.size (fun _ => True) u364001 x364001_2) ∧ Aside0 (wc.heap[gb356]? = some (.cells #[(.slice none 0 0), (.slice none 0 0)] 25 (0, 0))) ∧ Aside0 (wc.heap[gb363]? = some (.cells #[u364000, u364001] 25 (0, 0))) ∧ Aside0 (IsS80 w0 wc g s0_0 x1001_98 x1002_98) ∧ Aside0 (KeepBut w wc g none) ∧ Aside0 (Below w0.heap.size w0 wc))
      case first =>
       have H := HC99.out
       clear HC99
       replace H := Option.bind_eq_some_iff.mp H
       obtain ⟨⟨t398, t399, t400⟩, A1000, H⟩ := H
       try dsimp only at H
       have A100 := Op.k A1000
       clear A1000
       by_cases c101 : t398 = true
       ·subst c101
        have H1 : (spec_l1Cur_pool.j2 k2 (decide ((x364001_2.length : Int) > 1)) s0_0 t399 t400 x364000_2 x364001_2) = some (r1, r2, r3, r4) := by rw [if_pos rfl] at H; exact H
        clear H
        have H := H1
        clear H1
        have H' := Op.k H
        clear H
        go_wp2_with (first | ((with_reducible refine gate_callee (f := 80) rfl ?_); refine goesL_ (some 47) rfl rfl Try.func80 (by kernel_rfl) rfl #[.pointer (some ⟨g, 0, none⟩), .int .i64 4] rfl (by (try simp only [List.map_toArray, List.map_cons, List.map_nil]); first | done | rfl | (simp only [List.length_drop, List.length_take]; rfl)) ?_; (with_reducible refine (spec_l1Cur_one.calls g s0_0 x1001_2 x1002_2 4 true t399 t400 w0 _ ?side1 ?side2 A100.out).mono ?_); (case side1 => exact IsS80.it HI0.out); (case side2 => exact Op.hu HB.out (IsS80.ge HI0.out)); rintro e w102 ⟨rfl, hi, hb, hk⟩; refine ⟨_, rfl, ?_⟩; replace HO_364000 := Op.k (Kd.S_mono (Kd.S_keep (IsS80.apartS (show IsS80 w0 _ g s0_0 x1001_2 x1002_2 from IsS80.it HI0.out) (Op.st HO_364000.out) (by decide)) hk (fun _ h => h.2)) (fun _ h => h.1)); replace HO_364001 := Op.k (Kd.R_mono (Kd.R_keep (IsS80.apart (show IsS80 w0 _ g s0_0 x1001_2 x1002_2 from IsS80.it HI0.out) (Op.rt HO_364001.out) (by decide)) hk (fun _ h => h.2)) (fun _ h => h.1)); replace BK356 := Op.k (KeepBut.blk hk (Op.bt BK356.out) NB356_0.out (by simp)); replace BK363 := Op.k (KeepBut.blk hk (Op.bt BK363.out) NB363_0.out (by simp)); replace HK := Op.k (KeepBut.trans (Op.kt HK.out) hk (.inl rfl)); replace HB := Op.k (hb); replace HI0 := Op.k (hi); (try clear hb); (try clear hb2); (try clear hk); (try clear hi); have hnb103 := NB363_356.out; have hnc103 := NB356_363.out; have hnb104 := NB363_0.out; have hnc104 := NB0_363.out; have hcz105_0 := Op.c0 BK363.out; have hcz105_1 := Op.c1 BK363.out; have hfz105_0 := Op.bf BK363.out 0; have hfz105_1 := Op.bf BK363.out 1; obtain ⟨Ao106, co106, eo106⟩ := Kd.R_slice HO_364001.out; subst eo106))
        go_meet
        case rel => exact ⟨_, (decide ((x364001_2.length : Int) > 1)), (t399), (t400), (by first | rfl | (simp; done) | (simp [*]; done)), H', ⟨by have := HJ4.out; have := HK2.out; first | omega | exact Nat.le_refl _⟩, ⟨Op.st HO_364000.out⟩, ⟨Op.rt HO_364001.out⟩, ⟨Op.bt BK356.out⟩, ⟨Op.bt BK363.out⟩, ⟨IsS80.it HI0.out⟩, ⟨Op.kt HK.out⟩, ⟨Op.hu HB.out (IsS80.ge HI0.out)⟩⟩
       ·replace c101 := Bool.eq_false_iff.mpr c101
        subst c101
        have H1 : (spec_l1Cur_pool.j2 k2 false s0_0 t399 t400 x364000_2 x364001_2) = some (r1, r2, r3, r4) := by rw [if_neg (show ¬ (false = true) by decide)] at H; exact H
        clear H
        have H := H1
        clear H1
        have H' := Op.k H
        clear H
        go_wp2_with (first | ((with_reducible refine gate_callee (f := 80) rfl ?_); refine goesL_ (some 47) rfl rfl Try.func80 (by kernel_rfl) rfl #[.pointer (some ⟨g, 0, none⟩), .int .i64 4] rfl (by (try simp only [List.map_toArray, List.map_cons, List.map_nil]); first | done | rfl | (simp only [List.length_drop, List.length_take]; rfl)) ?_; (with_reducible refine (spec_l1Cur_one.calls g s0_0 x1001_2 x1002_2 4 false t399 t400 w0 _ ?side1 ?side2 A100.out).mono ?_); (case side1 => exact IsS80.it HI0.out); (case side2 => exact Op.hu HB.out (IsS80.ge HI0.out)); rintro e w107 ⟨rfl, hi, hb, hk⟩; refine ⟨_, rfl, ?_⟩; replace HO_364000 := Op.k (Kd.S_mono (Kd.S_keep (IsS80.apartS (show IsS80 w0 _ g s0_0 x1001_2 x1002_2 from IsS80.it HI0.out) (Op.st HO_364000.out) (by decide)) hk (fun _ h => h.2)) (fun _ h => h.1)); replace HO_364001 := Op.k (Kd.R_mono (Kd.R_keep (IsS80.apart (show IsS80 w0 _ g s0_0 x1001_2 x1002_2 from IsS80.it HI0.out) (Op.rt HO_364001.out) (by decide)) hk (fun _ h => h.2)) (fun _ h => h.1)); replace BK356 := Op.k (KeepBut.blk hk (Op.bt BK356.out) NB356_0.out (by simp)); replace BK363 := Op.k (KeepBut.blk hk (Op.bt BK363.out) NB363_0.out (by simp)); replace HK := Op.k (KeepBut.trans (Op.kt HK.out) hk (.inl rfl)); replace HB := Op.k (hb); replace HI0 := Op.k (hi); (try clear hb); (try clear hb2); (try clear hk); (try clear hi)))
        go_meet
        case rel => exact ⟨_, (false), (t399), (t400), (by first | rfl | (simp; done) | (simp [*]; done)), H', ⟨by have := HJ4.out; have := HK2.out; first | omega | exact Nat.le_refl _⟩, ⟨Op.st HO_364000.out⟩, ⟨Op.rt HO_364001.out⟩, ⟨Op.bt BK356.out⟩, ⟨Op.bt BK363.out⟩, ⟨IsS80.it HI0.out⟩, ⟨Op.kt HK.out⟩, ⟨Op.hu HB.out (IsS80.ge HI0.out)⟩⟩
      case rest =>
       clear HC99
       try clear c1
       try clear p2
       try clear c3
       try clear p6
       try clear c7
       try clear c8
       try clear c10
       try clear c17
       try clear c17b0
       try clear c33
       try clear p64
       try clear c70
       try clear c80
       try clear c101
       try clear c103
       try clear c104
       try clear hcz105_0
       try clear hcz105_1
       try clear hfz105_0
       try clear hfz105_1
       obtain ⟨kq, x53_98, x1001_98, x1002_98, rfl, HA, HJ98, HO_364000, HO_364001, BK356, BK363, HI0, HK, HB⟩ := hcut
       cases kq with
       | zero => exact absurd HA.out (by simp [spec_l1Cur_pool.j2])
       | succ kj98 =>
        have H := HA.out
        clear HA
        simp only [spec_l1Cur_pool.j2] at H
        have HC108 := Op.k H
        clear H
        go_upto_if 53 with (fail)
        go_cut [] (fun wc => ∃ (kq : Nat) (x1001_107 : Int) (x1002_107 : Int) (x364001_107 : List Int) (u364001 : Value), Aside0 (spec_l1Cur_pool.j3 kq s0_0 x1001_107 x1002_107 x364000_2 x364001_107 = some (r1, r2, r3, r4)) ∧ Aside0 (kq ≤ kj98) ∧ Aside0 (Kd.S k65 65 wc w.heap.size (fun k_ => some k_ ≠ (u364001 : Value).ownBlock) u364000 x364000_2) ∧ Aside0 (Kd.R (Kd.int .i64) 3 wc w.heap.size (fun _ => True) u364001 x364001_107) ∧ Aside0 (wc.heap[gb356]? = some (.cells #[(.slice none 0 0), (.slice none 0 0)] 25 (0, 0))) ∧ Aside0 (wc.heap[gb363]? = some (.cells #[u364000, u364001] 25 (0, 0))) ∧ Aside0 (IsS80 w0 wc g s0_0 x1001_107 x1002_107) ∧ Aside0 (KeepBut w wc g none) ∧ Aside0 (Below w0.heap.size w0 wc))
        case first =>
         have H := HC108.out
         clear HC108
         by_cases c109 : x53_98 = true
         ·subst c109
          have H1 : ((spec_l1Cur_pick.f s0_0 x1001_98 x1002_98 (x364001_2.length : Int)).bind fun bt401 => ((spec_l10Without.f x364001_2 bt401.1).bind fun t404 => (spec_l1Cur_pool.j3 kj98 s0_0 bt401.2.1 bt401.2.2 x364000_2 t404))) = some (r1, r2, r3, r4) := by rw [if_pos rfl] at H; exact H
          clear H
          have H := H1
          clear H1
          replace H := Option.bind_eq_some_iff.mp H
          obtain ⟨⟨t401, t402, t403⟩, A1100, H⟩ := H
          try dsimp only at H
          have A110 := Op.k A1100
          clear A1100
          replace H := Option.bind_eq_some_iff.mp H
          obtain ⟨t404, A1110, H⟩ := H
          try dsimp only at H
          have A111 := Op.k A1110
          clear A1110
          have H' := Op.k H
          clear H
          try go_wp2
          replace HO_364000 := Op.k (Kd.S_drew HO_364000.out)
          replace HO_364001 := Op.k (Kd.R_drew HO_364001.out)
          replace BK356 := Op.k (Op.b2 BK356.out)
          replace BK363 := Op.k (Op.b2 BK363.out)
          replace HI0 := Op.k (IsS80.drew HI0.out)
          replace HK := Op.k (keep_drew HK.out)
          replace HB := Op.k (Op.a3 HB.out)
          obtain ⟨Ao113, co113, eo113⟩ := Kd.R_slice HO_364001.out
          (first | subst eo113 | (injection eo113 with f1_ f2_ f3_; have f4_ := f1_.symm; have f5_ := f3_.symm; clear f1_ f2_ f3_; subst f4_; subst f5_))
          refine start_ (n := 10) (S := fun w' => w'.cell? ⟨gb363, 0, none⟩ = some (u364000) ∧ w'.cell? ⟨gb363, 1, none⟩ = some (.slice Ao113 x364001_2.length co113)) (ds := [9]) #[false, false, false, false, false, false, false, false, false, false] (by kernel_rfl) rfl rfl ⟨(blk_cell BK363.out 0).trans rfl, (blk_cell BK363.out 1).trans rfl⟩ (fun hHeld => ?_); refine with_tabW spec_l1Cur_pool.tab16 spec_l1Cur_pool.bits16 (fun HT_ HW_ => ?_)
          generalize wc.drew = w112 at HO_364000 HO_364001 BK356 BK363 HI0 HK HB hHeld ⊢
          refine pure_ (i := 0) (N := some 54) (v := ?_) (a' := ?_) #[true, false, false, false, false, false, false, false, false, false] rfl rfl (any_of HT_.out (by kernel_rfl)) (fun _ _ _ h => h) (Or.inl ⟨by rfl, ?_⟩) ?_ ?_
          rotate_left
          ·intro w'
           go_simp
           with_reducible rfl
          rotate_left
          ·simp only [Act.put, List.setIfInBounds_toArray, List.set_cons_zero, List.set_cons_succ, i64_w, i32_w]
           rfl
          refine pure_ (i := 2) (N := some 56) (v := ?_) (a' := ?_) #[true, false, true, false, false, false, false, false, false, false] rfl rfl (any_of HT_.out (by kernel_rfl)) (fun _ _ _ h => h) (Or.inl ⟨by rfl, ?_⟩) ?_ ?_
          rotate_left
          ·intro w'
           go_simp
           with_reducible rfl
          rotate_left
          ·simp only [Act.put, List.setIfInBounds_toArray, List.set_cons_zero, List.set_cons_succ, i64_w, i32_w]
           rfl
          refine pure_ (i := 3) (N := some 57) (v := ?_) (a' := ?_) #[true, false, true, true, false, false, false, false, false, false] rfl rfl (any_of HT_.out (by kernel_rfl)) (fun _ _ _ h => h) (Or.inl ⟨by rfl, ?_⟩) ?_ ?_
          rotate_left
          ·intro w'
           go_simp
           with_reducible rfl
          rotate_left
          ·simp only [Act.put, List.setIfInBounds_toArray, List.set_cons_zero, List.set_cons_succ, i64_w, i32_w]
           rfl
          refine take_ (i := 1) (N := some 55) (v := ?_) (a' := ?_) #[true, true, true, true, false, false, false, false, false, false] rfl rfl (take_ofW HT_.out HW_.out (by kernel_rfl)) (fun _ _ _ h => h) (Or.inl ⟨by rfl, ?_⟩) hHeld ?_ ?_
          rotate_left
          ·rintro w' ⟨s0, s1⟩
           go_simp
           with_reducible rfl
          rotate_left
          ·simp only [Act.put, List.setIfInBounds_toArray, List.set_cons_zero, List.set_cons_succ, i64_w, i32_w]
           rfl
          refine take_ (i := 4) (N := some 58) (v := ?_) (a' := ?_) #[true, true, true, true, true, false, false, false, false, false] rfl rfl (take_ofW HT_.out HW_.out (by kernel_rfl)) (fun _ _ _ h => h) (Or.inl ⟨by rfl, ?_⟩) hHeld ?_ ?_
          rotate_left
          ·rintro w' ⟨s0, s1⟩
           go_simp
           with_reducible rfl
          rotate_left
          ·simp only [Act.put, List.setIfInBounds_toArray, List.set_cons_zero, List.set_cons_succ, i64_w, i32_w]
           rfl
          refine pure_ (i := 5) (N := some 59) (v := ?_) (a' := ?_) #[true, true, true, true, true, true, false, false, false, false] rfl rfl (any_of HT_.out (by kernel_rfl)) (fun _ _ _ h => h) (Or.inl ⟨by rfl, ?_⟩) ?_ ?_
          rotate_left
          ·intro w'
           go_simp
           with_reducible rfl
          rotate_left
          ·simp only [Act.put, List.setIfInBounds_toArray, List.set_cons_zero, List.set_cons_succ, i64_w, i32_w]
           rfl
          refine one_ (i := 6) (N := some 60) #[true, true, true, true, true, true, true, false, false, false] rfl rfl (one_of HT_.out (by kernel_rfl)) (by decide) (fun K hK => ?_)
          refine goes_ Try.func70 (by kernel_rfl) rfl #[.pointer (some ⟨g, 0, none⟩), .int .i64 (x364001_2.length : Int)] (by rfl) rfl rfl (by (try simp only [List.map_toArray, List.map_cons, List.map_nil]); first | done | rfl | (simp only [List.length_drop, List.length_take]; rfl)) ?_
          with_reducible refine (spec_l1Cur_pick.calls g s0_0 x1001_98 x1002_98 (x364001_2.length : Int) t401 t402 t403 w0 _ ?side1 ?side2 A110.out).mono ?_
          (case side1 => exact IsS80.it HI0.out)
          (case side2 => exact Op.hu HB.out (IsS80.ge HI0.out))
          rintro e w114 ⟨rfl, hi, hb, hk⟩
          refine ⟨_, rfl, ?_⟩
          replace HO_364000 := Op.k (Kd.S_mono (Kd.S_keep (IsS80.apartS (show IsS80 w0 _ g s0_0 x1001_98 x1002_98 from IsS80.it HI0.out) (Op.st HO_364000.out) (by decide)) hk (fun _ h => h.2)) (fun _ h => h.1))
          replace HO_364001 := Op.k (Kd.R_mono (Kd.R_keep (IsS80.apart (show IsS80 w0 _ g s0_0 x1001_98 x1002_98 from IsS80.it HI0.out) (Op.rt HO_364001.out) (by decide)) hk (fun _ h => h.2)) (fun _ h => h.1))
          replace BK356 := Op.k (KeepBut.blk hk (Op.bt BK356.out) NB356_0.out (by simp))
          replace BK363 := Op.k (KeepBut.blk hk (Op.bt BK363.out) NB363_0.out (by simp))
          replace HK := Op.k (KeepBut.trans (Op.kt HK.out) hk (.inl rfl))
          replace HB := Op.k (hb)
          replace HI0 := Op.k (hi)
          (try clear hb)
          (try clear hb2)
          (try clear hk)
          (try clear hi)
          refine hK.out _ _ ⟨(blk_cell BK363.out 0).trans rfl, (blk_cell BK363.out 1).trans rfl⟩ (fun hHeld => ?_)
          clear hK K
          refine norm_ (a' := ?_) ?_ ?_
          rotate_left
          ·show Act.put _ (some 60) _ = _
           simp only [Act.put, List.setIfInBounds_toArray, List.set_cons_zero, List.set_cons_succ, i64_w, i32_w]
           rfl
          refine one_ (i := 7) (N := some 61) #[true, true, true, true, true, true, true, true, false, false] rfl rfl (one_of HT_.out (by kernel_rfl)) (by decide) (fun K hK => ?_)
          refine goes_ Try.func81 (by kernel_rfl) rfl #[.slice Ao113 x364001_2.length co113, .int .i64 t401] (by rfl) rfl rfl (by (try simp only [List.map_toArray, List.map_cons, List.map_nil]); first | done | rfl | (simp only [List.length_drop, List.length_take]; rfl)) ?_
          with_reducible refine (spec_l10Without.calls _ _ x364001_2 t401 t404 _ ?side1 ?side2 A111.out).mono ?_
          (case side1 => exact Op.ct (Kd.R_reads' HO_364001.out).2.2)
          (case side2 => exact (Kd.R_reads' HO_364001.out).2.1)
          rintro e w115 ⟨v405, rfl, ho0, hb⟩
          refine ⟨_, rfl, ?_⟩
          replace HO_364000 := Op.k (Kd.S_elder' (Op.st HO_364000.out) (Kd.R_base ho0) hb)
          have HO406 := Op.k (Kd.R_lower (Kd.R_new' ho0 (Kd.R_lt (Op.rt HO_364001.out))) (keep_size (w := w) (g := g) (row := none) (Op.kt HK.out)))
          replace HO_364001 := Op.k (Kd.R_elder' (Op.rt HO_364001.out) (Kd.R_base ho0) hb)
          replace BK356 := Op.k (Op.b4 (Op.bt BK356.out) hb)
          replace BK363 := Op.k (Op.b4 (Op.bt BK363.out) hb)
          replace HK := Op.k (KeepBut.trans (Op.kt HK.out) (KeepBut.of_below hb g none) (.inl rfl))
          replace HB := Op.k (Op.a5 (Op.hu HB.out (IsS80.ge HI0.out)) hb)
          replace HI0 := Op.k (IsS80.below (IsS80.it HI0.out) hb)
          (try clear hb)
          (try clear hb2)
          (try clear hk)
          (try clear hi)
          (try clear ho0)
          obtain ⟨Ao116, co116, eo116⟩ := Kd.R_slice HO406.out
          (first | subst eo116 | (injection eo116 with f1_ f2_ f3_; have f4_ := f1_.symm; have f5_ := f3_.symm; clear f1_ f2_ f3_; subst f4_; subst f5_))
          refine hK.out _ _ ⟨(blk_cell BK363.out 0).trans rfl, (blk_cell BK363.out 1).trans rfl⟩ (fun hHeld => ?_)
          clear hK K
          refine norm_ (a' := ?_) ?_ ?_
          rotate_left
          ·show Act.put _ (some 61) _ = _
           simp only [Act.put, List.setIfInBounds_toArray, List.set_cons_zero, List.set_cons_succ, i64_w, i32_w]
           rfl
          refine pure_ (i := 8) (N := some 62) (v := ?_) (a' := ?_) #[true, true, true, true, true, true, true, true, true, false] rfl rfl (any_of HT_.out (by kernel_rfl)) (fun _ _ _ h => h) (Or.inl ⟨by rfl, ?_⟩) ?_ ?_
          rotate_left
          ·intro w'
           go_simp
           with_reducible rfl
          rotate_left
          ·simp only [Act.put, List.setIfInBounds_toArray, List.set_cons_zero, List.set_cons_succ, i64_w, i32_w]
           rfl
          refine last_ (i := 9) (N := none) #[true, true, true, true, true, true, true, true, true, true] rfl rfl (one_of HT_.out (by kernel_rfl)) (by decide) (fun K hK => ?_)
          have hs117 : w115.cell? ⟨gb363, 1, none⟩ = some (.slice Ao113 x364001_2.length co113) := (blk_cell BK363.out 1).trans rfl
          have hfs117 := Op.bf BK363.out 1
          have hns117_0 := NB356_363.out
          have hms117_0 := NB363_356.out
          refine skip_ (w1 := ?_) (by rfl) rfl ?_ ?_
          rotate_left
          ·go_simp
           rfl
          refine hK.out _ _ ?_
          clear hK K
          refine done_ (done_of HT_.out (by kernel_rfl)) ?_
          try go_wp2
          go_meet
          case rel => exact ⟨_, (t402), (t403), (t404), (.slice Ao116 t404.length co116), H', ⟨by have := HJ4.out; have := HK2.out; have := HJ98.out; first | omega | exact Nat.le_refl _⟩, ⟨Kd.S_mono (Op.sf HO_364000.out BK363.out) (fun _ hk => hk.2)⟩, ⟨Kd.R_mono (Op.rf HO406.out BK363.out) (fun _ hk => trivial)⟩, ⟨Op.bt BK356.out⟩, ⟨Op.bv BK363.out⟩, ⟨IsS80.it HI0.out⟩, ⟨Op.kt HK.out⟩, ⟨Op.hu HB.out (IsS80.ge HI0.out)⟩⟩
         ·replace c109 := Bool.eq_false_iff.mpr c109
          subst c109
          have H1 : (spec_l1Cur_pool.j3 kj98 s0_0 x1001_98 x1002_98 x364000_2 x364001_2) = some (r1, r2, r3, r4) := by rw [if_neg (show ¬ (false = true) by decide)] at H; exact H
          clear H
          have H := H1
          clear H1
          have H' := Op.k H
          clear H
          go_wp2
          go_meet
          case rel => exact ⟨_, (x1001_98), (x1002_98), (x364001_2), (u364001), H', ⟨by have := HJ4.out; have := HK2.out; have := HJ98.out; first | omega | exact Nat.le_refl _⟩, ⟨Op.st HO_364000.out⟩, ⟨Op.rt HO_364001.out⟩, ⟨Op.bt BK356.out⟩, ⟨Op.bt BK363.out⟩, ⟨IsS80.it HI0.out⟩, ⟨Op.kt HK.out⟩, ⟨Op.hu HB.out (IsS80.ge HI0.out)⟩⟩
        case rest =>
         clear HC108
         try clear c1
         try clear p2
         try clear c3
         try clear p6
         try clear c7
         try clear c8
         try clear c10
         try clear c17
         try clear c17b0
         try clear c33
         try clear p64
         try clear c70
         try clear c80
         try clear c81
         try clear c101
         try clear c103
         try clear c104
         try clear c109
         try clear hcz105_0
         try clear hcz105_1
         try clear hfz105_0
         try clear hfz105_1
         try clear p2
         try clear p6
         try clear p64
         obtain ⟨kq, x1001_107, x1002_107, x364001_107, u364001, HA, HJ107, HO_364000, HO_364001, BK356, BK363, HI0, HK, HB⟩ := hcut
         cases kq with
         | zero => exact absurd HA.out (by simp [spec_l1Cur_pool.j3])
         | succ kj107 =>
          have H := HA.out
          clear HA
          simp only [spec_l1Cur_pool.j3] at H
          replace H := Option.bind_eq_some_iff.mp H
          obtain ⟨⟨t407, t408, t409⟩, A1180, H⟩ := H
          replace H : (if t407 = 0 then ((spec_l1Cur_pick.f s0_0 t408 t409 9).bind fun bt410 => (if 0 < (x364001_107.length : Int) then (some (x364000_2, (x364001_107.set (0 : Int).toNat (wrap64 (bt410.1 - 1))), bt410.2.1, bt410.2.2)) else (none))) else (if t407 = 1 then (if (x364000_2.length : Int) > 0 then (if 0 < (x364000_2.length : Int) then ((spec_l1Cur_among.f s0_0 t408 t409 (([(-1), 9999, 10000] : List Int))).bind fun bt418 => (if 0 < (((rd_T65 x364000_2 0).f0).length : Int) then (some ((x364000_2.set (0 : Int).toNat (⟨(((rd_T65 x364000_2 0).f0).set (0 : Int).toNat bt418.1), (rd_T65 x364000_2 0).f1⟩ : S65)), x364001_107, bt418.2.1, bt418.2.2)) else (none))) else (none)) else (some (x364000_2, x364001_107, t408, t409))) else (some (x364000_2, x364001_107, t408, t409)))) = some (r1, r2, r3, r4) := H
          have A118 := Op.k A1180
          clear A1180
          by_cases c119 : t407 = 0
          ·rw [if_pos c119] at H
           have c119b0 : (t407 == 0) = true := beq_iff_eq.mpr c119
           have c119b1 : (t407 != 0) = false := bne_eq_false_iff_eq.mpr c119
           clear c119
           replace H := Option.bind_eq_some_iff.mp H
           obtain ⟨⟨t410, t411, t412⟩, A1200, H⟩ := H
           try dsimp only at H
           have A120 := Op.k A1200
           clear A1200
           by_cases c121 : 0 < (x364001_107.length : Int)
           ·rw [if_pos c121] at H
            have c121b0 : decide (0 < (x364001_107.length : Int)) = true := decide_eq_true c121
            have c121b1 : decide (0 < x364001_107.length) = true := decide_eq_true (by omega)
            clear c121
            obtain ⟨y413, hy413⟩ : ∃ y_ : List Int, y_ = (x364001_107.set (0 : Int).toNat (wrap64 (t410 - 1))) := ⟨_, rfl⟩
            replace H : (some (x364000_2, y413, t411, t412)) = some (r1, r2, r3, r4) := by first | (rw [hy413]; with_reducible exact H) | (have H2_ := (Option.bind_some _ _).symm.trans H; rw [hy413]; with_reducible exact H2_) | (have H2_ := (Option.bind_some _ _).symm.trans H; with_reducible exact H2_) | with_reducible exact H | (rw [hy413]; exact H) | exact H
            have Ny413 := Op.k hy413
            clear hy413
            simp only [Option.some.injEq, Prod.mk.injEq] at H
            obtain ⟨rfl, rfl, rfl, rfl⟩ := H
            try go_wp2_with (first | ((with_reducible refine gate_callee (f := 70) rfl ?_); refine goesL_ (some 64) rfl rfl Try.func70 (by kernel_rfl) rfl #[.pointer (some ⟨g, 0, none⟩), .int .i64 30] rfl (by (try simp only [List.map_toArray, List.map_cons, List.map_nil]); first | done | rfl | (simp only [List.length_drop, List.length_take]; rfl)) ?_; (with_reducible refine (spec_l1Cur_pick.calls g s0_0 x1001_107 x1002_107 30 t407 t408 t409 w0 _ ?side1 ?side2 A118.out).mono ?_); (case side1 => exact IsS80.it HI0.out); (case side2 => exact Op.hu HB.out (IsS80.ge HI0.out)); rintro e w123 ⟨rfl, hi, hb, hk⟩; refine ⟨_, rfl, ?_⟩; replace HO_364000 := Op.k (Kd.S_mono (Kd.S_keep (IsS80.apartS (show IsS80 w0 _ g s0_0 x1001_107 x1002_107 from IsS80.it HI0.out) (Op.st HO_364000.out) (by decide)) hk (fun _ h => h.2)) (fun _ h => h.1)); replace HO_364001 := Op.k (Kd.R_mono (Kd.R_keep (IsS80.apart (show IsS80 w0 _ g s0_0 x1001_107 x1002_107 from IsS80.it HI0.out) (Op.rt HO_364001.out) (by decide)) hk (fun _ h => h.2)) (fun _ h => h.1)); replace BK356 := Op.k (KeepBut.blk hk (Op.bt BK356.out) NB356_0.out (by simp)); replace BK363 := Op.k (KeepBut.blk hk (Op.bt BK363.out) NB363_0.out (by simp)); replace HK := Op.k (KeepBut.trans (Op.kt HK.out) hk (.inl rfl)); replace HB := Op.k (hb); replace HI0 := Op.k (hi); (try clear hb); (try clear hb2); (try clear hk); (try clear hi)))
            replace HO_364000 := Op.k (Kd.S_drew HO_364000.out)
            replace HO_364001 := Op.k (Kd.R_drew HO_364001.out)
            replace BK356 := Op.k (Op.b2 BK356.out)
            replace BK363 := Op.k (Op.b2 BK363.out)
            replace HI0 := Op.k (IsS80.drew HI0.out)
            replace HK := Op.k (keep_drew HK.out)
            replace HB := Op.k (Op.a3 HB.out)
            refine start_ (n := 7) (S := fun w' => w'.cell? ⟨gb363, 0, none⟩ = some (u364000) ∧ w'.cell? ⟨gb363, 1, none⟩ = some (u364001)) (ds := [6]) #[false, false, false, false, false, false, false] (by kernel_rfl) rfl rfl ⟨(blk_cell BK363.out 0).trans rfl, (blk_cell BK363.out 1).trans rfl⟩ (fun hHeld => ?_)
            generalize w123.drew = w124 at HO_364000 HO_364001 BK356 BK363 HI0 HK HB hHeld ⊢
            refine pure_ (i := 0) (N := some 67) (v := ?_) (a' := ?_) #[true, false, false, false, false, false, false] rfl rfl (by kernel_rfl) (fun _ _ _ h => h) (Or.inl ⟨by rfl, ?_⟩) ?_ ?_
            rotate_left
            ·intro w'
             go_simp
             with_reducible rfl
            rotate_left
            ·simp only [Act.put, List.setIfInBounds_toArray, List.set_cons_zero, List.set_cons_succ, i64_w, i32_w]
             rfl
            refine pure_ (i := 2) (N := some 69) (v := ?_) (a' := ?_) #[true, false, true, false, false, false, false] rfl rfl (by kernel_rfl) (fun _ _ _ h => h) (Or.inl ⟨by rfl, ?_⟩) ?_ ?_
            rotate_left
            ·intro w'
             go_simp
             with_reducible rfl
            rotate_left
            ·simp only [Act.put, List.setIfInBounds_toArray, List.set_cons_zero, List.set_cons_succ, i64_w, i32_w]
             rfl
            refine take_ (i := 1) (N := some 68) (v := ?_) (a' := ?_) #[true, true, true, false, false, false, false] rfl rfl (by kernel_rfl) (fun _ _ _ h => h) (Or.inl ⟨by rfl, ?_⟩) hHeld ?_ ?_
            rotate_left
            ·rintro w' ⟨s0, s1⟩
             go_simp
             with_reducible rfl
            rotate_left
            ·simp only [Act.put, List.setIfInBounds_toArray, List.set_cons_zero, List.set_cons_succ, i64_w, i32_w]
             rfl
            refine one_ (i := 3) (N := some 70) #[true, true, true, true, false, false, false] rfl rfl (by kernel_rfl) (by decide) (fun K hK => ?_)
            refine goes_ Try.func70 (by kernel_rfl) rfl #[.pointer (some ⟨g, 0, none⟩), .int .i64 9] (by rfl) rfl rfl (by (try simp only [List.map_toArray, List.map_cons, List.map_nil]); first | done | rfl | (simp only [List.length_drop, List.length_take]; rfl)) ?_
            with_reducible refine (spec_l1Cur_pick.calls g s0_0 t408 t409 9 t410 t411 t412 w0 _ ?side1 ?side2 A120.out).mono ?_
            (case side1 => exact IsS80.it HI0.out)
            (case side2 => exact Op.hu HB.out (IsS80.ge HI0.out))
            rintro e w125 ⟨rfl, hi, hb, hk⟩
            refine ⟨_, rfl, ?_⟩
            replace HO_364000 := Op.k (Kd.S_mono (Kd.S_keep (IsS80.apartS (show IsS80 w0 _ g s0_0 t408 t409 from IsS80.it HI0.out) (Op.st HO_364000.out) (by decide)) hk (fun _ h => h.2)) (fun _ h => h.1))
            replace HO_364001 := Op.k (Kd.R_mono (Kd.R_keep (IsS80.apart (show IsS80 w0 _ g s0_0 t408 t409 from IsS80.it HI0.out) (Op.rt HO_364001.out) (by decide)) hk (fun _ h => h.2)) (fun _ h => h.1))
            replace BK356 := Op.k (KeepBut.blk hk (Op.bt BK356.out) NB356_0.out (by simp))
            replace BK363 := Op.k (KeepBut.blk hk (Op.bt BK363.out) NB363_0.out (by simp))
            replace HK := Op.k (KeepBut.trans (Op.kt HK.out) hk (.inl rfl))
            replace HB := Op.k (hb)
            replace HI0 := Op.k (hi)
            (try clear hb)
            (try clear hb2)
            (try clear hk)
            (try clear hi)
            have p122 : 0 ≤ (0 : Int) := (by omega)
            have q122 : (0 : Int) < ((x364001_107.length : Int) : Int) := Op.dt
            have qi122 : (0 < x364001_107.length) = True := eq_true (by omega)
            obtain ⟨go122, co122, eo122, gb122, gl122, cl122, HG122⟩ := Kd.R_form HO_364001.out (by omega)
            (first | cases eo122 | (injection eo122 with ea_ en_ ec_; (first | subst ea_ | (injection ea_ with ea_; subst ea_)); subst ec_; clear en_))
            have GB122 := Op.k gb122
            have GG122 := Op.k HG122
            clear gb122 gl122 HG122
            obtain ⟨hx122_0, hf122_0⟩ := Kd.R_celln 0 HO_364001.out (0 : Int) p122 q122
            (try rw [show ((0 : Int)).toNat = 0 from rfl] at hx122_0)
            (try simp only [Nat.reduceMul, Nat.zero_mul, Nat.zero_add, Nat.reduceAdd] at hx122_0)
            (try rw [show ((0 : Int)).toNat = 0 from rfl] at hf122_0)
            (try simp only [Nat.reduceMul, Nat.zero_mul, Nat.zero_add, Nat.reduceAdd] at hf122_0)
            replace p122 := eq_true p122
            replace q122 := eq_true q122
            have HN0_go122 := Op.k (show g ≠ go122 from by have h_ := IsS80.own_ne HI0.out HO_364001.out (by decide); intro e_; exact h_ (by rw [e_]; rfl))
            have HP126 := Kd.R_putn HO_364001.out (0 : Int) (wrap64 (t410 - 1))
            rw [← Ny413.out] at HP126
            have HQ126 := Op.k HP126
            clear HP126
            refine hK.out _ _ ⟨(blk_cell BK363.out 0).trans rfl, (blk_cell BK363.out 1).trans rfl⟩ (fun hHeld => ?_)
            clear hK K
            refine norm_ (a' := ?_) ?_ ?_
            rotate_left
            ·show Act.put _ (some 70) _ = _
             simp only [Act.put, List.setIfInBounds_toArray, List.set_cons_zero, List.set_cons_succ, i64_w, i32_w]
             rfl
            refine pure_ (i := 4) (N := some 71) (v := ?_) (a' := ?_) #[true, true, true, true, true, false, false] rfl rfl (by kernel_rfl) (fun _ _ _ h => h) (Or.inl ⟨by rfl, ?_⟩) ?_ ?_
            rotate_left
            ·intro w'
             go_simp
             with_reducible rfl
            rotate_left
            ·simp only [Act.put, List.setIfInBounds_toArray, List.set_cons_zero, List.set_cons_succ, i64_w, i32_w]
             rfl
            refine pure_ (i := 5) (N := some 72) (v := ?_) (a' := ?_) #[true, true, true, true, true, true, false] rfl rfl (by kernel_rfl) (fun _ _ _ h => h) (Or.inl ⟨by rfl, ?_⟩) ?_ ?_
            rotate_left
            ·intro w'
             go_simp
             with_reducible rfl
            rotate_left
            ·simp only [Act.put, List.setIfInBounds_toArray, List.set_cons_zero, List.set_cons_succ, i64_w, i32_w]
             rfl
            refine last_ (i := 6) (N := none) #[true, true, true, true, true, true, true] rfl rfl (by kernel_rfl) (by decide) (fun K hK => ?_)
            refine skip_ (w1 := ?_) (by rfl) rfl ?_ ?_
            rotate_left
            ·go_simp
             rfl
            refine hK.out _ _ ?_
            clear hK K
            refine done_ (by kernel_rfl) ?_
            have n0_ : Aside0 (Kd.S k65 65 (w125.setCell ⟨go122, 0, none⟩ (.int .i64 (wrap64 (t410 - 1)))) w.heap.size (fun k_ => some k_ ≠ (.slice (some ⟨go122, 0, none⟩) x364001_107.length co122 : Value).ownBlock) u364000 x364000_2) := ⟨by (with_reducible repeat (first | apply Kd.S_alloc | apply Kd.S_drewN | apply Kd.S_drew)); exact Kd.S_mono (Kd.S_far (p := ⟨go122, 0, none⟩) (Kd.S_mono HO_364000.out (fun k_ hk => (⟨hk, fun e_ => hk (by rw [e_]; rfl)⟩ : _ ∧ k_ ≠ go122))) (fun _ hk => hk.2) (.int .i64 (wrap64 (t410 - 1)))) (fun _ hk => hk.1)⟩
            have n1_ : Aside0 (Kd.R (Kd.int .i64) 3 (w125.setCell ⟨go122, 0, none⟩ (.int .i64 (wrap64 (t410 - 1)))) w.heap.size (fun _ => True) (.slice (some ⟨go122, 0, none⟩) x364001_107.length co122) y413) := ⟨Op.rt HQ126.out⟩
            have n2_ : Aside0 ((w125.setCell ⟨go122, 0, none⟩ (.int .i64 (wrap64 (t410 - 1)))).heap[gb356]? = some (.cells #[.slice none 0 0, .slice none 0 0] 25 (0, 0))) := ⟨by (with_reducible repeat (first | refine Op.b1 ?_ _ | refine Op.b2 ?_ | refine Op.b3 ?_ _)); refine blk_far ?_ (by have h_ := Kd.R_ne HO_364001.out BK356.out (by decide); intro e_; exact h_ (by rw [e_]; rfl)) _; (with_reducible repeat (first | refine Op.b1 ?_ _ | refine Op.b2 ?_ | refine Op.b3 ?_ _)); exact BK356.out⟩
            have n3_ : Aside0 ((w125.setCell ⟨go122, 0, none⟩ (.int .i64 (wrap64 (t410 - 1)))).heap[gb363]? = some (.cells #[u364000, .slice (some ⟨go122, 0, none⟩) x364001_107.length co122] 25 (0, 0))) := ⟨by (with_reducible repeat (first | refine Op.b1 ?_ _ | refine Op.b2 ?_ | refine Op.b3 ?_ _)); refine blk_far ?_ (by have h_ := Kd.R_ne HO_364001.out BK363.out (by decide); intro e_; exact h_ (by rw [e_]; rfl)) _; (with_reducible repeat (first | refine Op.b1 ?_ _ | refine Op.b2 ?_ | refine Op.b3 ?_ _)); exact BK363.out⟩
            have n4_ : Aside0 (IsS80 w0 (w125.setCell ⟨go122, 0, none⟩ (.int .i64 (wrap64 (t410 - 1)))) g s0_0 t411 t412) := ⟨IsS80.it HI0.out⟩
            have n5_ : Aside0 (KeepBut w (w125.setCell ⟨go122, 0, none⟩ (.int .i64 (wrap64 (t410 - 1)))) g none) := ⟨Op.kt HK.out⟩
            have n6_ : Aside0 (Below w0.heap.size w0 (w125.setCell ⟨go122, 0, none⟩ (.int .i64 (wrap64 (t410 - 1))))) := ⟨by repeat (first | (with_reducible first | exact HB.out | apply Op.a1 | apply Op.a2 | apply Op.a3 | refine Op.a4 ?_ (Nat.le_trans HL.out GB122.out) | refine Op.a4 ?_ (IsS80.ge HI0.out) | refine Op.a4 ?_ GE356.out | refine Op.a4 ?_ GE363.out) | exact HB.out)⟩
            (try clear HO_364000)
            (try clear HO_364001)
            (try clear BK356)
            (try clear BK363)
            (try clear HI0)
            (try clear HK)
            (try clear HB)
            generalize (w125.setCell ⟨go122, 0, none⟩ (.int .i64 (wrap64 (t410 - 1)))) = w127 at n0_ n1_ n2_ n3_ n4_ n5_ n6_ ⊢
            have HO_364000 := n0_
            have HO_364001 := n1_
            have BK356 := n2_
            have BK363 := n3_
            have HI0 := n4_
            have HK := n5_
            have HB := n6_
            clear n0_ n1_ n2_ n3_ n4_ n5_ n6_
            have hnb128 := NB363_356.out
            have hnc128 := NB356_363.out
            have hnb129 := NB363_0.out
            have hnc129 := NB0_363.out
            have hcz130_0 := Op.c0 BK363.out
            have hcz130_1 := Op.c1 BK363.out
            have hfz130_0 := Op.bf BK363.out 0
            have hfz130_1 := Op.bf BK363.out 1
            obtain ⟨Ao131, co131, eo131⟩ := Kd.S_slice HO_364000.out
            subst eo131
            have hnb132 := NB356_0.out
            have hnc132 := NB0_356.out
            have hcz133_0 := Op.c0 BK356.out
            have hcz133_1 := Op.c1 BK356.out
            have hfz133_0 := Op.bf BK356.out 0
            have hfz133_1 := Op.bf BK356.out 1
            try go_wp2
            refine bodyPost_ret (results_cell_row rfl _ _ gb356 25 #[.slice Ao131 x364000_2.length co131, .slice (some ⟨go122, 0, none⟩) x364001_107.length co122] (0, 0) _ rfl (Op.bv BK356.out) Try.underlying25 rfl (by kernel_rfl)) rfl ?_
            exact ⟨_, _, by first | rfl | (simp [errW_none, errW_some] <;> rfl) | (simp [*, errW_none, errW_some] <;> rfl), Op.sm (Op.sf HO_364000.out BK356.out), Op.rm (Op.rf HO_364001.out BK356.out), IsS80.it HI0.out, Op.hu HB.out (IsS80.ge HI0.out), Op.kt HK.out⟩
           ·rw [if_neg c121] at H
            exact absurd H (by simp)
          ·rw [if_neg c119] at H
           have c119b0 : (t407 == 0) = false := beq_eq_false_iff_ne.mpr c119
           have c119b1 : (t407 != 0) = true := bne_iff_ne.mpr c119
           by_cases c134 : t407 = 1
           ·rw [if_pos c134] at H
            have c134b0 : (t407 == 1) = true := beq_iff_eq.mpr c134
            have c134b1 : (t407 != 1) = false := bne_eq_false_iff_eq.mpr c134
            clear c134
            by_cases c135 : (x364000_2.length : Int) > 0
            ·rw [if_pos c135] at H
             have c135b0 : decide (0 < (x364000_2.length : Int)) = true := decide_eq_true c135
             have c135b1 : decide (0 < x364000_2.length) = true := decide_eq_true (by omega)
             clear c135
             by_cases c136 : 0 < (x364000_2.length : Int)
             ·rw [if_pos c136] at H
              have c136b0 : decide (0 < (x364000_2.length : Int)) = true := decide_eq_true c136
              have c136b1 : decide (0 < x364000_2.length) = true := decide_eq_true (by omega)
              clear c136
              obtain ⟨y415, hy415⟩ : ∃ y_ : List Int, y_ = (([(-1), 9999, 10000] : List Int)) := ⟨_, rfl⟩
              replace H : ((spec_l1Cur_among.f s0_0 t408 t409 y415).bind fun bt418 => (if 0 < (((rd_T65 x364000_2 0).f0).length : Int) then (some ((x364000_2.set (0 : Int).toNat (⟨(((rd_T65 x364000_2 0).f0).set (0 : Int).toNat bt418.1), (rd_T65 x364000_2 0).f1⟩ : S65)), x364001_107, bt418.2.1, bt418.2.2)) else (none))) = some (r1, r2, r3, r4) := by first | (rw [hy415]; with_reducible exact H) | (have H2_ := (Option.bind_some _ _).symm.trans H; rw [hy415]; with_reducible exact H2_) | (have H2_ := (Option.bind_some _ _).symm.trans H; with_reducible exact H2_) | with_reducible exact H | (rw [hy415]; exact H) | exact H
              have Ny415 := Op.k hy415
              clear hy415
              replace H := Option.bind_eq_some_iff.mp H
              obtain ⟨⟨t418, t419, t420⟩, A1370, H⟩ := H
              try dsimp only at H
              have A137 := Op.k A1370
              clear A1370
              by_cases c138 : 0 < (((rd_T65 x364000_2 0).f0).length : Int)
              ·rw [if_pos c138] at H
               have c138b0 : decide (0 < (((rd_T65 x364000_2 0).f0).length : Int)) = true := decide_eq_true c138
               have c138b1 : decide (0 < ((rd_T65 x364000_2 0).f0).length) = true := decide_eq_true (by omega)
               clear c138
               obtain ⟨y421, hy421⟩ : ∃ y_ : List Int, y_ = (((rd_T65 x364000_2 0).f0).set (0 : Int).toNat t418) := ⟨_, rfl⟩
               replace H : (some ((x364000_2.set (0 : Int).toNat (⟨y421, (rd_T65 x364000_2 0).f1⟩ : S65)), x364001_107, t419, t420)) = some (r1, r2, r3, r4) := by first | (rw [hy421]; with_reducible exact H) | (have H2_ := (Option.bind_some _ _).symm.trans H; rw [hy421]; with_reducible exact H2_) | (have H2_ := (Option.bind_some _ _).symm.trans H; with_reducible exact H2_) | with_reducible exact H | (rw [hy421]; exact H) | exact H
               have Ny421 := Op.k hy421
               clear hy421
               obtain ⟨y423, hy423⟩ : ∃ y_ : List (S65), y_ = (x364000_2.set (0 : Int).toNat (⟨y421, (rd_T65 x364000_2 0).f1⟩ : S65)) := ⟨_, rfl⟩
               replace H : (some (y423, x364001_107, t419, t420)) = some (r1, r2, r3, r4) := by first | (rw [hy423]; with_reducible exact H) | (have H2_ := (Option.bind_some _ _).symm.trans H; rw [hy423]; with_reducible exact H2_) | (have H2_ := (Option.bind_some _ _).symm.trans H; with_reducible exact H2_) | with_reducible exact H | (rw [hy423]; exact H) | exact H
               have Ny423 := Op.k hy423
               clear hy423
               simp only [Option.some.injEq, Prod.mk.injEq] at H
               obtain ⟨rfl, rfl, rfl, rfl⟩ := H
               try go_wp2_with (first | ((with_reducible refine gate_callee (f := 70) rfl ?_); refine goesL_ (some 64) rfl rfl Try.func70 (by kernel_rfl) rfl #[.pointer (some ⟨g, 0, none⟩), .int .i64 30] rfl (by (try simp only [List.map_toArray, List.map_cons, List.map_nil]); first | done | rfl | (simp only [List.length_drop, List.length_take]; rfl)) ?_; (with_reducible refine (spec_l1Cur_pick.calls g s0_0 x1001_107 x1002_107 30 t407 t408 t409 w0 _ ?side1 ?side2 A118.out).mono ?_); (case side1 => exact IsS80.it HI0.out); (case side2 => exact Op.hu HB.out (IsS80.ge HI0.out)); rintro e w140 ⟨rfl, hi, hb, hk⟩; refine ⟨_, rfl, ?_⟩; replace HO_364000 := Op.k (Kd.S_mono (Kd.S_keep (IsS80.apartS (show IsS80 w0 _ g s0_0 x1001_107 x1002_107 from IsS80.it HI0.out) (Op.st HO_364000.out) (by decide)) hk (fun _ h => h.2)) (fun _ h => h.1)); replace HO_364001 := Op.k (Kd.R_mono (Kd.R_keep (IsS80.apart (show IsS80 w0 _ g s0_0 x1001_107 x1002_107 from IsS80.it HI0.out) (Op.rt HO_364001.out) (by decide)) hk (fun _ h => h.2)) (fun _ h => h.1)); replace BK356 := Op.k (KeepBut.blk hk (Op.bt BK356.out) NB356_0.out (by simp)); replace BK363 := Op.k (KeepBut.blk hk (Op.bt BK363.out) NB363_0.out (by simp)); replace HK := Op.k (KeepBut.trans (Op.kt HK.out) hk (.inl rfl)); replace HB := Op.k (hb); replace HI0 := Op.k (hi); (try clear hb); (try clear hb2); (try clear hk); (try clear hi); have hnb141 := NB363_356.out; have hnc141 := NB356_363.out; have hnb142 := NB363_0.out; have hnc142 := NB0_363.out; have hcz143_0 := Op.c0 BK363.out; have hcz143_1 := Op.c1 BK363.out; have hfz143_0 := Op.bf BK363.out 0; have hfz143_1 := Op.bf BK363.out 1; obtain ⟨Ao144, co144, eo144⟩ := Kd.S_slice HO_364000.out; subst eo144))
               replace HO_364000 := Op.k (Kd.S_drew HO_364000.out)
               replace HO_364001 := Op.k (Kd.R_drew HO_364001.out)
               replace BK356 := Op.k (Op.b2 BK356.out)
               replace BK363 := Op.k (Op.b2 BK363.out)
               replace HI0 := Op.k (IsS80.drew HI0.out)
               replace HK := Op.k (keep_drew HK.out)
               replace HB := Op.k (Op.a3 HB.out)
               have p414 : 0 ≤ (0 : Int) := (by omega)
               have q414 : 0 < (x364000_2.length : Int) := Op.dt
               obtain ⟨ad414, A414_0, c414_0, e414, hx414_0, hx414_1, hl414_0, hi414_0⟩ := at_T65 (Kd.S_reads' HO_364000.out).2.2 0 p414 q414
               cases e414
               obtain ⟨ce414, hce414, hMe414, hcc414⟩ := Kd.S_get HO_364000.out z65 0 p414 (by first | exact q414 | exact Op.dt | (have e_ := (Kd.S_reads' HO_364000.out).1; omega))
               obtain ⟨ve414_0, rfl, ge414_0⟩ := k65_openM hMe414
               have hv414_0 := hcc414 0 _ rfl
               rw [Nat.add_zero] at hv414_0
               replace hv414_0 := Option.some.inj (hv414_0.symm.trans hx414_0)
               rw [hv414_0] at ge414_0
               have HL414_0 := Op.k (show Kd.R (Kd.int .i64) 3 _ _ _ _ ((rd_T65 x364000_2 0).f0) from ge414_0)
               clear hv414_0 ge414_0
               have HX414_0 := Op.k hx414_0
               clear hcc414 hce414
               have qi414 : (0 < x364000_2.length) = True := eq_true (by omega)
               (try rw [show ((0 : Int)).toNat = 0 from rfl] at hx414_0)
               (try rw [show 0 * 2 = 0 from rfl] at hx414_0)
               (try rw [Addr.add_zero'] at hx414_0)
               (try rw [show ((0 : Int)).toNat = 0 from rfl] at hx414_1)
               (try rw [show 0 * 2 = 0 from rfl] at hx414_1)
               (try rw [Addr.add_zero'] at hx414_1)
               have HR414_0 := Op.k hi414_0
               have HC414_0 := Op.k hl414_0
               clear hi414_0 hl414_0
               replace p414 := eq_true p414
               replace q414 := eq_true q414
               refine start_ (n := 10) (S := fun w' => w'.cell? ⟨gb363, 0, none⟩ = some (.slice (some ad414) x364000_2.length co144) ∧ w'.cell? ⟨gb363, 1, none⟩ = some (u364001) ∧ w'.cell? ad414 = some (.slice A414_0 ((rd_T65 x364000_2 0).f0).length c414_0) ∧ w'.cell? ⟨ad414.block, ad414.off + 1, none⟩ = some (.bool ((rd_T65 x364000_2 0).f1))) (ds := [9]) #[false, false, false, false, false, false, false, false, false, false] (by kernel_rfl) rfl rfl ⟨(blk_cell BK363.out 0).trans rfl, (blk_cell BK363.out 1).trans rfl, hx414_0, hx414_1⟩ (fun hHeld => ?_); refine with_tabW spec_l1Cur_pool.tab22 spec_l1Cur_pool.bits22 (fun HT_ HW_ => ?_)
               generalize w140.drew = w145 at HO_364000 HO_364001 BK356 BK363 HI0 HK HB HL414_0 HR414_0 HX414_0 hx414_0 hx414_1 hHeld ⊢
               refine pure_ (i := 0) (N := some 79) (v := ?_) (a' := ?_) #[true, false, false, false, false, false, false, false, false, false] rfl rfl (any_of HT_.out (by kernel_rfl)) (fun _ _ _ h => h) (Or.inl ⟨by rfl, ?_⟩) ?_ ?_
               rotate_left
               ·intro w'
                go_simp
                with_reducible rfl
               rotate_left
               ·simp only [Act.put, List.setIfInBounds_toArray, List.set_cons_zero, List.set_cons_succ, i64_w, i32_w]
                rfl
               refine pure_ (i := 5) (N := some 84) (v := ?_) (a' := ?_) #[true, false, false, false, false, true, false, false, false, false] rfl rfl (any_of HT_.out (by kernel_rfl)) (fun _ _ _ h => h) (Or.inl ⟨by rfl, ?_⟩) ?_ ?_
               rotate_left
               ·intro w'
                go_simp
                with_reducible rfl
               rotate_left
               ·simp only [Act.put, List.setIfInBounds_toArray, List.set_cons_zero, List.set_cons_succ, i64_w, i32_w]
                rfl
               refine take_ (i := 1) (N := some 80) (v := ?_) (a' := ?_) #[true, true, false, false, false, true, false, false, false, false] rfl rfl (take_ofW HT_.out HW_.out (by kernel_rfl)) (fun _ _ _ h => h) (Or.inl ⟨by rfl, ?_⟩) hHeld ?_ ?_
               rotate_left
               ·rintro w' ⟨s0, s1, s2, s3⟩
                go_simp
                with_reducible rfl
               rotate_left
               ·simp only [Act.put, List.setIfInBounds_toArray, List.set_cons_zero, List.set_cons_succ, i64_w, i32_w]
                rfl
               refine pure_ (i := 2) (N := some 81) (v := ?_) (a' := ?_) #[true, true, true, false, false, true, false, false, false, false] rfl rfl (any_of HT_.out (by kernel_rfl)) (fun _ _ _ h => h) (Or.inl ⟨by rfl, ?_⟩) ?_ ?_
               rotate_left
               ·intro w'
                go_simp
                with_reducible rfl
               rotate_left
               ·simp only [Act.put, List.setIfInBounds_toArray, List.set_cons_zero, List.set_cons_succ, i64_w, i32_w]
                rfl
               refine pure_ (i := 3) (N := some 82) (v := ?_) (a' := ?_) #[true, true, true, true, false, true, false, false, false, false] rfl rfl (any_of HT_.out (by kernel_rfl)) (fun _ _ _ h => h) (Or.inl ⟨by rfl, ?_⟩) ?_ ?_
               rotate_left
               ·intro w'
                go_simp
                with_reducible rfl
               rotate_left
               ·simp only [Act.put, List.setIfInBounds_toArray, List.set_cons_zero, List.set_cons_succ, i64_w, i32_w]
                rfl
               refine take_ (i := 4) (N := some 83) (v := ?_) (a' := ?_) #[true, true, true, true, true, true, false, false, false, false] rfl rfl (take_ofW HT_.out HW_.out (by kernel_rfl)) (fun _ _ _ h => h) (Or.inl ⟨by rfl, ?_⟩) hHeld ?_ ?_
               rotate_left
               ·rintro w' ⟨s0, s1, s2, s3⟩
                go_simp
                with_reducible rfl
               rotate_left
               ·simp only [Act.put, List.setIfInBounds_toArray, List.set_cons_zero, List.set_cons_succ, i64_w, i32_w]
                rfl
               refine one_ (i := 6) (N := some 85) #[true, true, true, true, true, true, true, false, false, false] rfl rfl (one_of HT_.out (by kernel_rfl)) (by decide) (fun K hK => ?_)
               refine Kd.R_lit_step (Kd.int .i64) _ 3 ?hg (N := 85) ?hd (xs := ([(-1), 9999, 10000] : List Int)) (inner := [.int .i64 (-1), .int .i64 9999, .int .i64 10000]) (ok := fun _ => True) (okp := fun _ => True) ?hr ?hp (fun _ hk => hk) trivial (Below.refl _ _) (Nat.le_refl _) (by simp) ?_; (case hd => rfl); (case hg => rfl); (case hr => first | (go_simp; done) | (go_simp; rfl)); (case hp => exact (Reps.one (show Kd.M (Kd.int .i64) _ _ _ (-1) [.int .i64 (-1)] from rfl) (Reps.one (show Kd.M (Kd.int .i64) _ _ _ 9999 [.int .i64 9999] from rfl) (Reps.one (show Kd.M (Kd.int .i64) _ _ _ 10000 [.int .i64 10000] from rfl) (Reps.none _ _)))))
               intro v416 w146 ho147 hb hg_ hnew_
               have HS2_ := (hb.cell (World.block_lt_of_cell? _ _ (hHeld.2.2.1))).trans (hHeld.2.2.1)
               have HS3_ := (hb.cell (World.block_lt_of_cell? _ _ (hHeld.2.2.2))).trans (hHeld.2.2.2)
               clear hg_ hnew_
               (first | rw [← Ny415.out] at ho147 | (simp only [Int.reduceToNat] at ho147; rw [← Ny415.out] at ho147))
               replace HO_364000 := Op.k (Kd.S_elder' (Op.st HO_364000.out) (Kd.R_base ho147) hb)
               have HO417 := Op.k (Kd.R_lower (Kd.R_new' (Kd.R_new' ho147 (Kd.R_lt (Op.rt HO_364001.out))) (Kd.R_lt (Op.rt HL414_0.out))) (keep_size (w := w) (g := g) (row := none) (Op.kt HK.out)))
               replace HO_364001 := Op.k (Kd.R_elder' (Op.rt HO_364001.out) (Kd.R_base ho147) hb)
               replace HL414_0 := Op.k (Kd.R_elder' (Op.rt HL414_0.out) (Kd.R_base ho147) hb)
               replace BK356 := Op.k (Op.b4 (Op.bt BK356.out) hb)
               replace BK363 := Op.k (Op.b4 (Op.bt BK363.out) hb)
               replace HR414_0 := Op.k (Kd.C_below (by repeat (first | (with_reducible exact HR414_0.out) | (with_reducible refine Kd.C_alloc ?_ _) | (with_reducible refine Kd.C_drewN ?_ _) | (with_reducible refine Kd.C_drew ?_) | exact HR414_0.out)) hb)
               replace HX414_0 := Op.k (pw_cell_below hb HX414_0.out)
               replace HK := Op.k (KeepBut.trans (Op.kt HK.out) (KeepBut.of_below hb g none) (.inl rfl))
               replace HB := Op.k (Op.a5 (Op.hu HB.out (IsS80.ge HI0.out)) hb)
               replace HI0 := Op.k (IsS80.below (IsS80.it HI0.out) hb)
               clear hb ho147
               obtain ⟨Ao148, co148, eo148⟩ := Kd.R_slice HO417.out
               (first | subst eo148 | (injection eo148 with f1_ f2_ f3_; have f4_ := f1_.symm; have f5_ := f3_.symm; clear f1_ f2_ f3_; subst f4_; subst f5_))
               refine hK.out _ _ ⟨(blk_cell BK363.out 0).trans rfl, (blk_cell BK363.out 1).trans rfl, HS2_, HS3_⟩ (fun hHeld => ?_)
               clear hK K
               refine norm_ (a' := ?_) ?_ ?_
               rotate_left
               ·show Act.put _ (some 85) _ = _
                simp only [Act.put, List.setIfInBounds_toArray, List.set_cons_zero, List.set_cons_succ, i64_w, i32_w]
                rfl
               refine one_ (i := 7) (N := some 86) #[true, true, true, true, true, true, true, true, false, false] rfl rfl (one_of HT_.out (by kernel_rfl)) (by decide) (fun K hK => ?_)
               refine goes_ Try.func71 (by kernel_rfl) rfl #[.pointer (some ⟨g, 0, none⟩), .slice Ao148 y415.length co148] (by rfl) rfl rfl (by (try simp only [List.map_toArray, List.map_cons, List.map_nil]); first | done | rfl | (simp only [List.length_drop, List.length_take]; rfl)) ?_
               with_reducible refine (spec_l1Cur_among.calls g s0_0 t408 t409 _ _ y415 t418 t419 t420 w0 _ ?side1 ?side2 ?side3 ?side4 ?side5 A137.out).mono ?_
               (case side1 => exact IsS80.it HI0.out)
               (case side2 => exact Op.hu HB.out (IsS80.ge HI0.out))
               (case side3 => exact Op.ct (Kd.R_reads' HO417.out).2.2)
               (case side4 => exact (Kd.R_reads' HO417.out).2.1)
               (case side5 => exact far_slice (IsS80.own_ne HI0.out HO417.out (by decide)))
               rintro e w149 ⟨rfl, hi, hb, hk⟩
               have HS2_ := keep_cell hk (hHeld.2.2.1) (by first | (rw [add_block]; exact Kd.own_blk (IsS80.own_neS HI0.out HO_364000.out (by decide))) | (show (Addr.add _ _).block ≠ _; rw [add_block]; exact Kd.own_blk (IsS80.own_neS HI0.out HO_364000.out (by decide))) | exact Kd.own_blk (IsS80.own_neS HI0.out HO_364000.out (by decide)) | (dsimp only; exact Kd.own_blk (IsS80.own_neS HI0.out HO_364000.out (by decide))))
               have HS3_ := keep_cell hk (hHeld.2.2.2) (by first | (rw [add_block]; exact Kd.own_blk (IsS80.own_neS HI0.out HO_364000.out (by decide))) | (show (Addr.add _ _).block ≠ _; rw [add_block]; exact Kd.own_blk (IsS80.own_neS HI0.out HO_364000.out (by decide))) | exact Kd.own_blk (IsS80.own_neS HI0.out HO_364000.out (by decide)) | (dsimp only; exact Kd.own_blk (IsS80.own_neS HI0.out HO_364000.out (by decide))))
               refine ⟨_, rfl, ?_⟩
               replace HO_364001 := Op.k (Kd.R_mono (Kd.R_keep (IsS80.apart (show IsS80 w0 _ g s0_0 t408 t409 from IsS80.it HI0.out) (Op.rt HO_364001.out) (by decide)) hk (fun _ h => h.2)) (fun _ h => h.1))
               replace BK356 := Op.k (KeepBut.blk hk (Op.bt BK356.out) NB356_0.out (by simp))
               replace BK363 := Op.k (KeepBut.blk hk (Op.bt BK363.out) NB363_0.out (by simp))
               replace HL414_0 := Op.k (Kd.R_mono (Kd.R_keep (IsS80.apart (show IsS80 w0 _ g s0_0 t408 t409 from IsS80.it HI0.out) (Op.rt HL414_0.out) (by decide)) hk (fun _ h => h.2)) (fun _ h => h.1))
               replace HX414_0 := Op.k (keep_cell hk HX414_0.out (by first | (rw [add_block]; exact Kd.own_blk (IsS80.own_neS HI0.out HO_364000.out (by decide))) | (show (Addr.add _ _).block ≠ _; rw [add_block]; exact Kd.own_blk (IsS80.own_neS HI0.out HO_364000.out (by decide))) | exact Kd.own_blk (IsS80.own_neS HI0.out HO_364000.out (by decide)) | (dsimp only; exact Kd.own_blk (IsS80.own_neS HI0.out HO_364000.out (by decide)))))
               replace HO_364000 := Op.k (Kd.S_mono (Kd.S_keep (IsS80.apartS (show IsS80 w0 _ g s0_0 t408 t409 from IsS80.it HI0.out) (Op.st HO_364000.out) (by decide)) hk (fun _ h => h.2)) (fun _ h => h.1))
               replace HO417 := Op.k (Kd.R_mono (Kd.R_keep (IsS80.apart (show IsS80 w0 _ g s0_0 t408 t409 from IsS80.it HI0.out) (Op.rt HO417.out) (by decide)) hk (fun _ h => h.2)) (fun _ h => h.1))
               replace HK := Op.k (KeepBut.trans (Op.kt HK.out) hk (.inl rfl))
               replace HB := Op.k (hb)
               replace HI0 := Op.k (hi)
               (try clear hb)
               (try clear hb2)
               (try clear hk)
               (try clear hi)
               have p139 : 0 ≤ (0 : Int) := (by omega)
               have q139 : (0 : Int) < ((((rd_T65 x364000_2 0).f0).length : Int) : Int) := Op.dt
               have qi139 : (0 < ((rd_T65 x364000_2 0).f0).length) = True := eq_true (by omega)
               obtain ⟨go139, co139, eo139, gb139, gl139, cl139, HG139⟩ := Kd.R_form HL414_0.out (by omega)
               (first | cases eo139 | (injection eo139 with ea_ en_ ec_; (first | subst ea_ | (injection ea_ with ea_; subst ea_)); subst ec_; clear en_))
               have GB139 := Op.k gb139
               have GG139 := Op.k HG139
               clear gb139 gl139 HG139
               obtain ⟨hx139_0, hf139_0⟩ := Kd.R_celln 0 HL414_0.out (0 : Int) p139 q139
               (try rw [show ((0 : Int)).toNat = 0 from rfl] at hx139_0)
               (try simp only [Nat.reduceMul, Nat.zero_mul, Nat.zero_add, Nat.reduceAdd] at hx139_0)
               (try rw [show ((0 : Int)).toNat = 0 from rfl] at hf139_0)
               (try simp only [Nat.reduceMul, Nat.zero_mul, Nat.zero_add, Nat.reduceAdd] at hf139_0)
               replace p139 := eq_true p139
               replace q139 := eq_true q139
               have hq150 : (0 : Int) < (x364000_2.length : Int) := (by have h_ : (0 : Int) < ((x364000_2.length : Int) : Int) := Op.dt; first | exact h_ | (have e_ := (Kd.S_reads' HO_364000.out).1; omega) | simpa only [List.length_set, List.length_set] using h_)
               obtain ⟨oki150, ce150, hcl150, hM150, hcc150, hok150, hbk150⟩ := Kd.S_borrow HO_364000.out z65 (0 : Int) (by omega) hq150
               obtain ⟨ve150_0, rfl, ge150_0⟩ := k65_openM hM150
               have hv150 := hcc150 0 _ rfl
               rw [Nat.add_zero] at hv150
               replace hv150 := Option.some.inj (hv150.symm.trans HX414_0.out)
               subst hv150
               clear hcc150 hcl150
               replace ge150_0 := (show Kd.R (Kd.int .i64) 3 _ _ _ _ ((rd_T65 x364000_2 0).f0) from ge150_0)
               have HP150 := Kd.R_putg ge150_0 (0 : Int) t418
               have HN0_go139 := Op.k (show g ≠ go139 from by have h_ := IsS80.own_ne HI0.out HL414_0.out (by decide); intro e_; exact h_ (by rw [e_]; rfl))
               rw [← Ny421.out] at HP150
               have HS150 := hbk150 HP150.2 (fun k_ e_ => by injection e_ with e_; subst e_; exact ge150_0.1 _ rfl) (x' := (⟨y421, (rd_T65 x364000_2 0).f1⟩ : S65)) (k65_mkM _ _ _ (⟨y421, (rd_T65 x364000_2 0).f1⟩ : S65) HP150.1)
               rw [← Ny423.out] at HS150
               have HQ150 := Op.k HS150
               clear HP150 HS150 hbk150 hok150
               refine hK.out _ _ ⟨(blk_cell BK363.out 0).trans rfl, (blk_cell BK363.out 1).trans rfl, HS2_, HS3_⟩ (fun hHeld => ?_)
               clear hK K
               refine norm_ (a' := ?_) ?_ ?_
               rotate_left
               ·show Act.put _ (some 86) _ = _
                simp only [Act.put, List.setIfInBounds_toArray, List.set_cons_zero, List.set_cons_succ, i64_w, i32_w]
                rfl
               refine pure_ (i := 8) (N := some 87) (v := ?_) (a' := ?_) #[true, true, true, true, true, true, true, true, true, false] rfl rfl (any_of HT_.out (by kernel_rfl)) (fun _ _ _ h => h) (Or.inl ⟨by rfl, ?_⟩) ?_ ?_
               rotate_left
               ·intro w'
                go_simp
                with_reducible rfl
               rotate_left
               ·simp only [Act.put, List.setIfInBounds_toArray, List.set_cons_zero, List.set_cons_succ, i64_w, i32_w]
                rfl
               refine last_ (i := 9) (N := none) #[true, true, true, true, true, true, true, true, true, true] rfl rfl (one_of HT_.out (by kernel_rfl)) (by decide) (fun K hK => ?_)
               refine skip_ (w1 := ?_) (by rfl) rfl ?_ ?_
               rotate_left
               ·go_simp
                rfl
               refine hK.out _ _ ?_
               clear hK K
               refine done_ (done_of HT_.out (by kernel_rfl)) ?_
               have n0_ : Aside0 (Kd.S k65 65 (w149.setCell ⟨go139, 0, none⟩ (.int .i64 t418)) w.heap.size (fun k_ => some k_ ≠ (u364001 : Value).ownBlock ∧ some k_ ≠ (.slice Ao148 y415.length co148 : Value).ownBlock) (.slice (some ad414) x364000_2.length co144) y423) := ⟨Op.st HQ150.out⟩
               have n1_ : Aside0 (Kd.R (Kd.int .i64) 3 (w149.setCell ⟨go139, 0, none⟩ (.int .i64 t418)) w.heap.size (fun k_ => some k_ ≠ (.slice Ao148 y415.length co148 : Value).ownBlock) u364001 x364001_107) := ⟨by (with_reducible repeat (first | apply Kd.R_alloc | apply Kd.R_drewN | apply Kd.R_drew)); exact Kd.R_mono (Kd.R_far (p := ⟨go139, 0, none⟩) (Kd.R_far1 HO_364001.out rfl ((HL414_0.out.1 _ rfl).1.1)) (fun _ hk => hk.2) (.int .i64 t418)) (fun _ hk => hk.1.2)⟩
               have n2_ : Aside0 (Kd.R (Kd.int .i64) 3 (w149.setCell ⟨go139, 0, none⟩ (.int .i64 t418)) w.heap.size (fun k_ => some k_ ≠ (u364001 : Value).ownBlock) (.slice Ao148 y415.length co148) y415) := ⟨by (with_reducible repeat (first | apply Kd.R_alloc | apply Kd.R_drewN | apply Kd.R_drew)); exact Kd.R_mono (Kd.R_far (p := ⟨go139, 0, none⟩) (Kd.R_far1 HO417.out rfl ((HL414_0.out.1 _ rfl).2)) (fun _ hk => hk.2) (.int .i64 t418)) (fun _ hk => hk.1.1.2)⟩
               have n3_ : Aside0 ((w149.setCell ⟨go139, 0, none⟩ (.int .i64 t418)).heap[gb356]? = some (.cells #[.slice none 0 0, .slice none 0 0] 25 (0, 0))) := ⟨by (with_reducible repeat (first | refine Op.b1 ?_ _ | refine Op.b2 ?_ | refine Op.b3 ?_ _)); refine blk_far ?_ (by have h_ := Kd.R_ne HL414_0.out BK356.out (by decide); intro e_; exact h_ (by rw [e_]; rfl)) _; (with_reducible repeat (first | refine Op.b1 ?_ _ | refine Op.b2 ?_ | refine Op.b3 ?_ _)); exact BK356.out⟩
               have n4_ : Aside0 ((w149.setCell ⟨go139, 0, none⟩ (.int .i64 t418)).heap[gb363]? = some (.cells #[.slice (some ad414) x364000_2.length co144, u364001] 25 (0, 0))) := ⟨by (with_reducible repeat (first | refine Op.b1 ?_ _ | refine Op.b2 ?_ | refine Op.b3 ?_ _)); refine blk_far ?_ (by have h_ := Kd.R_ne HL414_0.out BK363.out (by decide); intro e_; exact h_ (by rw [e_]; rfl)) _; (with_reducible repeat (first | refine Op.b1 ?_ _ | refine Op.b2 ?_ | refine Op.b3 ?_ _)); exact BK363.out⟩
               have n5_ : Aside0 (IsS80 w0 (w149.setCell ⟨go139, 0, none⟩ (.int .i64 t418)) g s0_0 t419 t420) := ⟨IsS80.it HI0.out⟩
               have n6_ : Aside0 (KeepBut w (w149.setCell ⟨go139, 0, none⟩ (.int .i64 t418)) g none) := ⟨Op.kt HK.out⟩
               have n7_ : Aside0 (Below w0.heap.size w0 (w149.setCell ⟨go139, 0, none⟩ (.int .i64 t418))) := ⟨by repeat (first | (with_reducible first | exact HB.out | apply Op.a1 | apply Op.a2 | apply Op.a3 | refine Op.a4 ?_ (Nat.le_trans HL.out GB139.out) | refine Op.a4 ?_ (IsS80.ge HI0.out) | refine Op.a4 ?_ GE356.out | refine Op.a4 ?_ GE363.out) | exact HB.out)⟩
               (try clear HO_364000)
               (try clear HO_364001)
               (try clear HO417)
               (try clear BK356)
               (try clear BK363)
               (try clear HI0)
               (try clear HK)
               (try clear HB)
               generalize (w149.setCell ⟨go139, 0, none⟩ (.int .i64 t418)) = w152 at n0_ n1_ n2_ n3_ n4_ n5_ n6_ n7_ ⊢
               have HO_364000 := n0_
               have HO_364001 := n1_
               have HO417 := n2_
               have BK356 := n3_
               have BK363 := n4_
               have HI0 := n5_
               have HK := n6_
               have HB := n7_
               clear n0_ n1_ n2_ n3_ n4_ n5_ n6_ n7_
               have hcz153_0 := Op.c0 BK363.out
               have hcz153_1 := Op.c1 BK363.out
               have hfz153_0 := Op.bf BK363.out 0
               have hfz153_1 := Op.bf BK363.out 1
               have hnb154 := NB356_0.out
               have hnc154 := NB0_356.out
               have hcz155_0 := Op.c0 BK356.out
               have hcz155_1 := Op.c1 BK356.out
               have hfz155_0 := Op.bf BK356.out 0
               have hfz155_1 := Op.bf BK356.out 1
               obtain ⟨Ao156, co156, eo156⟩ := Kd.R_slice HO_364001.out
               subst eo156
               try go_wp2
               refine bodyPost_ret (results_cell_row rfl _ _ gb356 25 #[.slice (some ad414) x364000_2.length co144, .slice Ao156 x364001_107.length co156] (0, 0) _ rfl (Op.bv BK356.out) Try.underlying25 rfl (by kernel_rfl)) rfl ?_
               exact ⟨_, _, by first | rfl | (simp [errW_none, errW_some] <;> rfl) | (simp [*, errW_none, errW_some] <;> rfl), Op.sm (Op.sf HO_364000.out BK356.out), Op.rm (Op.rf HO_364001.out BK356.out), IsS80.it HI0.out, Op.hu HB.out (IsS80.ge HI0.out), Op.kt HK.out⟩
              ·rw [if_neg c138] at H
               exact absurd H (by simp)
             ·rw [if_neg c136] at H
              exact absurd H (by simp)
            ·rw [if_neg c135] at H
             have c135b0 : decide (0 < (x364000_2.length : Int)) = false := decide_eq_false c135
             have c135b1 : decide (0 < x364000_2.length) = false := decide_eq_false (by omega)
             clear c135
             simp only [Option.some.injEq, Prod.mk.injEq] at H
             obtain ⟨rfl, rfl, rfl, rfl⟩ := H
             go_wp2_with (first | ((with_reducible refine gate_callee (f := 70) rfl ?_); refine goesL_ (some 64) rfl rfl Try.func70 (by kernel_rfl) rfl #[.pointer (some ⟨g, 0, none⟩), .int .i64 30] rfl (by (try simp only [List.map_toArray, List.map_cons, List.map_nil]); first | done | rfl | (simp only [List.length_drop, List.length_take]; rfl)) ?_; (with_reducible refine (spec_l1Cur_pick.calls g s0_0 x1001_107 x1002_107 30 t407 t408 t409 w0 _ ?side1 ?side2 A118.out).mono ?_); (case side1 => exact IsS80.it HI0.out); (case side2 => exact Op.hu HB.out (IsS80.ge HI0.out)); rintro e w157 ⟨rfl, hi, hb, hk⟩; refine ⟨_, rfl, ?_⟩; replace HO_364000 := Op.k (Kd.S_mono (Kd.S_keep (IsS80.apartS (show IsS80 w0 _ g s0_0 x1001_107 x1002_107 from IsS80.it HI0.out) (Op.st HO_364000.out) (by decide)) hk (fun _ h => h.2)) (fun _ h => h.1)); replace HO_364001 := Op.k (Kd.R_mono (Kd.R_keep (IsS80.apart (show IsS80 w0 _ g s0_0 x1001_107 x1002_107 from IsS80.it HI0.out) (Op.rt HO_364001.out) (by decide)) hk (fun _ h => h.2)) (fun _ h => h.1)); replace BK356 := Op.k (KeepBut.blk hk (Op.bt BK356.out) NB356_0.out (by simp)); replace BK363 := Op.k (KeepBut.blk hk (Op.bt BK363.out) NB363_0.out (by simp)); replace HK := Op.k (KeepBut.trans (Op.kt HK.out) hk (.inl rfl)); replace HB := Op.k (hb); replace HI0 := Op.k (hi); (try clear hb); (try clear hb2); (try clear hk); (try clear hi); have hnb158 := NB363_356.out; have hnc158 := NB356_363.out; have hnb159 := NB363_0.out; have hnc159 := NB0_363.out; have hcz160_0 := Op.c0 BK363.out; have hcz160_1 := Op.c1 BK363.out; have hfz160_0 := Op.bf BK363.out 0; have hfz160_1 := Op.bf BK363.out 1; obtain ⟨Ao161, co161, eo161⟩ := Kd.S_slice HO_364000.out; subst eo161; have hnb162 := NB356_0.out; have hnc162 := NB0_356.out; have hcz163_0 := Op.c0 BK356.out; have hcz163_1 := Op.c1 BK356.out; have hfz163_0 := Op.bf BK356.out 0; have hfz163_1 := Op.bf BK356.out 1; obtain ⟨Ao164, co164, eo164⟩ := Kd.R_slice HO_364001.out; subst eo164))
             refine bodyPost_ret (results_cell_row rfl _ _ gb356 25 #[.slice Ao161 x364000_2.length co161, .slice Ao164 x364001_107.length co164] (0, 0) _ rfl (Op.bv BK356.out) Try.underlying25 rfl (by kernel_rfl)) rfl ?_
             exact ⟨_, _, by first | rfl | (simp [errW_none, errW_some] <;> rfl) | (simp [*, errW_none, errW_some] <;> rfl), Op.sm (Op.sf HO_364000.out BK356.out), Op.rm (Op.rf HO_364001.out BK356.out), IsS80.it HI0.out, Op.hu HB.out (IsS80.ge HI0.out), Op.kt HK.out⟩
           ·rw [if_neg c134] at H
            have c134b0 : (t407 == 1) = false := beq_eq_false_iff_ne.mpr c134
            have c134b1 : (t407 != 1) = true := bne_iff_ne.mpr c134
            simp only [Option.some.injEq, Prod.mk.injEq] at H
            obtain ⟨rfl, rfl, rfl, rfl⟩ := H
            go_wp2_with (first | ((with_reducible refine gate_callee (f := 70) rfl ?_); refine goesL_ (some 64) rfl rfl Try.func70 (by kernel_rfl) rfl #[.pointer (some ⟨g, 0, none⟩), .int .i64 30] rfl (by (try simp only [List.map_toArray, List.map_cons, List.map_nil]); first | done | rfl | (simp only [List.length_drop, List.length_take]; rfl)) ?_; (with_reducible refine (spec_l1Cur_pick.calls g s0_0 x1001_107 x1002_107 30 t407 t408 t409 w0 _ ?side1 ?side2 A118.out).mono ?_); (case side1 => exact IsS80.it HI0.out); (case side2 => exact Op.hu HB.out (IsS80.ge HI0.out)); rintro e w165 ⟨rfl, hi, hb, hk⟩; refine ⟨_, rfl, ?_⟩; replace HO_364000 := Op.k (Kd.S_mono (Kd.S_keep (IsS80.apartS (show IsS80 w0 _ g s0_0 x1001_107 x1002_107 from IsS80.it HI0.out) (Op.st HO_364000.out) (by decide)) hk (fun _ h => h.2)) (fun _ h => h.1)); replace HO_364001 := Op.k (Kd.R_mono (Kd.R_keep (IsS80.apart (show IsS80 w0 _ g s0_0 x1001_107 x1002_107 from IsS80.it HI0.out) (Op.rt HO_364001.out) (by decide)) hk (fun _ h => h.2)) (fun _ h => h.1)); replace BK356 := Op.k (KeepBut.blk hk (Op.bt BK356.out) NB356_0.out (by simp)); replace BK363 := Op.k (KeepBut.blk hk (Op.bt BK363.out) NB363_0.out (by simp)); replace HK := Op.k (KeepBut.trans (Op.kt HK.out) hk (.inl rfl)); replace HB := Op.k (hb); replace HI0 := Op.k (hi); (try clear hb); (try clear hb2); (try clear hk); (try clear hi); have hnb166 := NB363_356.out; have hnc166 := NB356_363.out; have hnb167 := NB363_0.out; have hnc167 := NB0_363.out; have hcz168_0 := Op.c0 BK363.out; have hcz168_1 := Op.c1 BK363.out; have hfz168_0 := Op.bf BK363.out 0; have hfz168_1 := Op.bf BK363.out 1; obtain ⟨Ao169, co169, eo169⟩ := Kd.S_slice HO_364000.out; subst eo169; have hnb170 := NB356_0.out; have hnc170 := NB0_356.out; have hcz171_0 := Op.c0 BK356.out; have hcz171_1 := Op.c1 BK356.out; have hfz171_0 := Op.bf BK356.out 0; have hfz171_1 := Op.bf BK356.out 1; obtain ⟨Ao172, co172, eo172⟩ := Kd.R_slice HO_364001.out; subst eo172))
            refine bodyPost_ret (results_cell_row rfl _ _ gb356 25 #[.slice Ao169 x364000_2.length co169, .slice Ao172 x364001_107.length co172] (0, 0) _ rfl (Op.bv BK356.out) Try.underlying25 rfl (by kernel_rfl)) rfl ?_
            exact ⟨_, _, by first | rfl | (simp [errW_none, errW_some] <;> rfl) | (simp [*, errW_none, errW_some] <;> rfl), Op.sm (Op.sf HO_364000.out BK356.out), Op.rm (Op.rf HO_364001.out BK356.out), IsS80.it HI0.out, Op.hu HB.out (IsS80.ge HI0.out), Op.kt HK.out⟩

end Go.Proofs.Ytnafnpoflheonaa.PFnVersions
