/- Contracts of functions of the translation, written by a program of this repo (a changed copy of the printer). Not trusted: Lean checks it. -/
-- squeezed
-- compact
import Derived.Test.YtnafnpoflheonaaCc
import Derived.Test.YtnafnpoflheonaaPFnVersionsx0
import Derived.Test.YtnafnpoflheonaaPFnVersionsx8
import Derived.Test.YtnafnpoflheonaaPFnVersionsx9
import Derived.Test.YtnafnpoflheonaaPFnVersionsx10
namespace Go.Proofs.Ytnafnpoflheonaa.PFnVersions
open Go.RowKit Go.Proofs.YtnafnpoflheonaaW.PrintWords Go.Proofs.YtnafnpoflheonaaW.PrintLast Go.Proofs.YtnafnpoflheonaaW.PrintMore
attribute [local go_sem] max2_int min2_int max_two min_two max_three min_three max_four min_four   -- for this text's walks alone
set_option linter.unusedVariables false
set_option linter.unusedSimpArgs false

/-! ### laws_samePools: function 36 -/
mutual
def laws_samePools.j0 : Nat → Bool → List (S65) → List Int → List (S65) → List Int → Option (Bool)
 | 0, _, _, _, _, _ => none
 | k + 1, x20, x450000, x450001, x451000, x451001 => if x20 = true then (some false) else (laws_samePools.l0 k (x450000.length : Int) 0 x450000 x450001 x451000 x451001)
def laws_samePools.l0 : Nat → Int → Int → List (S65) → List Int → List (S65) → List Int → Option (Bool)
 | 0, _, _, _, _, _, _ => none
 | k + 1, x23, x24, x450000, x450001, x451000, x451001 => if x24 < x23 then (if 0 ≤ x24 then (if x24 < (x450000.length : Int) then (if x24 < (x451000.length : Int) then (if (((rd_T65 x450000 x24).f1) != ((rd_T65 x451000 x24).f1)) = true then (some false) else ((laws_sameInts.f k ((rd_T65 x450000 x24).f0) ((rd_T65 x451000 x24).f0)).bind fun t456 => (if t456 = true then (laws_samePools.l0 k x23 (wrap64 (x24 + 1)) x450000 x450001 x451000 x451001) else (some false)))) else (none)) else (none)) else (none)) else (some true)
end
def laws_samePools.f (k : Nat) (l0_0 : List (S65)) (l0_1 : List Int) (l1_0 : List (S65)) (l1_1 : List Int) : Option (Bool) := (laws_sameInts.f k l0_1 l1_1).bind fun t451 => (if t451 = true then (laws_samePools.j0 k ((l0_0.length : Int) != (l1_0.length : Int)) l0_0 l0_1 l1_0 l1_1) else (laws_samePools.j0 k true l0_0 l0_1 l1_0 l1_1))
theorem laws_samePools.mono_l : ∀ k, (∀ y0 y1 y2 y3 y4, LeO (laws_samePools.j0 k y0 y1 y2 y3 y4) (laws_samePools.j0 (k + 1) y0 y1 y2 y3 y4)) ∧ (∀ y0 y1 y2 y3 y4 y5, LeO (laws_samePools.l0 k y0 y1 y2 y3 y4 y5) (laws_samePools.l0 (k + 1) y0 y1 y2 y3 y4 y5))
 | 0 => ⟨fun _ _ _ _ _ r h => by simp [laws_samePools.j0] at h, fun _ _ _ _ _ _ r h => by simp [laws_samePools.l0] at h⟩
 | k + 1 => by
  obtain ⟨ih0, ih1⟩ := laws_samePools.mono_l k
  refine ⟨?_, ?_⟩
  ·intro y0 y1 y2 y3 y4
   unfold laws_samePools.j0
   repeat' first
   | (with_reducible exact ih0 _ _ _ _ _)
   | (with_reducible exact ih1 _ _ _ _ _ _)
   | (with_reducible exact laws_sameInts.mono _ _ _)
   | (with_reducible exact LeO.refl _)
   | (with_reducible exact LeO.none _)
   | (with_reducible refine LeO.ite ?_ ?_)
   | (with_reducible refine LeO.bind ?_ (fun _ => ?_))
   | exact ih0 _ _ _ _ _
   | exact ih1 _ _ _ _ _ _
   | exact laws_sameInts.mono _ _ _
   | exact LeO.none _
   | refine LeO.ite ?_ ?_
   | refine LeO.bind ?_ (fun _ => ?_)
  ·intro y0 y1 y2 y3 y4 y5
   unfold laws_samePools.l0
   repeat' first
   | (with_reducible exact ih0 _ _ _ _ _)
   | (with_reducible exact ih1 _ _ _ _ _ _)
   | (with_reducible exact laws_sameInts.mono _ _ _)
   | (with_reducible exact LeO.refl _)
   | (with_reducible exact LeO.none _)
   | (with_reducible refine LeO.ite ?_ ?_)
   | (with_reducible refine LeO.bind ?_ (fun _ => ?_))
   | exact ih0 _ _ _ _ _
   | exact ih1 _ _ _ _ _ _
   | exact laws_sameInts.mono _ _ _
   | exact LeO.none _
   | refine LeO.ite ?_ ?_
   | refine LeO.bind ?_ (fun _ => ?_)
theorem laws_samePools.mono : ∀ a0 a1 a2 a3 k, LeO (laws_samePools.f k a0 a1 a2 a3) (laws_samePools.f (k + 1) a0 a1 a2 a3) := by
 intro a0 a1 a2 a3 k
 obtain ⟨ih0, ih1⟩ := laws_samePools.mono_l k
 unfold laws_samePools.f
 repeat' first
   | (with_reducible exact ih0 _ _ _ _ _)
   | (with_reducible exact ih1 _ _ _ _ _ _)
   | (with_reducible exact laws_sameInts.mono _ _ _)
   | (with_reducible exact LeO.refl _)
   | (with_reducible exact LeO.none _)
   | (with_reducible refine LeO.ite ?_ ?_)
   | (with_reducible refine LeO.bind ?_ (fun _ => ?_))
   | exact ih0 _ _ _ _ _
   | exact ih1 _ _ _ _ _ _
   | exact laws_sameInts.mono _ _ _
   | exact LeO.none _
   | refine LeO.ite ?_ ?_
   | refine LeO.bind ?_ (fun _ => ?_)
set_option maxHeartbeats 8000000 in
set_option maxRecDepth 100000 in
theorem laws_samePools.calls (k : Nat) (A0_0 : Option Addr) (c0_0 : Nat) (l0_0 : List (S65)) (A0_1 : Option Addr) (c0_1 : Nat) (l0_1 : List Int) (A1_0 : Option Addr) (c1_0 : Nat) (l1_0 : List (S65)) (A1_1 : Option Addr) (c1_1 : Nat) (l1_1 : List Int) (r : Bool) (w : World) (hr0_0 : Kd.C k65 w A0_0 l0_0.length l0_0) (hc0_0 : l0_0.length ≤ c0_0) (hr0_1 : Kd.C (Kd.int .i64) w A0_1 l0_1.length l0_1) (hc0_1 : l0_1.length ≤ c0_1) (hr1_0 : Kd.C k65 w A1_0 l1_0.length l1_0) (hc1_0 : l1_0.length ≤ c1_0) (hr1_1 : Kd.C (Kd.int .i64) w A1_1 l1_1.length l1_1) (hc1_1 : l1_1.length ≤ c1_1) (h : laws_samePools.f k l0_0 l0_1 l1_0 l1_1 = some r) :
  Calls Try.prog 36 #[.agg #[.slice A0_0 l0_0.length c0_0, .slice A0_1 l0_1.length c0_1], .agg #[.slice A1_0 l1_0.length c1_0, .slice A1_1 l1_1.length c1_1]] w fun e w' => e = .returned (.bool r) ∧ Below w.heap.size w w' := by
 have hu25 := Try.underlying25
 have HR0_0 := Op.k hr0_0
 have HC0_0 := Op.k hc0_0
 clear hr0_0 hc0_0
 have HR0_1 := Op.k hr0_1
 have HC0_1 := Op.k hc0_1
 clear hr0_1 hc0_1
 have HR1_0 := Op.k hr1_0
 have HC1_0 := Op.k hc1_0
 clear hr1_0 hc1_0
 have HR1_1 := Op.k hr1_1
 have HC1_1 := Op.k hc1_1
 clear hr1_1 hc1_1
 have HB := Op.k (Below.refl w.heap.size w)
 have H : ((laws_sameInts.f k l0_1 l1_1).bind fun t451 => (if t451 = true then (laws_samePools.j0 k ((l0_0.length : Int) != (l1_0.length : Int)) l0_0 l0_1 l1_0 l1_1) else (laws_samePools.j0 k true l0_0 l0_1 l1_0 l1_1))) = some r := h
 clear h
 have HC3 := Op.k H
 clear H
 go_enter Try.func36, Try.ntmps36
 go_upto_region 1 with (first | ((with_reducible refine gate_dst (N := 2) rfl ?_); (try (refine gate_guard (by rfl) ?_; dsimp only)); refine box_event ?hg (N := 2) ?hd (cs := #[.slice A0_0 l0_0.length c0_0, .slice A0_1 l0_1.length c0_1]) (t := 25) ?hr ?_; (case hd => rfl); (case hg => rfl); (case hr => first | (go_simp; done) | (go_simp; rfl)); intro gb449 hg w4 hbox hb; have BK449 := Op.k (hbox); have GW449 := Op.k ((Op.nz hg (Op.ht HB.out) : w.heap.size ≤ gb449)); have GE449 := Op.k ((Op.nz hg (Op.ht HB.out) : w.heap.size ≤ gb449)); replace HB := Op.k (Op.a5 (Op.ht HB.out) hb); clear hb hbox hg) | ((with_reducible refine gate_dst (N := 3) rfl ?_); (try (refine gate_guard (by rfl) ?_; dsimp only)); refine box_event ?hg (N := 3) ?hd (cs := #[.slice A1_0 l1_0.length c1_0, .slice A1_1 l1_1.length c1_1]) (t := 25) ?hr ?_; (case hd => rfl); (case hg => rfl); (case hr => first | (go_simp; done) | (go_simp; rfl)); intro gb450 hg w5 hbox hb; have BK450 := Op.k (hbox); have GW450 := Op.k ((Op.nz hg (Op.ht HB.out) : w.heap.size ≤ gb450)); have GE450 := Op.k ((Op.nz hg (Op.ht HB.out) : w.heap.size ≤ gb450)); replace HB := Op.k (Op.a5 (Op.ht HB.out) hb); have NB449_450 := Op.k ((Op.nl hg (Op.bt BK449.out) : gb449 ≠ gb450)); have NB450_449 := Op.k ((Op.ng hg (Op.bt BK449.out) : gb450 ≠ gb449)); replace BK449 := Op.k (Op.b4 (Op.bt BK449.out) hb); clear hb hbox hg))
 repeat (go_quiet (first | ((with_reducible refine gate_dst (N := 2) rfl ?_); (try (refine gate_guard (by rfl) ?_; dsimp only)); refine box_event ?hg (N := 2) ?hd (cs := #[.slice A0_0 l0_0.length c0_0, .slice A0_1 l0_1.length c0_1]) (t := 25) ?hr ?_; (case hd => rfl); (case hg => rfl); (case hr => first | (go_simp; done) | (go_simp; rfl)); intro gb449 hg w4 hbox hb; have BK449 := Op.k (hbox); have GW449 := Op.k ((Op.nz hg (Op.ht HB.out) : w.heap.size ≤ gb449)); have GE449 := Op.k ((Op.nz hg (Op.ht HB.out) : w.heap.size ≤ gb449)); replace HB := Op.k (Op.a5 (Op.ht HB.out) hb); clear hb hbox hg) | ((with_reducible refine gate_dst (N := 3) rfl ?_); (try (refine gate_guard (by rfl) ?_; dsimp only)); refine box_event ?hg (N := 3) ?hd (cs := #[.slice A1_0 l1_0.length c1_0, .slice A1_1 l1_1.length c1_1]) (t := 25) ?hr ?_; (case hd => rfl); (case hg => rfl); (case hr => first | (go_simp; done) | (go_simp; rfl)); intro gb450 hg w5 hbox hb; have BK450 := Op.k (hbox); have GW450 := Op.k ((Op.nz hg (Op.ht HB.out) : w.heap.size ≤ gb450)); have GE450 := Op.k ((Op.nz hg (Op.ht HB.out) : w.heap.size ≤ gb450)); replace HB := Op.k (Op.a5 (Op.ht HB.out) hb); have NB449_450 := Op.k ((Op.nl hg (Op.bt BK449.out) : gb449 ≠ gb450)); have NB450_449 := Op.k ((Op.ng hg (Op.bt BK449.out) : gb450 ≠ gb449)); replace BK449 := Op.k (Op.b4 (Op.bt BK449.out) hb); clear hb hbox hg)); go_upto_region 1 with (first | ((with_reducible refine gate_dst (N := 2) rfl ?_); (try (refine gate_guard (by rfl) ?_; dsimp only)); refine box_event ?hg (N := 2) ?hd (cs := #[.slice A0_0 l0_0.length c0_0, .slice A0_1 l0_1.length c0_1]) (t := 25) ?hr ?_; (case hd => rfl); (case hg => rfl); (case hr => first | (go_simp; done) | (go_simp; rfl)); intro gb449 hg w4 hbox hb; have BK449 := Op.k (hbox); have GW449 := Op.k ((Op.nz hg (Op.ht HB.out) : w.heap.size ≤ gb449)); have GE449 := Op.k ((Op.nz hg (Op.ht HB.out) : w.heap.size ≤ gb449)); replace HB := Op.k (Op.a5 (Op.ht HB.out) hb); clear hb hbox hg) | ((with_reducible refine gate_dst (N := 3) rfl ?_); (try (refine gate_guard (by rfl) ?_; dsimp only)); refine box_event ?hg (N := 3) ?hd (cs := #[.slice A1_0 l1_0.length c1_0, .slice A1_1 l1_1.length c1_1]) (t := 25) ?hr ?_; (case hd => rfl); (case hg => rfl); (case hr => first | (go_simp; done) | (go_simp; rfl)); intro gb450 hg w5 hbox hb; have BK450 := Op.k (hbox); have GW450 := Op.k ((Op.nz hg (Op.ht HB.out) : w.heap.size ≤ gb450)); have GE450 := Op.k ((Op.nz hg (Op.ht HB.out) : w.heap.size ≤ gb450)); replace HB := Op.k (Op.a5 (Op.ht HB.out) hb); have NB449_450 := Op.k ((Op.nl hg (Op.bt BK449.out) : gb449 ≠ gb450)); have NB450_449 := Op.k ((Op.ng hg (Op.bt BK449.out) : gb450 ≠ gb449)); replace BK449 := Op.k (Op.b4 (Op.bt BK449.out) hb); clear hb hbox hg)))
 (try simp only [Act.put, List.setIfInBounds_toArray, List.set_cons_zero, List.set_cons_succ])
 go_cut [20] (fun v20 wc => ∃ (kq : Nat) (x20_2 : Bool), v20 = .bool x20_2 ∧ Aside0 (laws_samePools.j0 kq x20_2 l0_0 l0_1 l1_0 l1_1 = some r) ∧ Aside0 (kq ≤ k) ∧ Aside0 (wc.heap[gb449]? = some (.cells #[(.slice A0_0 l0_0.length c0_0), (.slice A0_1 l0_1.length c0_1)] 25 (0, 0))) ∧ Aside0 (wc.heap[gb450]? = some (.cells #[(.slice A1_0 l1_0.length c1_0), (.slice A1_1 l1_1.length c1_1)] 25 (0, 0))) ∧ Aside0 (Below w.heap.size w wc))
 case first =>
  have H := HC3.out
  clear HC3
  replace H := Option.bind_eq_some_iff.mp H
  obtain ⟨t451, A60, H⟩ := H
  try dsimp only at H
  have A6 := Op.k A60
  clear A60
  by_cases c7 : t451 = true
  ·subst c7
   have H1 : (laws_samePools.j0 k ((l0_0.length : Int) != (l1_0.length : Int)) l0_0 l0_1 l1_0 l1_1) = some r := by rw [if_pos rfl] at H; exact H
   clear H
   have H := H1
   clear H1
   have H' := Op.k H
   clear H
   have hnb8 := NB449_450.out
   have hnc8 := NB450_449.out
   have hcz9_0 := Op.c0 BK449.out
   have hcz9_1 := Op.c1 BK449.out
   have hfz9_0 := Op.bf BK449.out 0
   have hfz9_1 := Op.bf BK449.out 1
   have hcz10_0 := Op.c0 BK450.out
   have hcz10_1 := Op.c1 BK450.out
   have hfz10_0 := Op.bf BK450.out 0
   have hfz10_1 := Op.bf BK450.out 1
   go_wp2_with (first | (go_at_call 37; (with_reducible refine (laws_sameInts.calls k _ _ l0_1 _ _ l1_1 true _ ?side1 ?side2 ?side3 ?side4 A6.out).mono ?_); (case side1 => exact Op.ct (Kd.C_below HR0_1.out HB.out)); (case side2 => exact HC0_1.out); (case side3 => exact Op.ct (Kd.C_below HR1_1.out HB.out)); (case side4 => exact HC1_1.out); rintro e w' ⟨rfl, ⟨nd, rfl⟩⟩; (try first | exact ⟨rfl, _, World.drewN_drewN _ _ _⟩ | exact ⟨rfl, _, Eq.trans (World.drewN_drewN _ _ _) (congrArg (World.drewN _) (Nat.add_assoc _ _ _))⟩)))
   repeat (go_quiet (first | (go_at_call 37; (with_reducible refine (laws_sameInts.calls k _ _ l0_1 _ _ l1_1 true _ ?side1 ?side2 ?side3 ?side4 A6.out).mono ?_); (case side1 => exact Op.ct (Kd.C_below HR0_1.out HB.out)); (case side2 => exact HC0_1.out); (case side3 => exact Op.ct (Kd.C_below HR1_1.out HB.out)); (case side4 => exact HC1_1.out); rintro e w' ⟨rfl, ⟨nd, rfl⟩⟩; (try first | exact ⟨rfl, _, World.drewN_drewN _ _ _⟩ | exact ⟨rfl, _, Eq.trans (World.drewN_drewN _ _ _) (congrArg (World.drewN _) (Nat.add_assoc _ _ _))⟩))); try go_wp2_with (first | (go_at_call 37; (with_reducible refine (laws_sameInts.calls k _ _ l0_1 _ _ l1_1 true _ ?side1 ?side2 ?side3 ?side4 A6.out).mono ?_); (case side1 => exact Op.ct (Kd.C_below HR0_1.out HB.out)); (case side2 => exact HC0_1.out); (case side3 => exact Op.ct (Kd.C_below HR1_1.out HB.out)); (case side4 => exact HC1_1.out); rintro e w' ⟨rfl, ⟨nd, rfl⟩⟩; (try first | exact ⟨rfl, _, World.drewN_drewN _ _ _⟩ | exact ⟨rfl, _, Eq.trans (World.drewN_drewN _ _ _) (congrArg (World.drewN _) (Nat.add_assoc _ _ _))⟩))))
   go_meet
   case rel => exact ⟨_, (((l0_0.length : Int) != (l1_0.length : Int))), (by first | rfl | (simp; done) | (simp [*]; done)), H', ⟨by first | omega | exact Nat.le_refl _⟩, ⟨Op.bt BK449.out⟩, ⟨Op.bt BK450.out⟩, ⟨Op.ht HB.out⟩⟩
  ·replace c7 := Bool.eq_false_iff.mpr c7
   subst c7
   have H1 : (laws_samePools.j0 k true l0_0 l0_1 l1_0 l1_1) = some r := by rw [if_neg (show ¬ (false = true) by decide)] at H; exact H
   clear H
   have H := H1
   clear H1
   have H' := Op.k H
   clear H
   have hnb11 := NB449_450.out
   have hnc11 := NB450_449.out
   have hcz12_0 := Op.c0 BK449.out
   have hcz12_1 := Op.c1 BK449.out
   have hfz12_0 := Op.bf BK449.out 0
   have hfz12_1 := Op.bf BK449.out 1
   have hcz13_0 := Op.c0 BK450.out
   have hcz13_1 := Op.c1 BK450.out
   have hfz13_0 := Op.bf BK450.out 0
   have hfz13_1 := Op.bf BK450.out 1
   go_wp2_with (first | (go_at_call 37; (with_reducible refine (laws_sameInts.calls k _ _ l0_1 _ _ l1_1 false _ ?side1 ?side2 ?side3 ?side4 A6.out).mono ?_); (case side1 => exact Op.ct (Kd.C_below HR0_1.out HB.out)); (case side2 => exact HC0_1.out); (case side3 => exact Op.ct (Kd.C_below HR1_1.out HB.out)); (case side4 => exact HC1_1.out); rintro e w' ⟨rfl, ⟨nd, rfl⟩⟩; (try first | exact ⟨rfl, _, World.drewN_drewN _ _ _⟩ | exact ⟨rfl, _, Eq.trans (World.drewN_drewN _ _ _) (congrArg (World.drewN _) (Nat.add_assoc _ _ _))⟩)))
   repeat (go_quiet (first | (go_at_call 37; (with_reducible refine (laws_sameInts.calls k _ _ l0_1 _ _ l1_1 false _ ?side1 ?side2 ?side3 ?side4 A6.out).mono ?_); (case side1 => exact Op.ct (Kd.C_below HR0_1.out HB.out)); (case side2 => exact HC0_1.out); (case side3 => exact Op.ct (Kd.C_below HR1_1.out HB.out)); (case side4 => exact HC1_1.out); rintro e w' ⟨rfl, ⟨nd, rfl⟩⟩; (try first | exact ⟨rfl, _, World.drewN_drewN _ _ _⟩ | exact ⟨rfl, _, Eq.trans (World.drewN_drewN _ _ _) (congrArg (World.drewN _) (Nat.add_assoc _ _ _))⟩))); try go_wp2_with (first | (go_at_call 37; (with_reducible refine (laws_sameInts.calls k _ _ l0_1 _ _ l1_1 false _ ?side1 ?side2 ?side3 ?side4 A6.out).mono ?_); (case side1 => exact Op.ct (Kd.C_below HR0_1.out HB.out)); (case side2 => exact HC0_1.out); (case side3 => exact Op.ct (Kd.C_below HR1_1.out HB.out)); (case side4 => exact HC1_1.out); rintro e w' ⟨rfl, ⟨nd, rfl⟩⟩; (try first | exact ⟨rfl, _, World.drewN_drewN _ _ _⟩ | exact ⟨rfl, _, Eq.trans (World.drewN_drewN _ _ _) (congrArg (World.drewN _) (Nat.add_assoc _ _ _))⟩))))
   go_meet
   case rel => exact ⟨_, (true), (by first | rfl | (simp; done) | (simp [*]; done)), H', ⟨by first | omega | exact Nat.le_refl _⟩, ⟨Op.bt BK449.out⟩, ⟨Op.bt BK450.out⟩, ⟨Op.ht HB.out⟩⟩
 case rest =>
  clear HC3
  try clear c1
  try clear p2
  try clear c3
  try clear c7
  try clear c8
  try clear c11
  try clear hcz10_0
  try clear hcz10_1
  try clear hcz12_0
  try clear hcz12_1
  try clear hcz13_0
  try clear hcz13_1
  try clear hcz9_0
  try clear hcz9_1
  try clear hfz10_0
  try clear hfz10_1
  try clear hfz12_0
  try clear hfz12_1
  try clear hfz13_0
  try clear hfz13_1
  try clear hfz9_0
  try clear hfz9_1
  obtain ⟨kq, x20_2, rfl, HA, HJ2, BK449, BK450, HB⟩ := hcut
  cases kq with
  | zero => exact absurd HA.out (by simp [laws_samePools.j0])
  | succ kj2 =>
   have H := HA.out
   clear HA
   simp only [laws_samePools.j0] at H
   by_cases c14 : x20_2 = true
   ·subst c14
    have H1 : (some false) = some r := by rw [if_pos rfl] at H; exact H
    clear H
    have H := H1
    clear H1
    obtain rfl := Option.some.inj H
    go_wp2
    repeat (go_quiet (fail); try go_wp2)
    go_ret
    exact ⟨by first | rfl | (simp [errW_none, errW_some] <;> rfl) | (simp [*, errW_none, errW_some] <;> rfl), Op.ht HB.out⟩
   ·replace c14 := Bool.eq_false_iff.mpr c14
    subst c14
    have H1 : (laws_samePools.l0 kj2 (l0_0.length : Int) 0 l0_0 l0_1 l1_0 l1_1) = some r := by rw [if_neg (show ¬ (false = true) by decide)] at H; exact H
    clear H
    have H := H1
    clear H1
    have H' := Op.k H
    clear H
    have hnb15 := NB449_450.out
    have hnc15 := NB450_449.out
    have hcz16_0 := Op.c0 BK449.out
    have hcz16_1 := Op.c1 BK449.out
    have hfz16_0 := Op.bf BK449.out 0
    have hfz16_1 := Op.bf BK449.out 1
    go_wp2
    repeat (go_quiet (fail); try go_wp2)
    go_loopg [24] kj2 (fun kq v24 w' => ∃ (x24_2 : Int), v24 = .int .i64 x24_2 ∧ Aside0 (laws_samePools.l0 kq (l0_0.length : Int) x24_2 l0_0 l0_1 l1_0 l1_1 = some r) ∧ Aside0 (kq ≤ kj2) ∧ Aside0 (w'.heap[gb449]? = some (.cells #[(.slice A0_0 l0_0.length c0_0), (.slice A0_1 l0_1.length c0_1)] 25 (0, 0))) ∧ Aside0 (w'.heap[gb450]? = some (.cells #[(.slice A1_0 l1_0.length c1_0), (.slice A1_1 l1_1.length c1_1)] 25 (0, 0))) ∧ Aside0 (Below w.heap.size w w'))
    case atStart => exact ⟨(0), (by first | rfl | (simp; done) | (simp [*]; done)), H', ⟨Nat.le_refl _⟩, ⟨Op.bt BK449.out⟩, ⟨Op.bt BK450.out⟩, ⟨Op.ht HB.out⟩⟩
    case round =>
     clear H'
     try clear c1
     try clear p2
     try clear c3
     try clear c7
     try clear c8
     try clear c11
     try clear c14
     try clear c15
     try clear hcz10_0
     try clear hcz10_1
     try clear hcz12_0
     try clear hcz12_1
     try clear hcz13_0
     try clear hcz13_1
     try clear hcz16_0
     try clear hcz16_1
     try clear hcz9_0
     try clear hcz9_1
     try clear hfz10_0
     try clear hfz10_1
     try clear hfz12_0
     try clear hfz12_1
     try clear hfz13_0
     try clear hfz13_1
     try clear hfz16_0
     try clear hfz16_1
     try clear hfz9_0
     try clear hfz9_1
     try clear p2
     obtain ⟨x24_2, rfl, HA, HK2, BK449, BK450, HB⟩ := hrel
     cases gk with
     | zero => exact absurd HA.out (by simp [laws_samePools.l0])
     | succ k2 =>
      have H := HA.out
      clear HA
      simp only [laws_samePools.l0] at H
      by_cases c17 : x24_2 < (l0_0.length : Int)
      ·rw [if_pos c17] at H
       have c17b0 : decide (x24_2 < (l0_0.length : Int)) = true := decide_eq_true c17
       clear c17
       by_cases c18 : 0 ≤ x24_2
       ·rw [if_pos c18] at H
        have c18b0 : decide (0 ≤ x24_2) = true := decide_eq_true c18
        clear c18
        by_cases c19 : x24_2 < (l0_0.length : Int)
        ·rw [if_pos c19] at H
         have c19b0 : decide (x24_2 < (l0_0.length : Int)) = true := decide_eq_true c19
         clear c19
         by_cases c20 : x24_2 < (l1_0.length : Int)
         ·rw [if_pos c20] at H
          have c20b0 : decide (x24_2 < (l1_0.length : Int)) = true := decide_eq_true c20
          clear c20
          by_cases c21 : (((rd_T65 l0_0 x24_2).f1) != ((rd_T65 l1_0 x24_2).f1)) = true
          ·rw [if_pos c21] at H
           have c21b0 : (((rd_T65 l0_0 x24_2).f1) != ((rd_T65 l1_0 x24_2).f1)) = true := c21
           (try (have c21b1 : decide (((rd_T65 l0_0 x24_2).f1) = ((rd_T65 l1_0 x24_2).f1)) = false := by simpa using c21))
           (try (have c21b2 : (((rd_T65 l0_0 x24_2).f1) == ((rd_T65 l1_0 x24_2).f1)) = false := by simpa using c21))
           (try (have c21b3 : ¬ (((rd_T65 l0_0 x24_2).f1) = ((rd_T65 l1_0 x24_2).f1)) := by simpa using c21))
           clear c21
           obtain rfl := Option.some.inj H
           have hnb22 := NB449_450.out
           have hnc22 := NB450_449.out
           have hcz23_0 := Op.c0 BK449.out
           have hcz23_1 := Op.c1 BK449.out
           have hfz23_0 := Op.bf BK449.out 0
           have hfz23_1 := Op.bf BK449.out 1
           have p452 : 0 ≤ (x24_2 : Int) := Op.dt
           have q452 : x24_2 < (l0_0.length : Int) := Op.dt
           obtain ⟨ad452, A452_0, c452_0, e452, hx452_0, hx452_1, hl452_0, hi452_0⟩ := at_T65 HR0_0.out x24_2 p452 q452
           cases e452
           replace hx452_0 := (HB.out.cell (World.block_lt_of_cell? w _ hx452_0)).trans hx452_0
           replace hx452_1 := (HB.out.cell (World.block_lt_of_cell? w _ hx452_1)).trans hx452_1
           have HR452_0 := Op.k hi452_0
           have HC452_0 := Op.k hl452_0
           clear hi452_0 hl452_0
           replace p452 := eq_true p452
           replace q452 := eq_true q452
           have hcz24_0 := Op.c0 BK450.out
           have hcz24_1 := Op.c1 BK450.out
           have hfz24_0 := Op.bf BK450.out 0
           have hfz24_1 := Op.bf BK450.out 1
           have p453 : 0 ≤ (x24_2 : Int) := Op.dt
           have q453 : x24_2 < (l1_0.length : Int) := Op.dt
           obtain ⟨ad453, A453_0, c453_0, e453, hx453_0, hx453_1, hl453_0, hi453_0⟩ := at_T65 HR1_0.out x24_2 p453 q453
           cases e453
           replace hx453_0 := (HB.out.cell (World.block_lt_of_cell? w _ hx453_0)).trans hx453_0
           replace hx453_1 := (HB.out.cell (World.block_lt_of_cell? w _ hx453_1)).trans hx453_1
           have HR453_0 := Op.k hi453_0
           have HC453_0 := Op.k hl453_0
           clear hi453_0 hl453_0
           replace p453 := eq_true p453
           replace q453 := eq_true q453
           go_wp2
           repeat (go_quiet (fail); try go_wp2)
           go_ret
           exact ⟨by first | rfl | (simp [errW_none, errW_some] <;> rfl) | (simp [*, errW_none, errW_some] <;> rfl), Op.ht HB.out⟩
          ·rw [if_neg c21] at H
           have c21b0 : (((rd_T65 l0_0 x24_2).f1) != ((rd_T65 l1_0 x24_2).f1)) = false := by simpa using c21
           (try (have c21b1 : decide (((rd_T65 l0_0 x24_2).f1) = ((rd_T65 l1_0 x24_2).f1)) = true := by simpa using c21))
           (try (have c21b2 : (((rd_T65 l0_0 x24_2).f1) == ((rd_T65 l1_0 x24_2).f1)) = true := by simpa using c21))
           clear c21
           replace H := Option.bind_eq_some_iff.mp H
           obtain ⟨t456, A250, H⟩ := H
           try dsimp only at H
           have A25 := Op.k A250
           clear A250
           by_cases c26 : t456 = true
           ·subst c26
            have H1 : (laws_samePools.l0 k2 (l0_0.length : Int) (wrap64 (x24_2 + 1)) l0_0 l0_1 l1_0 l1_1) = some r := by rw [if_pos rfl] at H; exact H
            clear H
            have H := H1
            clear H1
            have H' := Op.k H
            clear H
            have hnb27 := NB449_450.out
            have hnc27 := NB450_449.out
            have hcz28_0 := Op.c0 BK449.out
            have hcz28_1 := Op.c1 BK449.out
            have hfz28_0 := Op.bf BK449.out 0
            have hfz28_1 := Op.bf BK449.out 1
            have p452 : 0 ≤ (x24_2 : Int) := Op.dt
            have q452 : x24_2 < (l0_0.length : Int) := Op.dt
            obtain ⟨ad452, A452_0, c452_0, e452, hx452_0, hx452_1, hl452_0, hi452_0⟩ := at_T65 HR0_0.out x24_2 p452 q452
            cases e452
            replace hx452_0 := (HB.out.cell (World.block_lt_of_cell? w _ hx452_0)).trans hx452_0
            replace hx452_1 := (HB.out.cell (World.block_lt_of_cell? w _ hx452_1)).trans hx452_1
            have HR452_0 := Op.k hi452_0
            have HC452_0 := Op.k hl452_0
            clear hi452_0 hl452_0
            replace p452 := eq_true p452
            replace q452 := eq_true q452
            have hcz29_0 := Op.c0 BK450.out
            have hcz29_1 := Op.c1 BK450.out
            have hfz29_0 := Op.bf BK450.out 0
            have hfz29_1 := Op.bf BK450.out 1
            have p453 : 0 ≤ (x24_2 : Int) := Op.dt
            have q453 : x24_2 < (l1_0.length : Int) := Op.dt
            obtain ⟨ad453, A453_0, c453_0, e453, hx453_0, hx453_1, hl453_0, hi453_0⟩ := at_T65 HR1_0.out x24_2 p453 q453
            cases e453
            replace hx453_0 := (HB.out.cell (World.block_lt_of_cell? w _ hx453_0)).trans hx453_0
            replace hx453_1 := (HB.out.cell (World.block_lt_of_cell? w _ hx453_1)).trans hx453_1
            have HR453_0 := Op.k hi453_0
            have HC453_0 := Op.k hl453_0
            clear hi453_0 hl453_0
            replace p453 := eq_true p453
            replace q453 := eq_true q453
            have p454 : 0 ≤ (x24_2 : Int) := Op.dt
            have q454 : x24_2 < (l0_0.length : Int) := Op.dt
            obtain ⟨ad454, A454_0, c454_0, e454, hx454_0, hx454_1, hl454_0, hi454_0⟩ := at_T65 HR0_0.out x24_2 p454 q454
            obtain rfl : ad452 = ad454 := (by injection e454)
            replace hx454_0 := (HB.out.cell (World.block_lt_of_cell? w _ hx454_0)).trans hx454_0
            replace hx454_1 := (HB.out.cell (World.block_lt_of_cell? w _ hx454_1)).trans hx454_1
            have HR454_0 := Op.k hi454_0
            have HC454_0 := Op.k hl454_0
            clear hi454_0 hl454_0
            replace p454 := eq_true p454
            replace q454 := eq_true q454
            have ea_ := Option.some.inj (hx452_0.symm.trans hx454_0)
            injection ea_ with ea_ en_ ec_
            subst ea_
            subst ec_
            clear en_
            have p455 : 0 ≤ (x24_2 : Int) := Op.dt
            have q455 : x24_2 < (l1_0.length : Int) := Op.dt
            obtain ⟨ad455, A455_0, c455_0, e455, hx455_0, hx455_1, hl455_0, hi455_0⟩ := at_T65 HR1_0.out x24_2 p455 q455
            obtain rfl : ad453 = ad455 := (by injection e455)
            replace hx455_0 := (HB.out.cell (World.block_lt_of_cell? w _ hx455_0)).trans hx455_0
            replace hx455_1 := (HB.out.cell (World.block_lt_of_cell? w _ hx455_1)).trans hx455_1
            have HR455_0 := Op.k hi455_0
            have HC455_0 := Op.k hl455_0
            clear hi455_0 hl455_0
            replace p455 := eq_true p455
            replace q455 := eq_true q455
            have ea_ := Option.some.inj (hx453_0.symm.trans hx455_0)
            injection ea_ with ea_ en_ ec_
            subst ea_
            subst ec_
            clear en_
            go_wp2_with (first | (go_at_call 37; (with_reducible refine (laws_sameInts.calls k2 _ _ ((rd_T65 l0_0 x24_2).f0) _ _ ((rd_T65 l1_0 x24_2).f0) true _ ?side1 ?side2 ?side3 ?side4 A25.out).mono ?_); (case side1 => exact Op.ct (Kd.C_below HR454_0.out HB.out)); (case side2 => exact HC454_0.out); (case side3 => exact Op.ct (Kd.C_below HR455_0.out HB.out)); (case side4 => exact HC455_0.out); rintro e w' ⟨rfl, ⟨nd, rfl⟩⟩; (try first | exact ⟨rfl, _, World.drewN_drewN _ _ _⟩ | exact ⟨rfl, _, Eq.trans (World.drewN_drewN _ _ _) (congrArg (World.drewN _) (Nat.add_assoc _ _ _))⟩)))
            repeat (go_quiet (first | (go_at_call 37; (with_reducible refine (laws_sameInts.calls k2 _ _ ((rd_T65 l0_0 x24_2).f0) _ _ ((rd_T65 l1_0 x24_2).f0) true _ ?side1 ?side2 ?side3 ?side4 A25.out).mono ?_); (case side1 => exact Op.ct (Kd.C_below HR454_0.out HB.out)); (case side2 => exact HC454_0.out); (case side3 => exact Op.ct (Kd.C_below HR455_0.out HB.out)); (case side4 => exact HC455_0.out); rintro e w' ⟨rfl, ⟨nd, rfl⟩⟩; (try first | exact ⟨rfl, _, World.drewN_drewN _ _ _⟩ | exact ⟨rfl, _, Eq.trans (World.drewN_drewN _ _ _) (congrArg (World.drewN _) (Nat.add_assoc _ _ _))⟩))); try go_wp2_with (first | (go_at_call 37; (with_reducible refine (laws_sameInts.calls k2 _ _ ((rd_T65 l0_0 x24_2).f0) _ _ ((rd_T65 l1_0 x24_2).f0) true _ ?side1 ?side2 ?side3 ?side4 A25.out).mono ?_); (case side1 => exact Op.ct (Kd.C_below HR454_0.out HB.out)); (case side2 => exact HC454_0.out); (case side3 => exact Op.ct (Kd.C_below HR455_0.out HB.out)); (case side4 => exact HC455_0.out); rintro e w' ⟨rfl, ⟨nd, rfl⟩⟩; (try first | exact ⟨rfl, _, World.drewN_drewN _ _ _⟩ | exact ⟨rfl, _, Eq.trans (World.drewN_drewN _ _ _) (congrArg (World.drewN _) (Nat.add_assoc _ _ _))⟩))))
            go_roundg k2
            case measure => have := HJ2.out; have := HK2.out; omega
            case rel => exact ⟨(wrap64 (x24_2 + 1)), (by first | rfl | (simp; done) | (simp [*]; done)), H', ⟨by have := HJ2.out; have := HK2.out; omega⟩, ⟨Op.bt BK449.out⟩, ⟨Op.bt BK450.out⟩, ⟨Op.ht HB.out⟩⟩
           ·replace c26 := Bool.eq_false_iff.mpr c26
            subst c26
            have H1 : (some false) = some r := by rw [if_neg (show ¬ (false = true) by decide)] at H; exact H
            clear H
            have H := H1
            clear H1
            obtain rfl := Option.some.inj H
            have hnb30 := NB449_450.out
            have hnc30 := NB450_449.out
            have hcz31_0 := Op.c0 BK449.out
            have hcz31_1 := Op.c1 BK449.out
            have hfz31_0 := Op.bf BK449.out 0
            have hfz31_1 := Op.bf BK449.out 1
            have p452 : 0 ≤ (x24_2 : Int) := Op.dt
            have q452 : x24_2 < (l0_0.length : Int) := Op.dt
            obtain ⟨ad452, A452_0, c452_0, e452, hx452_0, hx452_1, hl452_0, hi452_0⟩ := at_T65 HR0_0.out x24_2 p452 q452
            cases e452
            replace hx452_0 := (HB.out.cell (World.block_lt_of_cell? w _ hx452_0)).trans hx452_0
            replace hx452_1 := (HB.out.cell (World.block_lt_of_cell? w _ hx452_1)).trans hx452_1
            have HR452_0 := Op.k hi452_0
            have HC452_0 := Op.k hl452_0
            clear hi452_0 hl452_0
            replace p452 := eq_true p452
            replace q452 := eq_true q452
            have hcz32_0 := Op.c0 BK450.out
            have hcz32_1 := Op.c1 BK450.out
            have hfz32_0 := Op.bf BK450.out 0
            have hfz32_1 := Op.bf BK450.out 1
            have p453 : 0 ≤ (x24_2 : Int) := Op.dt
            have q453 : x24_2 < (l1_0.length : Int) := Op.dt
            obtain ⟨ad453, A453_0, c453_0, e453, hx453_0, hx453_1, hl453_0, hi453_0⟩ := at_T65 HR1_0.out x24_2 p453 q453
            cases e453
            replace hx453_0 := (HB.out.cell (World.block_lt_of_cell? w _ hx453_0)).trans hx453_0
            replace hx453_1 := (HB.out.cell (World.block_lt_of_cell? w _ hx453_1)).trans hx453_1
            have HR453_0 := Op.k hi453_0
            have HC453_0 := Op.k hl453_0
            clear hi453_0 hl453_0
            replace p453 := eq_true p453
            replace q453 := eq_true q453
            have p454 : 0 ≤ (x24_2 : Int) := Op.dt
            have q454 : x24_2 < (l0_0.length : Int) := Op.dt
            obtain ⟨ad454, A454_0, c454_0, e454, hx454_0, hx454_1, hl454_0, hi454_0⟩ := at_T65 HR0_0.out x24_2 p454 q454
            obtain rfl : ad452 = ad454 := (by injection e454)
            replace hx454_0 := (HB.out.cell (World.block_lt_of_cell? w _ hx454_0)).trans hx454_0
            replace hx454_1 := (HB.out.cell (World.block_lt_of_cell? w _ hx454_1)).trans hx454_1
            have HR454_0 := Op.k hi454_0
            have HC454_0 := Op.k hl454_0
            clear hi454_0 hl454_0
            replace p454 := eq_true p454
            replace q454 := eq_true q454
            have ea_ := Option.some.inj (hx452_0.symm.trans hx454_0)
            injection ea_ with ea_ en_ ec_
            subst ea_
            subst ec_
            clear en_
            have p455 : 0 ≤ (x24_2 : Int) := Op.dt
            have q455 : x24_2 < (l1_0.length : Int) := Op.dt
            obtain ⟨ad455, A455_0, c455_0, e455, hx455_0, hx455_1, hl455_0, hi455_0⟩ := at_T65 HR1_0.out x24_2 p455 q455
            obtain rfl : ad453 = ad455 := (by injection e455)
            replace hx455_0 := (HB.out.cell (World.block_lt_of_cell? w _ hx455_0)).trans hx455_0
            replace hx455_1 := (HB.out.cell (World.block_lt_of_cell? w _ hx455_1)).trans hx455_1
            have HR455_0 := Op.k hi455_0
            have HC455_0 := Op.k hl455_0
            clear hi455_0 hl455_0
            replace p455 := eq_true p455
            replace q455 := eq_true q455
            have ea_ := Option.some.inj (hx453_0.symm.trans hx455_0)
            injection ea_ with ea_ en_ ec_
            subst ea_
            subst ec_
            clear en_
            go_wp2_with (first | (go_at_call 37; (with_reducible refine (laws_sameInts.calls k2 _ _ ((rd_T65 l0_0 x24_2).f0) _ _ ((rd_T65 l1_0 x24_2).f0) false _ ?side1 ?side2 ?side3 ?side4 A25.out).mono ?_); (case side1 => exact Op.ct (Kd.C_below HR454_0.out HB.out)); (case side2 => exact HC454_0.out); (case side3 => exact Op.ct (Kd.C_below HR455_0.out HB.out)); (case side4 => exact HC455_0.out); rintro e w' ⟨rfl, ⟨nd, rfl⟩⟩; (try first | exact ⟨rfl, _, World.drewN_drewN _ _ _⟩ | exact ⟨rfl, _, Eq.trans (World.drewN_drewN _ _ _) (congrArg (World.drewN _) (Nat.add_assoc _ _ _))⟩)))
            repeat (go_quiet (first | (go_at_call 37; (with_reducible refine (laws_sameInts.calls k2 _ _ ((rd_T65 l0_0 x24_2).f0) _ _ ((rd_T65 l1_0 x24_2).f0) false _ ?side1 ?side2 ?side3 ?side4 A25.out).mono ?_); (case side1 => exact Op.ct (Kd.C_below HR454_0.out HB.out)); (case side2 => exact HC454_0.out); (case side3 => exact Op.ct (Kd.C_below HR455_0.out HB.out)); (case side4 => exact HC455_0.out); rintro e w' ⟨rfl, ⟨nd, rfl⟩⟩; (try first | exact ⟨rfl, _, World.drewN_drewN _ _ _⟩ | exact ⟨rfl, _, Eq.trans (World.drewN_drewN _ _ _) (congrArg (World.drewN _) (Nat.add_assoc _ _ _))⟩))); try go_wp2_with (first | (go_at_call 37; (with_reducible refine (laws_sameInts.calls k2 _ _ ((rd_T65 l0_0 x24_2).f0) _ _ ((rd_T65 l1_0 x24_2).f0) false _ ?side1 ?side2 ?side3 ?side4 A25.out).mono ?_); (case side1 => exact Op.ct (Kd.C_below HR454_0.out HB.out)); (case side2 => exact HC454_0.out); (case side3 => exact Op.ct (Kd.C_below HR455_0.out HB.out)); (case side4 => exact HC455_0.out); rintro e w' ⟨rfl, ⟨nd, rfl⟩⟩; (try first | exact ⟨rfl, _, World.drewN_drewN _ _ _⟩ | exact ⟨rfl, _, Eq.trans (World.drewN_drewN _ _ _) (congrArg (World.drewN _) (Nat.add_assoc _ _ _))⟩))))
            go_ret
            exact ⟨by first | rfl | (simp [errW_none, errW_some] <;> rfl) | (simp [*, errW_none, errW_some] <;> rfl), Op.ht HB.out⟩
         ·rw [if_neg c20] at H
          exact absurd H (by simp)
        ·rw [if_neg c19] at H
         exact absurd H (by simp)
       ·rw [if_neg c18] at H
        exact absurd H (by simp)
      ·rw [if_neg c17] at H
       have c17b0 : decide (x24_2 < (l0_0.length : Int)) = false := decide_eq_false c17
       clear c17
       obtain rfl := Option.some.inj H
       go_wp2
       repeat (go_quiet (fail); try go_wp2)
       go_ret
       exact ⟨by first | rfl | (simp [errW_none, errW_some] <;> rfl) | (simp [*, errW_none, errW_some] <;> rfl), Op.ht HB.out⟩

/-! ### spec_DrawDiffIn: function 38 -/
def spec_DrawDiffIn.f (k : Nat) (l0 : List Int) : Option ((List (S65)) × List Int × Int × Int) := (spec_l1Cur_pool.f k l0 0 0).bind fun bt459 => ((spec_l1Cur_pick.f l0 bt459.2.2.1 bt459.2.2.2 (bt459.2.1.length : Int)).bind fun bt468 => ((spec_l1Cur_pick.f l0 bt468.2.1 bt468.2.2 (wrap64 ((bt459.2.1.length : Int) + 1))).bind fun bt471 => (some (bt459.1, bt459.2.1, bt468.1, bt471.1))))
theorem spec_DrawDiffIn.mono : ∀ a0 k, LeO (spec_DrawDiffIn.f k a0) (spec_DrawDiffIn.f (k + 1) a0) := by
 intro a0 k
 unfold spec_DrawDiffIn.f
 repeat' first
   | (with_reducible exact spec_l1Cur_pool.mono _ _ _ _)
   | (with_reducible exact LeO.refl _)
   | (with_reducible exact LeO.none _)
   | (with_reducible refine LeO.ite ?_ ?_)
   | (with_reducible refine LeO.bind ?_ (fun _ => ?_))
   | exact spec_l1Cur_pool.mono _ _ _ _
   | exact LeO.none _
   | refine LeO.ite ?_ ?_
   | refine LeO.bind ?_ (fun _ => ?_)
def spec_DrawDiffIn.T3 : Bool × List (List Nat × List Nat) := (true, [([], []), ([], []), ([], []), ([2], [2]), ([3], [3]), ([1, 4], [1, 4]), ([], []), ([], []), ([7], [7]), ([8], [8]), ([9], [9]), ([6, 10, 5], [6, 10]), ([0, 11, 0], [0]), ([5, 12, 0, 1, 2, 3, 4, 5, 12], [5]), ([11, 13, 0, 1, 2, 3, 4, 5, 6, 7, 8, 9, 10, 11, 12, 13], [11])])
def spec_DrawDiffIn.B3 : List Nat := [0, 0, 0, 4, 12, 30, 0, 0, 128, 384, 896, 2046, 4095, 8191, 16383]
theorem spec_DrawDiffIn.tab3 : rtab .any (opsOf Try.f38 3) = spec_DrawDiffIn.T3 := by kernel_rfl
theorem spec_DrawDiffIn.bits3 : waitsOk spec_DrawDiffIn.T3.2 spec_DrawDiffIn.B3 = true := by kernel_rfl
set_option maxHeartbeats 8000000 in
set_option maxRecDepth 100000 in
theorem spec_DrawDiffIn.calls (k : Nat) (A0 : Option Addr) (c0 : Nat) (l0 : List Int) (r1 : List (S65)) (r2 : List Int) (r3 : Int) (r4 : Int) (w : World) (hr0 : Kd.C (Kd.int .u8) w A0 l0.length l0) (hc0 : l0.length ≤ c0) (h : spec_DrawDiffIn.f k l0 = some (r1, r2, r3, r4)) :
  Calls Try.prog 38 #[.slice A0 l0.length c0] w fun e w' => ∃ v0_ v1_ : Value, e = .returned (.tuple #[.agg #[v0_, v1_], .int .i64 r3, .int .i64 r4]) ∧ Kd.S k65 65 w' w.heap.size (fun k_ => some k_ ≠ (v1_ : Value).ownBlock) v0_ r1 ∧ Kd.R (Kd.int .i64) 3 w' w.heap.size (fun _ => True) v1_ r2 ∧ Below w.heap.size w w' := by
 have hu25 := Try.underlying25
 have hu80 := Try.underlying80
 have HR0 := Op.k hr0
 have HC0 := Op.k hc0
 clear hr0 hc0
 have HB := Op.k (Below.refl w.heap.size w)
 have H : ((spec_l1Cur_pool.f k l0 0 0).bind fun bt459 => ((spec_l1Cur_pick.f l0 bt459.2.2.1 bt459.2.2.2 (bt459.2.1.length : Int)).bind fun bt468 => ((spec_l1Cur_pick.f l0 bt468.2.1 bt468.2.2 (wrap64 ((bt459.2.1.length : Int) + 1))).bind fun bt471 => (some (bt459.1, bt459.2.1, bt468.1, bt471.1))))) = some (r1, r2, r3, r4) := h
 clear h
 replace H := Option.bind_eq_some_iff.mp H
 obtain ⟨⟨t459, t462, t465, t466⟩, A20, H⟩ := H
 try dsimp only at H
 have A2 := Op.k A20
 clear A20
 replace H := Option.bind_eq_some_iff.mp H
 obtain ⟨⟨t468, t469, t470⟩, A30, H⟩ := H
 try dsimp only at H
 have A3 := Op.k A30
 clear A30
 replace H := Option.bind_eq_some_iff.mp H
 obtain ⟨⟨t471, t472, t473⟩, A40, H⟩ := H
 replace H : (some (t459, t462, t468, t471)) = some (r1, r2, r3, r4) := H
 have A4 := Op.k A40
 clear A40
 simp only [Option.some.injEq, Prod.mk.injEq] at H
 obtain ⟨rfl, rfl, rfl, rfl⟩ := H
 go_enter Try.func38, Try.ntmps38
 try go_wp2_with (first | ((with_reducible refine gate_dst (N := 2) rfl ?_); refine box_event ?hg (N := 2) ?hd (cs := #[.slice none 0 0, .slice none 0 0]) (t := 25) ?hr ?_; (case hd => rfl); (case hg => rfl); (case hr => first | (go_simp; done) | (go_simp; rfl)); intro gb457 hg w5 hbox hb; have BK457 := Op.k (hbox); have GW457 := Op.k ((Op.nz hg (Op.ht HB.out) : w.heap.size ≤ gb457)); have GE457 := Op.k ((Op.nz hg (Op.ht HB.out) : w.heap.size ≤ gb457)); replace HB := Op.k (Op.a5 (Op.ht HB.out) hb); clear hb hbox hg) | ((with_reducible refine gate_dst (N := 9) rfl ?_); refine box_event ?hg (N := 9) ?hd (cs := #[.slice A0 l0.length c0, .int .i64 0, .int .u64 0]) (t := 80) ?hr ?_; (case hd => rfl); (case hg => rfl); (case hr => first | (go_simp; done) | (go_simp; rfl)); intro gb458 hg w6 hbox hb; have BK458 := Op.k (hbox); have GW458 := Op.k ((Op.nz hg (Op.ht HB.out) : w.heap.size ≤ gb458)); have GE458 := Op.k ((Op.nz hg (Op.ht HB.out) : w.heap.size ≤ gb458)); replace HB := Op.k (Op.a5 (Op.ht HB.out) hb); have NB457_458 := Op.k ((Op.nl hg (Op.bt BK457.out) : gb457 ≠ gb458)); have NB458_457 := Op.k ((Op.ng hg (Op.bt BK457.out) : gb458 ≠ gb457)); replace BK457 := Op.k (Op.b4 (Op.bt BK457.out) hb); clear hb hbox hg) | (have HI458 := Op.k (show IsS80 w _ gb458 l0 0 0 from ⟨_, _, BK458.out, GE458.out, HR0.out⟩); go_at_call 69; (with_reducible refine (spec_l1Cur_pool.calls k gb458 l0 0 0 t459 t462 t465 t466 w _ ?side1 ?side2 A2.out).mono ?_); (case side1 => exact IsS80.it HI458.out); (case side2 => exact Op.hu HB.out (IsS80.ge HI458.out)); rintro e w7 ⟨v460, v463, rfl, ho0, ho1, hi, hb, hk⟩; have n0_ := Op.k (KeepBut.blk hk (Op.bt BK457.out) NB457_458.out (by simp)); have n1_ := Op.k (Kd.S_lower ho0 (Op.a6 (Op.hu HB.out (IsS80.ge HI458.out)))); have n2_ := Op.k (Kd.R_lower ho1 (Op.a6 (Op.hu HB.out (IsS80.ge HI458.out)))); have n3_ := Op.k (hb); have n4_ := Op.k (hi); clear BK457; clear HB; clear HI458; clear BK458; have BK457 := n0_; have HO461 := n1_; have HO464 := n2_; have HB := n3_; have HI458 := n4_; clear n0_ n1_ n2_ n3_ n4_; (try clear hb); (try clear hb2); (try clear hk); (try clear hi); (try clear ho0); (try clear ho1)) | ((with_reducible refine gate_dst (N := 6) rfl ?_); refine box_event ?hg (N := 6) ?hd (cs := #[.slice none 0 0, .slice none 0 0]) (t := 25) ?hr ?_; (case hd => rfl); (case hg => rfl); (case hr => first | (go_simp; done) | (go_simp; rfl)); intro gb467 hg w8 hbox hb; replace HO461 := Op.k (Kd.S_below (Op.st HO461.out) hb); replace HO464 := Op.k (Kd.R_below (Op.rt HO464.out) hb); have BK467 := Op.k (hbox); have GW467 := Op.k ((Op.nz hg (Op.hu HB.out (IsS80.ge HI458.out)) : w.heap.size ≤ gb467)); have GE467 := Op.k ((Op.nz hg (Op.hu HB.out (IsS80.ge HI458.out)) : w.heap.size ≤ gb467)); replace HB := Op.k (Op.a5 (Op.hu HB.out (IsS80.ge HI458.out)) hb); have NB457_467 := Op.k ((Op.nl hg (Op.bt BK457.out) : gb457 ≠ gb467)); have NB467_457 := Op.k ((Op.ng hg (Op.bt BK457.out) : gb467 ≠ gb457)); replace BK457 := Op.k (Op.b4 (Op.bt BK457.out) hb); have NB458_467 := Op.k ((by rw [hg]; exact Nat.ne_of_lt (IsS80.lt (show IsS80 w _ gb458 l0 t465 t466 from IsS80.it HI458.out)) : gb458 ≠ gb467)); have NB467_458 := Op.k ((by rw [hg]; exact Nat.ne_of_gt (IsS80.lt (show IsS80 w _ gb458 l0 t465 t466 from IsS80.it HI458.out)) : gb467 ≠ gb458)); replace HI458 := Op.k (IsS80.below (IsS80.it HI458.out) hb); clear hb hbox hg; obtain ⟨Ao9, co9, eo9⟩ := Kd.S_slice HO461.out; subst eo9; have hnb10 := NB467_457.out; have hnc10 := NB457_467.out; have hnb11 := NB467_458.out; have hnc11 := NB458_467.out; have hcz12_0 := Op.c0 BK467.out; have hcz12_1 := Op.c1 BK467.out; have hfz12_0 := Op.bf BK467.out 0; have hfz12_1 := Op.bf BK467.out 1; obtain ⟨Ao13, co13, eo13⟩ := Kd.R_slice HO464.out; subst eo13))
 have n0_ : Aside0 (Kd.S k65 65 ((w8.setCell ⟨gb467, 0, none⟩ (.slice Ao9 t459.length co9)).setCell ⟨gb467, 1, none⟩ (.slice Ao13 t462.length co13)) w.heap.size (fun k_ => some k_ ≠ (.slice Ao13 t462.length co13 : Value).ownBlock) (.slice Ao9 t459.length co9) t459) := ⟨Kd.S_mono (Op.sf HO461.out BK467.out) (fun _ hk => hk)⟩
 have n1_ : Aside0 (Kd.R (Kd.int .i64) 3 ((w8.setCell ⟨gb467, 0, none⟩ (.slice Ao9 t459.length co9)).setCell ⟨gb467, 1, none⟩ (.slice Ao13 t462.length co13)) w.heap.size (fun _ => True) (.slice Ao13 t462.length co13) t462) := ⟨Kd.R_mono (Op.rf HO464.out BK467.out) (fun _ hk => trivial)⟩
 have n2_ : Aside0 (((w8.setCell ⟨gb467, 0, none⟩ (.slice Ao9 t459.length co9)).setCell ⟨gb467, 1, none⟩ (.slice Ao13 t462.length co13)).heap[gb457]? = some (.cells #[.slice none 0 0, .slice none 0 0] 25 (0, 0))) := ⟨Op.bt BK457.out⟩
 have n3_ : Aside0 (((w8.setCell ⟨gb467, 0, none⟩ (.slice Ao9 t459.length co9)).setCell ⟨gb467, 1, none⟩ (.slice Ao13 t462.length co13)).heap[gb467]? = some (.cells #[.slice Ao9 t459.length co9, .slice Ao13 t462.length co13] 25 (0, 0))) := ⟨Op.bv BK467.out⟩
 have n4_ : Aside0 (IsS80 w ((w8.setCell ⟨gb467, 0, none⟩ (.slice Ao9 t459.length co9)).setCell ⟨gb467, 1, none⟩ (.slice Ao13 t462.length co13)) gb458 l0 t465 t466) := ⟨IsS80.it HI458.out⟩
 have n5_ : Aside0 (Below w.heap.size w ((w8.setCell ⟨gb467, 0, none⟩ (.slice Ao9 t459.length co9)).setCell ⟨gb467, 1, none⟩ (.slice Ao13 t462.length co13))) := ⟨Op.hu HB.out (IsS80.ge HI458.out)⟩
 (try clear HO461)
 (try clear HO464)
 (try clear BK457)
 (try clear BK467)
 (try clear HI458)
 (try clear HB)
 generalize ((w8.setCell ⟨gb467, 0, none⟩ (.slice Ao9 t459.length co9)).setCell ⟨gb467, 1, none⟩ (.slice Ao13 t462.length co13)) = w14 at n0_ n1_ n2_ n3_ n4_ n5_ ⊢
 have HO461 := n0_
 have HO464 := n1_
 have BK457 := n2_
 have BK467 := n3_
 have HI458 := n4_
 have HB := n5_
 clear n0_ n1_ n2_ n3_ n4_ n5_
 replace HO461 := Op.k (Kd.S_drew HO461.out)
 replace HO464 := Op.k (Kd.R_drew HO464.out)
 replace BK457 := Op.k (Op.b2 BK457.out)
 replace BK467 := Op.k (Op.b2 BK467.out)
 replace HI458 := Op.k (IsS80.drew HI458.out)
 replace HB := Op.k (Op.a3 HB.out)
 refine start_ (n := 15) (S := fun w' => w'.cell? ⟨gb467, 0, none⟩ = some (.slice Ao9 t459.length co9) ∧ w'.cell? ⟨gb467, 1, none⟩ = some (.slice Ao13 t462.length co13)) (ds := []) #[false, false, false, false, false, false, false, false, false, false, false, false, false, false, false] (by kernel_rfl) rfl rfl ⟨(blk_cell BK467.out 0).trans rfl, (blk_cell BK467.out 1).trans rfl⟩ (fun hHeld => ?_); refine with_tabW spec_DrawDiffIn.tab3 spec_DrawDiffIn.bits3 (fun HT_ HW_ => ?_)
 generalize w14.drew = w15 at HO461 HO464 BK457 BK467 HI458 HB hHeld ⊢
 refine pure_ (i := 1) (N := some 13) (v := ?_) (a' := ?_) #[false, true, false, false, false, false, false, false, false, false, false, false, false, false, false] rfl rfl (any_of HT_.out (by kernel_rfl)) (fun _ _ _ h => h) (Or.inl ⟨by rfl, ?_⟩) ?_ ?_
 rotate_left
 ·intro w'
  go_simp
  with_reducible rfl
 rotate_left
 ·simp only [Act.put, List.setIfInBounds_toArray, List.set_cons_zero, List.set_cons_succ, i64_w, i32_w]
  rfl
 refine pure_ (i := 2) (N := some 14) (v := ?_) (a' := ?_) #[false, true, true, false, false, false, false, false, false, false, false, false, false, false, false] rfl rfl (any_of HT_.out (by kernel_rfl)) (fun _ _ _ h => h) (Or.inl ⟨by rfl, ?_⟩) ?_ ?_
 rotate_left
 ·intro w'
  go_simp
  with_reducible rfl
 rotate_left
 ·simp only [Act.put, List.setIfInBounds_toArray, List.set_cons_zero, List.set_cons_succ, i64_w, i32_w]
  rfl
 refine pure_ (i := 6) (N := some 18) (v := ?_) (a' := ?_) #[false, true, true, false, false, false, true, false, false, false, false, false, false, false, false] rfl rfl (any_of HT_.out (by kernel_rfl)) (fun _ _ _ h => h) (Or.inl ⟨by rfl, ?_⟩) ?_ ?_
 rotate_left
 ·intro w'
  go_simp
  with_reducible rfl
 rotate_left
 ·simp only [Act.put, List.setIfInBounds_toArray, List.set_cons_zero, List.set_cons_succ, i64_w, i32_w]
  rfl
 refine pure_ (i := 7) (N := some 19) (v := ?_) (a' := ?_) #[false, true, true, false, false, false, true, true, false, false, false, false, false, false, false] rfl rfl (any_of HT_.out (by kernel_rfl)) (fun _ _ _ h => h) (Or.inl ⟨by rfl, ?_⟩) ?_ ?_
 rotate_left
 ·intro w'
  go_simp
  with_reducible rfl
 rotate_left
 ·simp only [Act.put, List.setIfInBounds_toArray, List.set_cons_zero, List.set_cons_succ, i64_w, i32_w]
  rfl
 refine take_ (i := 0) (N := some 12) (v := ?_) (a' := ?_) #[true, true, true, false, false, false, true, true, false, false, false, false, false, false, false] rfl rfl (take_ofW HT_.out HW_.out (by kernel_rfl)) (fun _ _ _ h => h) (Or.inl ⟨by rfl, ?_⟩) hHeld ?_ ?_
 rotate_left
 ·rintro w' ⟨s0, s1⟩
  go_simp
  with_reducible rfl
 rotate_left
 ·simp only [Act.put, List.setIfInBounds_toArray, List.set_cons_zero, List.set_cons_succ, i64_w, i32_w]
  rfl
 refine take_ (i := 3) (N := some 15) (v := ?_) (a' := ?_) #[true, true, true, true, false, false, true, true, false, false, false, false, false, false, false] rfl rfl (take_ofW HT_.out HW_.out (by kernel_rfl)) (fun _ _ _ h => h) (Or.inl ⟨by rfl, ?_⟩) hHeld ?_ ?_
 rotate_left
 ·rintro w' ⟨s0, s1⟩
  go_simp
  with_reducible rfl
 rotate_left
 ·simp only [Act.put, List.setIfInBounds_toArray, List.set_cons_zero, List.set_cons_succ, i64_w, i32_w]
  rfl
 refine pure_ (i := 4) (N := some 16) (v := ?_) (a' := ?_) #[true, true, true, true, true, false, true, true, false, false, false, false, false, false, false] rfl rfl (any_of HT_.out (by kernel_rfl)) (fun _ _ _ h => h) (Or.inl ⟨by rfl, ?_⟩) ?_ ?_
 rotate_left
 ·intro w'
  go_simp
  with_reducible rfl
 rotate_left
 ·simp only [Act.put, List.setIfInBounds_toArray, List.set_cons_zero, List.set_cons_succ, i64_w, i32_w]
  rfl
 refine take_ (i := 8) (N := some 20) (v := ?_) (a' := ?_) #[true, true, true, true, true, false, true, true, true, false, false, false, false, false, false] rfl rfl (take_ofW HT_.out HW_.out (by kernel_rfl)) (fun _ _ _ h => h) (Or.inl ⟨by rfl, ?_⟩) hHeld ?_ ?_
 rotate_left
 ·rintro w' ⟨s0, s1⟩
  go_simp
  with_reducible rfl
 rotate_left
 ·simp only [Act.put, List.setIfInBounds_toArray, List.set_cons_zero, List.set_cons_succ, i64_w, i32_w]
  rfl
 refine pure_ (i := 9) (N := some 21) (v := ?_) (a' := ?_) #[true, true, true, true, true, false, true, true, true, true, false, false, false, false, false] rfl rfl (any_of HT_.out (by kernel_rfl)) (fun _ _ _ h => h) (Or.inl ⟨by rfl, ?_⟩) ?_ ?_
 rotate_left
 ·intro w'
  go_simp
  with_reducible rfl
 rotate_left
 ·simp only [Act.put, List.setIfInBounds_toArray, List.set_cons_zero, List.set_cons_succ, i64_w, i32_w]
  rfl
 refine pure_ (i := 10) (N := some 22) (v := ?_) (a' := ?_) #[true, true, true, true, true, false, true, true, true, true, true, false, false, false, false] rfl rfl (any_of HT_.out (by kernel_rfl)) (fun _ _ _ h => h) (Or.inl ⟨by rfl, ?_⟩) ?_ ?_
 rotate_left
 ·intro w'
  go_simp
  with_reducible rfl
 rotate_left
 ·simp only [Act.put, List.setIfInBounds_toArray, List.set_cons_zero, List.set_cons_succ, i64_w, i32_w]
  rfl
 refine one_ (i := 5) (N := some 17) #[true, true, true, true, true, true, true, true, true, true, true, false, false, false, false] rfl rfl (one_of HT_.out (by kernel_rfl)) (by decide) (fun K hK => ?_)
 refine goes_ Try.func70 (by kernel_rfl) rfl #[.pointer (some ⟨gb458, 0, none⟩), .int .i64 (t462.length : Int)] (by rfl) rfl rfl (by (try simp only [List.map_toArray, List.map_cons, List.map_nil]); first | done | rfl | (simp only [List.length_drop, List.length_take]; rfl)) ?_
 with_reducible refine (spec_l1Cur_pick.calls gb458 l0 t465 t466 (t462.length : Int) t468 t469 t470 w _ ?side1 ?side2 A3.out).mono ?_
 (case side1 => exact IsS80.it HI458.out)
 (case side2 => exact Op.hu HB.out (IsS80.ge HI458.out))
 rintro e w16 ⟨rfl, hi, hb, hk⟩
 refine ⟨_, rfl, ?_⟩
 replace BK457 := Op.k (KeepBut.blk hk (Op.bt BK457.out) NB457_458.out (by simp))
 replace HO461 := Op.k (Kd.S_mono (Kd.S_keep (IsS80.apartS (show IsS80 w _ gb458 l0 t465 t466 from IsS80.it HI458.out) (Op.st HO461.out) (by decide)) hk (fun _ h => h.2)) (fun _ h => h.1))
 replace HO464 := Op.k (Kd.R_mono (Kd.R_keep (IsS80.apart (show IsS80 w _ gb458 l0 t465 t466 from IsS80.it HI458.out) (Op.rt HO464.out) (by decide)) hk (fun _ h => h.2)) (fun _ h => h.1))
 replace BK467 := Op.k (KeepBut.blk hk (Op.bt BK467.out) NB467_458.out (by simp))
 replace HB := Op.k (hb)
 replace HI458 := Op.k (hi)
 (try clear hb)
 (try clear hb2)
 (try clear hk)
 (try clear hi)
 refine hK.out _ _ ⟨(blk_cell BK467.out 0).trans rfl, (blk_cell BK467.out 1).trans rfl⟩ (fun hHeld => ?_)
 clear hK K
 refine norm_ (a' := ?_) ?_ ?_
 rotate_left
 ·show Act.put _ (some 17) _ = _
  simp only [Act.put, List.setIfInBounds_toArray, List.set_cons_zero, List.set_cons_succ, i64_w, i32_w]
  rfl
 refine one_ (i := 11) (N := some 23) #[true, true, true, true, true, true, true, true, true, true, true, true, false, false, false] rfl rfl (one_of HT_.out (by kernel_rfl)) (by decide) (fun K hK => ?_)
 refine goes_ Try.func70 (by kernel_rfl) rfl #[.pointer (some ⟨gb458, 0, none⟩), .int .i64 (wrap64 ((t462.length : Int) + 1))] (by rfl) rfl rfl (by (try simp only [List.map_toArray, List.map_cons, List.map_nil]); first | done | rfl | (simp only [List.length_drop, List.length_take]; rfl)) ?_
 with_reducible refine (spec_l1Cur_pick.calls gb458 l0 t469 t470 (wrap64 ((t462.length : Int) + 1)) t471 t472 t473 w _ ?side1 ?side2 A4.out).mono ?_
 (case side1 => exact IsS80.it HI458.out)
 (case side2 => exact Op.hu HB.out (IsS80.ge HI458.out))
 rintro e w17 ⟨rfl, hi, hb, hk⟩
 refine ⟨_, rfl, ?_⟩
 replace BK457 := Op.k (KeepBut.blk hk (Op.bt BK457.out) NB457_458.out (by simp))
 replace HO461 := Op.k (Kd.S_mono (Kd.S_keep (IsS80.apartS (show IsS80 w _ gb458 l0 t469 t470 from IsS80.it HI458.out) (Op.st HO461.out) (by decide)) hk (fun _ h => h.2)) (fun _ h => h.1))
 replace HO464 := Op.k (Kd.R_mono (Kd.R_keep (IsS80.apart (show IsS80 w _ gb458 l0 t469 t470 from IsS80.it HI458.out) (Op.rt HO464.out) (by decide)) hk (fun _ h => h.2)) (fun _ h => h.1))
 replace BK467 := Op.k (KeepBut.blk hk (Op.bt BK467.out) NB467_458.out (by simp))
 replace HB := Op.k (hb)
 replace HI458 := Op.k (hi)
 (try clear hb)
 (try clear hb2)
 (try clear hk)
 (try clear hi)
 refine hK.out _ _ ⟨(blk_cell BK467.out 0).trans rfl, (blk_cell BK467.out 1).trans rfl⟩ (fun hHeld => ?_)
 clear hK K
 refine norm_ (a' := ?_) ?_ ?_
 rotate_left
 ·show Act.put _ (some 23) _ = _
  simp only [Act.put, List.setIfInBounds_toArray, List.set_cons_zero, List.set_cons_succ, i64_w, i32_w]
  rfl
 refine one_ (i := 12) (N := none) #[true, true, true, true, true, true, true, true, true, true, true, true, true, false, false] rfl rfl (one_of HT_.out (by kernel_rfl)) (by decide) (fun K hK => ?_)
 have hs18 : w17.cell? ⟨gb457, 0, none⟩ = some (.slice none 0 0) := (blk_cell BK457.out 0).trans rfl
 have hfs18 := Op.bf BK457.out 0
 have hns18_1 := NB467_457.out
 have hms18_1 := NB457_467.out
 have hs19 : w17.cell? ⟨gb457, 1, none⟩ = some (.slice none 0 0) := (blk_cell BK457.out 1).trans rfl
 have hfs19 := Op.bf BK457.out 1
 have hns19_1 := NB467_457.out
 have hms19_1 := NB457_467.out
 refine skip_ (w1 := ?_) (by rfl) rfl ?_ ?_
 rotate_left
 ·go_simp
  rfl
 refine hK.out _ _ ⟨((cell_far (p := ⟨gb457, _, none⟩) NB467_457.out _).trans (((cell_far (p := ⟨gb457, _, none⟩) NB467_457.out _).trans (hHeld.1)))), ((cell_far (p := ⟨gb457, _, none⟩) NB467_457.out _).trans (((cell_far (p := ⟨gb457, _, none⟩) NB467_457.out _).trans (hHeld.2))))⟩ (fun hHeld => ?_)
 clear hK K
 refine pure_ (i := 13) (N := some 3) (v := ?_) (a' := ?_) #[true, true, true, true, true, true, true, true, true, true, true, true, true, true, false] rfl rfl (any_of HT_.out (by kernel_rfl)) (fun _ _ _ h => h) (Or.inl ⟨by rfl, ?_⟩) ?_ ?_
 rotate_left
 ·intro w'
  go_simp
  with_reducible rfl
 rotate_left
 ·simp only [Act.put, List.setIfInBounds_toArray, List.set_cons_zero, List.set_cons_succ, i64_w, i32_w]
  rfl
 refine pure_ (i := 14) (N := some 4) (v := ?_) (a' := ?_) #[true, true, true, true, true, true, true, true, true, true, true, true, true, true, true] rfl rfl (any_of HT_.out (by kernel_rfl)) (fun _ _ _ h => h) (Or.inl ⟨by rfl, ?_⟩) ?_ ?_
 rotate_left
 ·intro w'
  go_simp
  with_reducible rfl
 rotate_left
 ·simp only [Act.put, List.setIfInBounds_toArray, List.set_cons_zero, List.set_cons_succ, i64_w, i32_w]
  rfl
 refine done_ (done_of HT_.out (by kernel_rfl)) ?_
 try go_wp2
 refine bodyPost_ret (results_ctt rfl _ _ gb457 25 #[.slice Ao9 t459.length co9, .slice Ao13 t462.length co13] (0, 0) _ rfl (Op.bv BK457.out) Try.underlying25 rfl (by kernel_rfl)) rfl ?_
 exact ⟨_, _, by first | rfl | (simp [errW_none, errW_some] <;> rfl) | (simp [*, errW_none, errW_some] <;> rfl), Op.sm (Op.sf HO461.out BK457.out), Op.rm (Op.rf HO464.out BK457.out), Op.hu HB.out (IsS80.ge HI458.out)⟩

end Go.Proofs.Ytnafnpoflheonaa.PFnVersions
