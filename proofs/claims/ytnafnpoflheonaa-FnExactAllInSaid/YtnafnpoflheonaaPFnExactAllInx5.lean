/- Contracts of functions of the translation, written by a program of this repo (a changed copy of the printer). Not trusted: Lean checks it. -/
import Derived.Test.YtnafnpoflheonaaPFnExactAllInx0
import Derived.Test.YtnafnpoflheonaaPFnExactAllInx1
import Derived.Test.YtnafnpoflheonaaPFnExactAllInx2
import Derived.Test.YtnafnpoflheonaaPFnExactAllInx4
namespace Go.Proofs.Ytnafnpoflheonaa.PFnExactAllIn
open Go.RowKit Go.Proofs.YtnafnpoflheonaaW.PrintWords Go.Proofs.YtnafnpoflheonaaW.PrintLast Go.Proofs.YtnafnpoflheonaaW.PrintMore
attribute [local go_sem] max2_int min2_int max_two min_two max_three min_three max_four min_four   -- for this text's walks alone
set_option linter.unusedVariables false
set_option linter.unusedSimpArgs false

/-! ### impl_AllIn: function 25 -/
def impl_AllIn.l0 : Nat → Int → List Int → Int → List (S65) → List Int → Option (List Int × Bool)
  | 0, _, _, _, _, _ => none
  | k + 1, x1, x6, x14, x182000, x182001 => if x14 < 16 then ((impl_get.f x182000 x182001 x1 x14).bind fun t189 => (if x6.length < 17592186044416 then (impl_AllIn.l0 k x1 (x6 ++ [t189]) (wrap64 (x14 + 1)) x182000 x182001) else (none))) else (some (x6, true))
def impl_AllIn.f (k : Nat) (l0_0 : List (S65)) (l0_1 : List Int) (a1 : Int) : Option (List Int × Bool) := (impl_isVersion.f l0_0 l0_1 (([a1] : List Int))).bind fun t185 => (if t185 = true then (impl_AllIn.l0 k a1 (([] : List Int)) 0 l0_0 l0_1) else (some (([] : List Int), false)))
theorem impl_AllIn.mono_l : ∀ k, (∀ y0 y1 y2 y3 y4, LeO (impl_AllIn.l0 k y0 y1 y2 y3 y4) (impl_AllIn.l0 (k + 1) y0 y1 y2 y3 y4))
  | 0 => fun _ _ _ _ _ r h => by simp [impl_AllIn.l0] at h
  | k + 1 => by
    have ih0 := impl_AllIn.mono_l k
    · intro y0 y1 y2 y3 y4
      unfold impl_AllIn.l0
      repeat' first
      | (with_reducible exact ih0 _ _ _ _ _)
      | (with_reducible exact LeO.refl _)
      | (with_reducible exact LeO.none _)
      | (with_reducible refine LeO.ite ?_ ?_)
      | (with_reducible refine LeO.bind ?_ (fun _ => ?_))
      | exact ih0 _ _ _ _ _
      | exact LeO.none _
      | refine LeO.ite ?_ ?_
      | refine LeO.bind ?_ (fun _ => ?_)
theorem impl_AllIn.mono : ∀ a0 a1 a2 k, LeO (impl_AllIn.f k a0 a1 a2) (impl_AllIn.f (k + 1) a0 a1 a2) := by
  intro a0 a1 a2 k
  have ih0 := impl_AllIn.mono_l k
  unfold impl_AllIn.f
  repeat' first
      | (with_reducible exact ih0 _ _ _ _ _)
      | (with_reducible exact LeO.refl _)
      | (with_reducible exact LeO.none _)
      | (with_reducible refine LeO.ite ?_ ?_)
      | (with_reducible refine LeO.bind ?_ (fun _ => ?_))
      | exact ih0 _ _ _ _ _
      | exact LeO.none _
      | refine LeO.ite ?_ ?_
      | refine LeO.bind ?_ (fun _ => ?_)
set_option maxHeartbeats 8000000 in
set_option maxRecDepth 100000 in
theorem impl_AllIn.calls (k : Nat) (A0_0 : Option Addr) (c0_0 : Nat) (l0_0 : List (S65)) (A0_1 : Option Addr) (c0_1 : Nat) (l0_1 : List Int) (a1 : Int) (r1 : List Int) (r2 : Bool) (w : World) (hr0_0 : Kd.C k65 w A0_0 l0_0.length l0_0) (hc0_0 : l0_0.length ≤ c0_0) (hr0_1 : Kd.C (Kd.int .i64) w A0_1 l0_1.length l0_1) (hc0_1 : l0_1.length ≤ c0_1) (h : impl_AllIn.f k l0_0 l0_1 a1 = some (r1, r2)) :
    Calls Try.prog 25 #[.agg #[.slice A0_0 l0_0.length c0_0, .slice A0_1 l0_1.length c0_1], .int .i64 a1] w fun e w' => ∃ v0_ : Value, e = .returned (.tuple #[v0_, .bool r2]) ∧ Kd.R (Kd.int .i64) 3 w' w.heap.size (fun _ => True) v0_ r1 ∧ Below w.heap.size w w' := by
  have hu25 := Try.underlying25
  have HR0_0 := Aside0.mk hr0_0
  have HC0_0 := Aside0.mk hc0_0
  clear hr0_0 hc0_0
  have HR0_1 := Aside0.mk hr0_1
  have HC0_1 := Aside0.mk hc0_1
  clear hr0_1 hc0_1
  have HB := Aside0.mk (Below.refl w.heap.size w)
  have H : ((impl_isVersion.f l0_0 l0_1 (([a1] : List Int))).bind fun t185 => (if t185 = true then (impl_AllIn.l0 k a1 (([] : List Int)) 0 l0_0 l0_1) else (some (([] : List Int), false)))) = some (r1, r2) := h
  clear h
  obtain ⟨y182, hy182⟩ : ∃ y_ : List Int, y_ = (([a1] : List Int)) := ⟨_, rfl⟩
  replace H : ((impl_isVersion.f l0_0 l0_1 y182).bind fun t185 => (if t185 = true then (impl_AllIn.l0 k a1 (([] : List Int)) 0 l0_0 l0_1) else (some (([] : List Int), false)))) = some (r1, r2) := by first | (rw [hy182]; with_reducible exact H) | (have H2_ := (Option.bind_some _ _).symm.trans H; rw [hy182]; with_reducible exact H2_) | (have H2_ := (Option.bind_some _ _).symm.trans H; with_reducible exact H2_) | with_reducible exact H | (rw [hy182]; exact H) | exact H
  have Ny182 := Aside0.mk hy182
  clear hy182
  replace H := Option.bind_eq_some_iff.mp H
  obtain ⟨t185, A30, H⟩ := H
  replace H : (if t185 = true then (impl_AllIn.l0 k a1 (([] : List Int)) 0 l0_0 l0_1) else (some (([] : List Int), false))) = some (r1, r2) := H
  have A3 := Aside0.mk A30
  clear A30
  by_cases c4 : t185 = true
  · subst c4
    have H1 : (impl_AllIn.l0 k a1 (([] : List Int)) 0 l0_0 l0_1) = some (r1, r2) := by rw [if_pos rfl] at H; exact H
    clear H
    have H := H1
    clear H1
    obtain ⟨y186, hy186⟩ : ∃ y_ : List Int, y_ = (([] : List Int)) := ⟨_, rfl⟩
    replace H : (impl_AllIn.l0 k a1 y186 0 l0_0 l0_1) = some (r1, r2) := by first | (rw [hy186]; with_reducible exact H) | (have H2_ := (Option.bind_some _ _).symm.trans H; rw [hy186]; with_reducible exact H2_) | (have H2_ := (Option.bind_some _ _).symm.trans H; with_reducible exact H2_) | with_reducible exact H | (rw [hy186]; exact H) | exact H
    have Ny186 := Aside0.mk hy186
    clear hy186
    have H' := Aside0.mk H
    clear H
    go_enter Try.func25, Try.ntmps25
    go_wp2_with (first | ((with_reducible refine gate_dst (N := 2) rfl ?_); refine box_event ?hg (N := 2) ?hd (cs := #[.slice A0_0 l0_0.length c0_0, .slice A0_1 l0_1.length c0_1]) (t := 25) ?hr ?_; (case hd => rfl); (case hg => rfl); (case hr => first | (go_simp; done) | (go_simp; rfl)); intro gb181 hg w5 hbox hb; have n0_ := Aside0.mk (below_step (by repeat (first | (with_reducible first | exact HB.out | apply below_alloc | apply pw_below_drewN | apply below_drew1) | exact HB.out)) hb); have n1_ := Aside0.mk (hbox); have n2_ := Aside0.mk ((by rw [hg]; exact (below_size (by repeat (first | (with_reducible first | exact HB.out | apply below_alloc | apply pw_below_drewN | apply below_drew1) | exact HB.out))) : w.heap.size ≤ gb181)); have n3_ := Aside0.mk ((by rw [hg]; exact (below_size (by repeat (first | (with_reducible first | exact HB.out | apply below_alloc | apply pw_below_drewN | apply below_drew1) | exact HB.out))) : w.heap.size ≤ gb181)); clear HB; have HB := n0_; have BK181 := n1_; have GW181 := n2_; have GE181 := n3_; clear n0_ n1_ n2_ n3_; clear hb hbox hg; have hcz6_0 : w5.cell? ⟨gb181, 0, none⟩ = some (.slice A0_0 l0_0.length c0_0) := (blk_cell BK181.out 0).trans rfl; have hcz6_1 : w5.cell? ⟨gb181, 1, none⟩ = some (.slice A0_1 l0_1.length c0_1) := (blk_cell BK181.out 1).trans rfl; have hfz6_0 := blk_frozen BK181.out 0; have hfz6_1 := blk_frozen BK181.out 1) | ((with_reducible refine gate_dst (N := 10) rfl ?_); refine Kd.R_lit (Kd.int .i64) _ 3 ?hg (N := 10) ?hd (xs := ([a1] : List Int)) (inner := [.int .i64 a1]) (ok := fun _ => True) (okp := fun _ => True) ?hr ?hp (fun _ hk => hk) trivial (Below.refl _ _) (Nat.le_refl _) (by simp) ?_; (case hd => rfl); (case hg => rfl); (case hr => first | (go_simp; done) | (go_simp; rfl)); (case hp => exact (Reps.one (show Kd.M (Kd.int .i64) _ _ _ a1 [.int .i64 a1] from rfl) (Reps.none _ _))); intro v183 w7 ho8 hb hg_ hnew_; clear hg_ hnew_; (first | rw [← Ny182.out] at ho8 | (simp only [Int.reduceToNat] at ho8; rw [← Ny182.out] at ho8)); have n0_ := Aside0.mk (Kd.R_lower ho8 (below_size (by repeat (first | (with_reducible first | exact HB.out | apply below_alloc | apply pw_below_drewN | apply below_drew1 | refine below_set ?_ GE181.out) | exact HB.out)))); have n1_ := Aside0.mk (blk_below (g := gb181) (o := .cells #[.slice A0_0 l0_0.length c0_0, .slice A0_1 l0_1.length c0_1] 25 (0, 0)) (by (with_reducible repeat (first | refine blk_drewN ?_ _ | refine blk_drew ?_ | refine blk_alloc ?_ _)); exact BK181.out) hb); have n2_ := Aside0.mk (below_step (by repeat (first | (with_reducible first | exact HB.out | apply below_alloc | apply pw_below_drewN | apply below_drew1 | refine below_set ?_ GE181.out) | exact HB.out)) hb); clear BK181; clear HB; have HO184 := n0_; have BK181 := n1_; have HB := n2_; clear n0_ n1_ n2_; clear hb ho8; obtain ⟨Ao9, co9, eo9⟩ := Kd.R_slice HO184.out; subst eo9) | ((with_reducible refine gate_callee (f := 61) rfl ?_); refine goesL_ (some 11) rfl rfl Try.func61 (by kernel_rfl) rfl #[.agg #[.slice A0_0 l0_0.length c0_0, .slice A0_1 l0_1.length c0_1], .slice Ao9 y182.length co9] rfl (by (try simp only [List.map_toArray, List.map_cons, List.map_nil]); first | done | rfl | (simp only [List.length_drop, List.length_take]; rfl)) ?_; (with_reducible refine (impl_isVersion.calls _ _ l0_0 _ _ l0_1 _ _ y182 true _ ?side1 ?side2 ?side3 ?side4 ?side5 ?side6 A3.out).mono ?_); (case side1 => repeat (first | exact (Kd.C_below HR0_0.out HB.out) | (with_reducible refine Kd.C_alloc ?_ _) | (with_reducible refine Kd.C_drewN ?_ _) | (with_reducible refine Kd.C_drew ?_))); (case side2 => exact HC0_0.out); (case side3 => repeat (first | exact (Kd.C_below HR0_1.out HB.out) | (with_reducible refine Kd.C_alloc ?_ _) | (with_reducible refine Kd.C_drewN ?_ _) | (with_reducible refine Kd.C_drew ?_))); (case side4 => exact HC0_1.out); (case side5 => repeat (first | exact (Kd.R_reads' HO184.out).2.2 | (with_reducible refine Kd.C_alloc ?_ _) | (with_reducible refine Kd.C_drewN ?_ _) | (with_reducible refine Kd.C_drew ?_))); (case side6 => exact (Kd.R_reads' HO184.out).2.1); rintro e w10 ⟨rfl, hb⟩; refine ⟨_, rfl, ?_⟩; have n0_ := Aside0.mk (Kd.R_below (by (with_reducible repeat (first | apply Kd.R_alloc | apply Kd.R_drewN | apply Kd.R_drew)); exact HO184.out) hb); have n1_ := Aside0.mk (blk_below (g := gb181) (o := .cells #[.slice A0_0 l0_0.length c0_0, .slice A0_1 l0_1.length c0_1] 25 (0, 0)) (by (with_reducible repeat (first | refine blk_drewN ?_ _ | refine blk_drew ?_ | refine blk_alloc ?_ _)); exact BK181.out) hb); have n2_ := Aside0.mk (below_step (by repeat (first | (with_reducible first | exact HB.out | apply below_alloc | apply pw_below_drewN | apply below_drew1 | refine below_set ?_ GE181.out) | exact HB.out)) hb); clear HO184; clear BK181; clear HB; have HO184 := n0_; have BK181 := n1_; have HB := n2_; clear n0_ n1_ n2_; (try clear hb); (try clear hb2); (try clear hk); (try clear hi)) | ((with_reducible refine gate_dst (N := 13) rfl ?_); refine Kd.R_lit (Kd.int .i64) _ 3 ?hg (N := 13) ?hd (xs := ([] : List Int)) (inner := []) (ok := fun _ => True) (okp := fun _ => True) ?hr ?hp (fun _ hk => hk) trivial (Below.refl _ _) (Nat.le_refl _) (by simp) ?_; (case hd => rfl); (case hg => rfl); (case hr => first | (go_simp; done) | (go_simp; rfl)); (case hp => exact (Reps.none _ _)); intro v187 w11 ho12 hb hg_ hnew_; clear hg_ hnew_; (first | rw [← Ny186.out] at ho12 | (simp only [Int.reduceToNat] at ho12; rw [← Ny186.out] at ho12)); have n0_ := Aside0.mk (Kd.R_elder' (by (with_reducible repeat (first | apply Kd.R_alloc | apply Kd.R_drewN | apply Kd.R_drew)); exact HO184.out) (Kd.R_base ho12) hb); have n1_ := Aside0.mk (Kd.R_lower (Kd.R_new' ho12 (Kd.R_lt (by (with_reducible repeat (first | apply Kd.R_alloc | apply Kd.R_drewN | apply Kd.R_drew)); exact HO184.out))) (below_size (by repeat (first | (with_reducible first | exact HB.out | apply below_alloc | apply pw_below_drewN | apply below_drew1 | refine below_set ?_ GE181.out) | exact HB.out)))); have n2_ := Aside0.mk (blk_below (g := gb181) (o := .cells #[.slice A0_0 l0_0.length c0_0, .slice A0_1 l0_1.length c0_1] 25 (0, 0)) (by (with_reducible repeat (first | refine blk_drewN ?_ _ | refine blk_drew ?_ | refine blk_alloc ?_ _)); exact BK181.out) hb); have n3_ := Aside0.mk (below_step (by repeat (first | (with_reducible first | exact HB.out | apply below_alloc | apply pw_below_drewN | apply below_drew1 | refine below_set ?_ GE181.out) | exact HB.out)) hb); clear HO184; clear BK181; clear HB; have HO184 := n0_; have HO188 := n1_; have BK181 := n2_; have HB := n3_; clear n0_ n1_ n2_ n3_; clear hb ho12))
    go_loopg [6, 14] k (fun kq v6 v14 w' => ∃ (x6_1 : List Int) (x14_1 : Int), v14 = .int .i64 x14_1 ∧ Aside0 (impl_AllIn.l0 kq a1 x6_1 x14_1 l0_0 l0_1 = some (r1, r2)) ∧ Aside0 (kq ≤ k) ∧ Aside0 (Kd.R (Kd.int .i64) 3 w' w.heap.size (fun _ => True) v6 x6_1) ∧ Aside0 (w'.heap[gb181]? = some (.cells #[(.slice A0_0 l0_0.length c0_0), (.slice A0_1 l0_1.length c0_1)] 25 (0, 0))) ∧ Aside0 (Below w.heap.size w w'))
    case atStart => exact ⟨(y186), (0), (by first | rfl | (simp; done) | (simp [*]; done)), H', ⟨Nat.le_refl _⟩, ⟨by (with_reducible repeat (first | apply Kd.R_alloc | apply Kd.R_drewN | apply Kd.R_drew)); exact Kd.R_mono HO188.out (fun _ hk => trivial)⟩, ⟨by (with_reducible repeat (first | refine blk_drewN ?_ _ | refine blk_drew ?_ | refine blk_alloc ?_ _)); exact BK181.out⟩, ⟨by repeat (first | (with_reducible first | exact HB.out | apply below_alloc | apply pw_below_drewN | apply below_drew1 | refine below_set ?_ GE181.out) | exact HB.out)⟩⟩
    case round =>
      clear H'
      try clear c2
      try clear p2
      try clear c4
      try clear c6
      try clear hcz6_0
      try clear hcz6_1
      try clear hfz6_0
      try clear hfz6_1
      obtain ⟨x6_1, x14_1, rfl, HA, HK1, HO_6, BK181, HB⟩ := hrel
      cases gk with
      | zero => exact absurd HA.out (by simp [impl_AllIn.l0])
      | succ k1 =>
        have H := HA.out
        clear HA
        simp only [impl_AllIn.l0] at H
        by_cases c13 : x14_1 < 16
        · rw [if_pos c13] at H
          have c13b0 : decide (x14_1 < 16) = true := decide_eq_true c13
          clear c13
          replace H := Option.bind_eq_some_iff.mp H
          obtain ⟨t189, A140, H⟩ := H
          replace H : (if x6_1.length < 17592186044416 then (impl_AllIn.l0 k1 a1 (x6_1 ++ [t189]) (wrap64 (x14_1 + 1)) l0_0 l0_1) else (none)) = some (r1, r2) := H
          have A14 := Aside0.mk A140
          clear A140
          by_cases c15 : x6_1.length < 17592186044416
          · rw [if_pos c15] at H
            have LMc15 := Aside0.mk c15
            clear c15
            obtain ⟨y190, hy190⟩ : ∃ y_ : List Int, y_ = (x6_1 ++ [t189]) := ⟨_, rfl⟩
            replace H : (impl_AllIn.l0 k1 a1 y190 (wrap64 (x14_1 + 1)) l0_0 l0_1) = some (r1, r2) := by first | (rw [hy190]; with_reducible exact H) | (have H2_ := (Option.bind_some _ _).symm.trans H; rw [hy190]; with_reducible exact H2_) | (have H2_ := (Option.bind_some _ _).symm.trans H; with_reducible exact H2_) | with_reducible exact H | (rw [hy190]; exact H) | exact H
            have Ny190 := Aside0.mk hy190
            clear hy190
            have H' := Aside0.mk H
            clear H
            have hcz16_0 : wr.cell? ⟨gb181, 0, none⟩ = some (.slice A0_0 l0_0.length c0_0) := (blk_cell BK181.out 0).trans rfl
            have hcz16_1 : wr.cell? ⟨gb181, 1, none⟩ = some (.slice A0_1 l0_1.length c0_1) := (blk_cell BK181.out 1).trans rfl
            have hfz16_0 := blk_frozen BK181.out 0
            have hfz16_1 := blk_frozen BK181.out 1
            go_wp2_with (first | ((with_reducible refine gate_callee (f := 63) rfl ?_); refine goesL_ (some 21) rfl rfl Try.func63 (by kernel_rfl) rfl #[.agg #[.slice A0_0 l0_0.length c0_0, .slice A0_1 l0_1.length c0_1], .int .i64 a1, .int .i64 x14_1] rfl (by (try simp only [List.map_toArray, List.map_cons, List.map_nil]); first | done | rfl | (simp only [List.length_drop, List.length_take]; rfl)) ?_; (with_reducible refine (impl_get.calls _ _ l0_0 _ _ l0_1 a1 x14_1 t189 _ ?side1 ?side2 ?side3 ?side4 A14.out).mono ?_); (case side1 => repeat (first | exact (Kd.C_below HR0_0.out HB.out) | (with_reducible refine Kd.C_alloc ?_ _) | (with_reducible refine Kd.C_drewN ?_ _) | (with_reducible refine Kd.C_drew ?_))); (case side2 => exact HC0_0.out); (case side3 => repeat (first | exact (Kd.C_below HR0_1.out HB.out) | (with_reducible refine Kd.C_alloc ?_ _) | (with_reducible refine Kd.C_drewN ?_ _) | (with_reducible refine Kd.C_drew ?_))); (case side4 => exact HC0_1.out); rintro e w17 ⟨rfl, hb⟩; refine ⟨_, rfl, ?_⟩; have n0_ := Aside0.mk (Kd.R_below (by (with_reducible repeat (first | apply Kd.R_alloc | apply Kd.R_drewN | apply Kd.R_drew)); exact HO_6.out) hb); have n1_ := Aside0.mk (blk_below (g := gb181) (o := .cells #[.slice A0_0 l0_0.length c0_0, .slice A0_1 l0_1.length c0_1] 25 (0, 0)) (by (with_reducible repeat (first | refine blk_drewN ?_ _ | refine blk_drew ?_ | refine blk_alloc ?_ _)); exact BK181.out) hb); have n2_ := Aside0.mk (below_step (by repeat (first | (with_reducible first | exact HB.out | apply below_alloc | apply pw_below_drewN | apply below_drew1 | refine below_set ?_ GE181.out) | exact HB.out)) hb); clear HO_6; clear BK181; clear HB; have HO_6 := n0_; have BK181 := n1_; have HB := n2_; clear n0_ n1_ n2_; (try clear hb); (try clear hb2); (try clear hk); (try clear hi)) | ((with_reducible refine gate_builtin (b := .append) (xs := #[.tmp 17, .tmp 22]) rfl ?_); at_builtin; refine Kd.R_append (Kd.int .i64) (w0 := w) w.heap.size rfl (.tmp 17) (.tmp 22) 23 3 (.int .i64 0) 8 rfl Try.underlying23 info3 rfl (by decide) (by omega) u6 x6_1 t189 [.int .i64 t189] (fun _ => True) (fun _ => False) rfl rfl ?aP (fun _ hk => hk.elim) ?aF ?aO ?aB ?aS ?aL ?_; (case aP => exact rfl); (case aB => exact (by repeat (first | (with_reducible first | exact HB.out | apply below_alloc | apply pw_below_drewN | apply below_drew1 | refine below_set ?_ GE181.out) | exact HB.out))); (case aF => exact (fun _ _ => trivial)); (case aO => exact (by (with_reducible repeat (first | apply Kd.R_alloc | apply Kd.R_drewN | apply Kd.R_drew)); exact HO_6.out)); (case aS => exact (below_size (by repeat (first | (with_reducible first | exact HB.out | apply below_alloc | apply pw_below_drewN | apply below_drew1 | refine below_set ?_ GE181.out) | exact HB.out)))); (case aL => have := LMc15.out; omega); intro v191 w18 ho hb hg hat; rw [← Ny190.out] at ho; have n0_ := Aside0.mk (blk_grown (g := gb181) (o := .cells #[.slice A0_0 l0_0.length c0_0, .slice A0_1 l0_1.length c0_1] 25 (0, 0)) (by (with_reducible repeat (first | refine blk_drewN ?_ _ | refine blk_drew ?_ | refine blk_alloc ?_ _)); exact BK181.out) hg (Kd.R_ne HO_6.out BK181.out (by decide))); have n1_ := Aside0.mk (hb); have n2_ := Aside0.mk (ho); clear BK181; clear HB; clear HO_6; have BK181 := n0_; have HB := n1_; have HO192 := n2_; clear n0_ n1_ n2_; clear ho hb hg hat))
            go_roundg k1
            case measure => have := HK1.out; omega
            case rel => exact ⟨(y190), (wrap64 (x14_1 + 1)), (by first | rfl | (simp; done) | (simp [*]; done)), H', ⟨by have := HK1.out; omega⟩, ⟨by (with_reducible repeat (first | apply Kd.R_alloc | apply Kd.R_drewN | apply Kd.R_drew)); exact HO192.out⟩, ⟨by (with_reducible repeat (first | refine blk_drewN ?_ _ | refine blk_drew ?_ | refine blk_alloc ?_ _)); exact BK181.out⟩, ⟨by repeat (first | (with_reducible first | exact HB.out | apply below_alloc | apply pw_below_drewN | apply below_drew1 | refine below_set ?_ GE181.out) | exact HB.out)⟩⟩
          · rw [if_neg c15] at H
            exact absurd H (by simp)
        · rw [if_neg c13] at H
          have c13b0 : decide (x14_1 < 16) = false := decide_eq_false c13
          clear c13
          simp only [Option.some.injEq, Prod.mk.injEq] at H
          obtain ⟨rfl, rfl⟩ := H
          go_wp2
          go_ret2
          exact ⟨_, by first | rfl | (simp [errW_none, errW_some] <;> rfl) | (simp [*, errW_none, errW_some] <;> rfl), by (with_reducible repeat (first | apply Kd.R_alloc | apply Kd.R_drewN | apply Kd.R_drew)); exact HO_6.out, by repeat (first | (with_reducible first | exact HB.out | apply below_alloc | apply pw_below_drewN | apply below_drew1 | refine below_set ?_ GE181.out) | exact HB.out)⟩
  · replace c4 := Bool.eq_false_iff.mpr c4
    subst c4
    have H1 : (some (([] : List Int), false)) = some (r1, r2) := by rw [if_neg (show ¬ (false = true) by decide)] at H; exact H
    clear H
    have H := H1
    clear H1
    simp only [Option.some.injEq, Prod.mk.injEq] at H
    obtain ⟨rfl, rfl⟩ := H
    go_enter Try.func25, Try.ntmps25
    go_wp2_with (first | ((with_reducible refine gate_dst (N := 2) rfl ?_); refine box_event ?hg (N := 2) ?hd (cs := #[.slice A0_0 l0_0.length c0_0, .slice A0_1 l0_1.length c0_1]) (t := 25) ?hr ?_; (case hd => rfl); (case hg => rfl); (case hr => first | (go_simp; done) | (go_simp; rfl)); intro gb181 hg w19 hbox hb; have n0_ := Aside0.mk (below_step (by repeat (first | (with_reducible first | exact HB.out | apply below_alloc | apply pw_below_drewN | apply below_drew1) | exact HB.out)) hb); have n1_ := Aside0.mk (hbox); have n2_ := Aside0.mk ((by rw [hg]; exact (below_size (by repeat (first | (with_reducible first | exact HB.out | apply below_alloc | apply pw_below_drewN | apply below_drew1) | exact HB.out))) : w.heap.size ≤ gb181)); have n3_ := Aside0.mk ((by rw [hg]; exact (below_size (by repeat (first | (with_reducible first | exact HB.out | apply below_alloc | apply pw_below_drewN | apply below_drew1) | exact HB.out))) : w.heap.size ≤ gb181)); clear HB; have HB := n0_; have BK181 := n1_; have GW181 := n2_; have GE181 := n3_; clear n0_ n1_ n2_ n3_; clear hb hbox hg; have hcz20_0 : w19.cell? ⟨gb181, 0, none⟩ = some (.slice A0_0 l0_0.length c0_0) := (blk_cell BK181.out 0).trans rfl; have hcz20_1 : w19.cell? ⟨gb181, 1, none⟩ = some (.slice A0_1 l0_1.length c0_1) := (blk_cell BK181.out 1).trans rfl; have hfz20_0 := blk_frozen BK181.out 0; have hfz20_1 := blk_frozen BK181.out 1) | ((with_reducible refine gate_dst (N := 10) rfl ?_); refine Kd.R_lit (Kd.int .i64) _ 3 ?hg (N := 10) ?hd (xs := ([a1] : List Int)) (inner := [.int .i64 a1]) (ok := fun _ => True) (okp := fun _ => True) ?hr ?hp (fun _ hk => hk) trivial (Below.refl _ _) (Nat.le_refl _) (by simp) ?_; (case hd => rfl); (case hg => rfl); (case hr => first | (go_simp; done) | (go_simp; rfl)); (case hp => exact (Reps.one (show Kd.M (Kd.int .i64) _ _ _ a1 [.int .i64 a1] from rfl) (Reps.none _ _))); intro v183 w21 ho22 hb hg_ hnew_; clear hg_ hnew_; (first | rw [← Ny182.out] at ho22 | (simp only [Int.reduceToNat] at ho22; rw [← Ny182.out] at ho22)); have n0_ := Aside0.mk (Kd.R_lower ho22 (below_size (by repeat (first | (with_reducible first | exact HB.out | apply below_alloc | apply pw_below_drewN | apply below_drew1 | refine below_set ?_ GE181.out) | exact HB.out)))); have n1_ := Aside0.mk (blk_below (g := gb181) (o := .cells #[.slice A0_0 l0_0.length c0_0, .slice A0_1 l0_1.length c0_1] 25 (0, 0)) (by (with_reducible repeat (first | refine blk_drewN ?_ _ | refine blk_drew ?_ | refine blk_alloc ?_ _)); exact BK181.out) hb); have n2_ := Aside0.mk (below_step (by repeat (first | (with_reducible first | exact HB.out | apply below_alloc | apply pw_below_drewN | apply below_drew1 | refine below_set ?_ GE181.out) | exact HB.out)) hb); clear BK181; clear HB; have HO184 := n0_; have BK181 := n1_; have HB := n2_; clear n0_ n1_ n2_; clear hb ho22; obtain ⟨Ao23, co23, eo23⟩ := Kd.R_slice HO184.out; subst eo23) | ((with_reducible refine gate_callee (f := 61) rfl ?_); refine goesL_ (some 11) rfl rfl Try.func61 (by kernel_rfl) rfl #[.agg #[.slice A0_0 l0_0.length c0_0, .slice A0_1 l0_1.length c0_1], .slice Ao23 y182.length co23] rfl (by (try simp only [List.map_toArray, List.map_cons, List.map_nil]); first | done | rfl | (simp only [List.length_drop, List.length_take]; rfl)) ?_; (with_reducible refine (impl_isVersion.calls _ _ l0_0 _ _ l0_1 _ _ y182 false _ ?side1 ?side2 ?side3 ?side4 ?side5 ?side6 A3.out).mono ?_); (case side1 => repeat (first | exact (Kd.C_below HR0_0.out HB.out) | (with_reducible refine Kd.C_alloc ?_ _) | (with_reducible refine Kd.C_drewN ?_ _) | (with_reducible refine Kd.C_drew ?_))); (case side2 => exact HC0_0.out); (case side3 => repeat (first | exact (Kd.C_below HR0_1.out HB.out) | (with_reducible refine Kd.C_alloc ?_ _) | (with_reducible refine Kd.C_drewN ?_ _) | (with_reducible refine Kd.C_drew ?_))); (case side4 => exact HC0_1.out); (case side5 => repeat (first | exact (Kd.R_reads' HO184.out).2.2 | (with_reducible refine Kd.C_alloc ?_ _) | (with_reducible refine Kd.C_drewN ?_ _) | (with_reducible refine Kd.C_drew ?_))); (case side6 => exact (Kd.R_reads' HO184.out).2.1); rintro e w24 ⟨rfl, hb⟩; refine ⟨_, rfl, ?_⟩; have n0_ := Aside0.mk (Kd.R_below (by (with_reducible repeat (first | apply Kd.R_alloc | apply Kd.R_drewN | apply Kd.R_drew)); exact HO184.out) hb); have n1_ := Aside0.mk (blk_below (g := gb181) (o := .cells #[.slice A0_0 l0_0.length c0_0, .slice A0_1 l0_1.length c0_1] 25 (0, 0)) (by (with_reducible repeat (first | refine blk_drewN ?_ _ | refine blk_drew ?_ | refine blk_alloc ?_ _)); exact BK181.out) hb); have n2_ := Aside0.mk (below_step (by repeat (first | (with_reducible first | exact HB.out | apply below_alloc | apply pw_below_drewN | apply below_drew1 | refine below_set ?_ GE181.out) | exact HB.out)) hb); clear HO184; clear BK181; clear HB; have HO184 := n0_; have BK181 := n1_; have HB := n2_; clear n0_ n1_ n2_; (try clear hb); (try clear hb2); (try clear hk); (try clear hi)))
    go_ret2
    exact ⟨_, by first | rfl | (simp [errW_none, errW_some] <;> rfl) | (simp [*, errW_none, errW_some] <;> rfl), by first | exact Kd.R_nil _ _ _ _ _ | exact Kd.N_nil _ _ _ _ _ | exact Kd.V_nil _ _ _ _ _ | exact Kd.Q_nil _ _ _ _ _ | exact Kd.S_nil _ _ _ _ _, by repeat (first | (with_reducible first | exact HB.out | apply below_alloc | apply pw_below_drewN | apply below_drew1 | refine below_set ?_ GE181.out) | exact HB.out)⟩

/-! ### laws_heldIntS: function 28 -/
def laws_heldIntS.l0 : Nat → List Int → Int → Int → Option (Int)
  | 0, _, _, _ => none
  | k + 1, x0, x1, x5 => if x5 < (x0.length : Int) then (if 0 ≤ x5 then (if (rd x0 x5) = x1 then (laws_heldIntS.l0 k x0 (wrap64 (x1 + 1)) (wrap64 (x5 + 1))) else (some (-1))) else (none)) else (some x1)
def laws_heldIntS.f (k : Nat) (l0 : List Int) (a1 : Int) : Option (Int) := laws_heldIntS.l0 k l0 a1 0
theorem laws_heldIntS.mono_l : ∀ k, (∀ y0 y1 y2, LeO (laws_heldIntS.l0 k y0 y1 y2) (laws_heldIntS.l0 (k + 1) y0 y1 y2))
  | 0 => fun _ _ _ r h => by simp [laws_heldIntS.l0] at h
  | k + 1 => by
    have ih0 := laws_heldIntS.mono_l k
    · intro y0 y1 y2
      unfold laws_heldIntS.l0
      repeat' first
      | (with_reducible exact ih0 _ _ _)
      | (with_reducible exact LeO.refl _)
      | (with_reducible exact LeO.none _)
      | (with_reducible refine LeO.ite ?_ ?_)
      | (with_reducible refine LeO.bind ?_ (fun _ => ?_))
      | exact ih0 _ _ _
      | exact LeO.none _
      | refine LeO.ite ?_ ?_
      | refine LeO.bind ?_ (fun _ => ?_)
theorem laws_heldIntS.mono : ∀ a0 a1 k, LeO (laws_heldIntS.f k a0 a1) (laws_heldIntS.f (k + 1) a0 a1) := by
  intro a0 a1 k
  have ih0 := laws_heldIntS.mono_l k
  unfold laws_heldIntS.f
  repeat' first
      | (with_reducible exact ih0 _ _ _)
      | (with_reducible exact LeO.refl _)
      | (with_reducible exact LeO.none _)
      | (with_reducible refine LeO.ite ?_ ?_)
      | (with_reducible refine LeO.bind ?_ (fun _ => ?_))
      | exact ih0 _ _ _
      | exact LeO.none _
      | refine LeO.ite ?_ ?_
      | refine LeO.bind ?_ (fun _ => ?_)
set_option maxHeartbeats 8000000 in
set_option maxRecDepth 100000 in
theorem laws_heldIntS.calls (k : Nat) (A0 : Option Addr) (c0 : Nat) (l0 : List Int) (a1 : Int) (r : Int) (w : World) (hr0 : Kd.C (Kd.int .i64) w A0 l0.length l0) (hc0 : l0.length ≤ c0) (h : laws_heldIntS.f k l0 a1 = some r) :
    Calls Try.prog 28 #[.slice A0 l0.length c0, .int .i64 a1] w fun e w' => e = .returned (.int .i64 r) ∧ Drawn0 w w' := by
  have HR0 := Aside0.mk hr0
  have HC0 := Aside0.mk hc0
  clear hr0 hc0
  have H : (laws_heldIntS.l0 k l0 a1 0) = some r := h
  clear h
  have H' := Aside0.mk H
  clear H
  go_enter Try.func28, Try.ntmps28
  go_wp2
  go_loopg [1, 5] k (fun kq v1 v5 w' => ∃ (x1_1 : Int) (x5_1 : Int), v1 = .int .i64 x1_1 ∧ v5 = .int .i64 x5_1 ∧ Aside0 (laws_heldIntS.l0 kq l0 x1_1 x5_1 = some r) ∧ Aside0 (kq ≤ k) ∧ Drawn0 w w')
  case atStart => exact ⟨(a1), (0), (by first | rfl | (simp; done) | (simp [*]; done)), (by first | rfl | (simp; done) | (simp [*]; done)), H', ⟨Nat.le_refl _⟩, by repeat (first | exact Drawn0.refl _ | apply Drawn0.step)⟩
  case round =>
    clear H'
    try clear c2
    try clear p2
    obtain ⟨x1_1, x5_1, rfl, rfl, HA, HK1, ⟨m1, rfl⟩⟩ := hrel
    cases gk with
    | zero => exact absurd HA.out (by simp [laws_heldIntS.l0])
    | succ k1 =>
      have H := HA.out
      clear HA
      simp only [laws_heldIntS.l0] at H
      by_cases c3 : x5_1 < (l0.length : Int)
      · rw [if_pos c3] at H
        have c3b0 : decide (x5_1 < (l0.length : Int)) = true := decide_eq_true c3
        clear c3
        by_cases c4 : 0 ≤ x5_1
        · rw [if_pos c4] at H
          have c4b0 : decide (0 ≤ x5_1) = true := decide_eq_true c4
          clear c4
          by_cases c5 : (rd l0 x5_1) = x1_1
          · rw [if_pos c5] at H
            have c5b0 : ((rd l0 x5_1) == x1_1) = true := beq_iff_eq.mpr c5
            have c5b1 : ((rd l0 x5_1) != x1_1) = false := bne_eq_false_iff_eq.mpr c5
            clear c5
            have H' := Aside0.mk H
            clear H
            have p193 : 0 ≤ (x5_1 : Int) := of_decide_eq_true (by first | (with_reducible assumption) | assumption)
            have q193 : x5_1 < (l0.length : Int) := of_decide_eq_true (by first | (with_reducible assumption) | assumption)
            obtain ⟨ad193, e193, hx193_0⟩ := Kd.at_int HR0.out x5_1 p193 q193
            cases e193
            replace p193 := eq_true p193
            replace q193 := eq_true q193
            go_wp2
            go_roundg k1
            case measure => have := HK1.out; omega
            case rel => exact ⟨(wrap64 (x1_1 + 1)), (wrap64 (x5_1 + 1)), (by first | rfl | (simp; done) | (simp [*]; done)), (by first | rfl | (simp; done) | (simp [*]; done)), H', ⟨by have := HK1.out; omega⟩, by repeat (first | exact Drawn0.refl _ | apply Drawn0.step)⟩
          · rw [if_neg c5] at H
            have c5b0 : ((rd l0 x5_1) == x1_1) = false := beq_eq_false_iff_ne.mpr c5
            have c5b1 : ((rd l0 x5_1) != x1_1) = true := bne_iff_ne.mpr c5
            obtain rfl := Option.some.inj H
            have p193 : 0 ≤ (x5_1 : Int) := of_decide_eq_true (by first | (with_reducible assumption) | assumption)
            have q193 : x5_1 < (l0.length : Int) := of_decide_eq_true (by first | (with_reducible assumption) | assumption)
            obtain ⟨ad193, e193, hx193_0⟩ := Kd.at_int HR0.out x5_1 p193 q193
            cases e193
            replace p193 := eq_true p193
            replace q193 := eq_true q193
            go_wp2
            go_ret
            exact ⟨by first | rfl | (simp; done) | (simp [*]; done), by repeat (first | exact Drawn0.refl _ | apply Drawn0.step)⟩
        · rw [if_neg c4] at H
          exact absurd H (by simp)
      · rw [if_neg c3] at H
        have c3b0 : decide (x5_1 < (l0.length : Int)) = false := decide_eq_false c3
        clear c3
        obtain rfl := Option.some.inj H
        go_wp2
        go_ret
        exact ⟨by first | rfl | (simp; done) | (simp [*]; done), by repeat (first | exact Drawn0.refl _ | apply Drawn0.step)⟩

/-! ### laws_FnExactAllIn: function 6 -/
/-- what the law asks, one after the other -/
def laws_FnExactAllIn.f (k : Nat) (l0_0 : List (S88)) (l0_1 : List Int) (a1 : Int) : Option Bool :=
  (laws_szPool.f k l0_0 l0_1 1048576).bind fun be5 => if be5 < 0 then some true else ((laws_toPool.f k l0_0 l0_1).bind fun be9 => (spec_AllIn.f k be9.1 be9.2 a1).bind fun be13 => (laws_toPool.f k l0_0 l0_1).bind fun be17 => (impl_AllIn.f k be17.1 be17.2 a1).bind fun be24 => (laws_eqIntS.f k be24.1 be13.1).bind fun be27 => if be27 = true then (if (be24.2 != be13.2) = true then some false else ((laws_toPool.f k l0_0 l0_1).bind fun be32 => (laws_eqPool.f k be17.1 be17.2 be32.1 be32.2).bind fun be35 => if be35 = true then ((laws_markPool.f k be17.1 be17.2 1).bind fun be40 => if be40.1 < 0 then some false else ((laws_eqIntS.f k be24.1 be13.1).bind fun be43 => if be43 = true then (if (be24.2 != be13.2) = true then some false else ((laws_markIntS.f k be24.1 1).bind fun be47 => (laws_heldIntS.f k be47.2 1).bind fun be50 => if be50 < 0 then some false else (if (be50 != be47.1) = true then some false else ((laws_toPool.f k l0_0 l0_1).bind fun be54 => (impl_AllIn.f k be54.1 be54.2 a1).bind fun be58 => (laws_eqIntS.f k be58.1 be13.1).bind fun be61 => if be61 = true then (if (be58.2 != be13.2) = true then some false else ((laws_heldIntS.f k be47.2 1).bind fun be64 => if be64 < 0 then some false else (if (be64 != be47.1) = true then some false else (some true)))) else some false)))) else some false)) else some false)) else some false)
set_option maxHeartbeats 8000000 in
theorem laws_FnExactAllIn.calls (k : Nat) (A0_0 : Option Addr) (c0_0 : Nat) (l0_0 : List (S88)) (A0_1 : Option Addr) (c0_1 : Nat) (l0_1 : List Int) (a1 : Int) (r : Bool) (w : World) (hr0_0 : Kd.C k88 w A0_0 l0_0.length l0_0) (hc0_0 : l0_0.length ≤ c0_0) (hr0_1 : Kd.C (Kd.int .i64) w A0_1 l0_1.length l0_1) (hc0_1 : l0_1.length ≤ c0_1) (h : laws_FnExactAllIn.f k l0_0 l0_1 a1 = some true) :
    Calls Try.prog 6 #[.agg #[.slice A0_0 l0_0.length c0_0, .slice A0_1 l0_1.length c0_1], .int .i64 a1] w fun e w' => e = .returned (.bool true) ∧ Below w.heap.size w w' := by
  have hu25 := Try.underlying25
  have hu32 := Try.underlying32
  have HR0_0 := Aside0.mk hr0_0
  have HC0_0 := Aside0.mk hc0_0
  have HR0_1 := Aside0.mk hr0_1
  have HC0_1 := Aside0.mk hc0_1
  clear hr0_0 hc0_0 hr0_1 hc0_1
  have HB := Aside0.mk (Below.refl w.heap.size w)
  unfold laws_FnExactAllIn.f at h
  replace h := Option.bind_eq_some_iff.1 h
  obtain ⟨r4, e5, h⟩ := h
  try dsimp only at h
  have Ee5 := Aside0.mk e5
  clear e5
  by_cases c1_ : r4 < 0
  · clear h
    have c1b_ : decide (r4 < 0) = true := decide_eq_true c1_
    clear c1_
    go_enter Try.func6, Try.ntmps6
    go_wp2_with (first | ((with_reducible refine gate_dst (N := 2) rfl ?_); refine box_event ?hg (N := 2) ?hd (cs := #[.slice A0_0 l0_0.length c0_0, .slice A0_1 l0_1.length c0_1]) (t := 32) ?hr ?_; (case hd => rfl); (case hg => rfl); (case hr => first | (go_simp; done) | (go_simp; rfl)); intro g1 hg w2 hbox hb; have hk := Kept.of_below hb (fun _ => False); have nHB := Aside0.mk (below_step HB.out hb); have BKg1 := Aside0.mk hbox; have GEg1 := Aside0.mk (show w.heap.size ≤ g1 from by rw [hg]; exact HB.out.size); have GLg1 := Aside0.mk (show w.heap.size ≤ g1 from Nat.le_of_eq hg.symm); have GHg1 := Aside0.mk (blk_lt hbox); have SZw2 := Aside0.mk hb.size; clear HB; have HB := nHB; clear nHB; clear hg hbox hb hk; have hz_g1_0_w2 : w2.cell? ⟨g1, 0, none⟩ = some (.slice A0_0 l0_0.length c0_0) := (blk_cell BKg1.out 0).trans rfl; have hf_g1_0_w2 := blk_frozen BKg1.out 0; have hz_g1_1_w2 : w2.cell? ⟨g1, 1, none⟩ = some (.slice A0_1 l0_1.length c0_1) := (blk_cell BKg1.out 1).trans rfl; have hf_g1_1_w2 := blk_frozen BKg1.out 1) | ((with_reducible refine gate_callee (f := 18) rfl ?_); refine goesL_ (some 18) rfl rfl Try.func18 (by kernel_rfl) rfl #[.agg #[.slice A0_0 l0_0.length c0_0, .slice A0_1 l0_1.length c0_1], .int .i64 1048576] rfl (by (try simp only [List.map_toArray, List.map_cons, List.map_nil]); first | done | rfl | (simp only [List.length_drop, List.length_take]; rfl)) ?_; (with_reducible refine (laws_szPool.calls k _ _ l0_0 _ _ l0_1 1048576 r4 _ ?side1 ?side2 ?side3 ?side4 Ee5.out).mono ?_); (case side1 => exact (Kd.C_below HR0_0.out HB.out)); (case side2 => exact HC0_0.out); (case side3 => exact (Kd.C_below HR0_1.out HB.out)); (case side4 => exact HC0_1.out); rintro ex_ w3 ⟨rfl, hb⟩; refine ⟨_, rfl, ?_⟩; have hk := Kept.of_below hb (fun _ => False); have nBKg1 := Aside0.mk (Op.mvB BKg1.out hk (fun hs => hs)); have nHB := Aside0.mk (below_step HB.out hb); have SZw3 := Aside0.mk hb.size; clear BKg1 HB; have BKg1 := nBKg1; have HB := nHB; clear nBKg1 nHB; clear hb hk; have hz_g1_0_w3 : w3.cell? ⟨g1, 0, none⟩ = some (.slice A0_0 l0_0.length c0_0) := (blk_cell BKg1.out 0).trans rfl; have hf_g1_0_w3 := blk_frozen BKg1.out 0; have hz_g1_1_w3 : w3.cell? ⟨g1, 1, none⟩ = some (.slice A0_1 l0_1.length c0_1) := (blk_cell BKg1.out 1).trans rfl; have hf_g1_1_w3 := blk_frozen BKg1.out 1))
    go_ret
    exact ⟨rfl, HB.out⟩
  replace h := (if_neg c1_).symm.trans h
  have c1b_ : decide (r4 < 0) = false := decide_eq_false c1_
  clear c1_
  replace h := Option.bind_eq_some_iff.1 h
  obtain ⟨⟨r7, r8⟩, e9, h⟩ := h
  try dsimp only at h
  have Ee9 := Aside0.mk e9
  clear e9
  replace h := Option.bind_eq_some_iff.1 h
  obtain ⟨⟨r11, r12⟩, e13, h⟩ := h
  try dsimp only at h
  have Ee13 := Aside0.mk e13
  clear e13
  replace h := Option.bind_eq_some_iff.1 h
  obtain ⟨⟨r15, r16⟩, e17, h⟩ := h
  try dsimp only at h
  have Ee17 := Aside0.mk e17
  clear e17
  replace h := Option.bind_eq_some_iff.1 h
  obtain ⟨⟨r22, r23⟩, e24, h⟩ := h
  try dsimp only at h
  have Ee24 := Aside0.mk e24
  clear e24
  replace h := Option.bind_eq_some_iff.1 h
  obtain ⟨r26, e27, h⟩ := h
  try dsimp only at h
  have Ee27 := Aside0.mk e27
  clear e27
  replace h := Op.must_t h
  obtain ⟨rfl, h⟩ := h
  replace h := Op.must_n h
  obtain ⟨c2_, h⟩ := h
  have c2e_ : (r23 == r12) = true := by revert c2_; cases r23 <;> cases r12 <;> decide
  clear c2_
  replace h := Option.bind_eq_some_iff.1 h
  obtain ⟨⟨r30, r31⟩, e32, h⟩ := h
  try dsimp only at h
  have Ee32 := Aside0.mk e32
  clear e32
  replace h := Option.bind_eq_some_iff.1 h
  obtain ⟨r34, e35, h⟩ := h
  try dsimp only at h
  have Ee35 := Aside0.mk e35
  clear e35
  replace h := Op.must_t h
  obtain ⟨rfl, h⟩ := h
  replace h := Option.bind_eq_some_iff.1 h
  obtain ⟨⟨r37, r38, r39⟩, e40, h⟩ := h
  try dsimp only at h
  have Ee40 := Aside0.mk e40
  clear e40
  replace h := Op.must_n h
  obtain ⟨c3_, h⟩ := h
  have c3b_ : decide (r37 < 0) = false := decide_eq_false c3_
  clear c3_
  replace h := Option.bind_eq_some_iff.1 h
  obtain ⟨r42, e43, h⟩ := h
  try dsimp only at h
  have Ee43 := Aside0.mk e43
  clear e43
  replace h := Op.must_t h
  obtain ⟨rfl, h⟩ := h
  replace h := Op.must_n h
  obtain ⟨c4_, h⟩ := h
  have c4e_ : (r23 == r12) = true := by revert c4_; cases r23 <;> cases r12 <;> decide
  clear c4_
  replace h := Option.bind_eq_some_iff.1 h
  obtain ⟨⟨r45, r46⟩, e47, h⟩ := h
  try dsimp only at h
  have Ee47 := Aside0.mk e47
  clear e47
  replace h := Option.bind_eq_some_iff.1 h
  obtain ⟨r49, e50, h⟩ := h
  try dsimp only at h
  have Ee50 := Aside0.mk e50
  clear e50
  replace h := Op.must_n h
  obtain ⟨c5_, h⟩ := h
  have c5b_ : decide (r49 < 0) = false := decide_eq_false c5_
  clear c5_
  replace h := Op.must_n h
  obtain ⟨c6_, h⟩ := h
  have c6b_ := Bool.eq_false_iff.mpr c6_
  clear c6_
  replace h := Option.bind_eq_some_iff.1 h
  obtain ⟨⟨r52, r53⟩, e54, h⟩ := h
  try dsimp only at h
  have Ee54 := Aside0.mk e54
  clear e54
  replace h := Option.bind_eq_some_iff.1 h
  obtain ⟨⟨r56, r57⟩, e58, h⟩ := h
  try dsimp only at h
  have Ee58 := Aside0.mk e58
  clear e58
  replace h := Option.bind_eq_some_iff.1 h
  obtain ⟨r60, e61, h⟩ := h
  try dsimp only at h
  have Ee61 := Aside0.mk e61
  clear e61
  replace h := Op.must_t h
  obtain ⟨rfl, h⟩ := h
  replace h := Op.must_n h
  obtain ⟨c7_, h⟩ := h
  have c7e_ : (r57 == r12) = true := by revert c7_; cases r57 <;> cases r12 <;> decide
  clear c7_
  replace h := Option.bind_eq_some_iff.1 h
  obtain ⟨r63, e64, h⟩ := h
  try dsimp only at h
  have Ee64 := Aside0.mk e64
  clear e64
  replace h := Op.must_n h
  obtain ⟨c8_, h⟩ := h
  have c8b_ : decide (r63 < 0) = false := decide_eq_false c8_
  clear c8_
  replace h := Op.must_n h
  obtain ⟨c9_, h⟩ := h
  have c9b_ := Bool.eq_false_iff.mpr c9_
  clear c9_
  clear h
  go_enter Try.func6, Try.ntmps6
  go_wp2_with (first | ((with_reducible refine gate_dst (N := 2) rfl ?_); refine box_event ?hg (N := 2) ?hd (cs := #[.slice A0_0 l0_0.length c0_0, .slice A0_1 l0_1.length c0_1]) (t := 32) ?hr ?_; (case hd => rfl); (case hg => rfl); (case hr => first | (go_simp; done) | (go_simp; rfl)); intro g1 hg w2 hbox hb; have hk := Kept.of_below hb (fun _ => False); have nHB := Aside0.mk (below_step HB.out hb); have BKg1 := Aside0.mk hbox; have GEg1 := Aside0.mk (show w.heap.size ≤ g1 from by rw [hg]; exact HB.out.size); have GLg1 := Aside0.mk (show w.heap.size ≤ g1 from Nat.le_of_eq hg.symm); have GHg1 := Aside0.mk (blk_lt hbox); have SZw2 := Aside0.mk hb.size; clear HB; have HB := nHB; clear nHB; clear hg hbox hb hk; have hz_g1_0_w2 : w2.cell? ⟨g1, 0, none⟩ = some (.slice A0_0 l0_0.length c0_0) := (blk_cell BKg1.out 0).trans rfl; have hf_g1_0_w2 := blk_frozen BKg1.out 0; have hz_g1_1_w2 : w2.cell? ⟨g1, 1, none⟩ = some (.slice A0_1 l0_1.length c0_1) := (blk_cell BKg1.out 1).trans rfl; have hf_g1_1_w2 := blk_frozen BKg1.out 1) | ((with_reducible refine gate_callee (f := 18) rfl ?_); refine goesL_ (some 18) rfl rfl Try.func18 (by kernel_rfl) rfl #[.agg #[.slice A0_0 l0_0.length c0_0, .slice A0_1 l0_1.length c0_1], .int .i64 1048576] rfl (by (try simp only [List.map_toArray, List.map_cons, List.map_nil]); first | done | rfl | (simp only [List.length_drop, List.length_take]; rfl)) ?_; (with_reducible refine (laws_szPool.calls k _ _ l0_0 _ _ l0_1 1048576 r4 _ ?side1 ?side2 ?side3 ?side4 Ee5.out).mono ?_); (case side1 => exact (Kd.C_below HR0_0.out HB.out)); (case side2 => exact HC0_0.out); (case side3 => exact (Kd.C_below HR0_1.out HB.out)); (case side4 => exact HC0_1.out); rintro ex_ w3 ⟨rfl, hb⟩; refine ⟨_, rfl, ?_⟩; have hk := Kept.of_below hb (fun _ => False); have nBKg1 := Aside0.mk (Op.mvB BKg1.out hk (fun hs => hs)); have nHB := Aside0.mk (below_step HB.out hb); have SZw3 := Aside0.mk hb.size; clear BKg1 HB; have BKg1 := nBKg1; have HB := nHB; clear nBKg1 nHB; clear hb hk; have hz_g1_0_w3 : w3.cell? ⟨g1, 0, none⟩ = some (.slice A0_0 l0_0.length c0_0) := (blk_cell BKg1.out 0).trans rfl; have hf_g1_0_w3 := blk_frozen BKg1.out 0; have hz_g1_1_w3 : w3.cell? ⟨g1, 1, none⟩ = some (.slice A0_1 l0_1.length c0_1) := (blk_cell BKg1.out 1).trans rfl; have hf_g1_1_w3 := blk_frozen BKg1.out 1) | ((with_reducible refine gate_callee (f := 20) rfl ?_); refine goesL_ (some 23) rfl rfl Try.func20 (by kernel_rfl) rfl #[.agg #[.slice A0_0 l0_0.length c0_0, .slice A0_1 l0_1.length c0_1]] rfl (by (try simp only [List.map_toArray, List.map_cons, List.map_nil]); first | done | rfl | (simp only [List.length_drop, List.length_take]; rfl)) ?_; (with_reducible refine (laws_toPool.calls k _ _ l0_0 _ _ l0_1 r7 r8 _ ?side1 ?side2 ?side3 ?side4 Ee9.out).mono ?_); (case side1 => exact (Kd.C_below HR0_0.out HB.out)); (case side2 => exact HC0_0.out); (case side3 => exact (Kd.C_below HR0_1.out HB.out)); (case side4 => exact HC0_1.out); rintro ex_ w6 ⟨ve9_0, ve9_1, rfl, ho0, ho1, hb⟩; refine ⟨_, rfl, ?_⟩; have hk := Kept.of_below hb (fun _ => False); have nBKg1 := Aside0.mk (Op.mvB BKg1.out hk (fun hs => hs)); have nHB := Aside0.mk (below_step HB.out hb); have SZw6 := Aside0.mk hb.size; have Oe9_0 := Aside0.mk (Op.inS ho0 (a := w3.heap.size) (b := w.heap.size) HB.out.size (Nat.le_refl _)); have Oe9_1 := Aside0.mk (Op.inR ho1 (a := w3.heap.size) (b := w.heap.size) HB.out.size (Nat.le_refl _)); clear BKg1 HB; have BKg1 := nBKg1; have HB := nHB; clear nBKg1 nHB; obtain ⟨Ae9_0, cAe9_0, ev_⟩ := Kd.S_slice Oe9_0.out; subst ev_; obtain ⟨Ae9_1, cAe9_1, ev_⟩ := Kd.R_slice Oe9_1.out; subst ev_; clear hb hk ho0 ho1; have hz_g1_0_w6 : w6.cell? ⟨g1, 0, none⟩ = some (.slice A0_0 l0_0.length c0_0) := (blk_cell BKg1.out 0).trans rfl; have hf_g1_0_w6 := blk_frozen BKg1.out 0; have hz_g1_1_w6 : w6.cell? ⟨g1, 1, none⟩ = some (.slice A0_1 l0_1.length c0_1) := (blk_cell BKg1.out 1).trans rfl; have hf_g1_1_w6 := blk_frozen BKg1.out 1) | ((with_reducible refine gate_callee (f := 24) rfl ?_); refine goesL_ (some 25) rfl rfl Try.func24 (by kernel_rfl) rfl #[.agg #[.slice Ae9_0 r7.length cAe9_0, .slice Ae9_1 r8.length cAe9_1], .int .i64 a1] rfl (by (try simp only [List.map_toArray, List.map_cons, List.map_nil]); first | done | rfl | (simp only [List.length_drop, List.length_take]; rfl)) ?_; (with_reducible refine (spec_AllIn.calls k _ _ r7 _ _ r8 a1 r11 r12 _ ?side1 ?side2 ?side3 ?side4 Ee13.out).mono ?_); (case side1 => exact (Kd.S_reads' Oe9_0.out).2.2); (case side2 => (have h_ := Kd.S_reads' Oe9_0.out; have h1_ := h_.1; have h2_ := h_.2.1; omega)); (case side3 => exact (Kd.R_reads' Oe9_1.out).2.2); (case side4 => (have h_ := Kd.R_reads' Oe9_1.out; have h1_ := h_.1; have h2_ := h_.2.1; omega)); rintro ex_ w10 ⟨ve13_0, rfl, ho0, hb⟩; refine ⟨_, rfl, ?_⟩; have hk := Kept.of_below hb (fun _ => False); have nOe9_0 := Aside0.mk (Op.mvS Oe9_0.out hk (fun _ _ hs => hs)); have nOe9_1 := Aside0.mk (Op.mvR Oe9_1.out hk (fun _ _ hs => hs)); have nBKg1 := Aside0.mk (Op.mvB BKg1.out hk (fun hs => hs)); have nHB := Aside0.mk (below_step HB.out hb); have SZw10 := Aside0.mk hb.size; have Oe13_0 := Aside0.mk (Op.inR ho0 (a := w6.heap.size) (b := w.heap.size) HB.out.size (Nat.le_refl _)); clear Oe9_0 Oe9_1 BKg1 HB; have Oe9_0 := nOe9_0; have Oe9_1 := nOe9_1; have BKg1 := nBKg1; have HB := nHB; clear nOe9_0 nOe9_1 nBKg1 nHB; obtain ⟨Ae13_0, cAe13_0, ev_⟩ := Kd.R_slice Oe13_0.out; subst ev_; clear hb hk ho0; have hz_g1_0_w10 : w10.cell? ⟨g1, 0, none⟩ = some (.slice A0_0 l0_0.length c0_0) := (blk_cell BKg1.out 0).trans rfl; have hf_g1_0_w10 := blk_frozen BKg1.out 0; have hz_g1_1_w10 : w10.cell? ⟨g1, 1, none⟩ = some (.slice A0_1 l0_1.length c0_1) := (blk_cell BKg1.out 1).trans rfl; have hf_g1_1_w10 := blk_frozen BKg1.out 1) | ((with_reducible refine gate_callee (f := 20) rfl ?_); refine goesL_ (some 29) rfl rfl Try.func20 (by kernel_rfl) rfl #[.agg #[.slice A0_0 l0_0.length c0_0, .slice A0_1 l0_1.length c0_1]] rfl (by (try simp only [List.map_toArray, List.map_cons, List.map_nil]); first | done | rfl | (simp only [List.length_drop, List.length_take]; rfl)) ?_; (with_reducible refine (laws_toPool.calls k _ _ l0_0 _ _ l0_1 r15 r16 _ ?side1 ?side2 ?side3 ?side4 Ee17.out).mono ?_); (case side1 => exact (Kd.C_below HR0_0.out HB.out)); (case side2 => exact HC0_0.out); (case side3 => exact (Kd.C_below HR0_1.out HB.out)); (case side4 => exact HC0_1.out); rintro ex_ w14 ⟨ve17_0, ve17_1, rfl, ho0, ho1, hb⟩; refine ⟨_, rfl, ?_⟩; have hk := Kept.of_below hb (fun _ => False); have nOe9_0 := Aside0.mk (Op.mvS Oe9_0.out hk (fun _ _ hs => hs)); have nOe9_1 := Aside0.mk (Op.mvR Oe9_1.out hk (fun _ _ hs => hs)); have nOe13_0 := Aside0.mk (Op.mvR Oe13_0.out hk (fun _ _ hs => hs)); have nBKg1 := Aside0.mk (Op.mvB BKg1.out hk (fun hs => hs)); have nHB := Aside0.mk (below_step HB.out hb); have SZw14 := Aside0.mk hb.size; have Oe17_0 := Aside0.mk (Op.inS ho0 (a := w10.heap.size) (b := w.heap.size) HB.out.size (Nat.le_refl _)); have Oe17_1 := Aside0.mk (Op.inR ho1 (a := w10.heap.size) (b := w.heap.size) HB.out.size (Nat.le_refl _)); clear Oe9_0 Oe9_1 Oe13_0 BKg1 HB; have Oe9_0 := nOe9_0; have Oe9_1 := nOe9_1; have Oe13_0 := nOe13_0; have BKg1 := nBKg1; have HB := nHB; clear nOe9_0 nOe9_1 nOe13_0 nBKg1 nHB; obtain ⟨Ae17_0, cAe17_0, ev_⟩ := Kd.S_slice Oe17_0.out; subst ev_; obtain ⟨Ae17_1, cAe17_1, ev_⟩ := Kd.R_slice Oe17_1.out; subst ev_; clear hb hk ho0 ho1; have hz_g1_0_w14 : w14.cell? ⟨g1, 0, none⟩ = some (.slice A0_0 l0_0.length c0_0) := (blk_cell BKg1.out 0).trans rfl; have hf_g1_0_w14 := blk_frozen BKg1.out 0; have hz_g1_1_w14 : w14.cell? ⟨g1, 1, none⟩ = some (.slice A0_1 l0_1.length c0_1) := (blk_cell BKg1.out 1).trans rfl; have hf_g1_1_w14 := blk_frozen BKg1.out 1) | ((with_reducible refine gate_dst (N := 8) rfl ?_); refine box_event ?hg (N := 8) ?hd (cs := #[.slice none 0 0, .slice none 0 0]) (t := 25) ?hr ?_; (case hd => rfl); (case hg => rfl); (case hr => first | (go_simp; done) | (go_simp; rfl)); intro g18 hg w19 hbox hb; have hk := Kept.of_below hb (fun _ => False); have nOe9_0 := Aside0.mk (Op.mvS Oe9_0.out hk (fun _ _ hs => hs)); have nOe9_1 := Aside0.mk (Op.mvR Oe9_1.out hk (fun _ _ hs => hs)); have nOe13_0 := Aside0.mk (Op.mvR Oe13_0.out hk (fun _ _ hs => hs)); have nOe17_0 := Aside0.mk (Op.mvS Oe17_0.out hk (fun _ _ hs => hs)); have nOe17_1 := Aside0.mk (Op.mvR Oe17_1.out hk (fun _ _ hs => hs)); have nBKg1 := Aside0.mk (Op.mvB BKg1.out hk (fun hs => hs)); have nHB := Aside0.mk (below_step HB.out hb); have BKg18 := Aside0.mk hbox; have GEg18 := Aside0.mk (show w.heap.size ≤ g18 from by rw [hg]; exact HB.out.size); have GLg18 := Aside0.mk (show w14.heap.size ≤ g18 from Nat.le_of_eq hg.symm); have GHg18 := Aside0.mk (blk_lt hbox); have SZw19 := Aside0.mk hb.size; clear Oe9_0 Oe9_1 Oe13_0 Oe17_0 Oe17_1 BKg1 HB; have Oe9_0 := nOe9_0; have Oe9_1 := nOe9_1; have Oe13_0 := nOe13_0; have Oe17_0 := nOe17_0; have Oe17_1 := nOe17_1; have BKg1 := nBKg1; have HB := nHB; clear nOe9_0 nOe9_1 nOe13_0 nOe17_0 nOe17_1 nBKg1 nHB; clear hg hbox hb hk; have hz_g1_0_w19 : w19.cell? ⟨g1, 0, none⟩ = some (.slice A0_0 l0_0.length c0_0) := (blk_cell BKg1.out 0).trans rfl; have hf_g1_0_w19 := blk_frozen BKg1.out 0; have hz_g1_1_w19 : w19.cell? ⟨g1, 1, none⟩ = some (.slice A0_1 l0_1.length c0_1) := (blk_cell BKg1.out 1).trans rfl; have hf_g1_1_w19 := blk_frozen BKg1.out 1; have hz_g18_0_w19 : w19.cell? ⟨g18, 0, none⟩ = some (.slice none 0 0) := (blk_cell BKg18.out 0).trans rfl; have hf_g18_0_w19 := blk_frozen BKg18.out 0; have hz_g18_1_w19 : w19.cell? ⟨g18, 1, none⟩ = some (.slice none 0 0) := (blk_cell BKg18.out 1).trans rfl; have hf_g18_1_w19 := blk_frozen BKg18.out 1) | ((with_reducible refine gate_store (t := 25) (p := 8) rfl ?_); refine store_event (t := 25) (p := 8) (v := ?vo_w20) (w1 := ((w19.setCell ⟨g18, 0, none⟩ (.slice Ae17_0 r15.length cAe17_0)).setCell ⟨g18, 1, none⟩ (.slice Ae17_1 r16.length cAe17_1))) ?hg ?ho ?hn ?hr ?_; (case ho => rfl); (case hg => rfl); (case hn => rfl); (case hr => first | (go_simp; done) | (go_simp; rfl)); intro w20 hw; have hk : Kept w19 w20 (fun j => j = g18) := (by rw [hw]; exact Op.kept_put (Op.kept_put (Kept.refl _ _) 0 _) 1 _); have nOe9_0 := Aside0.mk (Op.mvS Oe9_0.out hk (fun j hj hs => by (have hj2 := hj.2; have q0 := GLg1.out; have q1 := GHg1.out; have q2 := SZw2.out; have q3 := SZw3.out; have q4 := SZw6.out; have q5 := SZw10.out; have q6 := SZw14.out; have q7 := GLg18.out; have q8 := GHg18.out; have q9 := SZw19.out; have hs2 : j = g18 := hs; omega))); have nOe9_1 := Aside0.mk (Op.mvR Oe9_1.out hk (fun j hj hs => by (have hj2 := hj.2; have q0 := GLg1.out; have q1 := GHg1.out; have q2 := SZw2.out; have q3 := SZw3.out; have q4 := SZw6.out; have q5 := SZw10.out; have q6 := SZw14.out; have q7 := GLg18.out; have q8 := GHg18.out; have q9 := SZw19.out; have hs2 : j = g18 := hs; omega))); have nOe13_0 := Aside0.mk (Op.mvR Oe13_0.out hk (fun j hj hs => by (have hj2 := hj.2; have q0 := GLg1.out; have q1 := GHg1.out; have q2 := SZw2.out; have q3 := SZw3.out; have q4 := SZw6.out; have q5 := SZw10.out; have q6 := SZw14.out; have q7 := GLg18.out; have q8 := GHg18.out; have q9 := SZw19.out; have hs2 : j = g18 := hs; omega))); have nOe17_0 := Aside0.mk (Op.mvS Oe17_0.out hk (fun j hj hs => by (have hj2 := hj.2; have q0 := GLg1.out; have q1 := GHg1.out; have q2 := SZw2.out; have q3 := SZw3.out; have q4 := SZw6.out; have q5 := SZw10.out; have q6 := SZw14.out; have q7 := GLg18.out; have q8 := GHg18.out; have q9 := SZw19.out; have hs2 : j = g18 := hs; omega))); have nOe17_1 := Aside0.mk (Op.mvR Oe17_1.out hk (fun j hj hs => by (have hj2 := hj.2; have q0 := GLg1.out; have q1 := GHg1.out; have q2 := SZw2.out; have q3 := SZw3.out; have q4 := SZw6.out; have q5 := SZw10.out; have q6 := SZw14.out; have q7 := GLg18.out; have q8 := GHg18.out; have q9 := SZw19.out; have hs2 : j = g18 := hs; omega))); have nBKg1 := Aside0.mk (Op.mvB BKg1.out hk (fun hs => by (have q0 := GLg1.out; have q1 := GHg1.out; have q2 := SZw2.out; have q3 := SZw3.out; have q4 := SZw6.out; have q5 := SZw10.out; have q6 := SZw14.out; have q7 := GLg18.out; have q8 := GHg18.out; have q9 := SZw19.out; have hs2 : g1 = g18 := hs; omega))); have nBKg18 : Aside0 (w20.heap[g18]? = some (.cells #[.slice Ae17_0 r15.length cAe17_0, .slice Ae17_1 r16.length cAe17_1] 25 (0, 0))) := ⟨by rw [hw]; exact (blk_put (cs' := #[.slice Ae17_0 r15.length cAe17_0, .slice Ae17_1 r16.length cAe17_1]) (blk_put (cs' := #[.slice Ae17_0 r15.length cAe17_0, .slice none 0 0]) BKg18.out 0 _ rfl) 1 _ rfl)⟩; have nHB : Aside0 (Below w.heap.size w w20) := ⟨by rw [hw]; exact below_set (below_set (HB.out) GEg18.out) GEg18.out⟩; have SZw20 := Aside0.mk hk.1; clear Oe9_0 Oe9_1 Oe13_0 Oe17_0 Oe17_1 BKg1 BKg18 HB; have Oe9_0 := nOe9_0; have Oe9_1 := nOe9_1; have Oe13_0 := nOe13_0; have Oe17_0 := nOe17_0; have Oe17_1 := nOe17_1; have BKg1 := nBKg1; have BKg18 := nBKg18; have HB := nHB; clear nOe9_0 nOe9_1 nOe13_0 nOe17_0 nOe17_1 nBKg1 nBKg18 nHB; clear hw hk; have hz_g1_0_w20 : w20.cell? ⟨g1, 0, none⟩ = some (.slice A0_0 l0_0.length c0_0) := (blk_cell BKg1.out 0).trans rfl; have hf_g1_0_w20 := blk_frozen BKg1.out 0; have hz_g1_1_w20 : w20.cell? ⟨g1, 1, none⟩ = some (.slice A0_1 l0_1.length c0_1) := (blk_cell BKg1.out 1).trans rfl; have hf_g1_1_w20 := blk_frozen BKg1.out 1; have hz_g18_0_w20 : w20.cell? ⟨g18, 0, none⟩ = some (.slice Ae17_0 r15.length cAe17_0) := (blk_cell BKg18.out 0).trans rfl; have hf_g18_0_w20 := blk_frozen BKg18.out 0; have hz_g18_1_w20 : w20.cell? ⟨g18, 1, none⟩ = some (.slice Ae17_1 r16.length cAe17_1) := (blk_cell BKg18.out 1).trans rfl; have hf_g18_1_w20 := blk_frozen BKg18.out 1) | ((with_reducible refine gate_callee (f := 25) rfl ?_); refine goesL_ (some 33) rfl rfl Try.func25 (by kernel_rfl) rfl #[.agg #[.slice Ae17_0 r15.length cAe17_0, .slice Ae17_1 r16.length cAe17_1], .int .i64 a1] rfl (by (try simp only [List.map_toArray, List.map_cons, List.map_nil]); first | done | rfl | (simp only [List.length_drop, List.length_take]; rfl)) ?_; (with_reducible refine (impl_AllIn.calls k _ _ r15 _ _ r16 a1 r22 r23 _ ?side1 ?side2 ?side3 ?side4 Ee24.out).mono ?_); (case side1 => exact (Kd.S_reads' Oe17_0.out).2.2); (case side2 => (have h_ := Kd.S_reads' Oe17_0.out; have h1_ := h_.1; have h2_ := h_.2.1; omega)); (case side3 => exact (Kd.R_reads' Oe17_1.out).2.2); (case side4 => (have h_ := Kd.R_reads' Oe17_1.out; have h1_ := h_.1; have h2_ := h_.2.1; omega)); rintro ex_ w21 ⟨ve24_0, rfl, ho0, hb⟩; refine ⟨_, rfl, ?_⟩; have hk := Kept.of_below hb (fun _ => False); have nOe9_0 := Aside0.mk (Op.mvS Oe9_0.out hk (fun _ _ hs => hs)); have nOe9_1 := Aside0.mk (Op.mvR Oe9_1.out hk (fun _ _ hs => hs)); have nOe13_0 := Aside0.mk (Op.mvR Oe13_0.out hk (fun _ _ hs => hs)); have nOe17_0 := Aside0.mk (Op.mvS Oe17_0.out hk (fun _ _ hs => hs)); have nOe17_1 := Aside0.mk (Op.mvR Oe17_1.out hk (fun _ _ hs => hs)); have nBKg1 := Aside0.mk (Op.mvB BKg1.out hk (fun hs => hs)); have nBKg18 := Aside0.mk (Op.mvB BKg18.out hk (fun hs => hs)); have nHB := Aside0.mk (below_step HB.out hb); have SZw21 := Aside0.mk hb.size; have Oe24_0 := Aside0.mk (Op.inR ho0 (a := w20.heap.size) (b := w.heap.size) HB.out.size (Nat.le_refl _)); clear Oe9_0 Oe9_1 Oe13_0 Oe17_0 Oe17_1 BKg1 BKg18 HB; have Oe9_0 := nOe9_0; have Oe9_1 := nOe9_1; have Oe13_0 := nOe13_0; have Oe17_0 := nOe17_0; have Oe17_1 := nOe17_1; have BKg1 := nBKg1; have BKg18 := nBKg18; have HB := nHB; clear nOe9_0 nOe9_1 nOe13_0 nOe17_0 nOe17_1 nBKg1 nBKg18 nHB; obtain ⟨Ae24_0, cAe24_0, ev_⟩ := Kd.R_slice Oe24_0.out; subst ev_; clear hb hk ho0; have hz_g1_0_w21 : w21.cell? ⟨g1, 0, none⟩ = some (.slice A0_0 l0_0.length c0_0) := (blk_cell BKg1.out 0).trans rfl; have hf_g1_0_w21 := blk_frozen BKg1.out 0; have hz_g1_1_w21 : w21.cell? ⟨g1, 1, none⟩ = some (.slice A0_1 l0_1.length c0_1) := (blk_cell BKg1.out 1).trans rfl; have hf_g1_1_w21 := blk_frozen BKg1.out 1; have hz_g18_0_w21 : w21.cell? ⟨g18, 0, none⟩ = some (.slice Ae17_0 r15.length cAe17_0) := (blk_cell BKg18.out 0).trans rfl; have hf_g18_0_w21 := blk_frozen BKg18.out 0; have hz_g18_1_w21 : w21.cell? ⟨g18, 1, none⟩ = some (.slice Ae17_1 r16.length cAe17_1) := (blk_cell BKg18.out 1).trans rfl; have hf_g18_1_w21 := blk_frozen BKg18.out 1) | ((with_reducible refine gate_callee (f := 26) rfl ?_); refine goesL_ (some 38) rfl rfl Try.func26 (by kernel_rfl) rfl #[.slice Ae24_0 r22.length cAe24_0, .slice Ae13_0 r11.length cAe13_0] rfl (by (try simp only [List.map_toArray, List.map_cons, List.map_nil]); first | done | rfl | (simp only [List.length_drop, List.length_take]; rfl)) ?_; (with_reducible refine (laws_eqIntS.calls k _ _ r22 _ _ r11 true _ ?side1 ?side2 ?side3 ?side4 Ee27.out).mono ?_); (case side1 => exact (Kd.R_reads' Oe24_0.out).2.2); (case side2 => (have h_ := Kd.R_reads' Oe24_0.out; have h1_ := h_.1; have h2_ := h_.2.1; omega)); (case side3 => exact (Kd.R_reads' Oe13_0.out).2.2); (case side4 => (have h_ := Kd.R_reads' Oe13_0.out; have h1_ := h_.1; have h2_ := h_.2.1; omega)); rintro ex_ w25 ⟨rfl, hd⟩; refine ⟨_, rfl, ?_⟩; have hb := hd.below; have hk := Kept.of_below hb (fun _ => False); have nOe9_0 := Aside0.mk (Op.mvS Oe9_0.out hk (fun _ _ hs => hs)); have nOe9_1 := Aside0.mk (Op.mvR Oe9_1.out hk (fun _ _ hs => hs)); have nOe13_0 := Aside0.mk (Op.mvR Oe13_0.out hk (fun _ _ hs => hs)); have nOe17_0 := Aside0.mk (Op.mvS Oe17_0.out hk (fun _ _ hs => hs)); have nOe17_1 := Aside0.mk (Op.mvR Oe17_1.out hk (fun _ _ hs => hs)); have nOe24_0 := Aside0.mk (Op.mvR Oe24_0.out hk (fun _ _ hs => hs)); have nBKg1 := Aside0.mk (Op.mvB BKg1.out hk (fun hs => hs)); have nBKg18 := Aside0.mk (Op.mvB BKg18.out hk (fun hs => hs)); have nHB := Aside0.mk (below_step HB.out hb); have SZw25 := Aside0.mk hb.size; clear Oe9_0 Oe9_1 Oe13_0 Oe17_0 Oe17_1 Oe24_0 BKg1 BKg18 HB; have Oe9_0 := nOe9_0; have Oe9_1 := nOe9_1; have Oe13_0 := nOe13_0; have Oe17_0 := nOe17_0; have Oe17_1 := nOe17_1; have Oe24_0 := nOe24_0; have BKg1 := nBKg1; have BKg18 := nBKg18; have HB := nHB; clear nOe9_0 nOe9_1 nOe13_0 nOe17_0 nOe17_1 nOe24_0 nBKg1 nBKg18 nHB; clear hb hk hd; have hz_g1_0_w25 : w25.cell? ⟨g1, 0, none⟩ = some (.slice A0_0 l0_0.length c0_0) := (blk_cell BKg1.out 0).trans rfl; have hf_g1_0_w25 := blk_frozen BKg1.out 0; have hz_g1_1_w25 : w25.cell? ⟨g1, 1, none⟩ = some (.slice A0_1 l0_1.length c0_1) := (blk_cell BKg1.out 1).trans rfl; have hf_g1_1_w25 := blk_frozen BKg1.out 1; have hz_g18_0_w25 : w25.cell? ⟨g18, 0, none⟩ = some (.slice Ae17_0 r15.length cAe17_0) := (blk_cell BKg18.out 0).trans rfl; have hf_g18_0_w25 := blk_frozen BKg18.out 0; have hz_g18_1_w25 : w25.cell? ⟨g18, 1, none⟩ = some (.slice Ae17_1 r16.length cAe17_1) := (blk_cell BKg18.out 1).trans rfl; have hf_g18_1_w25 := blk_frozen BKg18.out 1))
  (try simp only [Act.put, List.setIfInBounds_toArray, List.set_cons_zero, List.set_cons_succ])
  have nOe9_0 := Aside0.mk (Kd.S_drew Oe9_0.out)
  have nOe9_1 := Aside0.mk (Kd.R_drew Oe9_1.out)
  have nOe13_0 := Aside0.mk (Kd.R_drew Oe13_0.out)
  have nOe17_0 := Aside0.mk (Kd.S_drew Oe17_0.out)
  have nOe17_1 := Aside0.mk (Kd.R_drew Oe17_1.out)
  have nOe24_0 := Aside0.mk (Kd.R_drew Oe24_0.out)
  have nBKg1 := Aside0.mk (blk_drew BKg1.out)
  have nBKg18 := Aside0.mk (blk_drew BKg18.out)
  have nHB := Aside0.mk (below_drew1 HB.out)
  have SZw28 : Aside0 (w25.heap.size ≤ w25.drew.heap.size) := ⟨Nat.le_refl _⟩
  clear Oe9_0 Oe9_1 Oe13_0 Oe17_0 Oe17_1 Oe24_0 BKg1 BKg18 HB
  have Oe9_0 := nOe9_0
  have Oe9_1 := nOe9_1
  have Oe13_0 := nOe13_0
  have Oe17_0 := nOe17_0
  have Oe17_1 := nOe17_1
  have Oe24_0 := nOe24_0
  have BKg1 := nBKg1
  have BKg18 := nBKg18
  have HB := nHB
  clear nOe9_0 nOe9_1 nOe13_0 nOe17_0 nOe17_1 nOe24_0 nBKg1 nBKg18 nHB
  refine start_ (n := 5) (S := fun w' => w'.cell? ⟨g18, 0, none⟩ = some (.slice Ae17_0 r15.length cAe17_0) ∧ w'.cell? ⟨g18, 1, none⟩ = some (.slice Ae17_1 r16.length cAe17_1) ∧ w'.cell? ⟨g1, 0, none⟩ = some (.slice A0_0 l0_0.length c0_0) ∧ w'.cell? ⟨g1, 1, none⟩ = some (.slice A0_1 l0_1.length c0_1)) (ds := []) #[false, false, false, false, false] (by kernel_rfl) rfl rfl ⟨(blk_cell BKg18.out 0).trans rfl, (blk_cell BKg18.out 1).trans rfl, (blk_cell BKg1.out 0).trans rfl, (blk_cell BKg1.out 1).trans rfl⟩ (fun hHeld => ?_)
  generalize w25.drew = w28 at Oe9_0 Oe9_1 Oe13_0 Oe17_0 Oe17_1 Oe24_0 BKg1 BKg18 HB SZw28 hHeld ⊢
  refine take_ (i := 0) (N := some 45) (v := ?_) (a' := ?_) #[true, false, false, false, false] rfl rfl (by kernel_rfl) (fun _ _ _ h => h) (Or.inl ⟨by rfl, ?_⟩) hHeld ?_ ?_
  rotate_left
  · rintro w' ⟨s0, s1, s2, s3⟩
    go_simp
    with_reducible rfl
  rotate_left
  · simp only [Act.put, List.setIfInBounds_toArray, List.set_cons_zero, List.set_cons_succ, i64_w, i32_w]
    rfl
  refine take_ (i := 1) (N := some 46) (v := ?_) (a' := ?_) #[true, true, false, false, false] rfl rfl (by kernel_rfl) (fun _ _ _ h => h) (Or.inl ⟨by rfl, ?_⟩) hHeld ?_ ?_
  rotate_left
  · rintro w' ⟨s0, s1, s2, s3⟩
    go_simp
    with_reducible rfl
  rotate_left
  · simp only [Act.put, List.setIfInBounds_toArray, List.set_cons_zero, List.set_cons_succ, i64_w, i32_w]
    rfl
  refine one_ (i := 2) (N := some 47) #[true, true, true, false, false] rfl rfl (by kernel_rfl) (by decide) (fun K hK => ?_)
  refine goes_ Try.func20 (by kernel_rfl) rfl #[.agg #[.slice A0_0 l0_0.length c0_0, .slice A0_1 l0_1.length c0_1]] (by rfl) rfl rfl (by (try simp only [List.map_toArray, List.map_cons, List.map_nil]); first | done | rfl | (simp only [List.length_drop, List.length_take]; rfl)) ?_
  (with_reducible refine (laws_toPool.calls k _ _ l0_0 _ _ l0_1 r30 r31 _ ?side1 ?side2 ?side3 ?side4 Ee32.out).mono ?_)
  (case side1 => exact (Kd.C_below HR0_0.out HB.out))
  (case side2 => exact HC0_0.out)
  (case side3 => exact (Kd.C_below HR0_1.out HB.out))
  (case side4 => exact HC0_1.out)
  rintro ex_ w29 ⟨ve32_0, ve32_1, rfl, ho0, ho1, hb⟩
  refine ⟨_, rfl, ?_⟩
  have hk := Kept.of_below hb (fun _ => False)
  have nOe9_0 := Aside0.mk (Op.mvS Oe9_0.out hk (fun _ _ hs => hs))
  have nOe9_1 := Aside0.mk (Op.mvR Oe9_1.out hk (fun _ _ hs => hs))
  have nOe13_0 := Aside0.mk (Op.mvR Oe13_0.out hk (fun _ _ hs => hs))
  have nOe17_0 := Aside0.mk (Op.mvS Oe17_0.out hk (fun _ _ hs => hs))
  have nOe17_1 := Aside0.mk (Op.mvR Oe17_1.out hk (fun _ _ hs => hs))
  have nOe24_0 := Aside0.mk (Op.mvR Oe24_0.out hk (fun _ _ hs => hs))
  have nBKg1 := Aside0.mk (Op.mvB BKg1.out hk (fun hs => hs))
  have nBKg18 := Aside0.mk (Op.mvB BKg18.out hk (fun hs => hs))
  have nHB := Aside0.mk (below_step HB.out hb)
  have SZw29 := Aside0.mk hb.size
  have Oe32_0 := Aside0.mk (Op.inS ho0 (a := w28.heap.size) (b := w.heap.size) HB.out.size (Nat.le_refl _))
  have Oe32_1 := Aside0.mk (Op.inR ho1 (a := w28.heap.size) (b := w.heap.size) HB.out.size (Nat.le_refl _))
  clear Oe9_0 Oe9_1 Oe13_0 Oe17_0 Oe17_1 Oe24_0 BKg1 BKg18 HB
  have Oe9_0 := nOe9_0
  have Oe9_1 := nOe9_1
  have Oe13_0 := nOe13_0
  have Oe17_0 := nOe17_0
  have Oe17_1 := nOe17_1
  have Oe24_0 := nOe24_0
  have BKg1 := nBKg1
  have BKg18 := nBKg18
  have HB := nHB
  clear nOe9_0 nOe9_1 nOe13_0 nOe17_0 nOe17_1 nOe24_0 nBKg1 nBKg18 nHB
  obtain ⟨Ae32_0, cAe32_0, ev_⟩ := Kd.S_slice Oe32_0.out
  subst ev_
  obtain ⟨Ae32_1, cAe32_1, ev_⟩ := Kd.R_slice Oe32_1.out
  subst ev_
  clear hb hk ho0 ho1
  refine hK.out _ _ ⟨(blk_cell BKg18.out 0).trans rfl, (blk_cell BKg18.out 1).trans rfl, (blk_cell BKg1.out 0).trans rfl, (blk_cell BKg1.out 1).trans rfl⟩ (fun hHeld => ?_)
  clear hK K
  refine norm_ (a' := ?_) ?_ ?_
  rotate_left
  · show Act.put _ (some 47) _ = _
    simp only [Act.put, List.setIfInBounds_toArray, List.set_cons_zero, List.set_cons_succ, i64_w, i32_w]
    rfl
  refine one_ (i := 3) (N := some 48) #[true, true, true, true, false] rfl rfl (by kernel_rfl) (by decide) (fun K hK => ?_)
  refine goes_ Try.func15 (by kernel_rfl) rfl #[.agg #[.slice Ae17_0 r15.length cAe17_0, .slice Ae17_1 r16.length cAe17_1], .agg #[.slice Ae32_0 r30.length cAe32_0, .slice Ae32_1 r31.length cAe32_1]] (by rfl) rfl rfl (by (try simp only [List.map_toArray, List.map_cons, List.map_nil]); first | done | rfl | (simp only [List.length_drop, List.length_take]; rfl)) ?_
  (with_reducible refine (laws_eqPool.calls k _ _ r15 _ _ r16 _ _ r30 _ _ r31 true _ ?side1 ?side2 ?side3 ?side4 ?side5 ?side6 ?side7 ?side8 Ee35.out).mono ?_)
  (case side1 => exact (Kd.S_reads' Oe17_0.out).2.2)
  (case side2 => (have h_ := Kd.S_reads' Oe17_0.out; have h1_ := h_.1; have h2_ := h_.2.1; omega))
  (case side3 => exact (Kd.R_reads' Oe17_1.out).2.2)
  (case side4 => (have h_ := Kd.R_reads' Oe17_1.out; have h1_ := h_.1; have h2_ := h_.2.1; omega))
  (case side5 => exact (Kd.S_reads' Oe32_0.out).2.2)
  (case side6 => (have h_ := Kd.S_reads' Oe32_0.out; have h1_ := h_.1; have h2_ := h_.2.1; omega))
  (case side7 => exact (Kd.R_reads' Oe32_1.out).2.2)
  (case side8 => (have h_ := Kd.R_reads' Oe32_1.out; have h1_ := h_.1; have h2_ := h_.2.1; omega))
  rintro ex_ w33 ⟨rfl, hb⟩
  refine ⟨_, rfl, ?_⟩
  have hk := Kept.of_below hb (fun _ => False)
  have nOe9_0 := Aside0.mk (Op.mvS Oe9_0.out hk (fun _ _ hs => hs))
  have nOe9_1 := Aside0.mk (Op.mvR Oe9_1.out hk (fun _ _ hs => hs))
  have nOe13_0 := Aside0.mk (Op.mvR Oe13_0.out hk (fun _ _ hs => hs))
  have nOe17_0 := Aside0.mk (Op.mvS Oe17_0.out hk (fun _ _ hs => hs))
  have nOe17_1 := Aside0.mk (Op.mvR Oe17_1.out hk (fun _ _ hs => hs))
  have nOe24_0 := Aside0.mk (Op.mvR Oe24_0.out hk (fun _ _ hs => hs))
  have nOe32_0 := Aside0.mk (Op.mvS Oe32_0.out hk (fun _ _ hs => hs))
  have nOe32_1 := Aside0.mk (Op.mvR Oe32_1.out hk (fun _ _ hs => hs))
  have nBKg1 := Aside0.mk (Op.mvB BKg1.out hk (fun hs => hs))
  have nBKg18 := Aside0.mk (Op.mvB BKg18.out hk (fun hs => hs))
  have nHB := Aside0.mk (below_step HB.out hb)
  have SZw33 := Aside0.mk hb.size
  clear Oe9_0 Oe9_1 Oe13_0 Oe17_0 Oe17_1 Oe24_0 Oe32_0 Oe32_1 BKg1 BKg18 HB
  have Oe9_0 := nOe9_0
  have Oe9_1 := nOe9_1
  have Oe13_0 := nOe13_0
  have Oe17_0 := nOe17_0
  have Oe17_1 := nOe17_1
  have Oe24_0 := nOe24_0
  have Oe32_0 := nOe32_0
  have Oe32_1 := nOe32_1
  have BKg1 := nBKg1
  have BKg18 := nBKg18
  have HB := nHB
  clear nOe9_0 nOe9_1 nOe13_0 nOe17_0 nOe17_1 nOe24_0 nOe32_0 nOe32_1 nBKg1 nBKg18 nHB
  clear hb hk
  refine hK.out _ _ ⟨(blk_cell BKg18.out 0).trans rfl, (blk_cell BKg18.out 1).trans rfl, (blk_cell BKg1.out 0).trans rfl, (blk_cell BKg1.out 1).trans rfl⟩ (fun hHeld => ?_)
  clear hK K
  refine norm_ (a' := ?_) ?_ ?_
  rotate_left
  · show Act.put _ (some 48) _ = _
    simp only [Act.put, List.setIfInBounds_toArray, List.set_cons_zero, List.set_cons_succ, i64_w, i32_w]
    rfl
  refine pure_ (i := 4) (N := some 49) (v := ?_) (a' := ?_) #[true, true, true, true, true] rfl rfl (by kernel_rfl) (fun _ _ _ h => h) (Or.inl ⟨by rfl, ?_⟩) ?_ ?_
  rotate_left
  · intro w'
    go_simp
    with_reducible rfl
  rotate_left
  · simp only [Act.put, List.setIfInBounds_toArray, List.set_cons_zero, List.set_cons_succ, i64_w, i32_w]
    rfl
  refine done_ (by kernel_rfl) ?_
  have hz_g1_0_w33 : w33.cell? ⟨g1, 0, none⟩ = some (.slice A0_0 l0_0.length c0_0) := (blk_cell BKg1.out 0).trans rfl
  have hf_g1_0_w33 := blk_frozen BKg1.out 0
  have hz_g1_1_w33 : w33.cell? ⟨g1, 1, none⟩ = some (.slice A0_1 l0_1.length c0_1) := (blk_cell BKg1.out 1).trans rfl
  have hf_g1_1_w33 := blk_frozen BKg1.out 1
  have hz_g18_0_w33 : w33.cell? ⟨g18, 0, none⟩ = some (.slice Ae17_0 r15.length cAe17_0) := (blk_cell BKg18.out 0).trans rfl
  have hf_g18_0_w33 := blk_frozen BKg18.out 0
  have hz_g18_1_w33 : w33.cell? ⟨g18, 1, none⟩ = some (.slice Ae17_1 r16.length cAe17_1) := (blk_cell BKg18.out 1).trans rfl
  have hf_g18_1_w33 := blk_frozen BKg18.out 1
  go_wp2_with (first | ((with_reducible refine gate_callee (f := 16) rfl ?_); refine goesL_ (some 52) rfl rfl Try.func16 (by kernel_rfl) rfl #[.agg #[.slice Ae17_0 r15.length cAe17_0, .slice Ae17_1 r16.length cAe17_1], .int .i64 1] rfl (by (try simp only [List.map_toArray, List.map_cons, List.map_nil]); first | done | rfl | (simp only [List.length_drop, List.length_take]; rfl)) ?_; have tOe17_1 := Aside0.mk (Op.tiR rfl Oe17_1.out); (with_reducible refine (laws_markPool.calls k _ _ _ _ r15 r16 1 r37 r38 r39 w _ HB.out Oe17_0.out tOe17_1.out ?sd0 Ee40.out).mono ?_); (case sd0 => (intro j h1 h2; first | exact h1.1 h2.1 | exact h1.1.1 h2.1 | exact h1.1.2 h2.1 | exact (Oe17_1.out.1 j h1.1.symm).1 h2.1 | exact (Oe17_1.out.1 j h1.1.symm).1.1 h2.1 | exact (Oe17_1.out.1 j h1.1.symm).1.2 h2.1 | exact (Oe17_1.out.1 j h2.1.symm).1 h1.1 | exact (Oe17_1.out.1 j h2.1.symm).1.1 h1.1 | exact (Oe17_1.out.1 j h2.1.symm).1.2 h1.1)); rintro ex_ w36 ⟨rfl, ho0, ho1, hb, hk⟩; refine ⟨_, rfl, ?_⟩; have nOe9_0 := Aside0.mk (Op.mvS Oe9_0.out hk (fun j hj hs => by (have hj2 := hj.2; have q0 := GLg1.out; have q1 := GHg1.out; have q2 := SZw2.out; have q3 := SZw3.out; have q4 := SZw6.out; have q5 := SZw10.out; have q6 := SZw14.out; have q7 := GLg18.out; have q8 := GHg18.out; have q9 := SZw19.out; have q10 := SZw20.out; have q11 := SZw21.out; have q12 := SZw25.out; have q13 := SZw28.out; have q14 := SZw29.out; have q15 := SZw33.out; exact Or.elim hs (fun hs => by (have hs2 := hs.2; omega)) (fun hs => by (have hs2 := hs.2.2; omega))))); have nOe9_1 := Aside0.mk (Op.mvR Oe9_1.out hk (fun j hj hs => by (have hj2 := hj.2; have q0 := GLg1.out; have q1 := GHg1.out; have q2 := SZw2.out; have q3 := SZw3.out; have q4 := SZw6.out; have q5 := SZw10.out; have q6 := SZw14.out; have q7 := GLg18.out; have q8 := GHg18.out; have q9 := SZw19.out; have q10 := SZw20.out; have q11 := SZw21.out; have q12 := SZw25.out; have q13 := SZw28.out; have q14 := SZw29.out; have q15 := SZw33.out; exact Or.elim hs (fun hs => by (have hs2 := hs.2; omega)) (fun hs => by (have hs2 := hs.2.2; omega))))); have nOe13_0 := Aside0.mk (Op.mvR Oe13_0.out hk (fun j hj hs => by (have hj2 := hj.2; have q0 := GLg1.out; have q1 := GHg1.out; have q2 := SZw2.out; have q3 := SZw3.out; have q4 := SZw6.out; have q5 := SZw10.out; have q6 := SZw14.out; have q7 := GLg18.out; have q8 := GHg18.out; have q9 := SZw19.out; have q10 := SZw20.out; have q11 := SZw21.out; have q12 := SZw25.out; have q13 := SZw28.out; have q14 := SZw29.out; have q15 := SZw33.out; exact Or.elim hs (fun hs => by (have hs2 := hs.2; omega)) (fun hs => by (have hs2 := hs.2.2; omega))))); have nOe24_0 := Aside0.mk (Op.mvR Oe24_0.out hk (fun j hj hs => by (have hj2 := hj.2; have q0 := GLg1.out; have q1 := GHg1.out; have q2 := SZw2.out; have q3 := SZw3.out; have q4 := SZw6.out; have q5 := SZw10.out; have q6 := SZw14.out; have q7 := GLg18.out; have q8 := GHg18.out; have q9 := SZw19.out; have q10 := SZw20.out; have q11 := SZw21.out; have q12 := SZw25.out; have q13 := SZw28.out; have q14 := SZw29.out; have q15 := SZw33.out; exact Or.elim hs (fun hs => by (have hs2 := hs.2; omega)) (fun hs => by (have hs2 := hs.2.2; omega))))); have nOe32_0 := Aside0.mk (Op.mvS Oe32_0.out hk (fun j hj hs => by (have hj2 := hj.2; have q0 := GLg1.out; have q1 := GHg1.out; have q2 := SZw2.out; have q3 := SZw3.out; have q4 := SZw6.out; have q5 := SZw10.out; have q6 := SZw14.out; have q7 := GLg18.out; have q8 := GHg18.out; have q9 := SZw19.out; have q10 := SZw20.out; have q11 := SZw21.out; have q12 := SZw25.out; have q13 := SZw28.out; have q14 := SZw29.out; have q15 := SZw33.out; exact Or.elim hs (fun hs => by (have hs2 := hs.2; omega)) (fun hs => by (have hs2 := hs.2.2; omega))))); have nOe32_1 := Aside0.mk (Op.mvR Oe32_1.out hk (fun j hj hs => by (have hj2 := hj.2; have q0 := GLg1.out; have q1 := GHg1.out; have q2 := SZw2.out; have q3 := SZw3.out; have q4 := SZw6.out; have q5 := SZw10.out; have q6 := SZw14.out; have q7 := GLg18.out; have q8 := GHg18.out; have q9 := SZw19.out; have q10 := SZw20.out; have q11 := SZw21.out; have q12 := SZw25.out; have q13 := SZw28.out; have q14 := SZw29.out; have q15 := SZw33.out; exact Or.elim hs (fun hs => by (have hs2 := hs.2; omega)) (fun hs => by (have hs2 := hs.2.2; omega))))); have nBKg1 := Aside0.mk (Op.mvB BKg1.out hk (fun hs => by (have q0 := GLg1.out; have q1 := GHg1.out; have q2 := SZw2.out; have q3 := SZw3.out; have q4 := SZw6.out; have q5 := SZw10.out; have q6 := SZw14.out; have q7 := GLg18.out; have q8 := GHg18.out; have q9 := SZw19.out; have q10 := SZw20.out; have q11 := SZw21.out; have q12 := SZw25.out; have q13 := SZw28.out; have q14 := SZw29.out; have q15 := SZw33.out; exact Or.elim hs (fun hs => by (have hs2 := hs.2; omega)) (fun hs => by (have hs2 := hs.2.2; omega))))); have nBKg18 := Aside0.mk (Op.mvB BKg18.out hk (fun hs => by (have q0 := GLg1.out; have q1 := GHg1.out; have q2 := SZw2.out; have q3 := SZw3.out; have q4 := SZw6.out; have q5 := SZw10.out; have q6 := SZw14.out; have q7 := GLg18.out; have q8 := GHg18.out; have q9 := SZw19.out; have q10 := SZw20.out; have q11 := SZw21.out; have q12 := SZw25.out; have q13 := SZw28.out; have q14 := SZw29.out; have q15 := SZw33.out; exact Or.elim hs (fun hs => by (have hs2 := hs.2; omega)) (fun hs => by (have hs2 := hs.2.2; omega))))); have nHB := Aside0.mk hb; have SZw36 := Aside0.mk hk.1; have nOe17_0 := Aside0.mk ho0; have nOe17_1 := Aside0.mk (Kd.R_reok rfl ho1 Oe17_1.out.1); clear Oe9_0 Oe9_1 Oe13_0 Oe24_0 Oe32_0 Oe32_1 BKg1 BKg18 Oe17_0 Oe17_1 HB; have Oe9_0 := nOe9_0; have Oe9_1 := nOe9_1; have Oe13_0 := nOe13_0; have Oe24_0 := nOe24_0; have Oe32_0 := nOe32_0; have Oe32_1 := nOe32_1; have BKg1 := nBKg1; have BKg18 := nBKg18; have Oe17_0 := nOe17_0; have Oe17_1 := nOe17_1; have HB := nHB; clear nOe9_0 nOe9_1 nOe13_0 nOe24_0 nOe32_0 nOe32_1 nBKg1 nBKg18 nOe17_0 nOe17_1 nHB; clear hb hk ho0 ho1 tOe17_1; have hz_g1_0_w36 : w36.cell? ⟨g1, 0, none⟩ = some (.slice A0_0 l0_0.length c0_0) := (blk_cell BKg1.out 0).trans rfl; have hf_g1_0_w36 := blk_frozen BKg1.out 0; have hz_g1_1_w36 : w36.cell? ⟨g1, 1, none⟩ = some (.slice A0_1 l0_1.length c0_1) := (blk_cell BKg1.out 1).trans rfl; have hf_g1_1_w36 := blk_frozen BKg1.out 1; have hz_g18_0_w36 : w36.cell? ⟨g18, 0, none⟩ = some (.slice Ae17_0 r15.length cAe17_0) := (blk_cell BKg18.out 0).trans rfl; have hf_g18_0_w36 := blk_frozen BKg18.out 0; have hz_g18_1_w36 : w36.cell? ⟨g18, 1, none⟩ = some (.slice Ae17_1 r16.length cAe17_1) := (blk_cell BKg18.out 1).trans rfl; have hf_g18_1_w36 := blk_frozen BKg18.out 1; have hl_ := (Kd.S_reads' Oe17_0.out).1; have LOe17_0_r38 := Aside0.mk hl_; clear hl_; have hl_ := (Kd.R_reads' Oe17_1.out).1; have LOe17_1_r39 := Aside0.mk hl_; clear hl_) | (go_at_call 26; (with_reducible refine (laws_eqIntS.calls k _ _ r22 _ _ r11 true _ ?side1 ?side2 ?side3 ?side4 Ee43.out).mono ?_); (case side1 => exact (Kd.R_reads' Oe24_0.out).2.2); (case side2 => (have h_ := Kd.R_reads' Oe24_0.out; have h1_ := h_.1; have h2_ := h_.2.1; omega)); (case side3 => exact (Kd.R_reads' Oe13_0.out).2.2); (case side4 => (have h_ := Kd.R_reads' Oe13_0.out; have h1_ := h_.1; have h2_ := h_.2.1; omega)); rintro ex_ w41 ⟨rfl, hd⟩; have hb := hd.below; have hk := Kept.of_below hb (fun _ => False); have nOe9_0 := Aside0.mk (Op.mvS Oe9_0.out hk (fun _ _ hs => hs)); have nOe9_1 := Aside0.mk (Op.mvR Oe9_1.out hk (fun _ _ hs => hs)); have nOe13_0 := Aside0.mk (Op.mvR Oe13_0.out hk (fun _ _ hs => hs)); have nOe17_0 := Aside0.mk (Op.mvS Oe17_0.out hk (fun _ _ hs => hs)); have nOe17_1 := Aside0.mk (Op.mvR Oe17_1.out hk (fun _ _ hs => hs)); have nOe24_0 := Aside0.mk (Op.mvR Oe24_0.out hk (fun _ _ hs => hs)); have nOe32_0 := Aside0.mk (Op.mvS Oe32_0.out hk (fun _ _ hs => hs)); have nOe32_1 := Aside0.mk (Op.mvR Oe32_1.out hk (fun _ _ hs => hs)); have nBKg1 := Aside0.mk (Op.mvB BKg1.out hk (fun hs => hs)); have nBKg18 := Aside0.mk (Op.mvB BKg18.out hk (fun hs => hs)); have nHB := Aside0.mk (below_step HB.out hb); have SZw41 := Aside0.mk hb.size; clear Oe9_0 Oe9_1 Oe13_0 Oe17_0 Oe17_1 Oe24_0 Oe32_0 Oe32_1 BKg1 BKg18 HB; have Oe9_0 := nOe9_0; have Oe9_1 := nOe9_1; have Oe13_0 := nOe13_0; have Oe17_0 := nOe17_0; have Oe17_1 := nOe17_1; have Oe24_0 := nOe24_0; have Oe32_0 := nOe32_0; have Oe32_1 := nOe32_1; have BKg1 := nBKg1; have BKg18 := nBKg18; have HB := nHB; clear nOe9_0 nOe9_1 nOe13_0 nOe17_0 nOe17_1 nOe24_0 nOe32_0 nOe32_1 nBKg1 nBKg18 nHB; clear hb hk hd; have hz_g1_0_w41 : w41.cell? ⟨g1, 0, none⟩ = some (.slice A0_0 l0_0.length c0_0) := (blk_cell BKg1.out 0).trans rfl; have hf_g1_0_w41 := blk_frozen BKg1.out 0; have hz_g1_1_w41 : w41.cell? ⟨g1, 1, none⟩ = some (.slice A0_1 l0_1.length c0_1) := (blk_cell BKg1.out 1).trans rfl; have hf_g1_1_w41 := blk_frozen BKg1.out 1; have hz_g18_0_w41 : w41.cell? ⟨g18, 0, none⟩ = some (.slice Ae17_0 r15.length cAe17_0) := (blk_cell BKg18.out 0).trans rfl; have hf_g18_0_w41 := blk_frozen BKg18.out 0; have hz_g18_1_w41 : w41.cell? ⟨g18, 1, none⟩ = some (.slice Ae17_1 r16.length cAe17_1) := (blk_cell BKg18.out 1).trans rfl; have hf_g18_1_w41 := blk_frozen BKg18.out 1) | ((with_reducible refine gate_callee (f := 27) rfl ?_); refine goesL_ (some 68) rfl rfl Try.func27 (by kernel_rfl) rfl #[.slice Ae24_0 r22.length cAe24_0, .int .i64 1] rfl (by (try simp only [List.map_toArray, List.map_cons, List.map_nil]); first | done | rfl | (simp only [List.length_drop, List.length_take]; rfl)) ?_; have tOe24_0 := Aside0.mk (Op.tiR rfl Oe24_0.out); (with_reducible refine (laws_markIntS.calls k _ _ r22 1 r45 r46 w _ HB.out tOe24_0.out Ee47.out).mono ?_); rintro ex_ w44 ⟨rfl, ho0, hb, hk⟩; refine ⟨_, rfl, ?_⟩; have nOe9_0 := Aside0.mk (Op.mvS Oe9_0.out hk (fun j hj hs => by (have hj2 := hj.2; have q0 := GLg1.out; have q1 := GHg1.out; have q2 := SZw2.out; have q3 := SZw3.out; have q4 := SZw6.out; have q5 := SZw10.out; have q6 := SZw14.out; have q7 := GLg18.out; have q8 := GHg18.out; have q9 := SZw19.out; have q10 := SZw20.out; have q11 := SZw21.out; have q12 := SZw25.out; have q13 := SZw28.out; have q14 := SZw29.out; have q15 := SZw33.out; have q16 := SZw36.out; have q17 := SZw41.out; have hs2 := hs.2.2; omega))); have nOe9_1 := Aside0.mk (Op.mvR Oe9_1.out hk (fun j hj hs => by (have hj2 := hj.2; have q0 := GLg1.out; have q1 := GHg1.out; have q2 := SZw2.out; have q3 := SZw3.out; have q4 := SZw6.out; have q5 := SZw10.out; have q6 := SZw14.out; have q7 := GLg18.out; have q8 := GHg18.out; have q9 := SZw19.out; have q10 := SZw20.out; have q11 := SZw21.out; have q12 := SZw25.out; have q13 := SZw28.out; have q14 := SZw29.out; have q15 := SZw33.out; have q16 := SZw36.out; have q17 := SZw41.out; have hs2 := hs.2.2; omega))); have nOe13_0 := Aside0.mk (Op.mvR Oe13_0.out hk (fun j hj hs => by (have hj2 := hj.2; have q0 := GLg1.out; have q1 := GHg1.out; have q2 := SZw2.out; have q3 := SZw3.out; have q4 := SZw6.out; have q5 := SZw10.out; have q6 := SZw14.out; have q7 := GLg18.out; have q8 := GHg18.out; have q9 := SZw19.out; have q10 := SZw20.out; have q11 := SZw21.out; have q12 := SZw25.out; have q13 := SZw28.out; have q14 := SZw29.out; have q15 := SZw33.out; have q16 := SZw36.out; have q17 := SZw41.out; have hs2 := hs.2.2; omega))); have nOe17_0 := Aside0.mk (Op.mvS Oe17_0.out hk (fun j hj hs => by (have hj2 := hj.2; have q0 := GLg1.out; have q1 := GHg1.out; have q2 := SZw2.out; have q3 := SZw3.out; have q4 := SZw6.out; have q5 := SZw10.out; have q6 := SZw14.out; have q7 := GLg18.out; have q8 := GHg18.out; have q9 := SZw19.out; have q10 := SZw20.out; have q11 := SZw21.out; have q12 := SZw25.out; have q13 := SZw28.out; have q14 := SZw29.out; have q15 := SZw33.out; have q16 := SZw36.out; have q17 := SZw41.out; have hs2 := hs.2.2; omega))); have nOe17_1 := Aside0.mk (Op.mvR Oe17_1.out hk (fun j hj hs => by (have hj2 := hj.2; have q0 := GLg1.out; have q1 := GHg1.out; have q2 := SZw2.out; have q3 := SZw3.out; have q4 := SZw6.out; have q5 := SZw10.out; have q6 := SZw14.out; have q7 := GLg18.out; have q8 := GHg18.out; have q9 := SZw19.out; have q10 := SZw20.out; have q11 := SZw21.out; have q12 := SZw25.out; have q13 := SZw28.out; have q14 := SZw29.out; have q15 := SZw33.out; have q16 := SZw36.out; have q17 := SZw41.out; have hs2 := hs.2.2; omega))); have nOe32_0 := Aside0.mk (Op.mvS Oe32_0.out hk (fun j hj hs => by (have hj2 := hj.2; have q0 := GLg1.out; have q1 := GHg1.out; have q2 := SZw2.out; have q3 := SZw3.out; have q4 := SZw6.out; have q5 := SZw10.out; have q6 := SZw14.out; have q7 := GLg18.out; have q8 := GHg18.out; have q9 := SZw19.out; have q10 := SZw20.out; have q11 := SZw21.out; have q12 := SZw25.out; have q13 := SZw28.out; have q14 := SZw29.out; have q15 := SZw33.out; have q16 := SZw36.out; have q17 := SZw41.out; have hs2 := hs.2.2; omega))); have nOe32_1 := Aside0.mk (Op.mvR Oe32_1.out hk (fun j hj hs => by (have hj2 := hj.2; have q0 := GLg1.out; have q1 := GHg1.out; have q2 := SZw2.out; have q3 := SZw3.out; have q4 := SZw6.out; have q5 := SZw10.out; have q6 := SZw14.out; have q7 := GLg18.out; have q8 := GHg18.out; have q9 := SZw19.out; have q10 := SZw20.out; have q11 := SZw21.out; have q12 := SZw25.out; have q13 := SZw28.out; have q14 := SZw29.out; have q15 := SZw33.out; have q16 := SZw36.out; have q17 := SZw41.out; have hs2 := hs.2.2; omega))); have nBKg1 := Aside0.mk (Op.mvB BKg1.out hk (fun hs => by (have q0 := GLg1.out; have q1 := GHg1.out; have q2 := SZw2.out; have q3 := SZw3.out; have q4 := SZw6.out; have q5 := SZw10.out; have q6 := SZw14.out; have q7 := GLg18.out; have q8 := GHg18.out; have q9 := SZw19.out; have q10 := SZw20.out; have q11 := SZw21.out; have q12 := SZw25.out; have q13 := SZw28.out; have q14 := SZw29.out; have q15 := SZw33.out; have q16 := SZw36.out; have q17 := SZw41.out; have hs2 := hs.2.2; omega))); have nBKg18 := Aside0.mk (Op.mvB BKg18.out hk (fun hs => by (have q0 := GLg1.out; have q1 := GHg1.out; have q2 := SZw2.out; have q3 := SZw3.out; have q4 := SZw6.out; have q5 := SZw10.out; have q6 := SZw14.out; have q7 := GLg18.out; have q8 := GHg18.out; have q9 := SZw19.out; have q10 := SZw20.out; have q11 := SZw21.out; have q12 := SZw25.out; have q13 := SZw28.out; have q14 := SZw29.out; have q15 := SZw33.out; have q16 := SZw36.out; have q17 := SZw41.out; have hs2 := hs.2.2; omega))); have nHB := Aside0.mk hb; have SZw44 := Aside0.mk hk.1; have nOe24_0 := Aside0.mk (Kd.R_reok rfl ho0 Oe24_0.out.1); clear Oe9_0 Oe9_1 Oe13_0 Oe17_0 Oe17_1 Oe32_0 Oe32_1 BKg1 BKg18 Oe24_0 HB; have Oe9_0 := nOe9_0; have Oe9_1 := nOe9_1; have Oe13_0 := nOe13_0; have Oe17_0 := nOe17_0; have Oe17_1 := nOe17_1; have Oe32_0 := nOe32_0; have Oe32_1 := nOe32_1; have BKg1 := nBKg1; have BKg18 := nBKg18; have Oe24_0 := nOe24_0; have HB := nHB; clear nOe9_0 nOe9_1 nOe13_0 nOe17_0 nOe17_1 nOe32_0 nOe32_1 nBKg1 nBKg18 nOe24_0 nHB; clear hb hk ho0 tOe24_0; have hz_g1_0_w44 : w44.cell? ⟨g1, 0, none⟩ = some (.slice A0_0 l0_0.length c0_0) := (blk_cell BKg1.out 0).trans rfl; have hf_g1_0_w44 := blk_frozen BKg1.out 0; have hz_g1_1_w44 : w44.cell? ⟨g1, 1, none⟩ = some (.slice A0_1 l0_1.length c0_1) := (blk_cell BKg1.out 1).trans rfl; have hf_g1_1_w44 := blk_frozen BKg1.out 1; have hz_g18_0_w44 : w44.cell? ⟨g18, 0, none⟩ = some (.slice Ae17_0 r15.length cAe17_0) := (blk_cell BKg18.out 0).trans rfl; have hf_g18_0_w44 := blk_frozen BKg18.out 0; have hz_g18_1_w44 : w44.cell? ⟨g18, 1, none⟩ = some (.slice Ae17_1 r16.length cAe17_1) := (blk_cell BKg18.out 1).trans rfl; have hf_g18_1_w44 := blk_frozen BKg18.out 1; have hl_ := (Kd.R_reads' Oe24_0.out).1; have LOe24_0_r46 := Aside0.mk hl_; clear hl_) | ((with_reducible refine gate_callee (f := 28) rfl ?_); refine goesL_ (some 71) rfl rfl Try.func28 (by kernel_rfl) rfl #[.slice Ae24_0 r22.length cAe24_0, .int .i64 1] rfl (by (try simp only [List.map_toArray, List.map_cons, List.map_nil]); first | done | rfl | (simp only [List.length_drop, List.length_take]; rfl)) ?_; refine Op.args_eq (args := #[.slice Ae24_0 r46.length cAe24_0, .int .i64 1]) (by simp only [LOe24_0_r46.out]) ?_; (with_reducible refine (laws_heldIntS.calls k _ _ r46 1 r49 _ ?side1 ?side2 Ee50.out).mono ?_); (case side1 => exact (Kd.R_reads' Oe24_0.out).2.2); (case side2 => (have h_ := Kd.R_reads' Oe24_0.out; have h1_ := h_.1; have h2_ := h_.2.1; omega)); rintro ex_ w48 ⟨rfl, hd⟩; refine ⟨_, rfl, ?_⟩; have hb := hd.below; have hk := Kept.of_below hb (fun _ => False); have nOe9_0 := Aside0.mk (Op.mvS Oe9_0.out hk (fun _ _ hs => hs)); have nOe9_1 := Aside0.mk (Op.mvR Oe9_1.out hk (fun _ _ hs => hs)); have nOe13_0 := Aside0.mk (Op.mvR Oe13_0.out hk (fun _ _ hs => hs)); have nOe17_0 := Aside0.mk (Op.mvS Oe17_0.out hk (fun _ _ hs => hs)); have nOe17_1 := Aside0.mk (Op.mvR Oe17_1.out hk (fun _ _ hs => hs)); have nOe24_0 := Aside0.mk (Op.mvR Oe24_0.out hk (fun _ _ hs => hs)); have nOe32_0 := Aside0.mk (Op.mvS Oe32_0.out hk (fun _ _ hs => hs)); have nOe32_1 := Aside0.mk (Op.mvR Oe32_1.out hk (fun _ _ hs => hs)); have nBKg1 := Aside0.mk (Op.mvB BKg1.out hk (fun hs => hs)); have nBKg18 := Aside0.mk (Op.mvB BKg18.out hk (fun hs => hs)); have nHB := Aside0.mk (below_step HB.out hb); have SZw48 := Aside0.mk hb.size; clear Oe9_0 Oe9_1 Oe13_0 Oe17_0 Oe17_1 Oe24_0 Oe32_0 Oe32_1 BKg1 BKg18 HB; have Oe9_0 := nOe9_0; have Oe9_1 := nOe9_1; have Oe13_0 := nOe13_0; have Oe17_0 := nOe17_0; have Oe17_1 := nOe17_1; have Oe24_0 := nOe24_0; have Oe32_0 := nOe32_0; have Oe32_1 := nOe32_1; have BKg1 := nBKg1; have BKg18 := nBKg18; have HB := nHB; clear nOe9_0 nOe9_1 nOe13_0 nOe17_0 nOe17_1 nOe24_0 nOe32_0 nOe32_1 nBKg1 nBKg18 nHB; clear hb hk hd; have hz_g1_0_w48 : w48.cell? ⟨g1, 0, none⟩ = some (.slice A0_0 l0_0.length c0_0) := (blk_cell BKg1.out 0).trans rfl; have hf_g1_0_w48 := blk_frozen BKg1.out 0; have hz_g1_1_w48 : w48.cell? ⟨g1, 1, none⟩ = some (.slice A0_1 l0_1.length c0_1) := (blk_cell BKg1.out 1).trans rfl; have hf_g1_1_w48 := blk_frozen BKg1.out 1; have hz_g18_0_w48 : w48.cell? ⟨g18, 0, none⟩ = some (.slice Ae17_0 r15.length cAe17_0) := (blk_cell BKg18.out 0).trans rfl; have hf_g18_0_w48 := blk_frozen BKg18.out 0; have hz_g18_1_w48 : w48.cell? ⟨g18, 1, none⟩ = some (.slice Ae17_1 r16.length cAe17_1) := (blk_cell BKg18.out 1).trans rfl; have hf_g18_1_w48 := blk_frozen BKg18.out 1) | ((with_reducible refine gate_callee (f := 20) rfl ?_); refine goesL_ (some 79) rfl rfl Try.func20 (by kernel_rfl) rfl #[.agg #[.slice A0_0 l0_0.length c0_0, .slice A0_1 l0_1.length c0_1]] rfl (by (try simp only [List.map_toArray, List.map_cons, List.map_nil]); first | done | rfl | (simp only [List.length_drop, List.length_take]; rfl)) ?_; (with_reducible refine (laws_toPool.calls k _ _ l0_0 _ _ l0_1 r52 r53 _ ?side1 ?side2 ?side3 ?side4 Ee54.out).mono ?_); (case side1 => exact (Kd.C_below HR0_0.out HB.out)); (case side2 => exact HC0_0.out); (case side3 => exact (Kd.C_below HR0_1.out HB.out)); (case side4 => exact HC0_1.out); rintro ex_ w51 ⟨ve54_0, ve54_1, rfl, ho0, ho1, hb⟩; refine ⟨_, rfl, ?_⟩; have hk := Kept.of_below hb (fun _ => False); have nOe9_0 := Aside0.mk (Op.mvS Oe9_0.out hk (fun _ _ hs => hs)); have nOe9_1 := Aside0.mk (Op.mvR Oe9_1.out hk (fun _ _ hs => hs)); have nOe13_0 := Aside0.mk (Op.mvR Oe13_0.out hk (fun _ _ hs => hs)); have nOe17_0 := Aside0.mk (Op.mvS Oe17_0.out hk (fun _ _ hs => hs)); have nOe17_1 := Aside0.mk (Op.mvR Oe17_1.out hk (fun _ _ hs => hs)); have nOe24_0 := Aside0.mk (Op.mvR Oe24_0.out hk (fun _ _ hs => hs)); have nOe32_0 := Aside0.mk (Op.mvS Oe32_0.out hk (fun _ _ hs => hs)); have nOe32_1 := Aside0.mk (Op.mvR Oe32_1.out hk (fun _ _ hs => hs)); have nBKg1 := Aside0.mk (Op.mvB BKg1.out hk (fun hs => hs)); have nBKg18 := Aside0.mk (Op.mvB BKg18.out hk (fun hs => hs)); have nHB := Aside0.mk (below_step HB.out hb); have SZw51 := Aside0.mk hb.size; have Oe54_0 := Aside0.mk (Op.inS ho0 (a := w48.heap.size) (b := w.heap.size) HB.out.size (Nat.le_refl _)); have Oe54_1 := Aside0.mk (Op.inR ho1 (a := w48.heap.size) (b := w.heap.size) HB.out.size (Nat.le_refl _)); clear Oe9_0 Oe9_1 Oe13_0 Oe17_0 Oe17_1 Oe24_0 Oe32_0 Oe32_1 BKg1 BKg18 HB; have Oe9_0 := nOe9_0; have Oe9_1 := nOe9_1; have Oe13_0 := nOe13_0; have Oe17_0 := nOe17_0; have Oe17_1 := nOe17_1; have Oe24_0 := nOe24_0; have Oe32_0 := nOe32_0; have Oe32_1 := nOe32_1; have BKg1 := nBKg1; have BKg18 := nBKg18; have HB := nHB; clear nOe9_0 nOe9_1 nOe13_0 nOe17_0 nOe17_1 nOe24_0 nOe32_0 nOe32_1 nBKg1 nBKg18 nHB; obtain ⟨Ae54_0, cAe54_0, ev_⟩ := Kd.S_slice Oe54_0.out; subst ev_; obtain ⟨Ae54_1, cAe54_1, ev_⟩ := Kd.R_slice Oe54_1.out; subst ev_; clear hb hk ho0 ho1; have hz_g1_0_w51 : w51.cell? ⟨g1, 0, none⟩ = some (.slice A0_0 l0_0.length c0_0) := (blk_cell BKg1.out 0).trans rfl; have hf_g1_0_w51 := blk_frozen BKg1.out 0; have hz_g1_1_w51 : w51.cell? ⟨g1, 1, none⟩ = some (.slice A0_1 l0_1.length c0_1) := (blk_cell BKg1.out 1).trans rfl; have hf_g1_1_w51 := blk_frozen BKg1.out 1; have hz_g18_0_w51 : w51.cell? ⟨g18, 0, none⟩ = some (.slice Ae17_0 r15.length cAe17_0) := (blk_cell BKg18.out 0).trans rfl; have hf_g18_0_w51 := blk_frozen BKg18.out 0; have hz_g18_1_w51 : w51.cell? ⟨g18, 1, none⟩ = some (.slice Ae17_1 r16.length cAe17_1) := (blk_cell BKg18.out 1).trans rfl; have hf_g18_1_w51 := blk_frozen BKg18.out 1) | ((with_reducible refine gate_callee (f := 25) rfl ?_); refine goesL_ (some 81) rfl rfl Try.func25 (by kernel_rfl) rfl #[.agg #[.slice Ae54_0 r52.length cAe54_0, .slice Ae54_1 r53.length cAe54_1], .int .i64 a1] rfl (by (try simp only [List.map_toArray, List.map_cons, List.map_nil]); first | done | rfl | (simp only [List.length_drop, List.length_take]; rfl)) ?_; (with_reducible refine (impl_AllIn.calls k _ _ r52 _ _ r53 a1 r56 r57 _ ?side1 ?side2 ?side3 ?side4 Ee58.out).mono ?_); (case side1 => exact (Kd.S_reads' Oe54_0.out).2.2); (case side2 => (have h_ := Kd.S_reads' Oe54_0.out; have h1_ := h_.1; have h2_ := h_.2.1; omega)); (case side3 => exact (Kd.R_reads' Oe54_1.out).2.2); (case side4 => (have h_ := Kd.R_reads' Oe54_1.out; have h1_ := h_.1; have h2_ := h_.2.1; omega)); rintro ex_ w55 ⟨ve58_0, rfl, ho0, hb⟩; refine ⟨_, rfl, ?_⟩; have hk := Kept.of_below hb (fun _ => False); have nOe9_0 := Aside0.mk (Op.mvS Oe9_0.out hk (fun _ _ hs => hs)); have nOe9_1 := Aside0.mk (Op.mvR Oe9_1.out hk (fun _ _ hs => hs)); have nOe13_0 := Aside0.mk (Op.mvR Oe13_0.out hk (fun _ _ hs => hs)); have nOe17_0 := Aside0.mk (Op.mvS Oe17_0.out hk (fun _ _ hs => hs)); have nOe17_1 := Aside0.mk (Op.mvR Oe17_1.out hk (fun _ _ hs => hs)); have nOe24_0 := Aside0.mk (Op.mvR Oe24_0.out hk (fun _ _ hs => hs)); have nOe32_0 := Aside0.mk (Op.mvS Oe32_0.out hk (fun _ _ hs => hs)); have nOe32_1 := Aside0.mk (Op.mvR Oe32_1.out hk (fun _ _ hs => hs)); have nOe54_0 := Aside0.mk (Op.mvS Oe54_0.out hk (fun _ _ hs => hs)); have nOe54_1 := Aside0.mk (Op.mvR Oe54_1.out hk (fun _ _ hs => hs)); have nBKg1 := Aside0.mk (Op.mvB BKg1.out hk (fun hs => hs)); have nBKg18 := Aside0.mk (Op.mvB BKg18.out hk (fun hs => hs)); have nHB := Aside0.mk (below_step HB.out hb); have SZw55 := Aside0.mk hb.size; have Oe58_0 := Aside0.mk (Op.inR ho0 (a := w51.heap.size) (b := w.heap.size) HB.out.size (Nat.le_refl _)); clear Oe9_0 Oe9_1 Oe13_0 Oe17_0 Oe17_1 Oe24_0 Oe32_0 Oe32_1 Oe54_0 Oe54_1 BKg1 BKg18 HB; have Oe9_0 := nOe9_0; have Oe9_1 := nOe9_1; have Oe13_0 := nOe13_0; have Oe17_0 := nOe17_0; have Oe17_1 := nOe17_1; have Oe24_0 := nOe24_0; have Oe32_0 := nOe32_0; have Oe32_1 := nOe32_1; have Oe54_0 := nOe54_0; have Oe54_1 := nOe54_1; have BKg1 := nBKg1; have BKg18 := nBKg18; have HB := nHB; clear nOe9_0 nOe9_1 nOe13_0 nOe17_0 nOe17_1 nOe24_0 nOe32_0 nOe32_1 nOe54_0 nOe54_1 nBKg1 nBKg18 nHB; obtain ⟨Ae58_0, cAe58_0, ev_⟩ := Kd.R_slice Oe58_0.out; subst ev_; clear hb hk ho0; have hz_g1_0_w55 : w55.cell? ⟨g1, 0, none⟩ = some (.slice A0_0 l0_0.length c0_0) := (blk_cell BKg1.out 0).trans rfl; have hf_g1_0_w55 := blk_frozen BKg1.out 0; have hz_g1_1_w55 : w55.cell? ⟨g1, 1, none⟩ = some (.slice A0_1 l0_1.length c0_1) := (blk_cell BKg1.out 1).trans rfl; have hf_g1_1_w55 := blk_frozen BKg1.out 1; have hz_g18_0_w55 : w55.cell? ⟨g18, 0, none⟩ = some (.slice Ae17_0 r15.length cAe17_0) := (blk_cell BKg18.out 0).trans rfl; have hf_g18_0_w55 := blk_frozen BKg18.out 0; have hz_g18_1_w55 : w55.cell? ⟨g18, 1, none⟩ = some (.slice Ae17_1 r16.length cAe17_1) := (blk_cell BKg18.out 1).trans rfl; have hf_g18_1_w55 := blk_frozen BKg18.out 1) | ((with_reducible refine gate_callee (f := 26) rfl ?_); refine goesL_ (some 86) rfl rfl Try.func26 (by kernel_rfl) rfl #[.slice Ae58_0 r56.length cAe58_0, .slice Ae13_0 r11.length cAe13_0] rfl (by (try simp only [List.map_toArray, List.map_cons, List.map_nil]); first | done | rfl | (simp only [List.length_drop, List.length_take]; rfl)) ?_; (with_reducible refine (laws_eqIntS.calls k _ _ r56 _ _ r11 true _ ?side1 ?side2 ?side3 ?side4 Ee61.out).mono ?_); (case side1 => exact (Kd.R_reads' Oe58_0.out).2.2); (case side2 => (have h_ := Kd.R_reads' Oe58_0.out; have h1_ := h_.1; have h2_ := h_.2.1; omega)); (case side3 => exact (Kd.R_reads' Oe13_0.out).2.2); (case side4 => (have h_ := Kd.R_reads' Oe13_0.out; have h1_ := h_.1; have h2_ := h_.2.1; omega)); rintro ex_ w59 ⟨rfl, hd⟩; refine ⟨_, rfl, ?_⟩; have hb := hd.below; have hk := Kept.of_below hb (fun _ => False); have nOe9_0 := Aside0.mk (Op.mvS Oe9_0.out hk (fun _ _ hs => hs)); have nOe9_1 := Aside0.mk (Op.mvR Oe9_1.out hk (fun _ _ hs => hs)); have nOe13_0 := Aside0.mk (Op.mvR Oe13_0.out hk (fun _ _ hs => hs)); have nOe17_0 := Aside0.mk (Op.mvS Oe17_0.out hk (fun _ _ hs => hs)); have nOe17_1 := Aside0.mk (Op.mvR Oe17_1.out hk (fun _ _ hs => hs)); have nOe24_0 := Aside0.mk (Op.mvR Oe24_0.out hk (fun _ _ hs => hs)); have nOe32_0 := Aside0.mk (Op.mvS Oe32_0.out hk (fun _ _ hs => hs)); have nOe32_1 := Aside0.mk (Op.mvR Oe32_1.out hk (fun _ _ hs => hs)); have nOe54_0 := Aside0.mk (Op.mvS Oe54_0.out hk (fun _ _ hs => hs)); have nOe54_1 := Aside0.mk (Op.mvR Oe54_1.out hk (fun _ _ hs => hs)); have nOe58_0 := Aside0.mk (Op.mvR Oe58_0.out hk (fun _ _ hs => hs)); have nBKg1 := Aside0.mk (Op.mvB BKg1.out hk (fun hs => hs)); have nBKg18 := Aside0.mk (Op.mvB BKg18.out hk (fun hs => hs)); have nHB := Aside0.mk (below_step HB.out hb); have SZw59 := Aside0.mk hb.size; clear Oe9_0 Oe9_1 Oe13_0 Oe17_0 Oe17_1 Oe24_0 Oe32_0 Oe32_1 Oe54_0 Oe54_1 Oe58_0 BKg1 BKg18 HB; have Oe9_0 := nOe9_0; have Oe9_1 := nOe9_1; have Oe13_0 := nOe13_0; have Oe17_0 := nOe17_0; have Oe17_1 := nOe17_1; have Oe24_0 := nOe24_0; have Oe32_0 := nOe32_0; have Oe32_1 := nOe32_1; have Oe54_0 := nOe54_0; have Oe54_1 := nOe54_1; have Oe58_0 := nOe58_0; have BKg1 := nBKg1; have BKg18 := nBKg18; have HB := nHB; clear nOe9_0 nOe9_1 nOe13_0 nOe17_0 nOe17_1 nOe24_0 nOe32_0 nOe32_1 nOe54_0 nOe54_1 nOe58_0 nBKg1 nBKg18 nHB; clear hb hk hd; have hz_g1_0_w59 : w59.cell? ⟨g1, 0, none⟩ = some (.slice A0_0 l0_0.length c0_0) := (blk_cell BKg1.out 0).trans rfl; have hf_g1_0_w59 := blk_frozen BKg1.out 0; have hz_g1_1_w59 : w59.cell? ⟨g1, 1, none⟩ = some (.slice A0_1 l0_1.length c0_1) := (blk_cell BKg1.out 1).trans rfl; have hf_g1_1_w59 := blk_frozen BKg1.out 1; have hz_g18_0_w59 : w59.cell? ⟨g18, 0, none⟩ = some (.slice Ae17_0 r15.length cAe17_0) := (blk_cell BKg18.out 0).trans rfl; have hf_g18_0_w59 := blk_frozen BKg18.out 0; have hz_g18_1_w59 : w59.cell? ⟨g18, 1, none⟩ = some (.slice Ae17_1 r16.length cAe17_1) := (blk_cell BKg18.out 1).trans rfl; have hf_g18_1_w59 := blk_frozen BKg18.out 1) | ((with_reducible refine gate_callee (f := 28) rfl ?_); refine goesL_ (some 95) rfl rfl Try.func28 (by kernel_rfl) rfl #[.slice Ae24_0 r22.length cAe24_0, .int .i64 1] rfl (by (try simp only [List.map_toArray, List.map_cons, List.map_nil]); first | done | rfl | (simp only [List.length_drop, List.length_take]; rfl)) ?_; refine Op.args_eq (args := #[.slice Ae24_0 r46.length cAe24_0, .int .i64 1]) (by simp only [LOe24_0_r46.out]) ?_; (with_reducible refine (laws_heldIntS.calls k _ _ r46 1 r63 _ ?side1 ?side2 Ee64.out).mono ?_); (case side1 => exact (Kd.R_reads' Oe24_0.out).2.2); (case side2 => (have h_ := Kd.R_reads' Oe24_0.out; have h1_ := h_.1; have h2_ := h_.2.1; omega)); rintro ex_ w62 ⟨rfl, hd⟩; refine ⟨_, rfl, ?_⟩; have hb := hd.below; have hk := Kept.of_below hb (fun _ => False); have nOe9_0 := Aside0.mk (Op.mvS Oe9_0.out hk (fun _ _ hs => hs)); have nOe9_1 := Aside0.mk (Op.mvR Oe9_1.out hk (fun _ _ hs => hs)); have nOe13_0 := Aside0.mk (Op.mvR Oe13_0.out hk (fun _ _ hs => hs)); have nOe17_0 := Aside0.mk (Op.mvS Oe17_0.out hk (fun _ _ hs => hs)); have nOe17_1 := Aside0.mk (Op.mvR Oe17_1.out hk (fun _ _ hs => hs)); have nOe24_0 := Aside0.mk (Op.mvR Oe24_0.out hk (fun _ _ hs => hs)); have nOe32_0 := Aside0.mk (Op.mvS Oe32_0.out hk (fun _ _ hs => hs)); have nOe32_1 := Aside0.mk (Op.mvR Oe32_1.out hk (fun _ _ hs => hs)); have nOe54_0 := Aside0.mk (Op.mvS Oe54_0.out hk (fun _ _ hs => hs)); have nOe54_1 := Aside0.mk (Op.mvR Oe54_1.out hk (fun _ _ hs => hs)); have nOe58_0 := Aside0.mk (Op.mvR Oe58_0.out hk (fun _ _ hs => hs)); have nBKg1 := Aside0.mk (Op.mvB BKg1.out hk (fun hs => hs)); have nBKg18 := Aside0.mk (Op.mvB BKg18.out hk (fun hs => hs)); have nHB := Aside0.mk (below_step HB.out hb); have SZw62 := Aside0.mk hb.size; clear Oe9_0 Oe9_1 Oe13_0 Oe17_0 Oe17_1 Oe24_0 Oe32_0 Oe32_1 Oe54_0 Oe54_1 Oe58_0 BKg1 BKg18 HB; have Oe9_0 := nOe9_0; have Oe9_1 := nOe9_1; have Oe13_0 := nOe13_0; have Oe17_0 := nOe17_0; have Oe17_1 := nOe17_1; have Oe24_0 := nOe24_0; have Oe32_0 := nOe32_0; have Oe32_1 := nOe32_1; have Oe54_0 := nOe54_0; have Oe54_1 := nOe54_1; have Oe58_0 := nOe58_0; have BKg1 := nBKg1; have BKg18 := nBKg18; have HB := nHB; clear nOe9_0 nOe9_1 nOe13_0 nOe17_0 nOe17_1 nOe24_0 nOe32_0 nOe32_1 nOe54_0 nOe54_1 nOe58_0 nBKg1 nBKg18 nHB; clear hb hk hd; have hz_g1_0_w62 : w62.cell? ⟨g1, 0, none⟩ = some (.slice A0_0 l0_0.length c0_0) := (blk_cell BKg1.out 0).trans rfl; have hf_g1_0_w62 := blk_frozen BKg1.out 0; have hz_g1_1_w62 : w62.cell? ⟨g1, 1, none⟩ = some (.slice A0_1 l0_1.length c0_1) := (blk_cell BKg1.out 1).trans rfl; have hf_g1_1_w62 := blk_frozen BKg1.out 1; have hz_g18_0_w62 : w62.cell? ⟨g18, 0, none⟩ = some (.slice Ae17_0 r15.length cAe17_0) := (blk_cell BKg18.out 0).trans rfl; have hf_g18_0_w62 := blk_frozen BKg18.out 0; have hz_g18_1_w62 : w62.cell? ⟨g18, 1, none⟩ = some (.slice Ae17_1 r16.length cAe17_1) := (blk_cell BKg18.out 1).trans rfl; have hf_g18_1_w62 := blk_frozen BKg18.out 1))
  go_ret
  exact ⟨rfl, HB.out⟩

/-- THE ONE PURE STATEMENT of laws_FnExactAllIn: yours. -/
def laws_FnExactAllIn.Pure : Prop := ∀ (l0_0 : List (S88)) (l0_1 : List Int) (a1 : Int), (l0_0.length ≤ maxLen ∧ ∀ y_ ∈ l0_0, (fun z_ : S88 => ((z_).f0.length ≤ maxLen ∧ ∀ y_ ∈ (z_).f0, (fun z_ : Int => (Lit.int .i64 z_).wf = true) y_) ∧ (True)) y_) → (l0_1.length ≤ maxLen ∧ ∀ y_ ∈ l0_1, (fun z_ : Int => (Lit.int .i64 z_).wf = true) y_) → ((Lit.int .i64 a1).wf = true) → ∃ k, laws_FnExactAllIn.f k l0_0 l0_1 a1 = some true
set_option maxHeartbeats 1000000 in
theorem laws_FnExactAllIn.walk (P : laws_FnExactAllIn.Pure) (A0_0 : Option Addr) (c0_0 : Nat) (l0_0 : List (S88)) (A0_1 : Option Addr) (c0_1 : Nat) (l0_1 : List Int) (a1 : Int) (w : World) (hr0_0 : Kd.C k88 w A0_0 l0_0.length l0_0) (hc0_0 : l0_0.length ≤ c0_0) (hr0_1 : Kd.C (Kd.int .i64) w A0_1 l0_1.length l0_1) (hc0_1 : l0_1.length ≤ c0_1) (q0_0 : l0_0.length ≤ maxLen ∧ ∀ y_ ∈ l0_0, (fun z_ : S88 => ((z_).f0.length ≤ maxLen ∧ ∀ y_ ∈ (z_).f0, (fun z_ : Int => (Lit.int .i64 z_).wf = true) y_) ∧ (True)) y_) (q0_1 : l0_1.length ≤ maxLen ∧ ∀ y_ ∈ l0_1, (fun z_ : Int => (Lit.int .i64 z_).wf = true) y_) (q1 : (Lit.int .i64 a1).wf = true) :
    Calls Try.prog 6 #[.agg #[.slice A0_0 l0_0.length c0_0, .slice A0_1 l0_1.length c0_1], .int .i64 a1] w fun e w' => e = .returned (.bool true) ∧ Below w.heap.size w w' := by
  obtain ⟨k, h⟩ := P l0_0 l0_1 a1 q0_0 q0_1 q1
  refine (laws_FnExactAllIn.calls k _ _ l0_0 _ _ l0_1 a1 true w hr0_0 hc0_0 hr0_1 hc0_1 h).mono ?_
  rintro e w' ⟨rfl, hd⟩
  exact ⟨rfl, hd⟩

end Go.Proofs.Ytnafnpoflheonaa.PFnExactAllIn
