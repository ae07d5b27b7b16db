/- Contracts of functions of the translation, written by a program of this repo (a changed copy of the printer). Not trusted: Lean checks it. -/
-- squeezed
import Derived.Test.YtnafnpoflheonaaPFnExactPutInx0
import Derived.Test.YtnafnpoflheonaaPFnExactPutInx6
import Derived.Test.YtnafnpoflheonaaPFnExactPutInx7
namespace Go.Proofs.Ytnafnpoflheonaa.PFnExactPutIn
open Go.RowKit Go.Proofs.YtnafnpoflheonaaW.PrintWords Go.Proofs.YtnafnpoflheonaaW.PrintLast Go.Proofs.YtnafnpoflheonaaW.PrintMore
attribute [local go_sem] max2_int min2_int max_two min_two max_three min_three max_four min_four   -- for this text's walks alone
set_option linter.unusedVariables false
set_option linter.unusedSimpArgs false

/-! ### impl_PutIn: function 34 -/
mutual
def impl_PutIn.j0 : Nat → Int → Int → Int → Bool → List (S65) → List Int → Option ((List (S65)) × List Int × Bool)
 | 0, _, _, _, _, _, _ => none
 | k + 1, x1, x2, x3, x42, x256000, x256001 => if x42 = true then (some (([] : List (S65)), ([] : List Int), false)) else ((impl_ownPool.f k x256000 x256001).bind fun bt263 => (if 4 ≤ 35184372088832 then ((some (List.replicate 4 0 : List Int)).bind fun y273 => (if 0 ≤ x1 then (if x1 < (x256001.length : Int) then (if (rd x256001 x1) ≥ 0 then (if 0 ≤ (rd x256001 x1) then (if (rd x256001 x1) < (x256000.length : Int) then ((slices_Clone_int_int.f ((rd_T65 x256000 (rd x256001 x1)).f0)).bind fun t278 => (impl_PutIn.j1 k x2 x3 t278 y273 x256000 x256001 bt263.1 bt263.2)) else (none)) else (none)) else (impl_PutIn.j1 k x2 x3 (([(-1), (-1), (-1), (-1)] : List Int)) y273 x256000 x256001 bt263.1 bt263.2)) else (none)) else (none))) else (none)))
def impl_PutIn.j1 : Nat → Int → Int → List Int → List Int → List (S65) → List Int → List (S65) → List Int → Option ((List (S65)) × List Int × Bool)
 | 0, _, _, _, _, _, _, _, _ => none
 | k + 1, x2, x3, x11, x12, x256000, x256001, x270000, x270001 => if 0 ≤ (wrap64 (Int.tdiv x2 4)) then (if (wrap64 (Int.tdiv x2 4)) < (x11.length : Int) then (if (rd x11 (wrap64 (Int.tdiv x2 4))) ≥ 0 then (if 0 ≤ (rd x11 (wrap64 (Int.tdiv x2 4))) then (if (rd x11 (wrap64 (Int.tdiv x2 4))) < (x256000.length : Int) then ((slices_Clone_int_int.f ((rd_T65 x256000 (rd x11 (wrap64 (Int.tdiv x2 4)))).f0)).bind fun t283 => (if 0 ≤ (Int.tmod x2 4) then (if (Int.tmod x2 4) < (t283.length : Int) then (if x270000.length + 1 < 4398046511104 then ((some (x270000 ++ [(⟨(t283.set ((Int.tmod x2 4) : Int).toNat x3), true⟩ : S65), (⟨(x11.set ((wrap64 (Int.tdiv x2 4)) : Int).toNat (x270000.length : Int)), false⟩ : S65)] : List (S65))).bind fun y288 => (if x270001.length < 17592186044416 then (some (y288, (x270001 ++ [wrap64 ((y288.length : Int) - 1)]), true)) else (none))) else (none)) else (none)) else (none))) else (none)) else (none)) else (if 0 ≤ (Int.tmod x2 4) then (if (Int.tmod x2 4) < (x12.length : Int) then (if x270000.length + 1 < 4398046511104 then ((some (x270000 ++ [(⟨(x12.set ((Int.tmod x2 4) : Int).toNat x3), true⟩ : S65), (⟨(x11.set ((wrap64 (Int.tdiv x2 4)) : Int).toNat (x270000.length : Int)), false⟩ : S65)] : List (S65))).bind fun y296 => (if x270001.length < 17592186044416 then (some (y296, (x270001 ++ [wrap64 ((y296.length : Int) - 1)]), true)) else (none))) else (none)) else (none)) else (none))) else (none)) else (none)
end
def impl_PutIn.f (k : Nat) (l0_0 : List (S65)) (l0_1 : List Int) (a1 : Int) (a2 : Int) (a3 : Int) : Option ((List (S65)) × List Int × Bool) := (impl_isVersion.f l0_0 l0_1 (([a1] : List Int))).bind fun t260 => (if t260 = true then ((impl_isPoolKey.f a2).bind fun t261 => (if t261 = true then ((impl_within.f a3 0 9999).bind fun t262 => (if t262 = true then (if (wrap64 ((l0_0.length : Int) + 2)) > 200 then (impl_PutIn.j0 k a1 a2 a3 true l0_0 l0_1) else (impl_PutIn.j0 k a1 a2 a3 ((l0_1.length : Int) == 40) l0_0 l0_1)) else (impl_PutIn.j0 k a1 a2 a3 true l0_0 l0_1))) else (impl_PutIn.j0 k a1 a2 a3 true l0_0 l0_1))) else (impl_PutIn.j0 k a1 a2 a3 true l0_0 l0_1))
theorem impl_PutIn.mono_l : ∀ k, (∀ y0 y1 y2 y3 y4 y5, LeO (impl_PutIn.j0 k y0 y1 y2 y3 y4 y5) (impl_PutIn.j0 (k + 1) y0 y1 y2 y3 y4 y5)) ∧ (∀ y0 y1 y2 y3 y4 y5 y6 y7, LeO (impl_PutIn.j1 k y0 y1 y2 y3 y4 y5 y6 y7) (impl_PutIn.j1 (k + 1) y0 y1 y2 y3 y4 y5 y6 y7))
 | 0 => ⟨fun _ _ _ _ _ _ r h => by simp [impl_PutIn.j0] at h, fun _ _ _ _ _ _ _ _ r h => by simp [impl_PutIn.j1] at h⟩
 | k + 1 => by
  obtain ⟨ih0, ih1⟩ := impl_PutIn.mono_l k
  refine ⟨?_, ?_⟩
  ·intro y0 y1 y2 y3 y4 y5
   unfold impl_PutIn.j0
   repeat' first
   | (with_reducible exact ih0 _ _ _ _ _ _)
   | (with_reducible exact ih1 _ _ _ _ _ _ _ _)
   | (with_reducible exact impl_ownPool.mono _ _ _)
   | (with_reducible exact LeO.refl _)
   | (with_reducible exact LeO.none _)
   | (with_reducible refine LeO.ite ?_ ?_)
   | (with_reducible refine LeO.bind ?_ (fun _ => ?_))
   | exact ih0 _ _ _ _ _ _
   | exact ih1 _ _ _ _ _ _ _ _
   | exact impl_ownPool.mono _ _ _
   | exact LeO.none _
   | refine LeO.ite ?_ ?_
   | refine LeO.bind ?_ (fun _ => ?_)
  ·intro y0 y1 y2 y3 y4 y5 y6 y7
   unfold impl_PutIn.j1
   repeat' first
   | (with_reducible exact ih0 _ _ _ _ _ _)
   | (with_reducible exact ih1 _ _ _ _ _ _ _ _)
   | (with_reducible exact impl_ownPool.mono _ _ _)
   | (with_reducible exact LeO.refl _)
   | (with_reducible exact LeO.none _)
   | (with_reducible refine LeO.ite ?_ ?_)
   | (with_reducible refine LeO.bind ?_ (fun _ => ?_))
   | exact ih0 _ _ _ _ _ _
   | exact ih1 _ _ _ _ _ _ _ _
   | exact impl_ownPool.mono _ _ _
   | exact LeO.none _
   | refine LeO.ite ?_ ?_
   | refine LeO.bind ?_ (fun _ => ?_)
theorem impl_PutIn.mono : ∀ a0 a1 a2 a3 a4 k, LeO (impl_PutIn.f k a0 a1 a2 a3 a4) (impl_PutIn.f (k + 1) a0 a1 a2 a3 a4) := by
 intro a0 a1 a2 a3 a4 k
 obtain ⟨ih0, ih1⟩ := impl_PutIn.mono_l k
 unfold impl_PutIn.f
 repeat' first
   | (with_reducible exact ih0 _ _ _ _ _ _)
   | (with_reducible exact ih1 _ _ _ _ _ _ _ _)
   | (with_reducible exact impl_ownPool.mono _ _ _)
   | (with_reducible exact LeO.refl _)
   | (with_reducible exact LeO.none _)
   | (with_reducible refine LeO.ite ?_ ?_)
   | (with_reducible refine LeO.bind ?_ (fun _ => ?_))
   | exact ih0 _ _ _ _ _ _
   | exact ih1 _ _ _ _ _ _ _ _
   | exact impl_ownPool.mono _ _ _
   | exact LeO.none _
   | refine LeO.ite ?_ ?_
   | refine LeO.bind ?_ (fun _ => ?_)
set_option maxHeartbeats 8000000 in
set_option maxRecDepth 100000 in
theorem impl_PutIn.calls (k : Nat) (A0_0 : Option Addr) (c0_0 : Nat) (l0_0 : List (S65)) (A0_1 : Option Addr) (c0_1 : Nat) (l0_1 : List Int) (a1 : Int) (a2 : Int) (a3 : Int) (r1 : List (S65)) (r2 : List Int) (r3 : Bool) (w : World) (hr0_0 : Kd.C k65 w A0_0 l0_0.length l0_0) (hc0_0 : l0_0.length ≤ c0_0) (hr0_1 : Kd.C (Kd.int .i64) w A0_1 l0_1.length l0_1) (hc0_1 : l0_1.length ≤ c0_1) (h : impl_PutIn.f k l0_0 l0_1 a1 a2 a3 = some (r1, r2, r3)) :
  Calls Try.prog 34 #[.agg #[.slice A0_0 l0_0.length c0_0, .slice A0_1 l0_1.length c0_1], .int .i64 a1, .int .i64 a2, .int .i64 a3] w fun e w' => ∃ v0_ v1_ : Value, e = .returned (.tuple #[.agg #[v0_, v1_], .bool r3]) ∧ Kd.S k65 65 w' w.heap.size (fun k_ => some k_ ≠ (v1_ : Value).ownBlock) v0_ r1 ∧ Kd.R (Kd.int .i64) 3 w' w.heap.size (fun _ => True) v1_ r2 ∧ Below w.heap.size w w' := by
 have hu25 := Try.underlying25
 have hu65 := Try.underlying65
 have HR0_0 := Aside0.mk hr0_0
 have HC0_0 := Aside0.mk hc0_0
 clear hr0_0 hc0_0
 have HR0_1 := Aside0.mk hr0_1
 have HC0_1 := Aside0.mk hc0_1
 clear hr0_1 hc0_1
 have HB := Aside0.mk (Below.refl w.heap.size w)
 have H : ((impl_isVersion.f l0_0 l0_1 (([a1] : List Int))).bind fun t260 => (if t260 = true then ((impl_isPoolKey.f a2).bind fun t261 => (if t261 = true then ((impl_within.f a3 0 9999).bind fun t262 => (if t262 = true then (if (wrap64 ((l0_0.length : Int) + 2)) > 200 then (impl_PutIn.j0 k a1 a2 a3 true l0_0 l0_1) else (impl_PutIn.j0 k a1 a2 a3 ((l0_1.length : Int) == 40) l0_0 l0_1)) else (impl_PutIn.j0 k a1 a2 a3 true l0_0 l0_1))) else (impl_PutIn.j0 k a1 a2 a3 true l0_0 l0_1))) else (impl_PutIn.j0 k a1 a2 a3 true l0_0 l0_1))) = some (r1, r2, r3) := h
 clear h
 have HC5 := Aside0.mk H
 clear H
 go_enter Try.func34, Try.ntmps34
 go_upto_region 1 with (first | ((with_reducible refine gate_dst (N := 4) rfl ?_); (try (refine gate_guard (by rfl) ?_; dsimp only)); refine box_event ?hg (N := 4) ?hd (cs := #[.slice A0_0 l0_0.length c0_0, .slice A0_1 l0_1.length c0_1]) (t := 25) ?hr ?_; (case hd => rfl); (case hg => rfl); (case hr => first | (go_simp; done) | (go_simp; rfl)); intro gb255 hg w6 hbox hb; have n0_ := Aside0.mk (Op.a5 (by repeat (first | (with_reducible first | exact HB.out | apply Op.a1 | apply Op.a2 | apply Op.a3) | exact HB.out)) hb); have n1_ := Aside0.mk (hbox); have n2_ := Aside0.mk ((by rw [hg]; exact (Op.a6 (by repeat (first | (with_reducible first | exact HB.out | apply Op.a1 | apply Op.a2 | apply Op.a3) | exact HB.out))) : w.heap.size ≤ gb255)); have n3_ := Aside0.mk ((by rw [hg]; exact (Op.a6 (by repeat (first | (with_reducible first | exact HB.out | apply Op.a1 | apply Op.a2 | apply Op.a3) | exact HB.out))) : w.heap.size ≤ gb255)); clear HB; have HB := n0_; have BK255 := n1_; have GW255 := n2_; have GE255 := n3_; clear n0_ n1_ n2_ n3_; clear hb hbox hg) | ((with_reducible refine gate_dst (N := 8) rfl ?_); (try (refine gate_guard (by rfl) ?_; dsimp only)); refine box_event ?hg (N := 8) ?hd (cs := #[.slice none 0 0, .slice none 0 0]) (t := 25) ?hr ?_; (case hd => rfl); (case hg => rfl); (case hr => first | (go_simp; done) | (go_simp; rfl)); intro gb256 hg w7 hbox hb; have n0_ := Aside0.mk (Op.b4 (g := gb255) (o := .cells #[.slice A0_0 l0_0.length c0_0, .slice A0_1 l0_1.length c0_1] 25 (0, 0)) (by (with_reducible repeat (first | refine Op.b1 ?_ _ | refine Op.b2 ?_ | refine Op.b3 ?_ _)); exact BK255.out) hb); have n1_ := Aside0.mk (Op.a5 (by repeat (first | (with_reducible first | exact HB.out | apply Op.a1 | apply Op.a2 | apply Op.a3 | refine Op.a4 ?_ GE255.out) | exact HB.out)) hb); have n2_ := Aside0.mk (hbox); have n3_ := Aside0.mk ((by rw [hg]; exact (Op.a6 (by repeat (first | (with_reducible first | exact HB.out | apply Op.a1 | apply Op.a2 | apply Op.a3 | refine Op.a4 ?_ GE255.out) | exact HB.out))) : w.heap.size ≤ gb256)); have n4_ := Aside0.mk ((by rw [hg]; exact (Op.a6 (by repeat (first | (with_reducible first | exact HB.out | apply Op.a1 | apply Op.a2 | apply Op.a3 | refine Op.a4 ?_ GE255.out) | exact HB.out))) : w.heap.size ≤ gb256)); have n5_ := Aside0.mk ((by rw [hg]; exact Nat.ne_of_lt (blk_lt (g := gb255) (o := .cells #[.slice A0_0 l0_0.length c0_0, .slice A0_1 l0_1.length c0_1] 25 (0, 0)) (by (with_reducible repeat (first | refine Op.b1 ?_ _ | refine Op.b2 ?_ | refine Op.b3 ?_ _)); exact BK255.out)) : gb255 ≠ gb256)); have n6_ := Aside0.mk ((by rw [hg]; exact Nat.ne_of_gt (blk_lt (g := gb255) (o := .cells #[.slice A0_0 l0_0.length c0_0, .slice A0_1 l0_1.length c0_1] 25 (0, 0)) (by (with_reducible repeat (first | refine Op.b1 ?_ _ | refine Op.b2 ?_ | refine Op.b3 ?_ _)); exact BK255.out)) : gb256 ≠ gb255)); clear BK255; clear HB; have BK255 := n0_; have HB := n1_; have BK256 := n2_; have GW256 := n3_; have GE256 := n4_; have NB255_256 := n5_; have NB256_255 := n6_; clear n0_ n1_ n2_ n3_ n4_ n5_ n6_; clear hb hbox hg))
 (try simp only [Act.put, List.setIfInBounds_toArray, List.set_cons_zero, List.set_cons_succ])
 go_cut [42] (fun v42 wc => ∃ (kq : Nat) (x42_4 : Bool), v42 = .bool x42_4 ∧ Aside0 (impl_PutIn.j0 kq a1 a2 a3 x42_4 l0_0 l0_1 = some (r1, r2, r3)) ∧ Aside0 (kq ≤ k) ∧ Aside0 (wc.heap[gb255]? = some (.cells #[(.slice A0_0 l0_0.length c0_0), (.slice A0_1 l0_1.length c0_1)] 25 (0, 0))) ∧ Aside0 (wc.heap[gb256]? = some (.cells #[(.slice none 0 0), (.slice none 0 0)] 25 (0, 0))) ∧ Aside0 (Below w.heap.size w wc))
 case first =>
  have H := HC5.out
  clear HC5
  obtain ⟨y257, hy257⟩ : ∃ y_ : List Int, y_ = (([a1] : List Int)) := ⟨_, rfl⟩
  replace H : ((impl_isVersion.f l0_0 l0_1 y257).bind fun t260 => (if t260 = true then ((impl_isPoolKey.f a2).bind fun t261 => (if t261 = true then ((impl_within.f a3 0 9999).bind fun t262 => (if t262 = true then (if (wrap64 ((l0_0.length : Int) + 2)) > 200 then (impl_PutIn.j0 k a1 a2 a3 true l0_0 l0_1) else (impl_PutIn.j0 k a1 a2 a3 ((l0_1.length : Int) == 40) l0_0 l0_1)) else (impl_PutIn.j0 k a1 a2 a3 true l0_0 l0_1))) else (impl_PutIn.j0 k a1 a2 a3 true l0_0 l0_1))) else (impl_PutIn.j0 k a1 a2 a3 true l0_0 l0_1))) = some (r1, r2, r3) := by first | (rw [hy257]; with_reducible exact H) | (have H2_ := (Option.bind_some _ _).symm.trans H; rw [hy257]; with_reducible exact H2_) | (have H2_ := (Option.bind_some _ _).symm.trans H; with_reducible exact H2_) | with_reducible exact H | (rw [hy257]; exact H) | exact H
  have Ny257 := Aside0.mk hy257
  clear hy257
  replace H := Option.bind_eq_some_iff.mp H
  obtain ⟨t260, A80, H⟩ := H
  replace H : (if t260 = true then ((impl_isPoolKey.f a2).bind fun t261 => (if t261 = true then ((impl_within.f a3 0 9999).bind fun t262 => (if t262 = true then (if (wrap64 ((l0_0.length : Int) + 2)) > 200 then (impl_PutIn.j0 k a1 a2 a3 true l0_0 l0_1) else (impl_PutIn.j0 k a1 a2 a3 ((l0_1.length : Int) == 40) l0_0 l0_1)) else (impl_PutIn.j0 k a1 a2 a3 true l0_0 l0_1))) else (impl_PutIn.j0 k a1 a2 a3 true l0_0 l0_1))) else (impl_PutIn.j0 k a1 a2 a3 true l0_0 l0_1)) = some (r1, r2, r3) := H
  have A8 := Aside0.mk A80
  clear A80
  by_cases c9 : t260 = true
  ·subst c9
   have H1 : ((impl_isPoolKey.f a2).bind fun t261 => (if t261 = true then ((impl_within.f a3 0 9999).bind fun t262 => (if t262 = true then (if (wrap64 ((l0_0.length : Int) + 2)) > 200 then (impl_PutIn.j0 k a1 a2 a3 true l0_0 l0_1) else (impl_PutIn.j0 k a1 a2 a3 ((l0_1.length : Int) == 40) l0_0 l0_1)) else (impl_PutIn.j0 k a1 a2 a3 true l0_0 l0_1))) else (impl_PutIn.j0 k a1 a2 a3 true l0_0 l0_1))) = some (r1, r2, r3) := by rw [if_pos rfl] at H; exact H
   clear H
   have H := H1
   clear H1
   replace H := Option.bind_eq_some_iff.mp H
   obtain ⟨t261, A100, H⟩ := H
   replace H : (if t261 = true then ((impl_within.f a3 0 9999).bind fun t262 => (if t262 = true then (if (wrap64 ((l0_0.length : Int) + 2)) > 200 then (impl_PutIn.j0 k a1 a2 a3 true l0_0 l0_1) else (impl_PutIn.j0 k a1 a2 a3 ((l0_1.length : Int) == 40) l0_0 l0_1)) else (impl_PutIn.j0 k a1 a2 a3 true l0_0 l0_1))) else (impl_PutIn.j0 k a1 a2 a3 true l0_0 l0_1)) = some (r1, r2, r3) := H
   have A10 := Aside0.mk A100
   clear A100
   by_cases c11 : t261 = true
   ·subst c11
    have H1 : ((impl_within.f a3 0 9999).bind fun t262 => (if t262 = true then (if (wrap64 ((l0_0.length : Int) + 2)) > 200 then (impl_PutIn.j0 k a1 a2 a3 true l0_0 l0_1) else (impl_PutIn.j0 k a1 a2 a3 ((l0_1.length : Int) == 40) l0_0 l0_1)) else (impl_PutIn.j0 k a1 a2 a3 true l0_0 l0_1))) = some (r1, r2, r3) := by rw [if_pos rfl] at H; exact H
    clear H
    have H := H1
    clear H1
    replace H := Option.bind_eq_some_iff.mp H
    obtain ⟨t262, A120, H⟩ := H
    replace H : (if t262 = true then (if (wrap64 ((l0_0.length : Int) + 2)) > 200 then (impl_PutIn.j0 k a1 a2 a3 true l0_0 l0_1) else (impl_PutIn.j0 k a1 a2 a3 ((l0_1.length : Int) == 40) l0_0 l0_1)) else (impl_PutIn.j0 k a1 a2 a3 true l0_0 l0_1)) = some (r1, r2, r3) := H
    have A12 := Aside0.mk A120
    clear A120
    by_cases c13 : t262 = true
    ·subst c13
     have H1 : (if (wrap64 ((l0_0.length : Int) + 2)) > 200 then (impl_PutIn.j0 k a1 a2 a3 true l0_0 l0_1) else (impl_PutIn.j0 k a1 a2 a3 ((l0_1.length : Int) == 40) l0_0 l0_1)) = some (r1, r2, r3) := by rw [if_pos rfl] at H; exact H
     clear H
     have H := H1
     clear H1
     by_cases c14 : (wrap64 ((l0_0.length : Int) + 2)) > 200
     ·rw [if_pos c14] at H
      have c14b0 : decide (200 < (wrap64 ((l0_0.length : Int) + 2))) = true := decide_eq_true c14
      clear c14
      (first | rw [c14b0] | (simp only [i64_w, i32_w]; rw [c14b0]) | skip)
      have H' := Aside0.mk H
      clear H
      have hnb15 := NB255_256.out
      have hnc15 := NB256_255.out
      have hcz16_0 : w7.cell? ⟨gb255, 0, none⟩ = some (.slice A0_0 l0_0.length c0_0) := (blk_cell BK255.out 0).trans rfl
      have hcz16_1 : w7.cell? ⟨gb255, 1, none⟩ = some (.slice A0_1 l0_1.length c0_1) := (blk_cell BK255.out 1).trans rfl
      have hfz16_0 := blk_frozen BK255.out 0
      have hfz16_1 := blk_frozen BK255.out 1
      go_wp2_with (first | ((with_reducible refine gate_dst (N := 17) rfl ?_); (try (refine gate_guard (by rfl) ?_; dsimp only)); refine Kd.R_lit (Kd.int .i64) _ 3 ?hg (N := 17) ?hd (xs := ([a1] : List Int)) (inner := [.int .i64 a1]) (ok := fun _ => True) (okp := fun _ => True) ?hr ?hp (fun _ hk => hk) trivial (Below.refl _ _) (Nat.le_refl _) (by simp) ?_; (case hd => rfl); (case hg => rfl); (case hr => first | (go_simp; done) | (go_simp; rfl)); (case hp => exact (Reps.one (show Kd.M (Kd.int .i64) _ _ _ a1 [.int .i64 a1] from rfl) (Reps.none _ _))); intro v258 w17 ho18 hb hg_ hnew_; clear hg_ hnew_; (first | rw [← Ny257.out] at ho18 | (simp only [Int.reduceToNat] at ho18; rw [← Ny257.out] at ho18)); have n0_ := Aside0.mk (Kd.R_lower ho18 (Op.a6 (by repeat (first | (with_reducible first | exact HB.out | apply Op.a1 | apply Op.a2 | apply Op.a3 | refine Op.a4 ?_ GE255.out | refine Op.a4 ?_ GE256.out) | exact HB.out)))); have n1_ := Aside0.mk (Op.b4 (g := gb255) (o := .cells #[.slice A0_0 l0_0.length c0_0, .slice A0_1 l0_1.length c0_1] 25 (0, 0)) (by (with_reducible repeat (first | refine Op.b1 ?_ _ | refine Op.b2 ?_ | refine Op.b3 ?_ _)); exact BK255.out) hb); have n2_ := Aside0.mk (Op.b4 (g := gb256) (o := .cells #[.slice none 0 0, .slice none 0 0] 25 (0, 0)) (by (with_reducible repeat (first | refine Op.b1 ?_ _ | refine Op.b2 ?_ | refine Op.b3 ?_ _)); exact BK256.out) hb); have n3_ := Aside0.mk (Op.a5 (by repeat (first | (with_reducible first | exact HB.out | apply Op.a1 | apply Op.a2 | apply Op.a3 | refine Op.a4 ?_ GE255.out | refine Op.a4 ?_ GE256.out) | exact HB.out)) hb); clear BK255; clear BK256; clear HB; have HO259 := n0_; have BK255 := n1_; have BK256 := n2_; have HB := n3_; clear n0_ n1_ n2_ n3_; clear hb ho18; obtain ⟨Ao19, co19, eo19⟩ := Kd.R_slice HO259.out; subst eo19) | ((with_reducible refine gate_callee (f := 61) rfl ?_); refine goesL_ (some 18) rfl rfl Try.func61 (by kernel_rfl) rfl #[.agg #[.slice A0_0 l0_0.length c0_0, .slice A0_1 l0_1.length c0_1], .slice Ao19 y257.length co19] rfl (by (try simp only [List.map_toArray, List.map_cons, List.map_nil]); first | done | rfl | (simp only [List.length_drop, List.length_take]; rfl)) ?_; (with_reducible refine (impl_isVersion.calls _ _ l0_0 _ _ l0_1 _ _ y257 true _ ?side1 ?side2 ?side3 ?side4 ?side5 ?side6 A8.out).mono ?_); (case side1 => repeat (first | exact (Kd.C_below HR0_0.out HB.out) | (with_reducible refine Kd.C_alloc ?_ _) | (with_reducible refine Kd.C_drewN ?_ _) | (with_reducible refine Kd.C_drew ?_))); (case side2 => exact HC0_0.out); (case side3 => repeat (first | exact (Kd.C_below HR0_1.out HB.out) | (with_reducible refine Kd.C_alloc ?_ _) | (with_reducible refine Kd.C_drewN ?_ _) | (with_reducible refine Kd.C_drew ?_))); (case side4 => exact HC0_1.out); (case side5 => repeat (first | exact (Kd.R_reads' HO259.out).2.2 | (with_reducible refine Kd.C_alloc ?_ _) | (with_reducible refine Kd.C_drewN ?_ _) | (with_reducible refine Kd.C_drew ?_))); (case side6 => exact (Kd.R_reads' HO259.out).2.1); rintro e w20 ⟨rfl, hb⟩; refine ⟨_, rfl, ?_⟩; have n0_ := Aside0.mk (Kd.R_below (by (with_reducible repeat (first | apply Kd.R_alloc | apply Kd.R_drewN | apply Kd.R_drew)); exact HO259.out) hb); have n1_ := Aside0.mk (Op.b4 (g := gb255) (o := .cells #[.slice A0_0 l0_0.length c0_0, .slice A0_1 l0_1.length c0_1] 25 (0, 0)) (by (with_reducible repeat (first | refine Op.b1 ?_ _ | refine Op.b2 ?_ | refine Op.b3 ?_ _)); exact BK255.out) hb); have n2_ := Aside0.mk (Op.b4 (g := gb256) (o := .cells #[.slice none 0 0, .slice none 0 0] 25 (0, 0)) (by (with_reducible repeat (first | refine Op.b1 ?_ _ | refine Op.b2 ?_ | refine Op.b3 ?_ _)); exact BK256.out) hb); have n3_ := Aside0.mk (Op.a5 (by repeat (first | (with_reducible first | exact HB.out | apply Op.a1 | apply Op.a2 | apply Op.a3 | refine Op.a4 ?_ GE255.out | refine Op.a4 ?_ GE256.out) | exact HB.out)) hb); clear HO259; clear BK255; clear BK256; clear HB; have HO259 := n0_; have BK255 := n1_; have BK256 := n2_; have HB := n3_; clear n0_ n1_ n2_ n3_; (try clear hb); (try clear hb2); (try clear hk); (try clear hi)) | (go_at_call 62; (with_reducible refine (impl_isPoolKey.calls a2 true _ A10.out).mono ?_); rintro e w' ⟨rfl, ⟨nd, rfl⟩⟩) | (go_at_call 57; (with_reducible refine (impl_within.calls a3 0 9999 true _ A12.out).mono ?_); rintro e w' ⟨rfl, ⟨nd, rfl⟩⟩; have hcz21_0 : w20.cell? ⟨gb255, 0, none⟩ = some (.slice A0_0 l0_0.length c0_0) := (blk_cell BK255.out 0).trans rfl; have hcz21_1 : w20.cell? ⟨gb255, 1, none⟩ = some (.slice A0_1 l0_1.length c0_1) := (blk_cell BK255.out 1).trans rfl; have hfz21_0 := blk_frozen BK255.out 0; have hfz21_1 := blk_frozen BK255.out 1))
      go_meet
      case rel => exact ⟨_, (true), (by first | rfl | (simp; done) | (simp [*]; done)), H', ⟨by first | omega | exact Nat.le_refl _⟩, ⟨by (with_reducible repeat (first | refine Op.b1 ?_ _ | refine Op.b2 ?_ | refine Op.b3 ?_ _)); exact BK255.out⟩, ⟨by (with_reducible repeat (first | refine Op.b1 ?_ _ | refine Op.b2 ?_ | refine Op.b3 ?_ _)); exact BK256.out⟩, ⟨by repeat (first | (with_reducible first | exact HB.out | apply Op.a1 | apply Op.a2 | apply Op.a3 | refine Op.a4 ?_ GE255.out | refine Op.a4 ?_ GE256.out) | exact HB.out)⟩⟩
     ·rw [if_neg c14] at H
      have c14b0 : decide (200 < (wrap64 ((l0_0.length : Int) + 2))) = false := decide_eq_false c14
      clear c14
      (first | rw [c14b0] | (simp only [i64_w, i32_w]; rw [c14b0]) | skip)
      have H' := Aside0.mk H
      clear H
      have hnb22 := NB255_256.out
      have hnc22 := NB256_255.out
      have hcz23_0 : w7.cell? ⟨gb255, 0, none⟩ = some (.slice A0_0 l0_0.length c0_0) := (blk_cell BK255.out 0).trans rfl
      have hcz23_1 : w7.cell? ⟨gb255, 1, none⟩ = some (.slice A0_1 l0_1.length c0_1) := (blk_cell BK255.out 1).trans rfl
      have hfz23_0 := blk_frozen BK255.out 0
      have hfz23_1 := blk_frozen BK255.out 1
      go_wp2_with (first | ((with_reducible refine gate_dst (N := 17) rfl ?_); (try (refine gate_guard (by rfl) ?_; dsimp only)); refine Kd.R_lit (Kd.int .i64) _ 3 ?hg (N := 17) ?hd (xs := ([a1] : List Int)) (inner := [.int .i64 a1]) (ok := fun _ => True) (okp := fun _ => True) ?hr ?hp (fun _ hk => hk) trivial (Below.refl _ _) (Nat.le_refl _) (by simp) ?_; (case hd => rfl); (case hg => rfl); (case hr => first | (go_simp; done) | (go_simp; rfl)); (case hp => exact (Reps.one (show Kd.M (Kd.int .i64) _ _ _ a1 [.int .i64 a1] from rfl) (Reps.none _ _))); intro v258 w24 ho25 hb hg_ hnew_; clear hg_ hnew_; (first | rw [← Ny257.out] at ho25 | (simp only [Int.reduceToNat] at ho25; rw [← Ny257.out] at ho25)); have n0_ := Aside0.mk (Kd.R_lower ho25 (Op.a6 (by repeat (first | (with_reducible first | exact HB.out | apply Op.a1 | apply Op.a2 | apply Op.a3 | refine Op.a4 ?_ GE255.out | refine Op.a4 ?_ GE256.out) | exact HB.out)))); have n1_ := Aside0.mk (Op.b4 (g := gb255) (o := .cells #[.slice A0_0 l0_0.length c0_0, .slice A0_1 l0_1.length c0_1] 25 (0, 0)) (by (with_reducible repeat (first | refine Op.b1 ?_ _ | refine Op.b2 ?_ | refine Op.b3 ?_ _)); exact BK255.out) hb); have n2_ := Aside0.mk (Op.b4 (g := gb256) (o := .cells #[.slice none 0 0, .slice none 0 0] 25 (0, 0)) (by (with_reducible repeat (first | refine Op.b1 ?_ _ | refine Op.b2 ?_ | refine Op.b3 ?_ _)); exact BK256.out) hb); have n3_ := Aside0.mk (Op.a5 (by repeat (first | (with_reducible first | exact HB.out | apply Op.a1 | apply Op.a2 | apply Op.a3 | refine Op.a4 ?_ GE255.out | refine Op.a4 ?_ GE256.out) | exact HB.out)) hb); clear BK255; clear BK256; clear HB; have HO259 := n0_; have BK255 := n1_; have BK256 := n2_; have HB := n3_; clear n0_ n1_ n2_ n3_; clear hb ho25; obtain ⟨Ao26, co26, eo26⟩ := Kd.R_slice HO259.out; subst eo26) | ((with_reducible refine gate_callee (f := 61) rfl ?_); refine goesL_ (some 18) rfl rfl Try.func61 (by kernel_rfl) rfl #[.agg #[.slice A0_0 l0_0.length c0_0, .slice A0_1 l0_1.length c0_1], .slice Ao26 y257.length co26] rfl (by (try simp only [List.map_toArray, List.map_cons, List.map_nil]); first | done | rfl | (simp only [List.length_drop, List.length_take]; rfl)) ?_; (with_reducible refine (impl_isVersion.calls _ _ l0_0 _ _ l0_1 _ _ y257 true _ ?side1 ?side2 ?side3 ?side4 ?side5 ?side6 A8.out).mono ?_); (case side1 => repeat (first | exact (Kd.C_below HR0_0.out HB.out) | (with_reducible refine Kd.C_alloc ?_ _) | (with_reducible refine Kd.C_drewN ?_ _) | (with_reducible refine Kd.C_drew ?_))); (case side2 => exact HC0_0.out); (case side3 => repeat (first | exact (Kd.C_below HR0_1.out HB.out) | (with_reducible refine Kd.C_alloc ?_ _) | (with_reducible refine Kd.C_drewN ?_ _) | (with_reducible refine Kd.C_drew ?_))); (case side4 => exact HC0_1.out); (case side5 => repeat (first | exact (Kd.R_reads' HO259.out).2.2 | (with_reducible refine Kd.C_alloc ?_ _) | (with_reducible refine Kd.C_drewN ?_ _) | (with_reducible refine Kd.C_drew ?_))); (case side6 => exact (Kd.R_reads' HO259.out).2.1); rintro e w27 ⟨rfl, hb⟩; refine ⟨_, rfl, ?_⟩; have n0_ := Aside0.mk (Kd.R_below (by (with_reducible repeat (first | apply Kd.R_alloc | apply Kd.R_drewN | apply Kd.R_drew)); exact HO259.out) hb); have n1_ := Aside0.mk (Op.b4 (g := gb255) (o := .cells #[.slice A0_0 l0_0.length c0_0, .slice A0_1 l0_1.length c0_1] 25 (0, 0)) (by (with_reducible repeat (first | refine Op.b1 ?_ _ | refine Op.b2 ?_ | refine Op.b3 ?_ _)); exact BK255.out) hb); have n2_ := Aside0.mk (Op.b4 (g := gb256) (o := .cells #[.slice none 0 0, .slice none 0 0] 25 (0, 0)) (by (with_reducible repeat (first | refine Op.b1 ?_ _ | refine Op.b2 ?_ | refine Op.b3 ?_ _)); exact BK256.out) hb); have n3_ := Aside0.mk (Op.a5 (by repeat (first | (with_reducible first | exact HB.out | apply Op.a1 | apply Op.a2 | apply Op.a3 | refine Op.a4 ?_ GE255.out | refine Op.a4 ?_ GE256.out) | exact HB.out)) hb); clear HO259; clear BK255; clear BK256; clear HB; have HO259 := n0_; have BK255 := n1_; have BK256 := n2_; have HB := n3_; clear n0_ n1_ n2_ n3_; (try clear hb); (try clear hb2); (try clear hk); (try clear hi)) | (go_at_call 62; (with_reducible refine (impl_isPoolKey.calls a2 true _ A10.out).mono ?_); rintro e w' ⟨rfl, ⟨nd, rfl⟩⟩) | (go_at_call 57; (with_reducible refine (impl_within.calls a3 0 9999 true _ A12.out).mono ?_); rintro e w' ⟨rfl, ⟨nd, rfl⟩⟩; have hcz28_0 : w27.cell? ⟨gb255, 0, none⟩ = some (.slice A0_0 l0_0.length c0_0) := (blk_cell BK255.out 0).trans rfl; have hcz28_1 : w27.cell? ⟨gb255, 1, none⟩ = some (.slice A0_1 l0_1.length c0_1) := (blk_cell BK255.out 1).trans rfl; have hfz28_0 := blk_frozen BK255.out 0; have hfz28_1 := blk_frozen BK255.out 1))
      go_meet
      case rel => exact ⟨_, (((l0_1.length : Int) == 40)), (by first | rfl | (simp; done) | (simp [*]; done)), H', ⟨by first | omega | exact Nat.le_refl _⟩, ⟨by (with_reducible repeat (first | refine Op.b1 ?_ _ | refine Op.b2 ?_ | refine Op.b3 ?_ _)); exact BK255.out⟩, ⟨by (with_reducible repeat (first | refine Op.b1 ?_ _ | refine Op.b2 ?_ | refine Op.b3 ?_ _)); exact BK256.out⟩, ⟨by repeat (first | (with_reducible first | exact HB.out | apply Op.a1 | apply Op.a2 | apply Op.a3 | refine Op.a4 ?_ GE255.out | refine Op.a4 ?_ GE256.out) | exact HB.out)⟩⟩
    ·replace c13 := Bool.eq_false_iff.mpr c13
     subst c13
     have H1 : (impl_PutIn.j0 k a1 a2 a3 true l0_0 l0_1) = some (r1, r2, r3) := by rw [if_neg (show ¬ (false = true) by decide)] at H; exact H
     clear H
     have H := H1
     clear H1
     have H' := Aside0.mk H
     clear H
     have hnb29 := NB255_256.out
     have hnc29 := NB256_255.out
     have hcz30_0 : w7.cell? ⟨gb255, 0, none⟩ = some (.slice A0_0 l0_0.length c0_0) := (blk_cell BK255.out 0).trans rfl
     have hcz30_1 : w7.cell? ⟨gb255, 1, none⟩ = some (.slice A0_1 l0_1.length c0_1) := (blk_cell BK255.out 1).trans rfl
     have hfz30_0 := blk_frozen BK255.out 0
     have hfz30_1 := blk_frozen BK255.out 1
     go_wp2_with (first | ((with_reducible refine gate_dst (N := 17) rfl ?_); (try (refine gate_guard (by rfl) ?_; dsimp only)); refine Kd.R_lit (Kd.int .i64) _ 3 ?hg (N := 17) ?hd (xs := ([a1] : List Int)) (inner := [.int .i64 a1]) (ok := fun _ => True) (okp := fun _ => True) ?hr ?hp (fun _ hk => hk) trivial (Below.refl _ _) (Nat.le_refl _) (by simp) ?_; (case hd => rfl); (case hg => rfl); (case hr => first | (go_simp; done) | (go_simp; rfl)); (case hp => exact (Reps.one (show Kd.M (Kd.int .i64) _ _ _ a1 [.int .i64 a1] from rfl) (Reps.none _ _))); intro v258 w31 ho32 hb hg_ hnew_; clear hg_ hnew_; (first | rw [← Ny257.out] at ho32 | (simp only [Int.reduceToNat] at ho32; rw [← Ny257.out] at ho32)); have n0_ := Aside0.mk (Kd.R_lower ho32 (Op.a6 (by repeat (first | (with_reducible first | exact HB.out | apply Op.a1 | apply Op.a2 | apply Op.a3 | refine Op.a4 ?_ GE255.out | refine Op.a4 ?_ GE256.out) | exact HB.out)))); have n1_ := Aside0.mk (Op.b4 (g := gb255) (o := .cells #[.slice A0_0 l0_0.length c0_0, .slice A0_1 l0_1.length c0_1] 25 (0, 0)) (by (with_reducible repeat (first | refine Op.b1 ?_ _ | refine Op.b2 ?_ | refine Op.b3 ?_ _)); exact BK255.out) hb); have n2_ := Aside0.mk (Op.b4 (g := gb256) (o := .cells #[.slice none 0 0, .slice none 0 0] 25 (0, 0)) (by (with_reducible repeat (first | refine Op.b1 ?_ _ | refine Op.b2 ?_ | refine Op.b3 ?_ _)); exact BK256.out) hb); have n3_ := Aside0.mk (Op.a5 (by repeat (first | (with_reducible first | exact HB.out | apply Op.a1 | apply Op.a2 | apply Op.a3 | refine Op.a4 ?_ GE255.out | refine Op.a4 ?_ GE256.out) | exact HB.out)) hb); clear BK255; clear BK256; clear HB; have HO259 := n0_; have BK255 := n1_; have BK256 := n2_; have HB := n3_; clear n0_ n1_ n2_ n3_; clear hb ho32; obtain ⟨Ao33, co33, eo33⟩ := Kd.R_slice HO259.out; subst eo33) | ((with_reducible refine gate_callee (f := 61) rfl ?_); refine goesL_ (some 18) rfl rfl Try.func61 (by kernel_rfl) rfl #[.agg #[.slice A0_0 l0_0.length c0_0, .slice A0_1 l0_1.length c0_1], .slice Ao33 y257.length co33] rfl (by (try simp only [List.map_toArray, List.map_cons, List.map_nil]); first | done | rfl | (simp only [List.length_drop, List.length_take]; rfl)) ?_; (with_reducible refine (impl_isVersion.calls _ _ l0_0 _ _ l0_1 _ _ y257 true _ ?side1 ?side2 ?side3 ?side4 ?side5 ?side6 A8.out).mono ?_); (case side1 => repeat (first | exact (Kd.C_below HR0_0.out HB.out) | (with_reducible refine Kd.C_alloc ?_ _) | (with_reducible refine Kd.C_drewN ?_ _) | (with_reducible refine Kd.C_drew ?_))); (case side2 => exact HC0_0.out); (case side3 => repeat (first | exact (Kd.C_below HR0_1.out HB.out) | (with_reducible refine Kd.C_alloc ?_ _) | (with_reducible refine Kd.C_drewN ?_ _) | (with_reducible refine Kd.C_drew ?_))); (case side4 => exact HC0_1.out); (case side5 => repeat (first | exact (Kd.R_reads' HO259.out).2.2 | (with_reducible refine Kd.C_alloc ?_ _) | (with_reducible refine Kd.C_drewN ?_ _) | (with_reducible refine Kd.C_drew ?_))); (case side6 => exact (Kd.R_reads' HO259.out).2.1); rintro e w34 ⟨rfl, hb⟩; refine ⟨_, rfl, ?_⟩; have n0_ := Aside0.mk (Kd.R_below (by (with_reducible repeat (first | apply Kd.R_alloc | apply Kd.R_drewN | apply Kd.R_drew)); exact HO259.out) hb); have n1_ := Aside0.mk (Op.b4 (g := gb255) (o := .cells #[.slice A0_0 l0_0.length c0_0, .slice A0_1 l0_1.length c0_1] 25 (0, 0)) (by (with_reducible repeat (first | refine Op.b1 ?_ _ | refine Op.b2 ?_ | refine Op.b3 ?_ _)); exact BK255.out) hb); have n2_ := Aside0.mk (Op.b4 (g := gb256) (o := .cells #[.slice none 0 0, .slice none 0 0] 25 (0, 0)) (by (with_reducible repeat (first | refine Op.b1 ?_ _ | refine Op.b2 ?_ | refine Op.b3 ?_ _)); exact BK256.out) hb); have n3_ := Aside0.mk (Op.a5 (by repeat (first | (with_reducible first | exact HB.out | apply Op.a1 | apply Op.a2 | apply Op.a3 | refine Op.a4 ?_ GE255.out | refine Op.a4 ?_ GE256.out) | exact HB.out)) hb); clear HO259; clear BK255; clear BK256; clear HB; have HO259 := n0_; have BK255 := n1_; have BK256 := n2_; have HB := n3_; clear n0_ n1_ n2_ n3_; (try clear hb); (try clear hb2); (try clear hk); (try clear hi)) | (go_at_call 62; (with_reducible refine (impl_isPoolKey.calls a2 true _ A10.out).mono ?_); rintro e w' ⟨rfl, ⟨nd, rfl⟩⟩) | (go_at_call 57; (with_reducible refine (impl_within.calls a3 0 9999 false _ A12.out).mono ?_); rintro e w' ⟨rfl, ⟨nd, rfl⟩⟩))
     go_meet
     case rel => exact ⟨_, (true), (by first | rfl | (simp; done) | (simp [*]; done)), H', ⟨by first | omega | exact Nat.le_refl _⟩, ⟨by (with_reducible repeat (first | refine Op.b1 ?_ _ | refine Op.b2 ?_ | refine Op.b3 ?_ _)); exact BK255.out⟩, ⟨by (with_reducible repeat (first | refine Op.b1 ?_ _ | refine Op.b2 ?_ | refine Op.b3 ?_ _)); exact BK256.out⟩, ⟨by repeat (first | (with_reducible first | exact HB.out | apply Op.a1 | apply Op.a2 | apply Op.a3 | refine Op.a4 ?_ GE255.out | refine Op.a4 ?_ GE256.out) | exact HB.out)⟩⟩
   ·replace c11 := Bool.eq_false_iff.mpr c11
    subst c11
    have H1 : (impl_PutIn.j0 k a1 a2 a3 true l0_0 l0_1) = some (r1, r2, r3) := by rw [if_neg (show ¬ (false = true) by decide)] at H; exact H
    clear H
    have H := H1
    clear H1
    have H' := Aside0.mk H
    clear H
    have hnb35 := NB255_256.out
    have hnc35 := NB256_255.out
    have hcz36_0 : w7.cell? ⟨gb255, 0, none⟩ = some (.slice A0_0 l0_0.length c0_0) := (blk_cell BK255.out 0).trans rfl
    have hcz36_1 : w7.cell? ⟨gb255, 1, none⟩ = some (.slice A0_1 l0_1.length c0_1) := (blk_cell BK255.out 1).trans rfl
    have hfz36_0 := blk_frozen BK255.out 0
    have hfz36_1 := blk_frozen BK255.out 1
    go_wp2_with (first | ((with_reducible refine gate_dst (N := 17) rfl ?_); (try (refine gate_guard (by rfl) ?_; dsimp only)); refine Kd.R_lit (Kd.int .i64) _ 3 ?hg (N := 17) ?hd (xs := ([a1] : List Int)) (inner := [.int .i64 a1]) (ok := fun _ => True) (okp := fun _ => True) ?hr ?hp (fun _ hk => hk) trivial (Below.refl _ _) (Nat.le_refl _) (by simp) ?_; (case hd => rfl); (case hg => rfl); (case hr => first | (go_simp; done) | (go_simp; rfl)); (case hp => exact (Reps.one (show Kd.M (Kd.int .i64) _ _ _ a1 [.int .i64 a1] from rfl) (Reps.none _ _))); intro v258 w37 ho38 hb hg_ hnew_; clear hg_ hnew_; (first | rw [← Ny257.out] at ho38 | (simp only [Int.reduceToNat] at ho38; rw [← Ny257.out] at ho38)); have n0_ := Aside0.mk (Kd.R_lower ho38 (Op.a6 (by repeat (first | (with_reducible first | exact HB.out | apply Op.a1 | apply Op.a2 | apply Op.a3 | refine Op.a4 ?_ GE255.out | refine Op.a4 ?_ GE256.out) | exact HB.out)))); have n1_ := Aside0.mk (Op.b4 (g := gb255) (o := .cells #[.slice A0_0 l0_0.length c0_0, .slice A0_1 l0_1.length c0_1] 25 (0, 0)) (by (with_reducible repeat (first | refine Op.b1 ?_ _ | refine Op.b2 ?_ | refine Op.b3 ?_ _)); exact BK255.out) hb); have n2_ := Aside0.mk (Op.b4 (g := gb256) (o := .cells #[.slice none 0 0, .slice none 0 0] 25 (0, 0)) (by (with_reducible repeat (first | refine Op.b1 ?_ _ | refine Op.b2 ?_ | refine Op.b3 ?_ _)); exact BK256.out) hb); have n3_ := Aside0.mk (Op.a5 (by repeat (first | (with_reducible first | exact HB.out | apply Op.a1 | apply Op.a2 | apply Op.a3 | refine Op.a4 ?_ GE255.out | refine Op.a4 ?_ GE256.out) | exact HB.out)) hb); clear BK255; clear BK256; clear HB; have HO259 := n0_; have BK255 := n1_; have BK256 := n2_; have HB := n3_; clear n0_ n1_ n2_ n3_; clear hb ho38; obtain ⟨Ao39, co39, eo39⟩ := Kd.R_slice HO259.out; subst eo39) | ((with_reducible refine gate_callee (f := 61) rfl ?_); refine goesL_ (some 18) rfl rfl Try.func61 (by kernel_rfl) rfl #[.agg #[.slice A0_0 l0_0.length c0_0, .slice A0_1 l0_1.length c0_1], .slice Ao39 y257.length co39] rfl (by (try simp only [List.map_toArray, List.map_cons, List.map_nil]); first | done | rfl | (simp only [List.length_drop, List.length_take]; rfl)) ?_; (with_reducible refine (impl_isVersion.calls _ _ l0_0 _ _ l0_1 _ _ y257 true _ ?side1 ?side2 ?side3 ?side4 ?side5 ?side6 A8.out).mono ?_); (case side1 => repeat (first | exact (Kd.C_below HR0_0.out HB.out) | (with_reducible refine Kd.C_alloc ?_ _) | (with_reducible refine Kd.C_drewN ?_ _) | (with_reducible refine Kd.C_drew ?_))); (case side2 => exact HC0_0.out); (case side3 => repeat (first | exact (Kd.C_below HR0_1.out HB.out) | (with_reducible refine Kd.C_alloc ?_ _) | (with_reducible refine Kd.C_drewN ?_ _) | (with_reducible refine Kd.C_drew ?_))); (case side4 => exact HC0_1.out); (case side5 => repeat (first | exact (Kd.R_reads' HO259.out).2.2 | (with_reducible refine Kd.C_alloc ?_ _) | (with_reducible refine Kd.C_drewN ?_ _) | (with_reducible refine Kd.C_drew ?_))); (case side6 => exact (Kd.R_reads' HO259.out).2.1); rintro e w40 ⟨rfl, hb⟩; refine ⟨_, rfl, ?_⟩; have n0_ := Aside0.mk (Kd.R_below (by (with_reducible repeat (first | apply Kd.R_alloc | apply Kd.R_drewN | apply Kd.R_drew)); exact HO259.out) hb); have n1_ := Aside0.mk (Op.b4 (g := gb255) (o := .cells #[.slice A0_0 l0_0.length c0_0, .slice A0_1 l0_1.length c0_1] 25 (0, 0)) (by (with_reducible repeat (first | refine Op.b1 ?_ _ | refine Op.b2 ?_ | refine Op.b3 ?_ _)); exact BK255.out) hb); have n2_ := Aside0.mk (Op.b4 (g := gb256) (o := .cells #[.slice none 0 0, .slice none 0 0] 25 (0, 0)) (by (with_reducible repeat (first | refine Op.b1 ?_ _ | refine Op.b2 ?_ | refine Op.b3 ?_ _)); exact BK256.out) hb); have n3_ := Aside0.mk (Op.a5 (by repeat (first | (with_reducible first | exact HB.out | apply Op.a1 | apply Op.a2 | apply Op.a3 | refine Op.a4 ?_ GE255.out | refine Op.a4 ?_ GE256.out) | exact HB.out)) hb); clear HO259; clear BK255; clear BK256; clear HB; have HO259 := n0_; have BK255 := n1_; have BK256 := n2_; have HB := n3_; clear n0_ n1_ n2_ n3_; (try clear hb); (try clear hb2); (try clear hk); (try clear hi)) | (go_at_call 62; (with_reducible refine (impl_isPoolKey.calls a2 false _ A10.out).mono ?_); rintro e w' ⟨rfl, ⟨nd, rfl⟩⟩))
    go_meet
    case rel => exact ⟨_, (true), (by first | rfl | (simp; done) | (simp [*]; done)), H', ⟨by first | omega | exact Nat.le_refl _⟩, ⟨by (with_reducible repeat (first | refine Op.b1 ?_ _ | refine Op.b2 ?_ | refine Op.b3 ?_ _)); exact BK255.out⟩, ⟨by (with_reducible repeat (first | refine Op.b1 ?_ _ | refine Op.b2 ?_ | refine Op.b3 ?_ _)); exact BK256.out⟩, ⟨by repeat (first | (with_reducible first | exact HB.out | apply Op.a1 | apply Op.a2 | apply Op.a3 | refine Op.a4 ?_ GE255.out | refine Op.a4 ?_ GE256.out) | exact HB.out)⟩⟩
  ·replace c9 := Bool.eq_false_iff.mpr c9
   subst c9
   have H1 : (impl_PutIn.j0 k a1 a2 a3 true l0_0 l0_1) = some (r1, r2, r3) := by rw [if_neg (show ¬ (false = true) by decide)] at H; exact H
   clear H
   have H := H1
   clear H1
   have H' := Aside0.mk H
   clear H
   have hnb41 := NB255_256.out
   have hnc41 := NB256_255.out
   have hcz42_0 : w7.cell? ⟨gb255, 0, none⟩ = some (.slice A0_0 l0_0.length c0_0) := (blk_cell BK255.out 0).trans rfl
   have hcz42_1 : w7.cell? ⟨gb255, 1, none⟩ = some (.slice A0_1 l0_1.length c0_1) := (blk_cell BK255.out 1).trans rfl
   have hfz42_0 := blk_frozen BK255.out 0
   have hfz42_1 := blk_frozen BK255.out 1
   go_wp2_with (first | ((with_reducible refine gate_dst (N := 17) rfl ?_); (try (refine gate_guard (by rfl) ?_; dsimp only)); refine Kd.R_lit (Kd.int .i64) _ 3 ?hg (N := 17) ?hd (xs := ([a1] : List Int)) (inner := [.int .i64 a1]) (ok := fun _ => True) (okp := fun _ => True) ?hr ?hp (fun _ hk => hk) trivial (Below.refl _ _) (Nat.le_refl _) (by simp) ?_; (case hd => rfl); (case hg => rfl); (case hr => first | (go_simp; done) | (go_simp; rfl)); (case hp => exact (Reps.one (show Kd.M (Kd.int .i64) _ _ _ a1 [.int .i64 a1] from rfl) (Reps.none _ _))); intro v258 w43 ho44 hb hg_ hnew_; clear hg_ hnew_; (first | rw [← Ny257.out] at ho44 | (simp only [Int.reduceToNat] at ho44; rw [← Ny257.out] at ho44)); have n0_ := Aside0.mk (Kd.R_lower ho44 (Op.a6 (by repeat (first | (with_reducible first | exact HB.out | apply Op.a1 | apply Op.a2 | apply Op.a3 | refine Op.a4 ?_ GE255.out | refine Op.a4 ?_ GE256.out) | exact HB.out)))); have n1_ := Aside0.mk (Op.b4 (g := gb255) (o := .cells #[.slice A0_0 l0_0.length c0_0, .slice A0_1 l0_1.length c0_1] 25 (0, 0)) (by (with_reducible repeat (first | refine Op.b1 ?_ _ | refine Op.b2 ?_ | refine Op.b3 ?_ _)); exact BK255.out) hb); have n2_ := Aside0.mk (Op.b4 (g := gb256) (o := .cells #[.slice none 0 0, .slice none 0 0] 25 (0, 0)) (by (with_reducible repeat (first | refine Op.b1 ?_ _ | refine Op.b2 ?_ | refine Op.b3 ?_ _)); exact BK256.out) hb); have n3_ := Aside0.mk (Op.a5 (by repeat (first | (with_reducible first | exact HB.out | apply Op.a1 | apply Op.a2 | apply Op.a3 | refine Op.a4 ?_ GE255.out | refine Op.a4 ?_ GE256.out) | exact HB.out)) hb); clear BK255; clear BK256; clear HB; have HO259 := n0_; have BK255 := n1_; have BK256 := n2_; have HB := n3_; clear n0_ n1_ n2_ n3_; clear hb ho44; obtain ⟨Ao45, co45, eo45⟩ := Kd.R_slice HO259.out; subst eo45) | ((with_reducible refine gate_callee (f := 61) rfl ?_); refine goesL_ (some 18) rfl rfl Try.func61 (by kernel_rfl) rfl #[.agg #[.slice A0_0 l0_0.length c0_0, .slice A0_1 l0_1.length c0_1], .slice Ao45 y257.length co45] rfl (by (try simp only [List.map_toArray, List.map_cons, List.map_nil]); first | done | rfl | (simp only [List.length_drop, List.length_take]; rfl)) ?_; (with_reducible refine (impl_isVersion.calls _ _ l0_0 _ _ l0_1 _ _ y257 false _ ?side1 ?side2 ?side3 ?side4 ?side5 ?side6 A8.out).mono ?_); (case side1 => repeat (first | exact (Kd.C_below HR0_0.out HB.out) | (with_reducible refine Kd.C_alloc ?_ _) | (with_reducible refine Kd.C_drewN ?_ _) | (with_reducible refine Kd.C_drew ?_))); (case side2 => exact HC0_0.out); (case side3 => repeat (first | exact (Kd.C_below HR0_1.out HB.out) | (with_reducible refine Kd.C_alloc ?_ _) | (with_reducible refine Kd.C_drewN ?_ _) | (with_reducible refine Kd.C_drew ?_))); (case side4 => exact HC0_1.out); (case side5 => repeat (first | exact (Kd.R_reads' HO259.out).2.2 | (with_reducible refine Kd.C_alloc ?_ _) | (with_reducible refine Kd.C_drewN ?_ _) | (with_reducible refine Kd.C_drew ?_))); (case side6 => exact (Kd.R_reads' HO259.out).2.1); rintro e w46 ⟨rfl, hb⟩; refine ⟨_, rfl, ?_⟩; have n0_ := Aside0.mk (Kd.R_below (by (with_reducible repeat (first | apply Kd.R_alloc | apply Kd.R_drewN | apply Kd.R_drew)); exact HO259.out) hb); have n1_ := Aside0.mk (Op.b4 (g := gb255) (o := .cells #[.slice A0_0 l0_0.length c0_0, .slice A0_1 l0_1.length c0_1] 25 (0, 0)) (by (with_reducible repeat (first | refine Op.b1 ?_ _ | refine Op.b2 ?_ | refine Op.b3 ?_ _)); exact BK255.out) hb); have n2_ := Aside0.mk (Op.b4 (g := gb256) (o := .cells #[.slice none 0 0, .slice none 0 0] 25 (0, 0)) (by (with_reducible repeat (first | refine Op.b1 ?_ _ | refine Op.b2 ?_ | refine Op.b3 ?_ _)); exact BK256.out) hb); have n3_ := Aside0.mk (Op.a5 (by repeat (first | (with_reducible first | exact HB.out | apply Op.a1 | apply Op.a2 | apply Op.a3 | refine Op.a4 ?_ GE255.out | refine Op.a4 ?_ GE256.out) | exact HB.out)) hb); clear HO259; clear BK255; clear BK256; clear HB; have HO259 := n0_; have BK255 := n1_; have BK256 := n2_; have HB := n3_; clear n0_ n1_ n2_ n3_; (try clear hb); (try clear hb2); (try clear hk); (try clear hi)))
   go_meet
   case rel => exact ⟨_, (true), (by first | rfl | (simp; done) | (simp [*]; done)), H', ⟨by first | omega | exact Nat.le_refl _⟩, ⟨by (with_reducible repeat (first | refine Op.b1 ?_ _ | refine Op.b2 ?_ | refine Op.b3 ?_ _)); exact BK255.out⟩, ⟨by (with_reducible repeat (first | refine Op.b1 ?_ _ | refine Op.b2 ?_ | refine Op.b3 ?_ _)); exact BK256.out⟩, ⟨by repeat (first | (with_reducible first | exact HB.out | apply Op.a1 | apply Op.a2 | apply Op.a3 | refine Op.a4 ?_ GE255.out | refine Op.a4 ?_ GE256.out) | exact HB.out)⟩⟩
 case rest =>
  clear HC5
  try clear c1
  try clear c2
  try clear p2
  try clear c3
  try clear c4
  try clear c6
  try clear p6
  try clear c9
  try clear c11
  try clear c13
  try clear c14
  try clear c14b0
  try clear c15
  try clear c22
  try clear c29
  try clear c34
  try clear c35
  try clear c41
  try clear hcz16_0
  try clear hcz16_1
  try clear hcz21_0
  try clear hcz21_1
  try clear hcz23_0
  try clear hcz23_1
  try clear hcz28_0
  try clear hcz28_1
  try clear hcz30_0
  try clear hcz30_1
  try clear hcz36_0
  try clear hcz36_1
  try clear hcz42_0
  try clear hcz42_1
  try clear hfz16_0
  try clear hfz16_1
  try clear hfz21_0
  try clear hfz21_1
  try clear hfz23_0
  try clear hfz23_1
  try clear hfz28_0
  try clear hfz28_1
  try clear hfz30_0
  try clear hfz30_1
  try clear hfz36_0
  try clear hfz36_1
  try clear hfz42_0
  try clear hfz42_1
  obtain ⟨kq, x42_4, rfl, HA, HJ4, BK255, BK256, HB⟩ := hcut
  cases kq with
  | zero => exact absurd HA.out (by simp [impl_PutIn.j0])
  | succ kj4 =>
   have H := HA.out
   clear HA
   simp only [impl_PutIn.j0] at H
   by_cases c47 : x42_4 = true
   ·subst c47
    have H1 : (some (([] : List (S65)), ([] : List Int), false)) = some (r1, r2, r3) := by rw [if_pos rfl] at H; exact H
    clear H
    have H := H1
    clear H1
    simp only [Option.some.injEq, Prod.mk.injEq] at H
    obtain ⟨rfl, rfl, rfl⟩ := H
    have hnb48 := NB256_255.out
    have hnc48 := NB255_256.out
    have hcz49_0 : wc.cell? ⟨gb256, 0, none⟩ = some (.slice none 0 0) := (blk_cell BK256.out 0).trans rfl
    have hcz49_1 : wc.cell? ⟨gb256, 1, none⟩ = some (.slice none 0 0) := (blk_cell BK256.out 1).trans rfl
    have hfz49_0 := blk_frozen BK256.out 0
    have hfz49_1 := blk_frozen BK256.out 1
    go_wp2
    refine bodyPost_ret (results_ct rfl _ _ gb256 25 #[.slice none 0 0, .slice none 0 0] (0, 0) _ rfl (by (with_reducible repeat (first | refine Op.b1 ?_ _ | refine Op.b2 ?_ | refine Op.b3 ?_ _)); refine blk_put (cs := #[.slice none 0 0, .slice none 0 0]) ?_ 1 _ rfl; (with_reducible repeat (first | refine Op.b1 ?_ _ | refine Op.b2 ?_ | refine Op.b3 ?_ _)); refine blk_put (cs := #[.slice none 0 0, .slice none 0 0]) ?_ 0 _ rfl; (with_reducible repeat (first | refine Op.b1 ?_ _ | refine Op.b2 ?_ | refine Op.b3 ?_ _)); exact BK256.out) Try.underlying25 rfl (by kernel_rfl)) rfl ?_
    exact ⟨_, _, by first | rfl | (simp [errW_none, errW_some] <;> rfl) | (simp [*, errW_none, errW_some] <;> rfl), by first | exact Kd.S_nil _ _ _ _ _ | exact Kd.N_nil _ _ _ _ _ | exact Kd.V_nil _ _ _ _ _ | exact Kd.Q_nil _ _ _ _ _ | exact Kd.R_nil _ _ _ _ _, by first | exact Kd.R_nil _ _ _ _ _ | exact Kd.N_nil _ _ _ _ _ | exact Kd.V_nil _ _ _ _ _ | exact Kd.Q_nil _ _ _ _ _ | exact Kd.S_nil _ _ _ _ _, by repeat (first | (with_reducible first | exact HB.out | apply Op.a1 | apply Op.a2 | apply Op.a3 | refine Op.a4 ?_ GE255.out | refine Op.a4 ?_ GE256.out) | exact HB.out)⟩
   ·replace c47 := Bool.eq_false_iff.mpr c47
    subst c47
    have H1 : ((impl_ownPool.f kj4 l0_0 l0_1).bind fun bt263 => (if 4 ≤ 35184372088832 then ((some (List.replicate 4 0 : List Int)).bind fun y273 => (if 0 ≤ a1 then (if a1 < (l0_1.length : Int) then (if (rd l0_1 a1) ≥ 0 then (if 0 ≤ (rd l0_1 a1) then (if (rd l0_1 a1) < (l0_0.length : Int) then ((slices_Clone_int_int.f ((rd_T65 l0_0 (rd l0_1 a1)).f0)).bind fun t278 => (impl_PutIn.j1 kj4 a2 a3 t278 y273 l0_0 l0_1 bt263.1 bt263.2)) else (none)) else (none)) else (impl_PutIn.j1 kj4 a2 a3 (([(-1), (-1), (-1), (-1)] : List Int)) y273 l0_0 l0_1 bt263.1 bt263.2)) else (none)) else (none))) else (none))) = some (r1, r2, r3) := by rw [if_neg (show ¬ (false = true) by decide)] at H; exact H
    clear H
    have H := H1
    clear H1
    replace H := Option.bind_eq_some_iff.mp H
    obtain ⟨⟨t263, t266⟩, A500, H⟩ := H
    replace H : (if 4 ≤ 35184372088832 then ((some (List.replicate 4 0 : List Int)).bind fun y273 => (if 0 ≤ a1 then (if a1 < (l0_1.length : Int) then (if (rd l0_1 a1) ≥ 0 then (if 0 ≤ (rd l0_1 a1) then (if (rd l0_1 a1) < (l0_0.length : Int) then ((slices_Clone_int_int.f ((rd_T65 l0_0 (rd l0_1 a1)).f0)).bind fun t278 => (impl_PutIn.j1 kj4 a2 a3 t278 y273 l0_0 l0_1 t263 t266)) else (none)) else (none)) else (impl_PutIn.j1 kj4 a2 a3 (([(-1), (-1), (-1), (-1)] : List Int)) y273 l0_0 l0_1 t263 t266)) else (none)) else (none))) else (none)) = some (r1, r2, r3) := H
    have A50 := Aside0.mk A500
    clear A500
    obtain ⟨y270, hy270⟩ : ∃ y_ : List Int, y_ = (([(-1), (-1), (-1), (-1)] : List Int)) := ⟨_, rfl⟩
    replace H : (if 4 ≤ 35184372088832 then ((some (List.replicate 4 0 : List Int)).bind fun y273 => (if 0 ≤ a1 then (if a1 < (l0_1.length : Int) then (if (rd l0_1 a1) ≥ 0 then (if 0 ≤ (rd l0_1 a1) then (if (rd l0_1 a1) < (l0_0.length : Int) then ((slices_Clone_int_int.f ((rd_T65 l0_0 (rd l0_1 a1)).f0)).bind fun t278 => (impl_PutIn.j1 kj4 a2 a3 t278 y273 l0_0 l0_1 t263 t266)) else (none)) else (none)) else (impl_PutIn.j1 kj4 a2 a3 y270 y273 l0_0 l0_1 t263 t266)) else (none)) else (none))) else (none)) = some (r1, r2, r3) := by first | (rw [hy270]; with_reducible exact H) | (have H2_ := (Option.bind_some _ _).symm.trans H; rw [hy270]; with_reducible exact H2_) | (have H2_ := (Option.bind_some _ _).symm.trans H; with_reducible exact H2_) | with_reducible exact H | (rw [hy270]; exact H) | exact H
    have Ny270 := Aside0.mk hy270
    clear hy270
    by_cases c51 : 4 ≤ 35184372088832
    ·rw [if_pos c51] at H
     have c51b0 := eq_true c51
     have c51b1 : decide (4 ≤ 35184372088832) = true := decide_eq_true c51
     clear c51
     obtain ⟨y273, hy273⟩ : ∃ y_ : List Int, y_ = (List.replicate 4 0) := ⟨_, rfl⟩
     replace H : (if 0 ≤ a1 then (if a1 < (l0_1.length : Int) then (if (rd l0_1 a1) ≥ 0 then (if 0 ≤ (rd l0_1 a1) then (if (rd l0_1 a1) < (l0_0.length : Int) then ((slices_Clone_int_int.f ((rd_T65 l0_0 (rd l0_1 a1)).f0)).bind fun t278 => (impl_PutIn.j1 kj4 a2 a3 t278 y273 l0_0 l0_1 t263 t266)) else (none)) else (none)) else (impl_PutIn.j1 kj4 a2 a3 y270 y273 l0_0 l0_1 t263 t266)) else (none)) else (none)) = some (r1, r2, r3) := by first | (rw [hy273]; with_reducible exact H) | (have H2_ := (Option.bind_some _ _).symm.trans H; rw [hy273]; with_reducible exact H2_) | (have H2_ := (Option.bind_some _ _).symm.trans H; with_reducible exact H2_) | with_reducible exact H | (rw [hy273]; exact H) | exact H
     have Ny273 := Aside0.mk hy273
     clear hy273
     by_cases c52 : 0 ≤ a1
     ·rw [if_pos c52] at H
      have c52b0 : decide (0 ≤ a1) = true := decide_eq_true c52
      clear c52
      by_cases c53 : a1 < (l0_1.length : Int)
      ·rw [if_pos c53] at H
       have c53b0 : decide (a1 < (l0_1.length : Int)) = true := decide_eq_true c53
       clear c53
       have HC54 := Aside0.mk H
       clear H
       have hnb55 := NB255_256.out
       have hnc55 := NB256_255.out
       have hcz56_0 : wc.cell? ⟨gb255, 0, none⟩ = some (.slice A0_0 l0_0.length c0_0) := (blk_cell BK255.out 0).trans rfl
       have hcz56_1 : wc.cell? ⟨gb255, 1, none⟩ = some (.slice A0_1 l0_1.length c0_1) := (blk_cell BK255.out 1).trans rfl
       have hfz56_0 := blk_frozen BK255.out 0
       have hfz56_1 := blk_frozen BK255.out 1
       try go_wp2_with (first | ((with_reducible refine gate_callee (f := 66) rfl ?_); refine goesL_ (some 45) rfl rfl Try.func66 (by kernel_rfl) rfl #[.agg #[.slice A0_0 l0_0.length c0_0, .slice A0_1 l0_1.length c0_1]] rfl (by (try simp only [List.map_toArray, List.map_cons, List.map_nil]); first | done | rfl | (simp only [List.length_drop, List.length_take]; rfl)) ?_; (with_reducible refine (impl_ownPool.calls kj4 _ _ l0_0 _ _ l0_1 t263 t266 _ ?side1 ?side2 ?side3 ?side4 A50.out).mono ?_); (case side1 => repeat (first | exact (Kd.C_below HR0_0.out HB.out) | (with_reducible refine Kd.C_alloc ?_ _) | (with_reducible refine Kd.C_drewN ?_ _) | (with_reducible refine Kd.C_drew ?_))); (case side2 => exact HC0_0.out); (case side3 => repeat (first | exact (Kd.C_below HR0_1.out HB.out) | (with_reducible refine Kd.C_alloc ?_ _) | (with_reducible refine Kd.C_drewN ?_ _) | (with_reducible refine Kd.C_drew ?_))); (case side4 => exact HC0_1.out); rintro e w57 ⟨v264, v267, rfl, ho0, ho1, hb⟩; refine ⟨_, rfl, ?_⟩; have n0_ := Aside0.mk (Kd.S_lower ho0 (Op.a6 (by repeat (first | (with_reducible first | exact HB.out | apply Op.a1 | apply Op.a2 | apply Op.a3 | refine Op.a4 ?_ GE255.out | refine Op.a4 ?_ GE256.out) | exact HB.out)))); have n1_ := Aside0.mk (Kd.R_lower ho1 (Op.a6 (by repeat (first | (with_reducible first | exact HB.out | apply Op.a1 | apply Op.a2 | apply Op.a3 | refine Op.a4 ?_ GE255.out | refine Op.a4 ?_ GE256.out) | exact HB.out)))); have n2_ := Aside0.mk (Op.b4 (g := gb255) (o := .cells #[.slice A0_0 l0_0.length c0_0, .slice A0_1 l0_1.length c0_1] 25 (0, 0)) (by (with_reducible repeat (first | refine Op.b1 ?_ _ | refine Op.b2 ?_ | refine Op.b3 ?_ _)); exact BK255.out) hb); have n3_ := Aside0.mk (Op.b4 (g := gb256) (o := .cells #[.slice none 0 0, .slice none 0 0] 25 (0, 0)) (by (with_reducible repeat (first | refine Op.b1 ?_ _ | refine Op.b2 ?_ | refine Op.b3 ?_ _)); exact BK256.out) hb); have n4_ := Aside0.mk (Op.a5 (by repeat (first | (with_reducible first | exact HB.out | apply Op.a1 | apply Op.a2 | apply Op.a3 | refine Op.a4 ?_ GE255.out | refine Op.a4 ?_ GE256.out) | exact HB.out)) hb); clear BK255; clear BK256; clear HB; have HO265 := n0_; have HO268 := n1_; have BK255 := n2_; have BK256 := n3_; have HB := n4_; clear n0_ n1_ n2_ n3_ n4_; (try clear hb); (try clear hb2); (try clear hk); (try clear hi); (try clear ho0); (try clear ho1)) | ((with_reducible refine gate_dst (N := 10) rfl ?_); (try (refine gate_guard (by rfl) ?_; dsimp only)); refine box_event ?hg (N := 10) ?hd (cs := #[.slice none 0 0, .slice none 0 0]) (t := 25) ?hr ?_; (case hd => rfl); (case hg => rfl); (case hr => first | (go_simp; done) | (go_simp; rfl)); intro gb269 hg w58 hbox hb; have n0_ := Aside0.mk (Kd.S_below (by (with_reducible repeat (first | apply Kd.S_alloc | apply Kd.S_drewN | apply Kd.S_drew)); exact HO265.out) hb); have n1_ := Aside0.mk (Kd.R_below (by (with_reducible repeat (first | apply Kd.R_alloc | apply Kd.R_drewN | apply Kd.R_drew)); exact HO268.out) hb); have n2_ := Aside0.mk (Op.b4 (g := gb255) (o := .cells #[.slice A0_0 l0_0.length c0_0, .slice A0_1 l0_1.length c0_1] 25 (0, 0)) (by (with_reducible repeat (first | refine Op.b1 ?_ _ | refine Op.b2 ?_ | refine Op.b3 ?_ _)); exact BK255.out) hb); have n3_ := Aside0.mk (Op.b4 (g := gb256) (o := .cells #[.slice none 0 0, .slice none 0 0] 25 (0, 0)) (by (with_reducible repeat (first | refine Op.b1 ?_ _ | refine Op.b2 ?_ | refine Op.b3 ?_ _)); exact BK256.out) hb); have n4_ := Aside0.mk (Op.a5 (by repeat (first | (with_reducible first | exact HB.out | apply Op.a1 | apply Op.a2 | apply Op.a3 | refine Op.a4 ?_ GE255.out | refine Op.a4 ?_ GE256.out) | exact HB.out)) hb); have n5_ := Aside0.mk (hbox); have n6_ := Aside0.mk ((by rw [hg]; exact (Op.a6 (by repeat (first | (with_reducible first | exact HB.out | apply Op.a1 | apply Op.a2 | apply Op.a3 | refine Op.a4 ?_ GE255.out | refine Op.a4 ?_ GE256.out) | exact HB.out))) : w.heap.size ≤ gb269)); have n7_ := Aside0.mk ((by rw [hg]; exact (Op.a6 (by repeat (first | (with_reducible first | exact HB.out | apply Op.a1 | apply Op.a2 | apply Op.a3 | refine Op.a4 ?_ GE255.out | refine Op.a4 ?_ GE256.out) | exact HB.out))) : w.heap.size ≤ gb269)); have n8_ := Aside0.mk ((by rw [hg]; exact Nat.ne_of_lt (blk_lt (g := gb255) (o := .cells #[.slice A0_0 l0_0.length c0_0, .slice A0_1 l0_1.length c0_1] 25 (0, 0)) (by (with_reducible repeat (first | refine Op.b1 ?_ _ | refine Op.b2 ?_ | refine Op.b3 ?_ _)); exact BK255.out)) : gb255 ≠ gb269)); have n9_ := Aside0.mk ((by rw [hg]; exact Nat.ne_of_gt (blk_lt (g := gb255) (o := .cells #[.slice A0_0 l0_0.length c0_0, .slice A0_1 l0_1.length c0_1] 25 (0, 0)) (by (with_reducible repeat (first | refine Op.b1 ?_ _ | refine Op.b2 ?_ | refine Op.b3 ?_ _)); exact BK255.out)) : gb269 ≠ gb255)); have n10_ := Aside0.mk ((by rw [hg]; exact Nat.ne_of_lt (blk_lt (g := gb256) (o := .cells #[.slice none 0 0, .slice none 0 0] 25 (0, 0)) (by (with_reducible repeat (first | refine Op.b1 ?_ _ | refine Op.b2 ?_ | refine Op.b3 ?_ _)); exact BK256.out)) : gb256 ≠ gb269)); have n11_ := Aside0.mk ((by rw [hg]; exact Nat.ne_of_gt (blk_lt (g := gb256) (o := .cells #[.slice none 0 0, .slice none 0 0] 25 (0, 0)) (by (with_reducible repeat (first | refine Op.b1 ?_ _ | refine Op.b2 ?_ | refine Op.b3 ?_ _)); exact BK256.out)) : gb269 ≠ gb256)); clear HO265; clear HO268; clear BK255; clear BK256; clear HB; have HO265 := n0_; have HO268 := n1_; have BK255 := n2_; have BK256 := n3_; have HB := n4_; have BK269 := n5_; have GW269 := n6_; have GE269 := n7_; have NB255_269 := n8_; have NB269_255 := n9_; have NB256_269 := n10_; have NB269_256 := n11_; clear n0_ n1_ n2_ n3_ n4_ n5_ n6_ n7_ n8_ n9_ n10_ n11_; clear hb hbox hg; obtain ⟨Ao59, co59, eo59⟩ := Kd.S_slice HO265.out; subst eo59; have hnb60 := NB269_255.out; have hnc60 := NB255_269.out; have hnb61 := NB269_256.out; have hnc61 := NB256_269.out; have hcz62_0 : w58.cell? ⟨gb269, 0, none⟩ = some (.slice none 0 0) := (blk_cell BK269.out 0).trans rfl; have hcz62_1 : w58.cell? ⟨gb269, 1, none⟩ = some (.slice none 0 0) := (blk_cell BK269.out 1).trans rfl; have hfz62_0 := blk_frozen BK269.out 0; have hfz62_1 := blk_frozen BK269.out 1; obtain ⟨Ao63, co63, eo63⟩ := Kd.R_slice HO268.out; subst eo63))
       have n0_ : Aside0 (Kd.S k65 65 ((w58.setCell ⟨gb269, 0, none⟩ (.slice Ao59 t263.length co59)).setCell ⟨gb269, 1, none⟩ (.slice Ao63 t266.length co63)) w.heap.size (fun k_ => some k_ ≠ (.slice Ao63 t266.length co63 : Value).ownBlock) (.slice Ao59 t263.length co59) t263) := ⟨by (with_reducible repeat (first | apply Kd.S_alloc | apply Kd.S_drewN | apply Kd.S_drew)); exact Kd.S_mono (Kd.S_far (p := ⟨gb269, 1, none⟩) (Kd.S_far (p := ⟨gb269, 0, none⟩) (Kd.S_types HO265.out BK269.out (by decide)) (fun _ hk => hk.2) (.slice Ao59 t263.length co59)) (fun _ hk => hk.2) (.slice Ao63 t266.length co63)) (fun _ hk => hk.1)⟩
       have n1_ : Aside0 (Kd.R (Kd.int .i64) 3 ((w58.setCell ⟨gb269, 0, none⟩ (.slice Ao59 t263.length co59)).setCell ⟨gb269, 1, none⟩ (.slice Ao63 t266.length co63)) w.heap.size (fun _ => True) (.slice Ao63 t266.length co63) t266) := ⟨by (with_reducible repeat (first | apply Kd.R_alloc | apply Kd.R_drewN | apply Kd.R_drew)); exact Kd.R_mono (Kd.R_far (p := ⟨gb269, 1, none⟩) (Kd.R_far (p := ⟨gb269, 0, none⟩) (Kd.R_types HO268.out BK269.out (by decide)) (fun _ hk => hk.2) (.slice Ao59 t263.length co59)) (fun _ hk => hk.2) (.slice Ao63 t266.length co63)) (fun _ hk => trivial)⟩
       have n2_ : Aside0 (((w58.setCell ⟨gb269, 0, none⟩ (.slice Ao59 t263.length co59)).setCell ⟨gb269, 1, none⟩ (.slice Ao63 t266.length co63)).heap[gb255]? = some (.cells #[.slice A0_0 l0_0.length c0_0, .slice A0_1 l0_1.length c0_1] 25 (0, 0))) := ⟨by (with_reducible repeat (first | refine Op.b1 ?_ _ | refine Op.b2 ?_ | refine Op.b3 ?_ _)); refine blk_far ?_ NB255_269.out _; (with_reducible repeat (first | refine Op.b1 ?_ _ | refine Op.b2 ?_ | refine Op.b3 ?_ _)); refine blk_far ?_ NB255_269.out _; (with_reducible repeat (first | refine Op.b1 ?_ _ | refine Op.b2 ?_ | refine Op.b3 ?_ _)); exact BK255.out⟩
       have n3_ : Aside0 (((w58.setCell ⟨gb269, 0, none⟩ (.slice Ao59 t263.length co59)).setCell ⟨gb269, 1, none⟩ (.slice Ao63 t266.length co63)).heap[gb256]? = some (.cells #[.slice none 0 0, .slice none 0 0] 25 (0, 0))) := ⟨by (with_reducible repeat (first | refine Op.b1 ?_ _ | refine Op.b2 ?_ | refine Op.b3 ?_ _)); refine blk_far ?_ NB256_269.out _; (with_reducible repeat (first | refine Op.b1 ?_ _ | refine Op.b2 ?_ | refine Op.b3 ?_ _)); refine blk_far ?_ NB256_269.out _; (with_reducible repeat (first | refine Op.b1 ?_ _ | refine Op.b2 ?_ | refine Op.b3 ?_ _)); exact BK256.out⟩
       have n4_ : Aside0 (((w58.setCell ⟨gb269, 0, none⟩ (.slice Ao59 t263.length co59)).setCell ⟨gb269, 1, none⟩ (.slice Ao63 t266.length co63)).heap[gb269]? = some (.cells #[.slice Ao59 t263.length co59, .slice Ao63 t266.length co63] 25 (0, 0))) := ⟨by (with_reducible repeat (first | refine Op.b1 ?_ _ | refine Op.b2 ?_ | refine Op.b3 ?_ _)); refine blk_put (cs := #[.slice Ao59 t263.length co59, .slice none 0 0]) ?_ 1 _ rfl; (with_reducible repeat (first | refine Op.b1 ?_ _ | refine Op.b2 ?_ | refine Op.b3 ?_ _)); refine blk_put (cs := #[.slice none 0 0, .slice none 0 0]) ?_ 0 _ rfl; (with_reducible repeat (first | refine Op.b1 ?_ _ | refine Op.b2 ?_ | refine Op.b3 ?_ _)); exact BK269.out⟩
       have n5_ : Aside0 (Below w.heap.size w ((w58.setCell ⟨gb269, 0, none⟩ (.slice Ao59 t263.length co59)).setCell ⟨gb269, 1, none⟩ (.slice Ao63 t266.length co63))) := ⟨by repeat (first | (with_reducible first | exact HB.out | apply Op.a1 | apply Op.a2 | apply Op.a3 | refine Op.a4 ?_ GE255.out | refine Op.a4 ?_ GE256.out | refine Op.a4 ?_ GE269.out) | exact HB.out)⟩
       (try clear HO265)
       (try clear HO268)
       (try clear BK255)
       (try clear BK256)
       (try clear BK269)
       (try clear HB)
       generalize ((w58.setCell ⟨gb269, 0, none⟩ (.slice Ao59 t263.length co59)).setCell ⟨gb269, 1, none⟩ (.slice Ao63 t266.length co63)) = w64 at n0_ n1_ n2_ n3_ n4_ n5_ ⊢
       have HO265 := n0_
       have HO268 := n1_
       have BK255 := n2_
       have BK256 := n3_
       have BK269 := n4_
       have HB := n5_
       clear n0_ n1_ n2_ n3_ n4_ n5_
       have n0_ := Aside0.mk (Kd.S_drew HO265.out)
       have n1_ := Aside0.mk (Kd.R_drew HO268.out)
       have n2_ := Aside0.mk (Op.b2 BK255.out)
       have n3_ := Aside0.mk (Op.b2 BK256.out)
       have n4_ := Aside0.mk (Op.b2 BK269.out)
       have n5_ := Aside0.mk (Op.a3 HB.out)
       clear HO265
       clear HO268
       clear BK255
       clear BK256
       clear BK269
       clear HB
       have HO265 := n0_
       have HO268 := n1_
       have BK255 := n2_
       have BK256 := n3_
       have BK269 := n4_
       have HB := n5_
       clear n0_ n1_ n2_ n3_ n4_ n5_
       refine start_ (n := 4) (S := fun w' => True) (ds := []) #[false, false, false, false] (by kernel_rfl) rfl rfl trivial (fun hHeld => ?_)
       generalize w64.drew = w65 at HO265 HO268 BK255 BK256 BK269 HB hHeld ⊢
       refine join_ (σ := Value × Value) 1 #[true, true, true, false] (fun s_ => [(46, s_.1), (47, s_.2), (11, s_.1)]) (fun s_ w' => (Kd.S k65 65 w' w.heap.size (fun k_ => some k_ ≠ (.slice Ao63 t266.length co63 : Value).ownBlock ∧ some k_ ≠ (s_.1 : Value).ownBlock ∧ some k_ ≠ (s_.2 : Value).ownBlock) (.slice Ao59 t263.length co59) t263) ∧ (Kd.R (Kd.int .i64) 3 w' w.heap.size (fun k_ => some k_ ≠ (s_.1 : Value).ownBlock ∧ some k_ ≠ (s_.2 : Value).ownBlock) (.slice Ao63 t266.length co63) t266) ∧ (Kd.R (Kd.int .i64) 3 w' w.heap.size (fun k_ => some k_ ≠ (.slice Ao63 t266.length co63 : Value).ownBlock ∧ some k_ ≠ (s_.2 : Value).ownBlock) s_.1 y270) ∧ (Kd.R (Kd.int .i64) 3 w' w.heap.size (fun k_ => some k_ ≠ (.slice Ao63 t266.length co63 : Value).ownBlock ∧ some k_ ≠ (s_.1 : Value).ownBlock) s_.2 y273) ∧ (w'.heap[gb255]? = some (.cells #[.slice A0_0 l0_0.length c0_0, .slice A0_1 l0_1.length c0_1] 25 (0, 0))) ∧ (w'.heap[gb256]? = some (.cells #[.slice none 0 0, .slice none 0 0] 25 (0, 0))) ∧ (w'.heap[gb269]? = some (.cells #[.slice Ao59 t263.length co59, .slice Ao63 t266.length co63] 25 (0, 0))) ∧ (Below w.heap.size w w')) ?_ ?_
       rotate_left
       ·intro hCont
        refine two_ (i := 0) (j := 1) (Ni := some 46) (Nj := some 47) #[true, false, false, false] #[false, true, false, false] rfl rfl rfl rfl (by kernel_rfl) (by decide) (by decide) (fun K hK => ?_) (fun K hK => ?_)
        ·skip
         refine Kd.R_lit_step (Kd.int .i64) _ 3 ?hg (N := 46) ?hd (xs := ([(-1), (-1), (-1), (-1)] : List Int)) (inner := [.int .i64 (-1), .int .i64 (-1), .int .i64 (-1), .int .i64 (-1)]) (ok := fun _ => True) (okp := fun _ => True) ?hr ?hp (fun _ hk => hk) trivial (Below.refl _ _) (Nat.le_refl _) (by simp) ?_; (case hd => rfl); (case hg => rfl); (case hr => first | (go_simp; done) | (go_simp; rfl)); (case hp => exact (Reps.one (show Kd.M (Kd.int .i64) _ _ _ (-1) [.int .i64 (-1)] from rfl) (Reps.one (show Kd.M (Kd.int .i64) _ _ _ (-1) [.int .i64 (-1)] from rfl) (Reps.one (show Kd.M (Kd.int .i64) _ _ _ (-1) [.int .i64 (-1)] from rfl) (Reps.one (show Kd.M (Kd.int .i64) _ _ _ (-1) [.int .i64 (-1)] from rfl) (Reps.none _ _))))))
         intro v271 w66 ho67 hb hg_ hnew_
         clear hg_ hnew_
         (first | rw [← Ny270.out] at ho67 | (simp only [Int.reduceToNat] at ho67; rw [← Ny270.out] at ho67))
         have n0_ := Aside0.mk (Kd.S_elder' (by (with_reducible repeat (first | apply Kd.S_alloc | apply Kd.S_drewN | apply Kd.S_drew)); exact HO265.out) (Kd.R_base ho67) hb)
         have n1_ := Aside0.mk (Kd.R_elder' (by (with_reducible repeat (first | apply Kd.R_alloc | apply Kd.R_drewN | apply Kd.R_drew)); exact HO268.out) (Kd.R_base ho67) hb)
         have n2_ := Aside0.mk (Kd.R_lower (Kd.R_new' ho67 (Kd.R_lt (by (with_reducible repeat (first | apply Kd.R_alloc | apply Kd.R_drewN | apply Kd.R_drew)); exact HO268.out))) (Op.a6 (by repeat (first | (with_reducible first | exact HB.out | apply Op.a1 | apply Op.a2 | apply Op.a3 | refine Op.a4 ?_ GE255.out | refine Op.a4 ?_ GE256.out | refine Op.a4 ?_ GE269.out) | exact HB.out))))
         have n3_ := Aside0.mk (Op.b4 (g := gb255) (o := .cells #[.slice A0_0 l0_0.length c0_0, .slice A0_1 l0_1.length c0_1] 25 (0, 0)) (by (with_reducible repeat (first | refine Op.b1 ?_ _ | refine Op.b2 ?_ | refine Op.b3 ?_ _)); exact BK255.out) hb)
         have n4_ := Aside0.mk (Op.b4 (g := gb256) (o := .cells #[.slice none 0 0, .slice none 0 0] 25 (0, 0)) (by (with_reducible repeat (first | refine Op.b1 ?_ _ | refine Op.b2 ?_ | refine Op.b3 ?_ _)); exact BK256.out) hb)
         have n5_ := Aside0.mk (Op.b4 (g := gb269) (o := .cells #[.slice Ao59 t263.length co59, .slice Ao63 t266.length co63] 25 (0, 0)) (by (with_reducible repeat (first | refine Op.b1 ?_ _ | refine Op.b2 ?_ | refine Op.b3 ?_ _)); exact BK269.out) hb)
         have n6_ := Aside0.mk (Op.a5 (by repeat (first | (with_reducible first | exact HB.out | apply Op.a1 | apply Op.a2 | apply Op.a3 | refine Op.a4 ?_ GE255.out | refine Op.a4 ?_ GE256.out | refine Op.a4 ?_ GE269.out) | exact HB.out)) hb)
         clear HO265
         clear HO268
         clear BK255
         clear BK256
         clear BK269
         clear HB
         have HO265 := n0_
         have HO268 := n1_
         have HO272 := n2_
         have BK255 := n3_
         have BK256 := n4_
         have BK269 := n5_
         have HB := n6_
         clear n0_ n1_ n2_ n3_ n4_ n5_ n6_
         clear hb ho67
         refine hK.out _ _ trivial (fun hHeld => ?_)
         clear hK K
         refine norm_ (a' := ?_) ?_ ?_
         rotate_left
         ·show Act.put _ (some 46) _ = _
          simp only [Act.put, List.setIfInBounds_toArray, List.set_cons_zero, List.set_cons_succ, i64_w, i32_w]
          rfl
         refine pure_ (i := 2) (N := some 11) (v := ?_) (a' := ?_) #[true, false, true, false] rfl rfl (by kernel_rfl) (fun _ _ _ h => h) (Or.inl ⟨by rfl, ?_⟩) ?_ ?_
         rotate_left
         ·intro w'
          go_simp
          with_reducible rfl
         rotate_left
         ·simp only [Act.put, List.setIfInBounds_toArray, List.set_cons_zero, List.set_cons_succ, i64_w, i32_w]
          rfl
         refine one_ (i := 1) (N := some 47) #[true, true, true, false] rfl rfl (by kernel_rfl) (by decide) (fun K hK => ?_)
         refine Kd.R_make_step (Kd.int .i64) _ 3 (by rfl) (N := 47) rfl 23 _ _ rfl 4 rfl rfl Try.underlying23 (.int .i64 0) 8 info3 rfl (by decide) (by omega) 0 (ok := fun _ => True) (okp := fun _ => True) rfl (fun _ hk => hk) trivial (by omega) (by omega) (Below.refl _ _) (Nat.le_refl _) ?_
         intro v274 w68 ho69 hb hg_ hnew_
         clear hg_ hnew_
         (first | rw [← Ny273.out] at ho69 | (simp only [Int.reduceToNat] at ho69; rw [← Ny273.out] at ho69))
         have n0_ := Aside0.mk (Kd.S_elder' (by (with_reducible repeat (first | apply Kd.S_alloc | apply Kd.S_drewN | apply Kd.S_drew)); exact HO265.out) (Kd.R_base ho69) hb)
         have n1_ := Aside0.mk (Kd.R_elder' (by (with_reducible repeat (first | apply Kd.R_alloc | apply Kd.R_drewN | apply Kd.R_drew)); exact HO268.out) (Kd.R_base ho69) hb)
         have n2_ := Aside0.mk (Kd.R_elder' (by (with_reducible repeat (first | apply Kd.R_alloc | apply Kd.R_drewN | apply Kd.R_drew)); exact HO272.out) (Kd.R_base ho69) hb)
         have n3_ := Aside0.mk (Kd.R_lower (Kd.R_new' (Kd.R_new' ho69 (Kd.R_lt (by (with_reducible repeat (first | apply Kd.R_alloc | apply Kd.R_drewN | apply Kd.R_drew)); exact HO268.out))) (Kd.R_lt (by (with_reducible repeat (first | apply Kd.R_alloc | apply Kd.R_drewN | apply Kd.R_drew)); exact HO272.out))) (Op.a6 (by repeat (first | (with_reducible first | exact HB.out | apply Op.a1 | apply Op.a2 | apply Op.a3 | refine Op.a4 ?_ GE255.out | refine Op.a4 ?_ GE256.out | refine Op.a4 ?_ GE269.out) | exact HB.out))))
         have n4_ := Aside0.mk (Op.b4 (g := gb255) (o := .cells #[.slice A0_0 l0_0.length c0_0, .slice A0_1 l0_1.length c0_1] 25 (0, 0)) (by (with_reducible repeat (first | refine Op.b1 ?_ _ | refine Op.b2 ?_ | refine Op.b3 ?_ _)); exact BK255.out) hb)
         have n5_ := Aside0.mk (Op.b4 (g := gb256) (o := .cells #[.slice none 0 0, .slice none 0 0] 25 (0, 0)) (by (with_reducible repeat (first | refine Op.b1 ?_ _ | refine Op.b2 ?_ | refine Op.b3 ?_ _)); exact BK256.out) hb)
         have n6_ := Aside0.mk (Op.b4 (g := gb269) (o := .cells #[.slice Ao59 t263.length co59, .slice Ao63 t266.length co63] 25 (0, 0)) (by (with_reducible repeat (first | refine Op.b1 ?_ _ | refine Op.b2 ?_ | refine Op.b3 ?_ _)); exact BK269.out) hb)
         have n7_ := Aside0.mk (Op.a5 (by repeat (first | (with_reducible first | exact HB.out | apply Op.a1 | apply Op.a2 | apply Op.a3 | refine Op.a4 ?_ GE255.out | refine Op.a4 ?_ GE256.out | refine Op.a4 ?_ GE269.out) | exact HB.out)) hb)
         clear HO265
         clear HO268
         clear HO272
         clear BK255
         clear BK256
         clear BK269
         clear HB
         have HO265 := n0_
         have HO268 := n1_
         have HO272 := n2_
         have HO275 := n3_
         have BK255 := n4_
         have BK256 := n5_
         have BK269 := n6_
         have HB := n7_
         clear n0_ n1_ n2_ n3_ n4_ n5_ n6_ n7_
         clear hb ho69
         refine hK.out _ _ trivial (fun hHeld => ?_)
         clear hK K
         refine norm_ (a' := ?_) ?_ ?_
         rotate_left
         ·show Act.put _ (some 47) _ = _
          simp only [Act.put, List.setIfInBounds_toArray, List.set_cons_zero, List.set_cons_succ, i64_w, i32_w]
          rfl
         exact norm_ (by simp only [putAll, Act.put, List.setIfInBounds_toArray, List.set_cons_zero, List.set_cons_succ]) (hCont (v271, v274) _ ⟨(by (with_reducible repeat (first | apply Kd.S_alloc | apply Kd.S_drewN | apply Kd.S_drew)); exact Kd.S_mono HO265.out (fun _ hk => ⟨hk.1.1, ⟨hk.1.2, hk.2⟩⟩)), (by (with_reducible repeat (first | apply Kd.R_alloc | apply Kd.R_drewN | apply Kd.R_drew)); exact Kd.R_mono HO268.out (fun _ hk => ⟨hk.1.2, hk.2⟩)), (by (with_reducible repeat (first | apply Kd.R_alloc | apply Kd.R_drewN | apply Kd.R_drew)); exact Kd.R_mono HO272.out (fun _ hk => ⟨hk.1.2, hk.2⟩)), (by (with_reducible repeat (first | apply Kd.R_alloc | apply Kd.R_drewN | apply Kd.R_drew)); exact Kd.R_mono HO275.out (fun _ hk => ⟨hk.1.2, hk.2⟩)), (by (with_reducible repeat (first | refine Op.b1 ?_ _ | refine Op.b2 ?_ | refine Op.b3 ?_ _)); exact BK255.out), (by (with_reducible repeat (first | refine Op.b1 ?_ _ | refine Op.b2 ?_ | refine Op.b3 ?_ _)); exact BK256.out), (by (with_reducible repeat (first | refine Op.b1 ?_ _ | refine Op.b2 ?_ | refine Op.b3 ?_ _)); exact BK269.out), (by repeat (first | (with_reducible first | exact HB.out | apply Op.a1 | apply Op.a2 | apply Op.a3 | refine Op.a4 ?_ GE255.out | refine Op.a4 ?_ GE256.out | refine Op.a4 ?_ GE269.out) | exact HB.out))⟩)
        ·skip
         refine Kd.R_make_step (Kd.int .i64) _ 3 (by rfl) (N := 47) rfl 23 _ _ rfl 4 rfl rfl Try.underlying23 (.int .i64 0) 8 info3 rfl (by decide) (by omega) 0 (ok := fun _ => True) (okp := fun _ => True) rfl (fun _ hk => hk) trivial (by omega) (by omega) (Below.refl _ _) (Nat.le_refl _) ?_
         intro v274 w66 ho67 hb hg_ hnew_
         clear hg_ hnew_
         (first | rw [← Ny273.out] at ho67 | (simp only [Int.reduceToNat] at ho67; rw [← Ny273.out] at ho67))
         have n0_ := Aside0.mk (Kd.S_elder' (by (with_reducible repeat (first | apply Kd.S_alloc | apply Kd.S_drewN | apply Kd.S_drew)); exact HO265.out) (Kd.R_base ho67) hb)
         have n1_ := Aside0.mk (Kd.R_elder' (by (with_reducible repeat (first | apply Kd.R_alloc | apply Kd.R_drewN | apply Kd.R_drew)); exact HO268.out) (Kd.R_base ho67) hb)
         have n2_ := Aside0.mk (Kd.R_lower (Kd.R_new' ho67 (Kd.R_lt (by (with_reducible repeat (first | apply Kd.R_alloc | apply Kd.R_drewN | apply Kd.R_drew)); exact HO268.out))) (Op.a6 (by repeat (first | (with_reducible first | exact HB.out | apply Op.a1 | apply Op.a2 | apply Op.a3 | refine Op.a4 ?_ GE255.out | refine Op.a4 ?_ GE256.out | refine Op.a4 ?_ GE269.out) | exact HB.out))))
         have n3_ := Aside0.mk (Op.b4 (g := gb255) (o := .cells #[.slice A0_0 l0_0.length c0_0, .slice A0_1 l0_1.length c0_1] 25 (0, 0)) (by (with_reducible repeat (first | refine Op.b1 ?_ _ | refine Op.b2 ?_ | refine Op.b3 ?_ _)); exact BK255.out) hb)
         have n4_ := Aside0.mk (Op.b4 (g := gb256) (o := .cells #[.slice none 0 0, .slice none 0 0] 25 (0, 0)) (by (with_reducible repeat (first | refine Op.b1 ?_ _ | refine Op.b2 ?_ | refine Op.b3 ?_ _)); exact BK256.out) hb)
         have n5_ := Aside0.mk (Op.b4 (g := gb269) (o := .cells #[.slice Ao59 t263.length co59, .slice Ao63 t266.length co63] 25 (0, 0)) (by (with_reducible repeat (first | refine Op.b1 ?_ _ | refine Op.b2 ?_ | refine Op.b3 ?_ _)); exact BK269.out) hb)
         have n6_ := Aside0.mk (Op.a5 (by repeat (first | (with_reducible first | exact HB.out | apply Op.a1 | apply Op.a2 | apply Op.a3 | refine Op.a4 ?_ GE255.out | refine Op.a4 ?_ GE256.out | refine Op.a4 ?_ GE269.out) | exact HB.out)) hb)
         clear HO265
         clear HO268
         clear BK255
         clear BK256
         clear BK269
         clear HB
         have HO265 := n0_
         have HO268 := n1_
         have HO275 := n2_
         have BK255 := n3_
         have BK256 := n4_
         have BK269 := n5_
         have HB := n6_
         clear n0_ n1_ n2_ n3_ n4_ n5_ n6_
         clear hb ho67
         refine hK.out _ _ trivial (fun hHeld => ?_)
         clear hK K
         refine norm_ (a' := ?_) ?_ ?_
         rotate_left
         ·show Act.put _ (some 47) _ = _
          simp only [Act.put, List.setIfInBounds_toArray, List.set_cons_zero, List.set_cons_succ, i64_w, i32_w]
          rfl
         refine one_ (i := 0) (N := some 46) #[true, true, false, false] rfl rfl (by kernel_rfl) (by decide) (fun K hK => ?_)
         refine Kd.R_lit_step (Kd.int .i64) _ 3 ?hg (N := 46) ?hd (xs := ([(-1), (-1), (-1), (-1)] : List Int)) (inner := [.int .i64 (-1), .int .i64 (-1), .int .i64 (-1), .int .i64 (-1)]) (ok := fun _ => True) (okp := fun _ => True) ?hr ?hp (fun _ hk => hk) trivial (Below.refl _ _) (Nat.le_refl _) (by simp) ?_; (case hd => rfl); (case hg => rfl); (case hr => first | (go_simp; done) | (go_simp; rfl)); (case hp => exact (Reps.one (show Kd.M (Kd.int .i64) _ _ _ (-1) [.int .i64 (-1)] from rfl) (Reps.one (show Kd.M (Kd.int .i64) _ _ _ (-1) [.int .i64 (-1)] from rfl) (Reps.one (show Kd.M (Kd.int .i64) _ _ _ (-1) [.int .i64 (-1)] from rfl) (Reps.one (show Kd.M (Kd.int .i64) _ _ _ (-1) [.int .i64 (-1)] from rfl) (Reps.none _ _))))))
         intro v271 w68 ho69 hb hg_ hnew_
         clear hg_ hnew_
         (first | rw [← Ny270.out] at ho69 | (simp only [Int.reduceToNat] at ho69; rw [← Ny270.out] at ho69))
         have n0_ := Aside0.mk (Kd.S_elder' (by (with_reducible repeat (first | apply Kd.S_alloc | apply Kd.S_drewN | apply Kd.S_drew)); exact HO265.out) (Kd.R_base ho69) hb)
         have n1_ := Aside0.mk (Kd.R_elder' (by (with_reducible repeat (first | apply Kd.R_alloc | apply Kd.R_drewN | apply Kd.R_drew)); exact HO268.out) (Kd.R_base ho69) hb)
         have n2_ := Aside0.mk (Kd.R_elder' (by (with_reducible repeat (first | apply Kd.R_alloc | apply Kd.R_drewN | apply Kd.R_drew)); exact HO275.out) (Kd.R_base ho69) hb)
         have n3_ := Aside0.mk (Kd.R_lower (Kd.R_new' (Kd.R_new' ho69 (Kd.R_lt (by (with_reducible repeat (first | apply Kd.R_alloc | apply Kd.R_drewN | apply Kd.R_drew)); exact HO268.out))) (Kd.R_lt (by (with_reducible repeat (first | apply Kd.R_alloc | apply Kd.R_drewN | apply Kd.R_drew)); exact HO275.out))) (Op.a6 (by repeat (first | (with_reducible first | exact HB.out | apply Op.a1 | apply Op.a2 | apply Op.a3 | refine Op.a4 ?_ GE255.out | refine Op.a4 ?_ GE256.out | refine Op.a4 ?_ GE269.out) | exact HB.out))))
         have n4_ := Aside0.mk (Op.b4 (g := gb255) (o := .cells #[.slice A0_0 l0_0.length c0_0, .slice A0_1 l0_1.length c0_1] 25 (0, 0)) (by (with_reducible repeat (first | refine Op.b1 ?_ _ | refine Op.b2 ?_ | refine Op.b3 ?_ _)); exact BK255.out) hb)
         have n5_ := Aside0.mk (Op.b4 (g := gb256) (o := .cells #[.slice none 0 0, .slice none 0 0] 25 (0, 0)) (by (with_reducible repeat (first | refine Op.b1 ?_ _ | refine Op.b2 ?_ | refine Op.b3 ?_ _)); exact BK256.out) hb)
         have n6_ := Aside0.mk (Op.b4 (g := gb269) (o := .cells #[.slice Ao59 t263.length co59, .slice Ao63 t266.length co63] 25 (0, 0)) (by (with_reducible repeat (first | refine Op.b1 ?_ _ | refine Op.b2 ?_ | refine Op.b3 ?_ _)); exact BK269.out) hb)
         have n7_ := Aside0.mk (Op.a5 (by repeat (first | (with_reducible first | exact HB.out | apply Op.a1 | apply Op.a2 | apply Op.a3 | refine Op.a4 ?_ GE255.out | refine Op.a4 ?_ GE256.out | refine Op.a4 ?_ GE269.out) | exact HB.out)) hb)
         clear HO265
         clear HO268
         clear HO275
         clear BK255
         clear BK256
         clear BK269
         clear HB
         have HO265 := n0_
         have HO268 := n1_
         have HO275 := n2_
         have HO272 := n3_
         have BK255 := n4_
         have BK256 := n5_
         have BK269 := n6_
         have HB := n7_
         clear n0_ n1_ n2_ n3_ n4_ n5_ n6_ n7_
         clear hb ho69
         refine hK.out _ _ trivial (fun hHeld => ?_)
         clear hK K
         refine norm_ (a' := ?_) ?_ ?_
         rotate_left
         ·show Act.put _ (some 46) _ = _
          simp only [Act.put, List.setIfInBounds_toArray, List.set_cons_zero, List.set_cons_succ, i64_w, i32_w]
          rfl
         refine pure_ (i := 2) (N := some 11) (v := ?_) (a' := ?_) #[true, true, true, false] rfl rfl (by kernel_rfl) (fun _ _ _ h => h) (Or.inl ⟨by rfl, ?_⟩) ?_ ?_
         rotate_left
         ·intro w'
          go_simp
          with_reducible rfl
         rotate_left
         ·simp only [Act.put, List.setIfInBounds_toArray, List.set_cons_zero, List.set_cons_succ, i64_w, i32_w]
          rfl
         exact norm_ (by simp only [putAll, Act.put, List.setIfInBounds_toArray, List.set_cons_zero, List.set_cons_succ]) (hCont (v271, v274) _ ⟨(by (with_reducible repeat (first | apply Kd.S_alloc | apply Kd.S_drewN | apply Kd.S_drew)); exact Kd.S_mono HO265.out (fun _ hk => ⟨hk.1.1, ⟨hk.2, hk.1.2⟩⟩)), (by (with_reducible repeat (first | apply Kd.R_alloc | apply Kd.R_drewN | apply Kd.R_drew)); exact Kd.R_mono HO268.out (fun _ hk => ⟨hk.2, hk.1.2⟩)), (by (with_reducible repeat (first | apply Kd.R_alloc | apply Kd.R_drewN | apply Kd.R_drew)); exact Kd.R_mono HO272.out (fun _ hk => ⟨hk.1.2, hk.2⟩)), (by (with_reducible repeat (first | apply Kd.R_alloc | apply Kd.R_drewN | apply Kd.R_drew)); exact Kd.R_mono HO275.out (fun _ hk => ⟨hk.1.2, hk.2⟩)), (by (with_reducible repeat (first | refine Op.b1 ?_ _ | refine Op.b2 ?_ | refine Op.b3 ?_ _)); exact BK255.out), (by (with_reducible repeat (first | refine Op.b1 ?_ _ | refine Op.b2 ?_ | refine Op.b3 ?_ _)); exact BK256.out), (by (with_reducible repeat (first | refine Op.b1 ?_ _ | refine Op.b2 ?_ | refine Op.b3 ?_ _)); exact BK269.out), (by repeat (first | (with_reducible first | exact HB.out | apply Op.a1 | apply Op.a2 | apply Op.a3 | refine Op.a4 ?_ GE255.out | refine Op.a4 ?_ GE256.out | refine Op.a4 ?_ GE269.out) | exact HB.out))⟩)
       rintro ⟨v271, v274⟩ w70 ⟨h0_, h1_, h2_, h3_, h4_, h5_, h6_, h7_⟩
       have n0_ : Aside0 (Kd.S k65 65 w70 w.heap.size (fun k_ => some k_ ≠ (.slice Ao63 t266.length co63 : Value).ownBlock ∧ some k_ ≠ (v271 : Value).ownBlock ∧ some k_ ≠ (v274 : Value).ownBlock) (.slice Ao59 t263.length co59) t263) := ⟨h0_⟩
       have n1_ : Aside0 (Kd.R (Kd.int .i64) 3 w70 w.heap.size (fun k_ => some k_ ≠ (v271 : Value).ownBlock ∧ some k_ ≠ (v274 : Value).ownBlock) (.slice Ao63 t266.length co63) t266) := ⟨h1_⟩
       have n2_ : Aside0 (Kd.R (Kd.int .i64) 3 w70 w.heap.size (fun k_ => some k_ ≠ (.slice Ao63 t266.length co63 : Value).ownBlock ∧ some k_ ≠ (v274 : Value).ownBlock) v271 y270) := ⟨h2_⟩
       have n3_ : Aside0 (Kd.R (Kd.int .i64) 3 w70 w.heap.size (fun k_ => some k_ ≠ (.slice Ao63 t266.length co63 : Value).ownBlock ∧ some k_ ≠ (v271 : Value).ownBlock) v274 y273) := ⟨h3_⟩
       have n4_ : Aside0 (w70.heap[gb255]? = some (.cells #[.slice A0_0 l0_0.length c0_0, .slice A0_1 l0_1.length c0_1] 25 (0, 0))) := ⟨h4_⟩
       have n5_ : Aside0 (w70.heap[gb256]? = some (.cells #[.slice none 0 0, .slice none 0 0] 25 (0, 0))) := ⟨h5_⟩
       have n6_ : Aside0 (w70.heap[gb269]? = some (.cells #[.slice Ao59 t263.length co59, .slice Ao63 t266.length co63] 25 (0, 0))) := ⟨h6_⟩
       have n7_ : Aside0 (Below w.heap.size w w70) := ⟨h7_⟩
       clear HO265
       clear HO268
       clear BK255
       clear BK256
       clear BK269
       clear HB
       clear h0_ h1_ h2_ h3_ h4_ h5_ h6_ h7_
       have HO265 := n0_
       have HO268 := n1_
       have HO272 := n2_
       have HO275 := n3_
       have BK255 := n4_
       have BK256 := n5_
       have BK269 := n6_
       have HB := n7_
       clear n0_ n1_ n2_ n3_ n4_ n5_ n6_ n7_
       have hHeld := trivial
       refine norm_ (a' := ?_) ?_ ?_
       rotate_left
       ·simp only [putAll, Act.put, List.setIfInBounds_toArray, List.set_cons_zero, List.set_cons_succ]
        rfl
       refine pure_ (i := 3) (N := some 12) (v := ?_) (a' := ?_) #[true, true, true, true] rfl rfl (by kernel_rfl) (fun _ _ _ h => h) (Or.inl ⟨by rfl, ?_⟩) ?_ ?_
       rotate_left
       ·intro w'
        go_simp
        with_reducible rfl
       rotate_left
       ·simp only [Act.put, List.setIfInBounds_toArray, List.set_cons_zero, List.set_cons_succ, i64_w, i32_w]
        rfl
       refine done_ (by kernel_rfl) ?_
       have hcz71_0 : w70.cell? ⟨gb255, 0, none⟩ = some (.slice A0_0 l0_0.length c0_0) := (blk_cell BK255.out 0).trans rfl
       have hcz71_1 : w70.cell? ⟨gb255, 1, none⟩ = some (.slice A0_1 l0_1.length c0_1) := (blk_cell BK255.out 1).trans rfl
       have hfz71_0 := blk_frozen BK255.out 0
       have hfz71_1 := blk_frozen BK255.out 1
       have p276 : 0 ≤ (a1 : Int) := of_decide_eq_true (by first | (with_reducible assumption) | assumption)
       have q276 : a1 < (l0_1.length : Int) := of_decide_eq_true (by first | (with_reducible assumption) | assumption)
       obtain ⟨ad276, e276, hx276_0⟩ := Kd.at_int HR0_1.out a1 p276 q276
       cases e276
       replace hx276_0 := (HB.out.cell (World.block_lt_of_cell? w _ hx276_0)).trans hx276_0
       replace p276 := eq_true p276
       replace q276 := eq_true q276
       go_upto_if 54 with (fail)
       go_cut [11] (fun v11 wc => ∃ (kq : Nat) (x11_53 : List Int), Aside0 (impl_PutIn.j1 kq a2 a3 x11_53 y273 l0_0 l0_1 t263 t266 = some (r1, r2, r3)) ∧ Aside0 (kq ≤ kj4) ∧ Aside0 (Kd.R (Kd.int .i64) 3 wc w.heap.size (fun k_ => some k_ ≠ (v274 : Value).ownBlock ∧ some k_ ≠ ((.slice Ao63 t266.length co63) : Value).ownBlock) v11 x11_53) ∧ Aside0 (Kd.R (Kd.int .i64) 3 wc w.heap.size (fun k_ => some k_ ≠ (v11 : Value).ownBlock ∧ some k_ ≠ ((.slice Ao63 t266.length co63) : Value).ownBlock) v274 y273) ∧ Aside0 (Kd.S k65 65 wc w.heap.size (fun k_ => some k_ ≠ (v11 : Value).ownBlock ∧ some k_ ≠ (v274 : Value).ownBlock ∧ some k_ ≠ ((.slice Ao63 t266.length co63) : Value).ownBlock) (.slice Ao59 t263.length co59) t263) ∧ Aside0 (Kd.R (Kd.int .i64) 3 wc w.heap.size (fun k_ => some k_ ≠ (v11 : Value).ownBlock ∧ some k_ ≠ (v274 : Value).ownBlock) (.slice Ao63 t266.length co63) t266) ∧ Aside0 (wc.heap[gb255]? = some (.cells #[(.slice A0_0 l0_0.length c0_0), (.slice (some ad276) l0_1.length c0_1)] 25 (0, 0))) ∧ Aside0 (wc.heap[gb256]? = some (.cells #[(.slice none 0 0), (.slice none 0 0)] 25 (0, 0))) ∧ Aside0 (wc.heap[gb269]? = some (.cells #[(.slice Ao59 t263.length co59), (.slice Ao63 t266.length co63)] 25 (0, 0))) ∧ Aside0 (Below w.heap.size w wc))
       case first =>
        have H := HC54.out
        clear HC54
        by_cases c72 : (rd l0_1 a1) ≥ 0
        ·rw [if_pos c72] at H
         have c72b0 : decide (0 ≤ (rd l0_1 a1)) = true := decide_eq_true c72
         clear c72
         (first | rw [c72b0] | (simp only [i64_w, i32_w]; rw [c72b0]) | skip)
         by_cases c73 : 0 ≤ (rd l0_1 a1)
         ·rw [if_pos c73] at H
          have c73b0 : decide (0 ≤ (rd l0_1 a1)) = true := decide_eq_true c73
          clear c73
          by_cases c74 : (rd l0_1 a1) < (l0_0.length : Int)
          ·rw [if_pos c74] at H
           have c74b0 : decide ((rd l0_1 a1) < (l0_0.length : Int)) = true := decide_eq_true c74
           clear c74
           replace H := Option.bind_eq_some_iff.mp H
           obtain ⟨t278, A750, H⟩ := H
           replace H : (impl_PutIn.j1 kj4 a2 a3 t278 y273 l0_0 l0_1 t263 t266) = some (r1, r2, r3) := H
           have A75 := Aside0.mk A750
           clear A750
           have H' := Aside0.mk H
           clear H
           have hnb76 := NB255_256.out
           have hnc76 := NB256_255.out
           have hnb77 := NB255_269.out
           have hnc77 := NB269_255.out
           have hcz78_0 : w70.cell? ⟨gb255, 0, none⟩ = some (.slice A0_0 l0_0.length c0_0) := (blk_cell BK255.out 0).trans rfl
           have hcz78_1 : w70.cell? ⟨gb255, 1, none⟩ = some (.slice (some ad276) l0_1.length c0_1) := (blk_cell BK255.out 1).trans rfl
           have hfz78_0 := blk_frozen BK255.out 0
           have hfz78_1 := blk_frozen BK255.out 1
           have p277 : 0 ≤ ((rd l0_1 a1) : Int) := of_decide_eq_true (by first | (with_reducible assumption) | assumption)
           have q277 : (rd l0_1 a1) < (l0_0.length : Int) := of_decide_eq_true (by first | (with_reducible assumption) | assumption)
           obtain ⟨ad277, A277_0, c277_0, e277, hx277_0, hx277_1, hl277_0, hi277_0⟩ := at_T65 HR0_0.out (rd l0_1 a1) p277 q277
           cases e277
           replace hx277_0 := (HB.out.cell (World.block_lt_of_cell? w _ hx277_0)).trans hx277_0
           replace hx277_1 := (HB.out.cell (World.block_lt_of_cell? w _ hx277_1)).trans hx277_1
           have HR277_0 := Aside0.mk hi277_0
           have HC277_0 := Aside0.mk hl277_0
           clear hi277_0 hl277_0
           replace p277 := eq_true p277
           replace q277 := eq_true q277
           go_wp2_with (first | ((with_reducible refine gate_callee (f := 68) rfl ?_); refine goesL_ (some 61) rfl rfl Try.func68 (by kernel_rfl) rfl #[.slice A277_0 ((rd_T65 l0_0 (rd l0_1 a1)).f0).length c277_0] rfl (by (try simp only [List.map_toArray, List.map_cons, List.map_nil]); first | done | rfl | (simp only [List.length_drop, List.length_take]; rfl)) ?_; (with_reducible refine (slices_Clone_int_int.calls _ _ ((rd_T65 l0_0 (rd l0_1 a1)).f0) t278 _ ?side1 ?side2 A75.out).mono ?_); (case side1 => repeat (first | exact (Kd.C_below HR277_0.out HB.out) | (with_reducible refine Kd.C_alloc ?_ _) | (with_reducible refine Kd.C_drewN ?_ _) | (with_reducible refine Kd.C_drew ?_))); (case side2 => exact HC277_0.out); rintro e w79 ⟨v279, rfl, ho0, hb⟩; refine ⟨_, rfl, ?_⟩; have n0_ := Aside0.mk (Kd.S_elder' (by (with_reducible repeat (first | apply Kd.S_alloc | apply Kd.S_drewN | apply Kd.S_drew)); exact HO265.out) (Kd.R_base ho0) hb); have n1_ := Aside0.mk (Kd.R_elder' (by (with_reducible repeat (first | apply Kd.R_alloc | apply Kd.R_drewN | apply Kd.R_drew)); exact HO268.out) (Kd.R_base ho0) hb); have n2_ := Aside0.mk (Kd.R_elder' (by (with_reducible repeat (first | apply Kd.R_alloc | apply Kd.R_drewN | apply Kd.R_drew)); exact HO272.out) (Kd.R_base ho0) hb); have n3_ := Aside0.mk (Kd.R_elder' (by (with_reducible repeat (first | apply Kd.R_alloc | apply Kd.R_drewN | apply Kd.R_drew)); exact HO275.out) (Kd.R_base ho0) hb); have n4_ := Aside0.mk (Kd.R_lower (Kd.R_new' (Kd.R_new' (Kd.R_new' ho0 (Kd.R_lt (by (with_reducible repeat (first | apply Kd.R_alloc | apply Kd.R_drewN | apply Kd.R_drew)); exact HO268.out))) (Kd.R_lt (by (with_reducible repeat (first | apply Kd.R_alloc | apply Kd.R_drewN | apply Kd.R_drew)); exact HO272.out))) (Kd.R_lt (by (with_reducible repeat (first | apply Kd.R_alloc | apply Kd.R_drewN | apply Kd.R_drew)); exact HO275.out))) (Op.a6 (by repeat (first | (with_reducible first | exact HB.out | apply Op.a1 | apply Op.a2 | apply Op.a3 | refine Op.a4 ?_ GE255.out | refine Op.a4 ?_ GE256.out | refine Op.a4 ?_ GE269.out) | exact HB.out)))); have n5_ := Aside0.mk (Op.b4 (g := gb255) (o := .cells #[.slice (some ad277) l0_0.length c0_0, .slice (some ad276) l0_1.length c0_1] 25 (0, 0)) (by (with_reducible repeat (first | refine Op.b1 ?_ _ | refine Op.b2 ?_ | refine Op.b3 ?_ _)); exact BK255.out) hb); have n6_ := Aside0.mk (Op.b4 (g := gb256) (o := .cells #[.slice none 0 0, .slice none 0 0] 25 (0, 0)) (by (with_reducible repeat (first | refine Op.b1 ?_ _ | refine Op.b2 ?_ | refine Op.b3 ?_ _)); exact BK256.out) hb); have n7_ := Aside0.mk (Op.b4 (g := gb269) (o := .cells #[.slice Ao59 t263.length co59, .slice Ao63 t266.length co63] 25 (0, 0)) (by (with_reducible repeat (first | refine Op.b1 ?_ _ | refine Op.b2 ?_ | refine Op.b3 ?_ _)); exact BK269.out) hb); have n8_ := Aside0.mk (Op.a5 (by repeat (first | (with_reducible first | exact HB.out | apply Op.a1 | apply Op.a2 | apply Op.a3 | refine Op.a4 ?_ GE255.out | refine Op.a4 ?_ GE256.out | refine Op.a4 ?_ GE269.out) | exact HB.out)) hb); clear HO265; clear HO268; clear HO272; clear HO275; clear BK255; clear BK256; clear BK269; clear HB; have HO265 := n0_; have HO268 := n1_; have HO272 := n2_; have HO275 := n3_; have HO280 := n4_; have BK255 := n5_; have BK256 := n6_; have BK269 := n7_; have HB := n8_; clear n0_ n1_ n2_ n3_ n4_ n5_ n6_ n7_ n8_; (try clear hb); (try clear hb2); (try clear hk); (try clear hi); (try clear ho0)))
           go_meet
           case rel => exact ⟨_, (t278), H', ⟨by have := HJ4.out; first | omega | exact Nat.le_refl _⟩, ⟨by (with_reducible repeat (first | apply Kd.R_alloc | apply Kd.R_drewN | apply Kd.R_drew)); exact Kd.R_mono HO280.out (fun _ hk => ⟨hk.2, hk.1.1.2⟩)⟩, ⟨by (with_reducible repeat (first | apply Kd.R_alloc | apply Kd.R_drewN | apply Kd.R_drew)); exact Kd.R_mono HO275.out (fun _ hk => ⟨hk.2, hk.1.1⟩)⟩, ⟨by (with_reducible repeat (first | apply Kd.S_alloc | apply Kd.S_drewN | apply Kd.S_drew)); exact Kd.S_mono HO265.out (fun _ hk => ⟨hk.2, ⟨hk.1.2.2, hk.1.1⟩⟩)⟩, ⟨by (with_reducible repeat (first | apply Kd.R_alloc | apply Kd.R_drewN | apply Kd.R_drew)); exact Kd.R_mono HO268.out (fun _ hk => ⟨hk.2, hk.1.2⟩)⟩, ⟨by (with_reducible repeat (first | refine Op.b1 ?_ _ | refine Op.b2 ?_ | refine Op.b3 ?_ _)); exact BK255.out⟩, ⟨by (with_reducible repeat (first | refine Op.b1 ?_ _ | refine Op.b2 ?_ | refine Op.b3 ?_ _)); exact BK256.out⟩, ⟨by (with_reducible repeat (first | refine Op.b1 ?_ _ | refine Op.b2 ?_ | refine Op.b3 ?_ _)); exact BK269.out⟩, ⟨by repeat (first | (with_reducible first | exact HB.out | apply Op.a1 | apply Op.a2 | apply Op.a3 | refine Op.a4 ?_ GE255.out | refine Op.a4 ?_ GE256.out | refine Op.a4 ?_ GE269.out) | exact HB.out)⟩⟩
          ·rw [if_neg c74] at H
           exact absurd H (by simp)
         ·rw [if_neg c73] at H
          exact absurd H (by simp)
        ·rw [if_neg c72] at H
         have c72b0 : decide (0 ≤ (rd l0_1 a1)) = false := decide_eq_false c72
         clear c72
         (first | rw [c72b0] | (simp only [i64_w, i32_w]; rw [c72b0]) | skip)
         have H' := Aside0.mk H
         clear H
         go_wp2
         go_meet
         case rel => exact ⟨_, (y270), H', ⟨by have := HJ4.out; first | omega | exact Nat.le_refl _⟩, ⟨by (with_reducible repeat (first | apply Kd.R_alloc | apply Kd.R_drewN | apply Kd.R_drew)); exact Kd.R_mono HO272.out (fun _ hk => ⟨hk.2, hk.1⟩)⟩, ⟨by (with_reducible repeat (first | apply Kd.R_alloc | apply Kd.R_drewN | apply Kd.R_drew)); exact Kd.R_mono HO275.out (fun _ hk => ⟨hk.2, hk.1⟩)⟩, ⟨by (with_reducible repeat (first | apply Kd.S_alloc | apply Kd.S_drewN | apply Kd.S_drew)); exact Kd.S_mono HO265.out (fun _ hk => ⟨hk.2.1, ⟨hk.2.2, hk.1⟩⟩)⟩, ⟨by (with_reducible repeat (first | apply Kd.R_alloc | apply Kd.R_drewN | apply Kd.R_drew)); exact HO268.out⟩, ⟨by (with_reducible repeat (first | refine Op.b1 ?_ _ | refine Op.b2 ?_ | refine Op.b3 ?_ _)); exact BK255.out⟩, ⟨by (with_reducible repeat (first | refine Op.b1 ?_ _ | refine Op.b2 ?_ | refine Op.b3 ?_ _)); exact BK256.out⟩, ⟨by (with_reducible repeat (first | refine Op.b1 ?_ _ | refine Op.b2 ?_ | refine Op.b3 ?_ _)); exact BK269.out⟩, ⟨by repeat (first | (with_reducible first | exact HB.out | apply Op.a1 | apply Op.a2 | apply Op.a3 | refine Op.a4 ?_ GE255.out | refine Op.a4 ?_ GE256.out | refine Op.a4 ?_ GE269.out) | exact HB.out)⟩⟩
       case rest =>
        clear HC54
        try clear c1
        try clear c2
        try clear p2
        try clear q2
        try clear hx2
        try clear c3
        try clear c4
        try clear c5
        try clear c6
        try clear p6
        try clear c7
        try clear c9
        try clear c11
        try clear c13
        try clear c14
        try clear c14b0
        try clear c15
        try clear c22
        try clear c27
        try clear p27
        try clear q27
        try clear hx27
        try clear c29
        try clear c34
        try clear c35
        try clear c41
        try clear c47
        try clear c48
        try clear c51
        try clear c51b0
        try clear c51b1
        try clear c52
        try clear c52b0
        try clear c53
        try clear c53b0
        try clear c55
        try clear c60
        try clear c61
        try clear p64
        try clear c66
        try clear c68
        try clear c72
        try clear c72b0
        try clear c73
        try clear c73b0
        try clear c74
        try clear c74b0
        try clear c76
        try clear c77
        try clear hcz16_0
        try clear hcz16_1
        try clear hcz21_0
        try clear hcz21_1
        try clear hcz23_0
        try clear hcz23_1
        try clear hcz28_0
        try clear hcz28_1
        try clear hcz30_0
        try clear hcz30_1
        try clear hcz36_0
        try clear hcz36_1
        try clear hcz42_0
        try clear hcz42_1
        try clear hcz49_0
        try clear hcz49_1
        try clear hcz56_0
        try clear hcz56_1
        try clear hcz62_0
        try clear hcz62_1
        try clear hcz71_0
        try clear hcz71_1
        try clear hcz78_0
        try clear hcz78_1
        try clear hfz16_0
        try clear hfz16_1
        try clear hfz21_0
        try clear hfz21_1
        try clear hfz23_0
        try clear hfz23_1
        try clear hfz28_0
        try clear hfz28_1
        try clear hfz30_0
        try clear hfz30_1
        try clear hfz36_0
        try clear hfz36_1
        try clear hfz42_0
        try clear hfz42_1
        try clear hfz49_0
        try clear hfz49_1
        try clear hfz56_0
        try clear hfz56_1
        try clear hfz62_0
        try clear hfz62_1
        try clear hfz71_0
        try clear hfz71_1
        try clear hfz78_0
        try clear hfz78_1
        try clear hx276_0
        try clear hx277_0
        try clear hx277_1
        try clear p2
        try clear p276
        try clear p277
        try clear p6
        try clear q276
        try clear q277
        obtain ⟨kq, x11_53, HA, HJ53, HO_11, HO_12, HO_270000, HO_270001, BK255, BK256, BK269, HB⟩ := hcut
        cases kq with
        | zero => exact absurd HA.out (by simp [impl_PutIn.j1])
        | succ kj53 =>
         have H := HA.out
         clear HA
         simp only [impl_PutIn.j1] at H
         obtain ⟨ji80, hji80⟩ : ∃ j_ : Int, (wrap64 (Int.tdiv a2 4)) = j_ := ⟨_, rfl⟩
         replace H : (if 0 ≤ (ji80) then (if (ji80) < (x11_53.length : Int) then (if (rd x11_53 (ji80)) ≥ 0 then (if 0 ≤ (rd x11_53 (ji80)) then (if (rd x11_53 (ji80)) < (l0_0.length : Int) then ((slices_Clone_int_int.f ((rd_T65 l0_0 (rd x11_53 (ji80))).f0)).bind fun t283 => (if 0 ≤ (Int.tmod a2 4) then (if (Int.tmod a2 4) < (t283.length : Int) then (if t263.length + 1 < 4398046511104 then ((some (t263 ++ [(⟨(t283.set ((Int.tmod a2 4) : Int).toNat a3), true⟩ : S65), (⟨(x11_53.set ((ji80) : Int).toNat (t263.length : Int)), false⟩ : S65)] : List (S65))).bind fun y288 => (if t266.length < 17592186044416 then (some (y288, (t266 ++ [wrap64 ((y288.length : Int) - 1)]), true)) else (none))) else (none)) else (none)) else (none))) else (none)) else (none)) else (if 0 ≤ (Int.tmod a2 4) then (if (Int.tmod a2 4) < (y273.length : Int) then (if t263.length + 1 < 4398046511104 then ((some (t263 ++ [(⟨(y273.set ((Int.tmod a2 4) : Int).toNat a3), true⟩ : S65), (⟨(x11_53.set ((ji80) : Int).toNat (t263.length : Int)), false⟩ : S65)] : List (S65))).bind fun y296 => (if t266.length < 17592186044416 then (some (y296, (t266 ++ [wrap64 ((y296.length : Int) - 1)]), true)) else (none))) else (none)) else (none)) else (none))) else (none)) else (none)) = some (r1, r2, r3) := by first | (rw [hji80] at H; exact H) | (simp only [hji80] at H ⊢; exact H)
         have hji80w : (IntKind.i64.wrap (Int.tdiv a2 4)) = ji80 := (i64_w _).trans hji80
         by_cases c81 : 0 ≤ (ji80)
         ·rw [if_pos c81] at H
          have c81b0 : decide (0 ≤ (ji80)) = true := decide_eq_true c81
          clear c81
          by_cases c82 : (ji80) < (x11_53.length : Int)
          ·rw [if_pos c82] at H
           have c82b0 : decide ((ji80) < (x11_53.length : Int)) = true := decide_eq_true c82
           clear c82
           by_cases c83 : (rd x11_53 (ji80)) ≥ 0
           ·rw [if_pos c83] at H
            have c83b0 : decide (0 ≤ (rd x11_53 (ji80))) = true := decide_eq_true c83
            clear c83
            by_cases c84 : 0 ≤ (rd x11_53 (ji80))
            ·rw [if_pos c84] at H
             have c84b0 : decide (0 ≤ (rd x11_53 (ji80))) = true := decide_eq_true c84
             clear c84
             by_cases c85 : (rd x11_53 (ji80)) < (l0_0.length : Int)
             ·rw [if_pos c85] at H
              have c85b0 : decide ((rd x11_53 (ji80)) < (l0_0.length : Int)) = true := decide_eq_true c85
              clear c85
              replace H := Option.bind_eq_some_iff.mp H
              obtain ⟨t283, A860, H⟩ := H
              replace H : (if 0 ≤ (Int.tmod a2 4) then (if (Int.tmod a2 4) < (t283.length : Int) then (if t263.length + 1 < 4398046511104 then ((some (t263 ++ [(⟨(t283.set ((Int.tmod a2 4) : Int).toNat a3), true⟩ : S65), (⟨(x11_53.set ((ji80) : Int).toNat (t263.length : Int)), false⟩ : S65)] : List (S65))).bind fun y288 => (if t266.length < 17592186044416 then (some (y288, (t266 ++ [wrap64 ((y288.length : Int) - 1)]), true)) else (none))) else (none)) else (none)) else (none)) = some (r1, r2, r3) := H
              have A86 := Aside0.mk A860
              clear A860
              obtain ⟨ji87, hji87⟩ : ∃ j_ : Int, (Int.tmod a2 4) = j_ := ⟨_, rfl⟩
              replace H : (if 0 ≤ (ji87) then (if (ji87) < (t283.length : Int) then (if t263.length + 1 < 4398046511104 then ((some (t263 ++ [(⟨(t283.set ((ji87) : Int).toNat a3), true⟩ : S65), (⟨(x11_53.set ((ji80) : Int).toNat (t263.length : Int)), false⟩ : S65)] : List (S65))).bind fun y288 => (if t266.length < 17592186044416 then (some (y288, (t266 ++ [wrap64 ((y288.length : Int) - 1)]), true)) else (none))) else (none)) else (none)) else (none)) = some (r1, r2, r3) := by first | (rw [hji87] at H; exact H) | (simp only [hji87] at H ⊢; exact H)
              (try rw [hji87] at A86)
              by_cases c88 : 0 ≤ (ji87)
              ·rw [if_pos c88] at H
               have c88b0 : decide (0 ≤ (ji87)) = true := decide_eq_true c88
               clear c88
               by_cases c89 : (ji87) < (t283.length : Int)
               ·rw [if_pos c89] at H
                have c89b0 : decide ((ji87) < (t283.length : Int)) = true := decide_eq_true c89
                clear c89
                obtain ⟨y286, hy286⟩ : ∃ y_ : List Int, y_ = (t283.set ((ji87) : Int).toNat a3) := ⟨_, rfl⟩
                replace H : (if t263.length + 1 < 4398046511104 then ((some (t263 ++ [(⟨y286, true⟩ : S65), (⟨(x11_53.set ((ji80) : Int).toNat (t263.length : Int)), false⟩ : S65)] : List (S65))).bind fun y288 => (if t266.length < 17592186044416 then (some (y288, (t266 ++ [wrap64 ((y288.length : Int) - 1)]), true)) else (none))) else (none)) = some (r1, r2, r3) := by first | (rw [hy286]; with_reducible exact H) | (have H2_ := (Option.bind_some _ _).symm.trans H; rw [hy286]; with_reducible exact H2_) | (have H2_ := (Option.bind_some _ _).symm.trans H; with_reducible exact H2_) | with_reducible exact H | (rw [hy286]; exact H) | exact H
                have Ny286 := Aside0.mk hy286
                clear hy286
                obtain ⟨y287, hy287⟩ : ∃ y_ : List Int, y_ = (x11_53.set ((ji80) : Int).toNat (t263.length : Int)) := ⟨_, rfl⟩
                replace H : (if t263.length + 1 < 4398046511104 then ((some (t263 ++ [(⟨y286, true⟩ : S65), (⟨y287, false⟩ : S65)] : List (S65))).bind fun y288 => (if t266.length < 17592186044416 then (some (y288, (t266 ++ [wrap64 ((y288.length : Int) - 1)]), true)) else (none))) else (none)) = some (r1, r2, r3) := by first | (rw [hy287]; with_reducible exact H) | (have H2_ := (Option.bind_some _ _).symm.trans H; rw [hy287]; with_reducible exact H2_) | (have H2_ := (Option.bind_some _ _).symm.trans H; with_reducible exact H2_) | with_reducible exact H | (rw [hy287]; exact H) | exact H
                have Ny287 := Aside0.mk hy287
                clear hy287
                by_cases c92 : t263.length + 1 < 4398046511104
                ·rw [if_pos c92] at H
                 have LMc92 := Aside0.mk c92
                 clear c92
                 obtain ⟨y288, hy288⟩ : ∃ y_ : List (S65), y_ = (t263 ++ [(⟨y286, true⟩ : S65), (⟨y287, false⟩ : S65)]) := ⟨_, rfl⟩
                 replace H : (if t266.length < 17592186044416 then (some (y288, (t266 ++ [wrap64 ((y288.length : Int) - 1)]), true)) else (none)) = some (r1, r2, r3) := by first | (rw [hy288]; with_reducible exact H) | (have H2_ := (Option.bind_some _ _).symm.trans H; rw [hy288]; with_reducible exact H2_) | (have H2_ := (Option.bind_some _ _).symm.trans H; with_reducible exact H2_) | with_reducible exact H | (rw [hy288]; exact H) | exact H
                 have Ny288 := Aside0.mk hy288
                 clear hy288
                 by_cases c93 : t266.length < 17592186044416
                 ·rw [if_pos c93] at H
                  have LMc93 := Aside0.mk c93
                  clear c93
                  obtain ⟨y291, hy291⟩ : ∃ y_ : List Int, y_ = (t266 ++ [wrap64 ((y288.length : Int) - 1)]) := ⟨_, rfl⟩
                  replace H : (some (y288, y291, true)) = some (r1, r2, r3) := by first | (rw [hy291]; with_reducible exact H) | (have H2_ := (Option.bind_some _ _).symm.trans H; rw [hy291]; with_reducible exact H2_) | (have H2_ := (Option.bind_some _ _).symm.trans H; with_reducible exact H2_) | with_reducible exact H | (rw [hy291]; exact H) | exact H
                  have Ny291 := Aside0.mk hy291
                  clear hy291
                  simp only [Option.some.injEq, Prod.mk.injEq] at H
                  obtain ⟨rfl, rfl, rfl⟩ := H
                  obtain ⟨Ao94, co94, eo94⟩ := Kd.R_slice HO_11.out
                  subst eo94
                  have p281 : 0 ≤ ((ji80) : Int) := of_decide_eq_true (by first | (with_reducible assumption) | assumption)
                  have q281 : (ji80) < (x11_53.length : Int) := of_decide_eq_true (by first | (with_reducible assumption) | assumption)
                  obtain ⟨ad281, e281, hx281_0⟩ := Kd.at_int (Kd.R_reads' HO_11.out).2.2 (ji80) p281 q281
                  cases e281
                  replace p281 := eq_true p281
                  replace q281 := eq_true q281
                  have hnb95 := NB255_256.out
                  have hnc95 := NB256_255.out
                  have hnb96 := NB255_269.out
                  have hnc96 := NB269_255.out
                  have hcz97_0 : wc.cell? ⟨gb255, 0, none⟩ = some (.slice A0_0 l0_0.length c0_0) := (blk_cell BK255.out 0).trans rfl
                  have hcz97_1 : wc.cell? ⟨gb255, 1, none⟩ = some (.slice (some ad276) l0_1.length c0_1) := (blk_cell BK255.out 1).trans rfl
                  have hfz97_0 := blk_frozen BK255.out 0
                  have hfz97_1 := blk_frozen BK255.out 1
                  have p282 : 0 ≤ ((rd x11_53 (ji80)) : Int) := of_decide_eq_true (by first | (with_reducible assumption) | assumption)
                  have q282 : (rd x11_53 (ji80)) < (l0_0.length : Int) := of_decide_eq_true (by first | (with_reducible assumption) | assumption)
                  obtain ⟨ad282, A282_0, c282_0, e282, hx282_0, hx282_1, hl282_0, hi282_0⟩ := at_T65 HR0_0.out (rd x11_53 (ji80)) p282 q282
                  cases e282
                  replace hx282_0 := (HB.out.cell (World.block_lt_of_cell? w _ hx282_0)).trans hx282_0
                  replace hx282_1 := (HB.out.cell (World.block_lt_of_cell? w _ hx282_1)).trans hx282_1
                  have HR282_0 := Aside0.mk hi282_0
                  have HC282_0 := Aside0.mk hl282_0
                  clear hi282_0 hl282_0
                  replace p282 := eq_true p282
                  replace q282 := eq_true q282
                  go_wp2_with (first | ((with_reducible refine gate_callee (f := 68) rfl ?_); refine goesL_ (some 75) rfl rfl Try.func68 (by kernel_rfl) rfl #[.slice A282_0 ((rd_T65 l0_0 (rd x11_53 (ji80))).f0).length c282_0] rfl (by (try simp only [List.map_toArray, List.map_cons, List.map_nil]); first | done | (simp only [hji80]; rfl) | rfl | (simp only [List.length_drop, List.length_take]; rfl)) ?_; (with_reducible refine (slices_Clone_int_int.calls _ _ ((rd_T65 l0_0 (rd x11_53 (ji80))).f0) t283 _ ?side1 ?side2 A86.out).mono ?_); (case side1 => repeat (first | exact (Kd.C_below HR282_0.out HB.out) | (with_reducible refine Kd.C_alloc ?_ _) | (with_reducible refine Kd.C_drewN ?_ _) | (with_reducible refine Kd.C_drew ?_))); (case side2 => exact HC282_0.out); rintro e w98 ⟨v284, rfl, ho0, hb⟩; refine ⟨_, rfl, ?_⟩; have n0_ := Aside0.mk (Kd.R_elder' (by (with_reducible repeat (first | apply Kd.R_alloc | apply Kd.R_drewN | apply Kd.R_drew)); exact HO_11.out) (Kd.R_base ho0) hb); have n1_ := Aside0.mk (Kd.R_elder' (by (with_reducible repeat (first | apply Kd.R_alloc | apply Kd.R_drewN | apply Kd.R_drew)); exact HO_12.out) (Kd.R_base ho0) hb); have n2_ := Aside0.mk (Kd.S_elder' (by (with_reducible repeat (first | apply Kd.S_alloc | apply Kd.S_drewN | apply Kd.S_drew)); exact HO_270000.out) (Kd.R_base ho0) hb); have n3_ := Aside0.mk (Kd.R_elder' (by (with_reducible repeat (first | apply Kd.R_alloc | apply Kd.R_drewN | apply Kd.R_drew)); exact HO_270001.out) (Kd.R_base ho0) hb); have n4_ := Aside0.mk (Kd.R_lower (Kd.R_new' (Kd.R_new' (Kd.R_new' ho0 (Kd.R_lt (by (with_reducible repeat (first | apply Kd.R_alloc | apply Kd.R_drewN | apply Kd.R_drew)); exact HO_11.out))) (Kd.R_lt (by (with_reducible repeat (first | apply Kd.R_alloc | apply Kd.R_drewN | apply Kd.R_drew)); exact HO_12.out))) (Kd.R_lt (by (with_reducible repeat (first | apply Kd.R_alloc | apply Kd.R_drewN | apply Kd.R_drew)); exact HO_270001.out))) (Op.a6 (by repeat (first | (with_reducible first | exact HB.out | apply Op.a1 | apply Op.a2 | apply Op.a3 | refine Op.a4 ?_ GE255.out | refine Op.a4 ?_ GE256.out | refine Op.a4 ?_ GE269.out) | exact HB.out)))); have n5_ := Aside0.mk (Op.b4 (g := gb255) (o := .cells #[.slice (some ad282) l0_0.length c0_0, .slice (some ad276) l0_1.length c0_1] 25 (0, 0)) (by (with_reducible repeat (first | refine Op.b1 ?_ _ | refine Op.b2 ?_ | refine Op.b3 ?_ _)); exact BK255.out) hb); have n6_ := Aside0.mk (Op.b4 (g := gb256) (o := .cells #[.slice none 0 0, .slice none 0 0] 25 (0, 0)) (by (with_reducible repeat (first | refine Op.b1 ?_ _ | refine Op.b2 ?_ | refine Op.b3 ?_ _)); exact BK256.out) hb); have n7_ := Aside0.mk (Op.b4 (g := gb269) (o := .cells #[.slice Ao59 t263.length co59, .slice Ao63 t266.length co63] 25 (0, 0)) (by (with_reducible repeat (first | refine Op.b1 ?_ _ | refine Op.b2 ?_ | refine Op.b3 ?_ _)); exact BK269.out) hb); have n8_ := Aside0.mk (Op.a5 (by repeat (first | (with_reducible first | exact HB.out | apply Op.a1 | apply Op.a2 | apply Op.a3 | refine Op.a4 ?_ GE255.out | refine Op.a4 ?_ GE256.out | refine Op.a4 ?_ GE269.out) | exact HB.out)) hb); clear HO_11; clear HO_12; clear HO_270000; clear HO_270001; clear BK255; clear BK256; clear BK269; clear HB; have HO_11 := n0_; have HO_12 := n1_; have HO_270000 := n2_; have HO_270001 := n3_; have HO285 := n4_; have BK255 := n5_; have BK256 := n6_; have BK269 := n7_; have HB := n8_; clear n0_ n1_ n2_ n3_ n4_ n5_ n6_ n7_ n8_; (try clear hb); (try clear hb2); (try clear hk); (try clear hi); (try clear ho0); have p90 : 0 ≤ ((ji87) : Int) := of_decide_eq_true (by first | (with_reducible assumption) | assumption); have q90 : ((ji87) : Int) < ((t283.length : Int) : Int) := of_decide_eq_true (by first | (with_reducible assumption) | assumption); obtain ⟨go90, co90, eo90, gb90, gl90, cl90, HG90⟩ := Kd.R_form HO285.out (by omega); (first | cases eo90 | (injection eo90 with ea_ en_ ec_; (first | subst ea_ | (injection ea_ with ea_; subst ea_)); subst ec_; clear en_)); have GB90 := Aside0.mk gb90; have GG90 := Aside0.mk HG90; clear gb90 gl90 HG90; obtain ⟨hx90_0, hf90_0⟩ := Kd.R_celln 0 HO285.out ((ji87) : Int) p90 q90; replace p90 := eq_true p90; replace q90 := eq_true q90; have n_ := Aside0.mk (Kd.R_mono (ok' := (fun k_ => some k_ ≠ (.slice (some ad281) x11_53.length co94 : Value).ownBlock ∧ some k_ ≠ (v274 : Value).ownBlock ∧ some k_ ≠ (.slice Ao63 t266.length co63 : Value).ownBlock)) HO285.out (fun k_ hk => ⟨hk.1.1.2, ⟨hk.1.2, hk.2⟩⟩)); clear HO285; have HO285 := n_; clear n_; obtain ⟨hy99_, hz99_⟩ := Kd.R_celln 0 HO285.out ((ji87) : Int) (of_decide_eq_true (by first | (with_reducible assumption) | assumption)) (of_decide_eq_true (by first | (with_reducible assumption) | assumption)); have HP99 := Kd.R_putg HO285.out ((ji87) : Int) a3) | ((with_reducible refine gate_store (t := 3) (p := 80) rfl ?_); refine store_event (t := 3) (p := 80) (v := ?vo_w100) (w1 := (w98.setCell ⟨go90, ((ji87) : Int).toNat, none⟩ (.int .i64 a3))) ?hg ?ho ?hn ?hr ?_; (case ho => rfl); (case hg => rfl); (case hn => rfl); (case hr => first | (go_simp; done) | (go_simp; rfl)); intro w100 hw; have hg : w98.grownBy w100 (some go90) := (by rw [hw]; exact HP99.2); have hp_ : Kd.R (Kd.int .i64) 3 w100 w.heap.size (fun k_ => some k_ ≠ (.slice (some ad281) x11_53.length co94 : Value).ownBlock ∧ some k_ ≠ (v274 : Value).ownBlock ∧ some k_ ≠ (.slice Ao63 t266.length co63 : Value).ownBlock) (.slice (some ⟨go90, 0, none⟩) t283.length co90) y286 := (by rw [hw, Ny286.out]; exact HP99.1); clear HP99; have n0_ := Aside0.mk (Kd.R_after (v := (.slice (some ⟨go90, 0, none⟩) t283.length co90)) (v1 := (.slice (some ⟨go90, 0, none⟩) t283.length co90)) (ok := (fun k_ => some k_ ≠ (v274 : Value).ownBlock ∧ some k_ ≠ (.slice Ao63 t266.length co63 : Value).ownBlock)) (by (with_reducible repeat (first | apply Kd.R_alloc | apply Kd.R_drewN | apply Kd.R_drew)); exact HO_11.out) hg (.inl rfl)); have n1_ := Aside0.mk (Kd.R_after (v := (.slice (some ⟨go90, 0, none⟩) t283.length co90)) (v1 := (.slice (some ⟨go90, 0, none⟩) t283.length co90)) (ok := (fun k_ => some k_ ≠ (.slice (some ad281) x11_53.length co94 : Value).ownBlock ∧ some k_ ≠ (.slice Ao63 t266.length co63 : Value).ownBlock)) (by (with_reducible repeat (first | apply Kd.R_alloc | apply Kd.R_drewN | apply Kd.R_drew)); exact HO_12.out) hg (.inl rfl)); have n2_ := Aside0.mk (Kd.S_after (v := (.slice (some ⟨go90, 0, none⟩) t283.length co90)) (v1 := (.slice (some ⟨go90, 0, none⟩) t283.length co90)) (ok := (fun k_ => some k_ ≠ (.slice (some ad281) x11_53.length co94 : Value).ownBlock ∧ some k_ ≠ (v274 : Value).ownBlock ∧ some k_ ≠ (.slice Ao63 t266.length co63 : Value).ownBlock)) (by (with_reducible repeat (first | apply Kd.S_alloc | apply Kd.S_drewN | apply Kd.S_drew)); exact HO_270000.out) hg (.inl rfl)); have n3_ := Aside0.mk (Kd.R_after (v := (.slice (some ⟨go90, 0, none⟩) t283.length co90)) (v1 := (.slice (some ⟨go90, 0, none⟩) t283.length co90)) (ok := (fun k_ => some k_ ≠ (.slice (some ad281) x11_53.length co94 : Value).ownBlock ∧ some k_ ≠ (v274 : Value).ownBlock)) (by (with_reducible repeat (first | apply Kd.R_alloc | apply Kd.R_drewN | apply Kd.R_drew)); exact HO_270001.out) hg (.inl rfl)); have n4_ := Aside0.mk (blk_grown (g := gb255) (o := .cells #[.slice (some ad282) l0_0.length c0_0, .slice (some ad276) l0_1.length c0_1] 25 (0, 0)) (by (with_reducible repeat (first | refine Op.b1 ?_ _ | refine Op.b2 ?_ | refine Op.b3 ?_ _)); exact BK255.out) hg (Kd.R_ne HO285.out BK255.out (by decide))); have n5_ := Aside0.mk (blk_grown (g := gb256) (o := .cells #[.slice none 0 0, .slice none 0 0] 25 (0, 0)) (by (with_reducible repeat (first | refine Op.b1 ?_ _ | refine Op.b2 ?_ | refine Op.b3 ?_ _)); exact BK256.out) hg (Kd.R_ne HO285.out BK256.out (by decide))); have n6_ := Aside0.mk (blk_grown (g := gb269) (o := .cells #[.slice Ao59 t263.length co59, .slice Ao63 t266.length co63] 25 (0, 0)) (by (with_reducible repeat (first | refine Op.b1 ?_ _ | refine Op.b2 ?_ | refine Op.b3 ?_ _)); exact BK269.out) hg (Kd.R_ne HO285.out BK269.out (by decide))); have n7_ := Aside0.mk (hp_); have n8_ := Aside0.mk ((by rw [hw]; exact below_set (HB.out) GB90.out : Below w.heap.size w w100)); clear HO_11; clear HO_12; clear HO_270000; clear HO_270001; clear BK255; clear BK256; clear BK269; clear HO285; clear HB; have HO_11 := n0_; have HO_12 := n1_; have HO_270000 := n2_; have HO_270001 := n3_; have BK255 := n4_; have BK256 := n5_; have BK269 := n6_; have HO285 := n7_; have HB := n8_; clear n0_ n1_ n2_ n3_ n4_ n5_ n6_ n7_ n8_; clear hg hw hp_; have hnb101 := NB269_256.out; have hnc101 := NB256_269.out; have hcz102_0 : w100.cell? ⟨gb269, 0, none⟩ = some (.slice Ao59 t263.length co59) := (blk_cell BK269.out 0).trans rfl; have hcz102_1 : w100.cell? ⟨gb269, 1, none⟩ = some (.slice Ao63 t266.length co63) := (blk_cell BK269.out 1).trans rfl; have hfz102_0 := blk_frozen BK269.out 0; have hfz102_1 := blk_frozen BK269.out 1; have p91 : 0 ≤ ((ji80) : Int) := of_decide_eq_true (by first | (with_reducible assumption) | assumption); have q91 : ((ji80) : Int) < ((x11_53.length : Int) : Int) := of_decide_eq_true (by first | (with_reducible assumption) | assumption); obtain ⟨go91, co91, eo91, gb91, gl91, cl91, HG91⟩ := Kd.R_form HO_11.out (by omega); (first | cases eo91 | (injection eo91 with ea_ en_ ec_; (first | subst ea_ | (injection ea_ with ea_; subst ea_)); subst ec_; clear en_)); have GB91 := Aside0.mk gb91; have GG91 := Aside0.mk HG91; clear gb91 gl91 HG91; (first | simp only [add_plain] at hx281_0 | skip); obtain ⟨hx91_0, hf91_0⟩ := Kd.R_celln 0 HO_11.out ((ji80) : Int) p91 q91; replace p91 := eq_true p91; replace q91 := eq_true q91; have n_ := Aside0.mk (Kd.R_mono (ok' := (fun k_ => some k_ ≠ (v274 : Value).ownBlock ∧ some k_ ≠ (.slice Ao63 t266.length co63 : Value).ownBlock ∧ some k_ ≠ (.slice (some ⟨go90, 0, none⟩) t283.length co90 : Value).ownBlock)) HO_11.out (fun k_ hk => ⟨hk.1.1, ⟨hk.1.2, hk.2⟩⟩)); clear HO_11; have HO_11 := n_; clear n_; obtain ⟨hy103_, hz103_⟩ := Kd.R_celln 0 HO_11.out ((ji80) : Int) (of_decide_eq_true (by first | (with_reducible assumption) | assumption)) (of_decide_eq_true (by first | (with_reducible assumption) | assumption)); have HP103 := Kd.R_putg HO_11.out ((ji80) : Int) (t263.length : Int)) | ((with_reducible refine gate_store (t := 3) (p := 87) rfl ?_); refine store_event (t := 3) (p := 87) (v := ?vo_w104) (w1 := (w100.setCell ⟨go91, ((ji80) : Int).toNat, none⟩ (.int .i64 (t263.length : Int)))) ?hg ?ho ?hn ?hr ?_; (case ho => rfl); (case hg => rfl); (case hn => rfl); (case hr => first | (go_simp; done) | (go_simp; rfl)); intro w104 hw; have hg : w100.grownBy w104 (some go91) := (by rw [hw]; exact HP103.2); have hp_ : Kd.R (Kd.int .i64) 3 w104 w.heap.size (fun k_ => some k_ ≠ (v274 : Value).ownBlock ∧ some k_ ≠ (.slice Ao63 t266.length co63 : Value).ownBlock ∧ some k_ ≠ (.slice (some ⟨go90, 0, none⟩) t283.length co90 : Value).ownBlock) (.slice (some ⟨go91, 0, none⟩) x11_53.length co94) y287 := (by rw [hw, Ny287.out]; exact HP103.1); clear HP103; have n0_ := Aside0.mk (hp_); have n1_ := Aside0.mk (Kd.R_after (v := (.slice (some ⟨go91, 0, none⟩) x11_53.length co94)) (v1 := (.slice (some ⟨go91, 0, none⟩) x11_53.length co94)) (ok := (fun k_ => some k_ ≠ (.slice Ao63 t266.length co63 : Value).ownBlock ∧ some k_ ≠ (.slice (some ⟨go90, 0, none⟩) t283.length co90 : Value).ownBlock)) (by (with_reducible repeat (first | apply Kd.R_alloc | apply Kd.R_drewN | apply Kd.R_drew)); exact Kd.R_mono HO_12.out (fun _ hk => ⟨⟨hk.1.2, hk.2⟩, hk.1.1⟩)) hg (.inl rfl)); have n2_ := Aside0.mk (Kd.S_after (v := (.slice (some ⟨go91, 0, none⟩) x11_53.length co94)) (v1 := (.slice (some ⟨go91, 0, none⟩) x11_53.length co94)) (ok := (fun k_ => some k_ ≠ (v274 : Value).ownBlock ∧ some k_ ≠ (.slice Ao63 t266.length co63 : Value).ownBlock ∧ some k_ ≠ (.slice (some ⟨go90, 0, none⟩) t283.length co90 : Value).ownBlock)) (by (with_reducible repeat (first | apply Kd.S_alloc | apply Kd.S_drewN | apply Kd.S_drew)); exact Kd.S_mono HO_270000.out (fun _ hk => ⟨⟨hk.1.2.1, ⟨hk.1.2.2, hk.2⟩⟩, hk.1.1⟩)) hg (.inl rfl)); have n3_ := Aside0.mk (Kd.R_after (v := (.slice (some ⟨go91, 0, none⟩) x11_53.length co94)) (v1 := (.slice (some ⟨go91, 0, none⟩) x11_53.length co94)) (ok := (fun k_ => some k_ ≠ (v274 : Value).ownBlock ∧ some k_ ≠ (.slice (some ⟨go90, 0, none⟩) t283.length co90 : Value).ownBlock)) (by (with_reducible repeat (first | apply Kd.R_alloc | apply Kd.R_drewN | apply Kd.R_drew)); exact Kd.R_mono HO_270001.out (fun _ hk => ⟨⟨hk.1.2, hk.2⟩, hk.1.1⟩)) hg (.inl rfl)); have n4_ := Aside0.mk (blk_grown (g := gb255) (o := .cells #[.slice (some ad282) l0_0.length c0_0, .slice (some ad276) l0_1.length c0_1] 25 (0, 0)) (by (with_reducible repeat (first | refine Op.b1 ?_ _ | refine Op.b2 ?_ | refine Op.b3 ?_ _)); exact BK255.out) hg (Kd.R_ne HO_11.out BK255.out (by decide))); have n5_ := Aside0.mk (blk_grown (g := gb256) (o := .cells #[.slice none 0 0, .slice none 0 0] 25 (0, 0)) (by (with_reducible repeat (first | refine Op.b1 ?_ _ | refine Op.b2 ?_ | refine Op.b3 ?_ _)); exact BK256.out) hg (Kd.R_ne HO_11.out BK256.out (by decide))); have n6_ := Aside0.mk (blk_grown (g := gb269) (o := .cells #[.slice Ao59 t263.length co59, .slice Ao63 t266.length co63] 25 (0, 0)) (by (with_reducible repeat (first | refine Op.b1 ?_ _ | refine Op.b2 ?_ | refine Op.b3 ?_ _)); exact BK269.out) hg (Kd.R_ne HO_11.out BK269.out (by decide))); have n7_ := Aside0.mk (Kd.R_after (v := (.slice (some ⟨go91, 0, none⟩) x11_53.length co94)) (v1 := (.slice (some ⟨go91, 0, none⟩) x11_53.length co94)) (ok := (fun k_ => some k_ ≠ (v274 : Value).ownBlock ∧ some k_ ≠ (.slice Ao63 t266.length co63 : Value).ownBlock)) (by (with_reducible repeat (first | apply Kd.R_alloc | apply Kd.R_drewN | apply Kd.R_drew)); exact Kd.R_mono HO285.out (fun _ hk => ⟨⟨hk.2.1, hk.2.2⟩, hk.1⟩)) hg (.inl rfl)); have n8_ := Aside0.mk ((by rw [hw]; exact below_set (HB.out) GB91.out : Below w.heap.size w w104)); clear HO_11; clear HO_12; clear HO_270000; clear HO_270001; clear BK255; clear BK256; clear BK269; clear HO285; clear HB; have HO_11 := n0_; have HO_12 := n1_; have HO_270000 := n2_; have HO_270001 := n3_; have BK255 := n4_; have BK256 := n5_; have BK269 := n6_; have HO285 := n7_; have HB := n8_; clear n0_ n1_ n2_ n3_ n4_ n5_ n6_ n7_ n8_; clear hg hw hp_; have hcz105_0 : w104.cell? ⟨gb269, 0, none⟩ = some (.slice Ao59 t263.length co59) := (blk_cell BK269.out 0).trans rfl; have hcz105_1 : w104.cell? ⟨gb269, 1, none⟩ = some (.slice Ao63 t266.length co63) := (blk_cell BK269.out 1).trans rfl; have hfz105_0 := blk_frozen BK269.out 0; have hfz105_1 := blk_frozen BK269.out 1) | ((with_reducible refine gate_builtin (b := .append) (xs := #[.tmp 89, .tmp 94]) rfl ?_); (try (refine gate_guard (by rfl) ?_; dsimp only)); at_builtin; refine Op.S_append2 k65 (w0 := w) w.heap.size rfl (.tmp 89) (.tmp 94) 22 65 (.agg #[(.slice none 0 0), (.bool false)]) 32 rfl Try.underlying22 info65 rfl (by decide) (by omega) (.slice Ao59 t263.length co59) t263 (⟨y286, true⟩ : S65) (⟨y287, false⟩ : S65) [.slice (some ⟨go90, 0, none⟩) t283.length co90, .bool true, .slice (some ⟨go91, 0, none⟩) x11_53.length co94, .bool false] [.slice (some ⟨go90, 0, none⟩) t283.length co90, .bool true] [.slice (some ⟨go91, 0, none⟩) x11_53.length co94, .bool false] (fun k_ => some k_ ≠ (v274 : Value).ownBlock ∧ some k_ ≠ (.slice Ao63 t266.length co63 : Value).ownBlock) (fun k_ => some k_ = (.slice (some ⟨go90, 0, none⟩) t283.length co90 : Value).ownBlock) (fun k_ => some k_ = (.slice (some ⟨go91, 0, none⟩) x11_53.length co94 : Value).ownBlock) rfl rfl rfl ?aP ?aQ (fun k_ e_ => (HO285.out.1 k_ e_.symm).2) (fun k_ hk_ => ((Kd.R_mono (ok' := fun k_ => ((fun k_ => some k_ ≠ (v274 : Value).ownBlock ∧ some k_ ≠ (.slice Ao63 t266.length co63 : Value).ownBlock)) k_ ∧ some k_ ≠ (.slice Ao59 t263.length co59 : Value).ownBlock) (Kd.R_apart' (HO285.out) (Kd.S_typed HO_270000.out) (by decide)) (fun k_ hk => ⟨⟨hk.1.1.1, hk.1.1.2⟩, hk.2⟩))).1 k_ hk_.symm) (fun k_ hk_ => ((Kd.R_mono (ok' := fun k_ => ((fun k_ => some k_ ≠ (v274 : Value).ownBlock ∧ some k_ ≠ (.slice Ao63 t266.length co63 : Value).ownBlock)) k_ ∧ some k_ ≠ (.slice Ao59 t263.length co59 : Value).ownBlock) (Kd.R_apart' (HO_11.out) (Kd.S_typed HO_270000.out) (by decide)) (fun k_ hk => ⟨⟨hk.1.1, hk.1.2.1⟩, hk.2⟩))).1 k_ hk_.symm) ?aF ?aO ?aB ?aS ?aL ?_; (case aP => exact k65_mkM _ _ _ (⟨y286, true⟩ : S65) (Kd.R_tight rfl (Kd.R_mono (ok' := fun k_ => ((fun k_ => some k_ ≠ (v274 : Value).ownBlock ∧ some k_ ≠ (.slice Ao63 t266.length co63 : Value).ownBlock)) k_ ∧ some k_ ≠ (.slice Ao59 t263.length co59 : Value).ownBlock) (Kd.R_apart' (HO285.out) (Kd.S_typed HO_270000.out) (by decide)) (fun k_ hk => ⟨⟨hk.1.1.1, hk.1.1.2⟩, hk.2⟩)))); (case aQ => exact k65_mkM _ _ _ (⟨y287, false⟩ : S65) (Kd.R_tight rfl (Kd.R_mono (ok' := fun k_ => ((fun k_ => some k_ ≠ (v274 : Value).ownBlock ∧ some k_ ≠ (.slice Ao63 t266.length co63 : Value).ownBlock)) k_ ∧ some k_ ≠ (.slice Ao59 t263.length co59 : Value).ownBlock) (Kd.R_apart' (HO_11.out) (Kd.S_typed HO_270000.out) (by decide)) (fun k_ hk => ⟨⟨hk.1.1, hk.1.2.1⟩, hk.2⟩)))); (case aB => exact (by repeat (first | (with_reducible first | exact HB.out | apply Op.a1 | apply Op.a2 | apply Op.a3 | refine Op.a4 ?_ GE255.out | refine Op.a4 ?_ GE256.out | refine Op.a4 ?_ GE269.out) | exact HB.out))); (case aF => exact (fun k_ hk => ⟨Kd.fresh' (Kd.R_lt (by (with_reducible repeat (first | apply Kd.R_alloc | apply Kd.R_drewN | apply Kd.R_drew)); exact HO_12.out)) k_ hk, Kd.fresh' (Kd.R_lt (by (with_reducible repeat (first | apply Kd.R_alloc | apply Kd.R_drewN | apply Kd.R_drew)); exact HO_270001.out)) k_ hk⟩)); (case aO => exact (by (with_reducible repeat (first | apply Kd.S_alloc | apply Kd.S_drewN | apply Kd.S_drew)); exact Kd.S_mono HO_270000.out (fun k_ hk => ⟨⟨hk.1.1, hk.1.2.1⟩, fun e_ => e_.elim (fun h_ => hk.1.2.2 h_) (fun h_ => hk.2 h_)⟩))); (case aS => exact (Op.a6 (by repeat (first | (with_reducible first | exact HB.out | apply Op.a1 | apply Op.a2 | apply Op.a3 | refine Op.a4 ?_ GE255.out | refine Op.a4 ?_ GE256.out | refine Op.a4 ?_ GE269.out) | exact HB.out)))); (case aL => have := LMc92.out; omega); intro v289 w106 ho hb hg hat; rw [← Ny288.out] at ho; have n0_ := Aside0.mk (Kd.R_over' (by (with_reducible repeat (first | apply Kd.R_alloc | apply Kd.R_drewN | apply Kd.R_drew)); exact HO_12.out) (Kd.S_typed (by (with_reducible repeat (first | apply Kd.S_alloc | apply Kd.S_drewN | apply Kd.S_drew)); exact HO_270000.out)) (by decide) hg); have n1_ := Aside0.mk (Kd.R_over' (by (with_reducible repeat (first | apply Kd.R_alloc | apply Kd.R_drewN | apply Kd.R_drew)); exact HO_270001.out) (Kd.S_typed (by (with_reducible repeat (first | apply Kd.S_alloc | apply Kd.S_drewN | apply Kd.S_drew)); exact HO_270000.out)) (by decide) hg); have n2_ := Aside0.mk (blk_grown (g := gb255) (o := .cells #[.slice (some ad282) l0_0.length c0_0, .slice (some ad276) l0_1.length c0_1] 25 (0, 0)) (by (with_reducible repeat (first | refine Op.b1 ?_ _ | refine Op.b2 ?_ | refine Op.b3 ?_ _)); exact BK255.out) hg (Kd.S_ne HO_270000.out BK255.out (by decide))); have n3_ := Aside0.mk (blk_grown (g := gb256) (o := .cells #[.slice none 0 0, .slice none 0 0] 25 (0, 0)) (by (with_reducible repeat (first | refine Op.b1 ?_ _ | refine Op.b2 ?_ | refine Op.b3 ?_ _)); exact BK256.out) hg (Kd.S_ne HO_270000.out BK256.out (by decide))); have n4_ := Aside0.mk (blk_grown (g := gb269) (o := .cells #[.slice Ao59 t263.length co59, .slice Ao63 t266.length co63] 25 (0, 0)) (by (with_reducible repeat (first | refine Op.b1 ?_ _ | refine Op.b2 ?_ | refine Op.b3 ?_ _)); exact BK269.out) hg (Kd.S_ne HO_270000.out BK269.out (by decide))); have n5_ := Aside0.mk (hb); have n6_ := Aside0.mk (ho); clear HO_12; clear HO_270001; clear BK255; clear BK256; clear BK269; clear HB; clear HO_270000; clear HO285; clear HO_11; have HO_12 := n0_; have HO_270001 := n1_; have BK255 := n2_; have BK256 := n3_; have BK269 := n4_; have HB := n5_; have HO290 := n6_; clear n0_ n1_ n2_ n3_ n4_ n5_ n6_; clear ho hb hg hat; obtain ⟨Ao107, co107, eo107⟩ := Kd.S_slice HO290.out; subst eo107; have hcz108_0 : w106.cell? ⟨gb269, 0, none⟩ = some (.slice Ao59 t263.length co59) := (blk_cell BK269.out 0).trans rfl; have hcz108_1 : w106.cell? ⟨gb269, 1, none⟩ = some (.slice Ao63 t266.length co63) := (blk_cell BK269.out 1).trans rfl; have hfz108_0 := blk_frozen BK269.out 0; have hfz108_1 := blk_frozen BK269.out 1) | ((with_reducible refine gate_builtin (b := .append) (xs := #[.tmp 98, .tmp 103]) rfl ?_); (try (refine gate_guard (by rfl) ?_; dsimp only)); at_builtin; refine Kd.R_append (Kd.int .i64) (w0 := w) w.heap.size rfl (.tmp 98) (.tmp 103) 23 3 (.int .i64 0) 8 rfl Try.underlying23 info3 rfl (by decide) (by omega) (.slice Ao63 t266.length co63) t266 (wrap64 ((y288.length : Int) - 1)) [.int .i64 (wrap64 ((y288.length : Int) - 1))] (fun k_ => some k_ ≠ (v274 : Value).ownBlock) (fun _ => False) rfl (by first | (go_simp; done) | (go_simp; rfl)) ?aP (fun _ hk => hk.elim) ?aF ?aO ?aB ?aS ?aL ?_; (case aP => exact rfl); (case aB => exact (by repeat (first | (with_reducible first | exact HB.out | apply Op.a1 | apply Op.a2 | apply Op.a3 | refine Op.a4 ?_ GE255.out | refine Op.a4 ?_ GE256.out | refine Op.a4 ?_ GE269.out) | exact HB.out))); (case aF => exact (fun k_ hk => Kd.fresh' (Kd.R_lt (by (with_reducible repeat (first | apply Kd.R_alloc | apply Kd.R_drewN | apply Kd.R_drew)); exact (Kd.R_mono (Kd.R_far (p := ⟨gb269, 0, none⟩) (Kd.R_types HO_12.out BK269.out (by decide)) (fun _ hk => hk.2) (.slice Ao107 y288.length co107)) (fun _ h_ => h_.1)))) k_ hk)); (case aO => exact (by (with_reducible repeat (first | apply Kd.R_alloc | apply Kd.R_drewN | apply Kd.R_drew)); exact Kd.R_mono (Kd.R_far (p := ⟨gb269, 0, none⟩) (Kd.R_types HO_270001.out BK269.out (by decide)) (fun _ hk => hk.2) (.slice Ao107 y288.length co107)) (fun _ hk => hk.1.1.1))); (case aS => exact (Op.a6 (by repeat (first | (with_reducible first | exact HB.out | apply Op.a1 | apply Op.a2 | apply Op.a3 | refine Op.a4 ?_ GE255.out | refine Op.a4 ?_ GE256.out | refine Op.a4 ?_ GE269.out) | exact HB.out)))); (case aL => have := LMc93.out; omega); intro v292 w109 ho hb hg hat; rw [← Ny291.out] at ho; have n0_ := Aside0.mk (Kd.R_after (ok := (fun _ => True)) (by (with_reducible repeat (first | apply Kd.R_alloc | apply Kd.R_drewN | apply Kd.R_drew)); exact Kd.R_mono (Kd.R_far (p := ⟨gb269, 0, none⟩) (Kd.R_types HO_12.out BK269.out (by decide)) (fun _ hk => hk.2) (.slice Ao107 y288.length co107)) (fun _ hk => ⟨trivial, hk.1.1.1⟩)) hg hat); have n1_ := Aside0.mk (blk_grown (g := gb255) (o := .cells #[.slice (some ad282) l0_0.length c0_0, .slice (some ad276) l0_1.length c0_1] 25 (0, 0)) (by (with_reducible repeat (first | refine Op.b1 ?_ _ | refine Op.b2 ?_ | refine Op.b3 ?_ _)); refine blk_far ?_ NB255_269.out _; (with_reducible repeat (first | refine Op.b1 ?_ _ | refine Op.b2 ?_ | refine Op.b3 ?_ _)); exact BK255.out) hg (Kd.R_ne HO_270001.out BK255.out (by decide))); have n2_ := Aside0.mk (blk_grown (g := gb256) (o := .cells #[.slice none 0 0, .slice none 0 0] 25 (0, 0)) (by (with_reducible repeat (first | refine Op.b1 ?_ _ | refine Op.b2 ?_ | refine Op.b3 ?_ _)); refine blk_far ?_ NB256_269.out _; (with_reducible repeat (first | refine Op.b1 ?_ _ | refine Op.b2 ?_ | refine Op.b3 ?_ _)); exact BK256.out) hg (Kd.R_ne HO_270001.out BK256.out (by decide))); have n3_ := Aside0.mk (blk_grown (g := gb269) (o := .cells #[.slice Ao107 y288.length co107, .slice Ao63 t266.length co63] 25 (0, 0)) (by (with_reducible repeat (first | refine Op.b1 ?_ _ | refine Op.b2 ?_ | refine Op.b3 ?_ _)); refine blk_put (cs := #[.slice Ao59 t263.length co59, .slice Ao63 t266.length co63]) ?_ 0 _ rfl; (with_reducible repeat (first | refine Op.b1 ?_ _ | refine Op.b2 ?_ | refine Op.b3 ?_ _)); exact BK269.out) hg (Kd.R_ne HO_270001.out BK269.out (by decide))); have n4_ := Aside0.mk (Kd.S_after (ok := (fun k_ => some k_ ≠ (v274 : Value).ownBlock)) (by (with_reducible repeat (first | apply Kd.S_alloc | apply Kd.S_drewN | apply Kd.S_drew)); exact Kd.S_mono (Kd.S_far (p := ⟨gb269, 0, none⟩) (Kd.S_types HO290.out BK269.out (by decide)) (fun _ hk => hk.2) (.slice Ao107 y288.length co107)) (fun _ hk => ⟨hk.1.1, hk.1.2⟩)) hg hat); have n5_ := Aside0.mk (hb); have n6_ := Aside0.mk (ho); clear HO_12; clear BK255; clear BK256; clear BK269; clear HO290; clear HB; clear HO_270001; have HO_12 := n0_; have BK255 := n1_; have BK256 := n2_; have BK269 := n3_; have HO290 := n4_; have HB := n5_; have HO293 := n6_; clear n0_ n1_ n2_ n3_ n4_ n5_ n6_; clear ho hb hg hat; obtain ⟨Ao110, co110, eo110⟩ := Kd.R_slice HO293.out; subst eo110; have hcz111_0 : w109.cell? ⟨gb269, 0, none⟩ = some (.slice Ao107 y288.length co107) := (blk_cell BK269.out 0).trans rfl; have hcz111_1 : w109.cell? ⟨gb269, 1, none⟩ = some (.slice Ao63 t266.length co63) := (blk_cell BK269.out 1).trans rfl; have hfz111_0 := blk_frozen BK269.out 0; have hfz111_1 := blk_frozen BK269.out 1; have hcz112_0 : w109.cell? ⟨gb256, 0, none⟩ = some (.slice none 0 0) := (blk_cell BK256.out 0).trans rfl; have hcz112_1 : w109.cell? ⟨gb256, 1, none⟩ = some (.slice none 0 0) := (blk_cell BK256.out 1).trans rfl; have hfz112_0 := blk_frozen BK256.out 0; have hfz112_1 := blk_frozen BK256.out 1))
                  refine bodyPost_ret (results_ct rfl _ _ gb256 25 #[.slice Ao107 y288.length co107, .slice Ao110 y291.length co110] (0, 0) _ rfl (by (with_reducible repeat (first | refine Op.b1 ?_ _ | refine Op.b2 ?_ | refine Op.b3 ?_ _)); refine blk_put (cs := #[.slice Ao107 y288.length co107, .slice none 0 0]) ?_ 1 _ rfl; (with_reducible repeat (first | refine Op.b1 ?_ _ | refine Op.b2 ?_ | refine Op.b3 ?_ _)); refine blk_put (cs := #[.slice none 0 0, .slice none 0 0]) ?_ 0 _ rfl; (with_reducible repeat (first | refine Op.b1 ?_ _ | refine Op.b2 ?_ | refine Op.b3 ?_ _)); refine blk_far ?_ NB256_269.out _; (with_reducible repeat (first | refine Op.b1 ?_ _ | refine Op.b2 ?_ | refine Op.b3 ?_ _)); exact BK256.out) Try.underlying25 rfl (by kernel_rfl)) rfl ?_
                  exact ⟨_, _, by first | rfl | (simp [errW_none, errW_some] <;> rfl) | (simp only [← hji80, ← hji87]; first | rfl | (simp [errW_none, errW_some] <;> rfl)) | (simp [*, errW_none, errW_some] <;> rfl), by (with_reducible repeat (first | apply Kd.S_alloc | apply Kd.S_drewN | apply Kd.S_drew)); exact Kd.S_mono (Kd.S_far (p := ⟨gb256, 1, none⟩) (Kd.S_far (p := ⟨gb256, 0, none⟩) (Kd.S_far (p := ⟨gb269, 1, none⟩) (Kd.S_types (Kd.S_types HO290.out BK269.out (by decide)) BK256.out (by decide)) (fun _ hk => hk.1.2) (.slice Ao110 y291.length co110)) (fun _ hk => hk.2) (.slice Ao107 y288.length co107)) (fun _ hk => hk.2) (.slice Ao110 y291.length co110)) (fun _ hk => hk.1.1.2), by (with_reducible repeat (first | apply Kd.R_alloc | apply Kd.R_drewN | apply Kd.R_drew)); exact Kd.R_mono (Kd.R_far (p := ⟨gb256, 1, none⟩) (Kd.R_far (p := ⟨gb256, 0, none⟩) (Kd.R_far (p := ⟨gb269, 1, none⟩) (Kd.R_types (Kd.R_types HO293.out BK269.out (by decide)) BK256.out (by decide)) (fun _ hk => hk.1.2) (.slice Ao110 y291.length co110)) (fun _ hk => hk.2) (.slice Ao107 y288.length co107)) (fun _ hk => hk.2) (.slice Ao110 y291.length co110)) (fun _ hk => trivial), by repeat (first | (with_reducible first | exact HB.out | apply Op.a1 | apply Op.a2 | apply Op.a3 | refine Op.a4 ?_ GE255.out | refine Op.a4 ?_ GE256.out | refine Op.a4 ?_ GE269.out) | exact HB.out)⟩
                 ·rw [if_neg c93] at H
                  exact absurd H (by simp)
                ·rw [if_neg c92] at H
                 exact absurd H (by simp)
               ·rw [if_neg c89] at H
                exact absurd H (by simp)
              ·rw [if_neg c88] at H
               exact absurd H (by simp)
             ·rw [if_neg c85] at H
              exact absurd H (by simp)
            ·rw [if_neg c84] at H
             exact absurd H (by simp)
           ·rw [if_neg c83] at H
            have c83b0 : decide (0 ≤ (rd x11_53 (ji80))) = false := decide_eq_false c83
            clear c83
            obtain ⟨ji113, hji113⟩ : ∃ j_ : Int, (Int.tmod a2 4) = j_ := ⟨_, rfl⟩
            replace H : (if 0 ≤ (ji113) then (if (ji113) < (y273.length : Int) then (if t263.length + 1 < 4398046511104 then ((some (t263 ++ [(⟨(y273.set ((ji113) : Int).toNat a3), true⟩ : S65), (⟨(x11_53.set ((ji80) : Int).toNat (t263.length : Int)), false⟩ : S65)] : List (S65))).bind fun y296 => (if t266.length < 17592186044416 then (some (y296, (t266 ++ [wrap64 ((y296.length : Int) - 1)]), true)) else (none))) else (none)) else (none)) else (none)) = some (r1, r2, r3) := by first | (rw [hji113] at H; exact H) | (simp only [hji113] at H ⊢; exact H)
            by_cases c114 : 0 ≤ (ji113)
            ·rw [if_pos c114] at H
             have c114b0 : decide (0 ≤ (ji113)) = true := decide_eq_true c114
             clear c114
             by_cases c115 : (ji113) < (y273.length : Int)
             ·rw [if_pos c115] at H
              have c115b0 : decide ((ji113) < (y273.length : Int)) = true := decide_eq_true c115
              clear c115
              obtain ⟨y294, hy294⟩ : ∃ y_ : List Int, y_ = (y273.set ((ji113) : Int).toNat a3) := ⟨_, rfl⟩
              replace H : (if t263.length + 1 < 4398046511104 then ((some (t263 ++ [(⟨y294, true⟩ : S65), (⟨(x11_53.set ((ji80) : Int).toNat (t263.length : Int)), false⟩ : S65)] : List (S65))).bind fun y296 => (if t266.length < 17592186044416 then (some (y296, (t266 ++ [wrap64 ((y296.length : Int) - 1)]), true)) else (none))) else (none)) = some (r1, r2, r3) := by first | (rw [hy294]; with_reducible exact H) | (have H2_ := (Option.bind_some _ _).symm.trans H; rw [hy294]; with_reducible exact H2_) | (have H2_ := (Option.bind_some _ _).symm.trans H; with_reducible exact H2_) | with_reducible exact H | (rw [hy294]; exact H) | exact H
              have Ny294 := Aside0.mk hy294
              clear hy294
              obtain ⟨y295, hy295⟩ : ∃ y_ : List Int, y_ = (x11_53.set ((ji80) : Int).toNat (t263.length : Int)) := ⟨_, rfl⟩
              replace H : (if t263.length + 1 < 4398046511104 then ((some (t263 ++ [(⟨y294, true⟩ : S65), (⟨y295, false⟩ : S65)] : List (S65))).bind fun y296 => (if t266.length < 17592186044416 then (some (y296, (t266 ++ [wrap64 ((y296.length : Int) - 1)]), true)) else (none))) else (none)) = some (r1, r2, r3) := by first | (rw [hy295]; with_reducible exact H) | (have H2_ := (Option.bind_some _ _).symm.trans H; rw [hy295]; with_reducible exact H2_) | (have H2_ := (Option.bind_some _ _).symm.trans H; with_reducible exact H2_) | with_reducible exact H | (rw [hy295]; exact H) | exact H
              have Ny295 := Aside0.mk hy295
              clear hy295
              by_cases c118 : t263.length + 1 < 4398046511104
              ·rw [if_pos c118] at H
               have LMc118 := Aside0.mk c118
               clear c118
               obtain ⟨y296, hy296⟩ : ∃ y_ : List (S65), y_ = (t263 ++ [(⟨y294, true⟩ : S65), (⟨y295, false⟩ : S65)]) := ⟨_, rfl⟩
               replace H : (if t266.length < 17592186044416 then (some (y296, (t266 ++ [wrap64 ((y296.length : Int) - 1)]), true)) else (none)) = some (r1, r2, r3) := by first | (rw [hy296]; with_reducible exact H) | (have H2_ := (Option.bind_some _ _).symm.trans H; rw [hy296]; with_reducible exact H2_) | (have H2_ := (Option.bind_some _ _).symm.trans H; with_reducible exact H2_) | with_reducible exact H | (rw [hy296]; exact H) | exact H
               have Ny296 := Aside0.mk hy296
               clear hy296
               by_cases c119 : t266.length < 17592186044416
               ·rw [if_pos c119] at H
                have LMc119 := Aside0.mk c119
                clear c119
                obtain ⟨y299, hy299⟩ : ∃ y_ : List Int, y_ = (t266 ++ [wrap64 ((y296.length : Int) - 1)]) := ⟨_, rfl⟩
                replace H : (some (y296, y299, true)) = some (r1, r2, r3) := by first | (rw [hy299]; with_reducible exact H) | (have H2_ := (Option.bind_some _ _).symm.trans H; rw [hy299]; with_reducible exact H2_) | (have H2_ := (Option.bind_some _ _).symm.trans H; with_reducible exact H2_) | with_reducible exact H | (rw [hy299]; exact H) | exact H
                have Ny299 := Aside0.mk hy299
                clear hy299
                simp only [Option.some.injEq, Prod.mk.injEq] at H
                obtain ⟨rfl, rfl, rfl⟩ := H
                obtain ⟨Ao120, co120, eo120⟩ := Kd.R_slice HO_11.out
                subst eo120
                have p281 : 0 ≤ ((ji80) : Int) := of_decide_eq_true (by first | (with_reducible assumption) | assumption)
                have q281 : (ji80) < (x11_53.length : Int) := of_decide_eq_true (by first | (with_reducible assumption) | assumption)
                obtain ⟨ad281, e281, hx281_0⟩ := Kd.at_int (Kd.R_reads' HO_11.out).2.2 (ji80) p281 q281
                cases e281
                replace p281 := eq_true p281
                replace q281 := eq_true q281
                have p116 : 0 ≤ ((ji113) : Int) := of_decide_eq_true (by first | (with_reducible assumption) | assumption)
                have q116 : ((ji113) : Int) < ((y273.length : Int) : Int) := of_decide_eq_true (by first | (with_reducible assumption) | assumption)
                obtain ⟨go116, co116, eo116, gb116, gl116, cl116, HG116⟩ := Kd.R_form HO_12.out (by omega)
                (first | cases eo116 | (injection eo116 with ea_ en_ ec_; (first | subst ea_ | (injection ea_ with ea_; subst ea_)); subst ec_; clear en_))
                have GB116 := Aside0.mk gb116
                have GG116 := Aside0.mk HG116
                clear gb116 gl116 HG116
                obtain ⟨hx116_0, hf116_0⟩ := Kd.R_celln 0 HO_12.out ((ji113) : Int) p116 q116
                replace p116 := eq_true p116
                replace q116 := eq_true q116
                have HP121 := Kd.R_putg HO_12.out ((ji113) : Int) a3
                go_wp2_with (first | ((with_reducible refine gate_store (t := 3) (p := 80) rfl ?_); refine store_event (t := 3) (p := 80) (v := ?vo_w122) (w1 := (wc.setCell ⟨go116, ((ji113) : Int).toNat, none⟩ (.int .i64 a3))) ?hg ?ho ?hn ?hr ?_; (case ho => rfl); (case hg => rfl); (case hn => rfl); (case hr => first | (go_simp; done) | (go_simp; rfl)); intro w122 hw; have hg : wc.grownBy w122 (some go116) := (by rw [hw]; exact HP121.2); have hp_ : Kd.R (Kd.int .i64) 3 w122 w.heap.size (fun k_ => some k_ ≠ (.slice (some ad281) x11_53.length co120 : Value).ownBlock ∧ some k_ ≠ (.slice Ao63 t266.length co63 : Value).ownBlock) (.slice (some ⟨go116, 0, none⟩) y273.length co116) y294 := (by rw [hw, Ny294.out]; exact HP121.1); clear HP121; have n0_ := Aside0.mk (Kd.R_after (v := (.slice (some ⟨go116, 0, none⟩) y273.length co116)) (v1 := (.slice (some ⟨go116, 0, none⟩) y273.length co116)) (ok := (fun k_ => some k_ ≠ (.slice Ao63 t266.length co63 : Value).ownBlock)) (by (with_reducible repeat (first | apply Kd.R_alloc | apply Kd.R_drewN | apply Kd.R_drew)); exact Kd.R_mono HO_11.out (fun _ hk => ⟨hk.2, hk.1⟩)) hg (.inl rfl)); have n1_ := Aside0.mk (hp_); have n2_ := Aside0.mk (Kd.S_after (v := (.slice (some ⟨go116, 0, none⟩) y273.length co116)) (v1 := (.slice (some ⟨go116, 0, none⟩) y273.length co116)) (ok := (fun k_ => some k_ ≠ (.slice (some ad281) x11_53.length co120 : Value).ownBlock ∧ some k_ ≠ (.slice Ao63 t266.length co63 : Value).ownBlock)) (by (with_reducible repeat (first | apply Kd.S_alloc | apply Kd.S_drewN | apply Kd.S_drew)); exact Kd.S_mono HO_270000.out (fun _ hk => ⟨⟨hk.1, hk.2.2⟩, hk.2.1⟩)) hg (.inl rfl)); have n3_ := Aside0.mk (Kd.R_after (v := (.slice (some ⟨go116, 0, none⟩) y273.length co116)) (v1 := (.slice (some ⟨go116, 0, none⟩) y273.length co116)) (ok := (fun k_ => some k_ ≠ (.slice (some ad281) x11_53.length co120 : Value).ownBlock)) (by (with_reducible repeat (first | apply Kd.R_alloc | apply Kd.R_drewN | apply Kd.R_drew)); exact HO_270001.out) hg (.inl rfl)); have n4_ := Aside0.mk (blk_grown (g := gb255) (o := .cells #[.slice A0_0 l0_0.length c0_0, .slice (some ad276) l0_1.length c0_1] 25 (0, 0)) (by (with_reducible repeat (first | refine Op.b1 ?_ _ | refine Op.b2 ?_ | refine Op.b3 ?_ _)); exact BK255.out) hg (Kd.R_ne HO_12.out BK255.out (by decide))); have n5_ := Aside0.mk (blk_grown (g := gb256) (o := .cells #[.slice none 0 0, .slice none 0 0] 25 (0, 0)) (by (with_reducible repeat (first | refine Op.b1 ?_ _ | refine Op.b2 ?_ | refine Op.b3 ?_ _)); exact BK256.out) hg (Kd.R_ne HO_12.out BK256.out (by decide))); have n6_ := Aside0.mk (blk_grown (g := gb269) (o := .cells #[.slice Ao59 t263.length co59, .slice Ao63 t266.length co63] 25 (0, 0)) (by (with_reducible repeat (first | refine Op.b1 ?_ _ | refine Op.b2 ?_ | refine Op.b3 ?_ _)); exact BK269.out) hg (Kd.R_ne HO_12.out BK269.out (by decide))); have n7_ := Aside0.mk ((by rw [hw]; exact below_set (HB.out) GB116.out : Below w.heap.size w w122)); clear HO_11; clear HO_12; clear HO_270000; clear HO_270001; clear BK255; clear BK256; clear BK269; clear HB; have HO_11 := n0_; have HO_12 := n1_; have HO_270000 := n2_; have HO_270001 := n3_; have BK255 := n4_; have BK256 := n5_; have BK269 := n6_; have HB := n7_; clear n0_ n1_ n2_ n3_ n4_ n5_ n6_ n7_; clear hg hw hp_; have hnb123 := NB269_255.out; have hnc123 := NB255_269.out; have hnb124 := NB269_256.out; have hnc124 := NB256_269.out; have hcz125_0 : w122.cell? ⟨gb269, 0, none⟩ = some (.slice Ao59 t263.length co59) := (blk_cell BK269.out 0).trans rfl; have hcz125_1 : w122.cell? ⟨gb269, 1, none⟩ = some (.slice Ao63 t266.length co63) := (blk_cell BK269.out 1).trans rfl; have hfz125_0 := blk_frozen BK269.out 0; have hfz125_1 := blk_frozen BK269.out 1; have p117 : 0 ≤ ((ji80) : Int) := of_decide_eq_true (by first | (with_reducible assumption) | assumption); have q117 : ((ji80) : Int) < ((x11_53.length : Int) : Int) := of_decide_eq_true (by first | (with_reducible assumption) | assumption); obtain ⟨go117, co117, eo117, gb117, gl117, cl117, HG117⟩ := Kd.R_form HO_11.out (by omega); (first | cases eo117 | (injection eo117 with ea_ en_ ec_; (first | subst ea_ | (injection ea_ with ea_; subst ea_)); subst ec_; clear en_)); have GB117 := Aside0.mk gb117; have GG117 := Aside0.mk HG117; clear gb117 gl117 HG117; (first | simp only [add_plain] at hx281_0 | skip); obtain ⟨hx117_0, hf117_0⟩ := Kd.R_celln 0 HO_11.out ((ji80) : Int) p117 q117; replace p117 := eq_true p117; replace q117 := eq_true q117; obtain ⟨hy126_, hz126_⟩ := Kd.R_celln 0 HO_11.out ((ji80) : Int) (of_decide_eq_true (by first | (with_reducible assumption) | assumption)) (of_decide_eq_true (by first | (with_reducible assumption) | assumption)); have HP126 := Kd.R_putg HO_11.out ((ji80) : Int) (t263.length : Int)) | ((with_reducible refine gate_store (t := 3) (p := 87) rfl ?_); refine store_event (t := 3) (p := 87) (v := ?vo_w127) (w1 := (w122.setCell ⟨go117, ((ji80) : Int).toNat, none⟩ (.int .i64 (t263.length : Int)))) ?hg ?ho ?hn ?hr ?_; (case ho => rfl); (case hg => rfl); (case hn => rfl); (case hr => first | (go_simp; done) | (go_simp; rfl)); intro w127 hw; have hg : w122.grownBy w127 (some go117) := (by rw [hw]; exact HP126.2); have hp_ : Kd.R (Kd.int .i64) 3 w127 w.heap.size (fun k_ => some k_ ≠ (.slice Ao63 t266.length co63 : Value).ownBlock ∧ some k_ ≠ (.slice (some ⟨go116, 0, none⟩) y273.length co116 : Value).ownBlock) (.slice (some ⟨go117, 0, none⟩) x11_53.length co120) y295 := (by rw [hw, Ny295.out]; exact HP126.1); clear HP126; have n0_ := Aside0.mk (hp_); have n1_ := Aside0.mk (Kd.R_after (v := (.slice (some ⟨go117, 0, none⟩) x11_53.length co120)) (v1 := (.slice (some ⟨go117, 0, none⟩) x11_53.length co120)) (ok := (fun k_ => some k_ ≠ (.slice Ao63 t266.length co63 : Value).ownBlock)) (by (with_reducible repeat (first | apply Kd.R_alloc | apply Kd.R_drewN | apply Kd.R_drew)); exact Kd.R_mono HO_12.out (fun _ hk => ⟨hk.2, hk.1⟩)) hg (.inl rfl)); have n2_ := Aside0.mk (Kd.S_after (v := (.slice (some ⟨go117, 0, none⟩) x11_53.length co120)) (v1 := (.slice (some ⟨go117, 0, none⟩) x11_53.length co120)) (ok := (fun k_ => some k_ ≠ (.slice (some ⟨go116, 0, none⟩) y273.length co116 : Value).ownBlock ∧ some k_ ≠ (.slice Ao63 t266.length co63 : Value).ownBlock)) (by (with_reducible repeat (first | apply Kd.S_alloc | apply Kd.S_drewN | apply Kd.S_drew)); exact Kd.S_mono HO_270000.out (fun _ hk => ⟨⟨hk.2, hk.1.2⟩, hk.1.1⟩)) hg (.inl rfl)); have n3_ := Aside0.mk (Kd.R_after (v := (.slice (some ⟨go117, 0, none⟩) x11_53.length co120)) (v1 := (.slice (some ⟨go117, 0, none⟩) x11_53.length co120)) (ok := (fun k_ => some k_ ≠ (.slice (some ⟨go116, 0, none⟩) y273.length co116 : Value).ownBlock)) (by (with_reducible repeat (first | apply Kd.R_alloc | apply Kd.R_drewN | apply Kd.R_drew)); exact Kd.R_mono HO_270001.out (fun _ hk => ⟨hk.2, hk.1⟩)) hg (.inl rfl)); have n4_ := Aside0.mk (blk_grown (g := gb255) (o := .cells #[.slice A0_0 l0_0.length c0_0, .slice (some ad276) l0_1.length c0_1] 25 (0, 0)) (by (with_reducible repeat (first | refine Op.b1 ?_ _ | refine Op.b2 ?_ | refine Op.b3 ?_ _)); exact BK255.out) hg (Kd.R_ne HO_11.out BK255.out (by decide))); have n5_ := Aside0.mk (blk_grown (g := gb256) (o := .cells #[.slice none 0 0, .slice none 0 0] 25 (0, 0)) (by (with_reducible repeat (first | refine Op.b1 ?_ _ | refine Op.b2 ?_ | refine Op.b3 ?_ _)); exact BK256.out) hg (Kd.R_ne HO_11.out BK256.out (by decide))); have n6_ := Aside0.mk (blk_grown (g := gb269) (o := .cells #[.slice Ao59 t263.length co59, .slice Ao63 t266.length co63] 25 (0, 0)) (by (with_reducible repeat (first | refine Op.b1 ?_ _ | refine Op.b2 ?_ | refine Op.b3 ?_ _)); exact BK269.out) hg (Kd.R_ne HO_11.out BK269.out (by decide))); have n7_ := Aside0.mk ((by rw [hw]; exact below_set (HB.out) GB117.out : Below w.heap.size w w127)); clear HO_11; clear HO_12; clear HO_270000; clear HO_270001; clear BK255; clear BK256; clear BK269; clear HB; have HO_11 := n0_; have HO_12 := n1_; have HO_270000 := n2_; have HO_270001 := n3_; have BK255 := n4_; have BK256 := n5_; have BK269 := n6_; have HB := n7_; clear n0_ n1_ n2_ n3_ n4_ n5_ n6_ n7_; clear hg hw hp_; have hcz128_0 : w127.cell? ⟨gb269, 0, none⟩ = some (.slice Ao59 t263.length co59) := (blk_cell BK269.out 0).trans rfl; have hcz128_1 : w127.cell? ⟨gb269, 1, none⟩ = some (.slice Ao63 t266.length co63) := (blk_cell BK269.out 1).trans rfl; have hfz128_0 := blk_frozen BK269.out 0; have hfz128_1 := blk_frozen BK269.out 1) | ((with_reducible refine gate_builtin (b := .append) (xs := #[.tmp 89, .tmp 94]) rfl ?_); (try (refine gate_guard (by rfl) ?_; dsimp only)); at_builtin; refine Op.S_append2 k65 (w0 := w) w.heap.size rfl (.tmp 89) (.tmp 94) 22 65 (.agg #[(.slice none 0 0), (.bool false)]) 32 rfl Try.underlying22 info65 rfl (by decide) (by omega) (.slice Ao59 t263.length co59) t263 (⟨y294, true⟩ : S65) (⟨y295, false⟩ : S65) [.slice (some ⟨go116, 0, none⟩) y273.length co116, .bool true, .slice (some ⟨go117, 0, none⟩) x11_53.length co120, .bool false] [.slice (some ⟨go116, 0, none⟩) y273.length co116, .bool true] [.slice (some ⟨go117, 0, none⟩) x11_53.length co120, .bool false] (fun k_ => some k_ ≠ (.slice Ao63 t266.length co63 : Value).ownBlock) (fun k_ => some k_ = (.slice (some ⟨go116, 0, none⟩) y273.length co116 : Value).ownBlock) (fun k_ => some k_ = (.slice (some ⟨go117, 0, none⟩) x11_53.length co120 : Value).ownBlock) rfl rfl rfl ?aP ?aQ (fun k_ e_ => (HO_12.out.1 k_ e_.symm).2) (fun k_ hk_ => ((Kd.R_mono (ok' := fun k_ => ((fun k_ => some k_ ≠ (.slice Ao63 t266.length co63 : Value).ownBlock)) k_ ∧ some k_ ≠ (.slice Ao59 t263.length co59 : Value).ownBlock) (Kd.R_apart' (HO_12.out) (Kd.S_typed HO_270000.out) (by decide)) (fun k_ hk => ⟨hk.1.1, hk.2⟩))).1 k_ hk_.symm) (fun k_ hk_ => ((Kd.R_mono (ok' := fun k_ => ((fun k_ => some k_ ≠ (.slice Ao63 t266.length co63 : Value).ownBlock)) k_ ∧ some k_ ≠ (.slice Ao59 t263.length co59 : Value).ownBlock) (Kd.R_apart' (HO_11.out) (Kd.S_typed HO_270000.out) (by decide)) (fun k_ hk => ⟨hk.1.1, hk.2⟩))).1 k_ hk_.symm) ?aF ?aO ?aB ?aS ?aL ?_; (case aP => exact k65_mkM _ _ _ (⟨y294, true⟩ : S65) (Kd.R_tight rfl (Kd.R_mono (ok' := fun k_ => ((fun k_ => some k_ ≠ (.slice Ao63 t266.length co63 : Value).ownBlock)) k_ ∧ some k_ ≠ (.slice Ao59 t263.length co59 : Value).ownBlock) (Kd.R_apart' (HO_12.out) (Kd.S_typed HO_270000.out) (by decide)) (fun k_ hk => ⟨hk.1.1, hk.2⟩)))); (case aQ => exact k65_mkM _ _ _ (⟨y295, false⟩ : S65) (Kd.R_tight rfl (Kd.R_mono (ok' := fun k_ => ((fun k_ => some k_ ≠ (.slice Ao63 t266.length co63 : Value).ownBlock)) k_ ∧ some k_ ≠ (.slice Ao59 t263.length co59 : Value).ownBlock) (Kd.R_apart' (HO_11.out) (Kd.S_typed HO_270000.out) (by decide)) (fun k_ hk => ⟨hk.1.1, hk.2⟩)))); (case aB => exact (by repeat (first | (with_reducible first | exact HB.out | apply Op.a1 | apply Op.a2 | apply Op.a3 | refine Op.a4 ?_ GE255.out | refine Op.a4 ?_ GE256.out | refine Op.a4 ?_ GE269.out) | exact HB.out))); (case aF => exact (fun k_ hk => Kd.fresh' (Kd.R_lt (by (with_reducible repeat (first | apply Kd.R_alloc | apply Kd.R_drewN | apply Kd.R_drew)); exact HO_270001.out)) k_ hk)); (case aO => exact (by (with_reducible repeat (first | apply Kd.S_alloc | apply Kd.S_drewN | apply Kd.S_drew)); exact Kd.S_mono HO_270000.out (fun k_ hk => ⟨hk.1.2, fun e_ => e_.elim (fun h_ => hk.1.1 h_) (fun h_ => hk.2 h_)⟩))); (case aS => exact (Op.a6 (by repeat (first | (with_reducible first | exact HB.out | apply Op.a1 | apply Op.a2 | apply Op.a3 | refine Op.a4 ?_ GE255.out | refine Op.a4 ?_ GE256.out | refine Op.a4 ?_ GE269.out) | exact HB.out)))); (case aL => have := LMc118.out; omega); intro v297 w129 ho hb hg hat; rw [← Ny296.out] at ho; have n0_ := Aside0.mk (Kd.R_over' (by (with_reducible repeat (first | apply Kd.R_alloc | apply Kd.R_drewN | apply Kd.R_drew)); exact HO_270001.out) (Kd.S_typed (by (with_reducible repeat (first | apply Kd.S_alloc | apply Kd.S_drewN | apply Kd.S_drew)); exact HO_270000.out)) (by decide) hg); have n1_ := Aside0.mk (blk_grown (g := gb255) (o := .cells #[.slice A0_0 l0_0.length c0_0, .slice (some ad276) l0_1.length c0_1] 25 (0, 0)) (by (with_reducible repeat (first | refine Op.b1 ?_ _ | refine Op.b2 ?_ | refine Op.b3 ?_ _)); exact BK255.out) hg (Kd.S_ne HO_270000.out BK255.out (by decide))); have n2_ := Aside0.mk (blk_grown (g := gb256) (o := .cells #[.slice none 0 0, .slice none 0 0] 25 (0, 0)) (by (with_reducible repeat (first | refine Op.b1 ?_ _ | refine Op.b2 ?_ | refine Op.b3 ?_ _)); exact BK256.out) hg (Kd.S_ne HO_270000.out BK256.out (by decide))); have n3_ := Aside0.mk (blk_grown (g := gb269) (o := .cells #[.slice Ao59 t263.length co59, .slice Ao63 t266.length co63] 25 (0, 0)) (by (with_reducible repeat (first | refine Op.b1 ?_ _ | refine Op.b2 ?_ | refine Op.b3 ?_ _)); exact BK269.out) hg (Kd.S_ne HO_270000.out BK269.out (by decide))); have n4_ := Aside0.mk (hb); have n5_ := Aside0.mk (ho); clear HO_270001; clear BK255; clear BK256; clear BK269; clear HB; clear HO_270000; clear HO_11; clear HO_12; have HO_270001 := n0_; have BK255 := n1_; have BK256 := n2_; have BK269 := n3_; have HB := n4_; have HO298 := n5_; clear n0_ n1_ n2_ n3_ n4_ n5_; clear ho hb hg hat; obtain ⟨Ao130, co130, eo130⟩ := Kd.S_slice HO298.out; subst eo130; have hcz131_0 : w129.cell? ⟨gb269, 0, none⟩ = some (.slice Ao59 t263.length co59) := (blk_cell BK269.out 0).trans rfl; have hcz131_1 : w129.cell? ⟨gb269, 1, none⟩ = some (.slice Ao63 t266.length co63) := (blk_cell BK269.out 1).trans rfl; have hfz131_0 := blk_frozen BK269.out 0; have hfz131_1 := blk_frozen BK269.out 1) | ((with_reducible refine gate_builtin (b := .append) (xs := #[.tmp 98, .tmp 103]) rfl ?_); (try (refine gate_guard (by rfl) ?_; dsimp only)); at_builtin; refine Kd.R_append (Kd.int .i64) (w0 := w) w.heap.size rfl (.tmp 98) (.tmp 103) 23 3 (.int .i64 0) 8 rfl Try.underlying23 info3 rfl (by decide) (by omega) (.slice Ao63 t266.length co63) t266 (wrap64 ((y296.length : Int) - 1)) [.int .i64 (wrap64 ((y296.length : Int) - 1))] (fun _ => True) (fun _ => False) rfl (by first | (go_simp; done) | (go_simp; rfl)) ?aP (fun _ hk => hk.elim) ?aF ?aO ?aB ?aS ?aL ?_; (case aP => exact rfl); (case aB => exact (by repeat (first | (with_reducible first | exact HB.out | apply Op.a1 | apply Op.a2 | apply Op.a3 | refine Op.a4 ?_ GE255.out | refine Op.a4 ?_ GE256.out | refine Op.a4 ?_ GE269.out) | exact HB.out))); (case aF => exact (fun _ _ => trivial)); (case aO => exact (by (with_reducible repeat (first | apply Kd.R_alloc | apply Kd.R_drewN | apply Kd.R_drew)); exact Kd.R_mono (Kd.R_far (p := ⟨gb269, 0, none⟩) (Kd.R_types HO_270001.out BK269.out (by decide)) (fun _ hk => hk.2) (.slice Ao130 y296.length co130)) (fun _ hk => trivial))); (case aS => exact (Op.a6 (by repeat (first | (with_reducible first | exact HB.out | apply Op.a1 | apply Op.a2 | apply Op.a3 | refine Op.a4 ?_ GE255.out | refine Op.a4 ?_ GE256.out | refine Op.a4 ?_ GE269.out) | exact HB.out)))); (case aL => have := LMc119.out; omega); intro v300 w132 ho hb hg hat; rw [← Ny299.out] at ho; have n0_ := Aside0.mk (blk_grown (g := gb255) (o := .cells #[.slice A0_0 l0_0.length c0_0, .slice (some ad276) l0_1.length c0_1] 25 (0, 0)) (by (with_reducible repeat (first | refine Op.b1 ?_ _ | refine Op.b2 ?_ | refine Op.b3 ?_ _)); refine blk_far ?_ NB255_269.out _; (with_reducible repeat (first | refine Op.b1 ?_ _ | refine Op.b2 ?_ | refine Op.b3 ?_ _)); exact BK255.out) hg (Kd.R_ne HO_270001.out BK255.out (by decide))); have n1_ := Aside0.mk (blk_grown (g := gb256) (o := .cells #[.slice none 0 0, .slice none 0 0] 25 (0, 0)) (by (with_reducible repeat (first | refine Op.b1 ?_ _ | refine Op.b2 ?_ | refine Op.b3 ?_ _)); refine blk_far ?_ NB256_269.out _; (with_reducible repeat (first | refine Op.b1 ?_ _ | refine Op.b2 ?_ | refine Op.b3 ?_ _)); exact BK256.out) hg (Kd.R_ne HO_270001.out BK256.out (by decide))); have n2_ := Aside0.mk (blk_grown (g := gb269) (o := .cells #[.slice Ao130 y296.length co130, .slice Ao63 t266.length co63] 25 (0, 0)) (by (with_reducible repeat (first | refine Op.b1 ?_ _ | refine Op.b2 ?_ | refine Op.b3 ?_ _)); refine blk_put (cs := #[.slice Ao59 t263.length co59, .slice Ao63 t266.length co63]) ?_ 0 _ rfl; (with_reducible repeat (first | refine Op.b1 ?_ _ | refine Op.b2 ?_ | refine Op.b3 ?_ _)); exact BK269.out) hg (Kd.R_ne HO_270001.out BK269.out (by decide))); have n3_ := Aside0.mk (Kd.S_after (ok := (fun _ => True)) (by (with_reducible repeat (first | apply Kd.S_alloc | apply Kd.S_drewN | apply Kd.S_drew)); exact Kd.S_mono (Kd.S_far (p := ⟨gb269, 0, none⟩) (Kd.S_types HO298.out BK269.out (by decide)) (fun _ hk => hk.2) (.slice Ao130 y296.length co130)) (fun _ hk => ⟨trivial, hk.1⟩)) hg hat); have n4_ := Aside0.mk (hb); have n5_ := Aside0.mk (ho); clear BK255; clear BK256; clear BK269; clear HO298; clear HB; clear HO_270001; have BK255 := n0_; have BK256 := n1_; have BK269 := n2_; have HO298 := n3_; have HB := n4_; have HO301 := n5_; clear n0_ n1_ n2_ n3_ n4_ n5_; clear ho hb hg hat; obtain ⟨Ao133, co133, eo133⟩ := Kd.R_slice HO301.out; subst eo133; have hcz134_0 : w132.cell? ⟨gb269, 0, none⟩ = some (.slice Ao130 y296.length co130) := (blk_cell BK269.out 0).trans rfl; have hcz134_1 : w132.cell? ⟨gb269, 1, none⟩ = some (.slice Ao63 t266.length co63) := (blk_cell BK269.out 1).trans rfl; have hfz134_0 := blk_frozen BK269.out 0; have hfz134_1 := blk_frozen BK269.out 1; have hnb135 := NB256_255.out; have hnc135 := NB255_256.out; have hcz136_0 : w132.cell? ⟨gb256, 0, none⟩ = some (.slice none 0 0) := (blk_cell BK256.out 0).trans rfl; have hcz136_1 : w132.cell? ⟨gb256, 1, none⟩ = some (.slice none 0 0) := (blk_cell BK256.out 1).trans rfl; have hfz136_0 := blk_frozen BK256.out 0; have hfz136_1 := blk_frozen BK256.out 1))
                refine bodyPost_ret (results_ct rfl _ _ gb256 25 #[.slice Ao130 y296.length co130, .slice Ao133 y299.length co133] (0, 0) _ rfl (by (with_reducible repeat (first | refine Op.b1 ?_ _ | refine Op.b2 ?_ | refine Op.b3 ?_ _)); refine blk_put (cs := #[.slice Ao130 y296.length co130, .slice none 0 0]) ?_ 1 _ rfl; (with_reducible repeat (first | refine Op.b1 ?_ _ | refine Op.b2 ?_ | refine Op.b3 ?_ _)); refine blk_put (cs := #[.slice none 0 0, .slice none 0 0]) ?_ 0 _ rfl; (with_reducible repeat (first | refine Op.b1 ?_ _ | refine Op.b2 ?_ | refine Op.b3 ?_ _)); refine blk_far ?_ NB256_269.out _; (with_reducible repeat (first | refine Op.b1 ?_ _ | refine Op.b2 ?_ | refine Op.b3 ?_ _)); exact BK256.out) Try.underlying25 rfl (by kernel_rfl)) rfl ?_
                exact ⟨_, _, by first | rfl | (simp [errW_none, errW_some] <;> rfl) | (simp only [← hji80, ← hji113]; first | rfl | (simp [errW_none, errW_some] <;> rfl)) | (simp [*, errW_none, errW_some] <;> rfl), by (with_reducible repeat (first | apply Kd.S_alloc | apply Kd.S_drewN | apply Kd.S_drew)); exact Kd.S_mono (Kd.S_far (p := ⟨gb256, 1, none⟩) (Kd.S_far (p := ⟨gb256, 0, none⟩) (Kd.S_far (p := ⟨gb269, 1, none⟩) (Kd.S_types (Kd.S_types HO298.out BK269.out (by decide)) BK256.out (by decide)) (fun _ hk => hk.1.2) (.slice Ao133 y299.length co133)) (fun _ hk => hk.2) (.slice Ao130 y296.length co130)) (fun _ hk => hk.2) (.slice Ao133 y299.length co133)) (fun _ hk => hk.1.1.2), by (with_reducible repeat (first | apply Kd.R_alloc | apply Kd.R_drewN | apply Kd.R_drew)); exact Kd.R_mono (Kd.R_far (p := ⟨gb256, 1, none⟩) (Kd.R_far (p := ⟨gb256, 0, none⟩) (Kd.R_far (p := ⟨gb269, 1, none⟩) (Kd.R_types (Kd.R_types HO301.out BK269.out (by decide)) BK256.out (by decide)) (fun _ hk => hk.1.2) (.slice Ao133 y299.length co133)) (fun _ hk => hk.2) (.slice Ao130 y296.length co130)) (fun _ hk => hk.2) (.slice Ao133 y299.length co133)) (fun _ hk => trivial), by repeat (first | (with_reducible first | exact HB.out | apply Op.a1 | apply Op.a2 | apply Op.a3 | refine Op.a4 ?_ GE255.out | refine Op.a4 ?_ GE256.out | refine Op.a4 ?_ GE269.out) | exact HB.out)⟩
               ·rw [if_neg c119] at H
                exact absurd H (by simp)
              ·rw [if_neg c118] at H
               exact absurd H (by simp)
             ·rw [if_neg c115] at H
              exact absurd H (by simp)
            ·rw [if_neg c114] at H
             exact absurd H (by simp)
          ·rw [if_neg c82] at H
           exact absurd H (by simp)
         ·rw [if_neg c81] at H
          exact absurd H (by simp)
      ·rw [if_neg c53] at H
       exact absurd H (by simp)
     ·rw [if_neg c52] at H
      exact absurd H (by simp)
    ·rw [if_neg c51] at H
     exact absurd H (by simp)

end Go.Proofs.Ytnafnpoflheonaa.PFnExactPutIn
