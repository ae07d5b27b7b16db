/- Contracts of functions of the translation, written by a program of this repo (a changed copy of the printer). Not trusted: Lean checks it. -/
-- squeezed
import Derived.Test.YtnohankakmmnoaaPFnExactFindKeyx0
import Derived.Test.YtnohankakmmnoaaPFnExactFindKeyx1
import Derived.Test.YtnohankakmmnoaaPFnExactFindKeyx6
import Derived.Test.YtnohankakmmnoaaPFnExactFindKeyx7
namespace Go.Proofs.Ytnohankakmmnoaa.PFnExactFindKey
open Go.RowKit Go.Proofs.YtnohankakmmnoaaW.PrintWords Go.Proofs.YtnohankakmmnoaaW.PrintLast Go.Proofs.YtnohankakmmnoaaW.PrintMore
attribute [local go_sem] max2_int min2_int max_two min_two max_three min_three max_four min_four   -- for this text's walks alone
set_option linter.unusedVariables false
set_option linter.unusedSimpArgs false

attribute [local go_sem high] eqA60
/-! ### impl_GoodTable: function 19 -/
mutual
def impl_GoodTable.j0 : Nat → Bool → Int → List (S60) → List (S60) → Int → Option (Bool)
 | 0, _, _, _, _, _ => none
 | k + 1, x24, x231000, x231001, x231002, x231003 => if x24 = true then (some false) else (impl_GoodTable.l0 k 0 x231000 x231001 x231002 x231003)
def impl_GoodTable.l0 : Nat → Int → Int → List (S60) → List (S60) → Int → Option (Bool)
 | 0, _, _, _, _, _ => none
 | k + 1, x25, x231000, x231001, x231002, x231003 => if x25 < 11 then (if 0 ≤ x25 then (if x25 < (x231001.length : Int) then (if x25 < (x231002.length : Int) then ((some (([(⟨(rd_T60 x231001 x25).f0, (rd_T60 x231001 x25).f1, (rd_T60 x231001 x25).f2⟩ : S60), (⟨(rd_T60 x231002 x25).f0, (rd_T60 x231002 x25).f1, (rd_T60 x231002 x25).f2⟩ : S60)] : List (S60)) : List (S60))).bind fun y240 => (impl_GoodTable.l1 k x25 x25 y240 (y240.length : Int) 0 x231000 x231001 x231002 x231003)) else (none)) else (none)) else (none)) else ((impl_keysIn.f k x231000 x231001 x231002 x231003).bind fun t232 => (if x231003 = (t232.length : Int) then ((slices_Compact_int_int.f t232).bind fun t235 => (some ((t235.length : Int) == x231003))) else (some false)))
def impl_GoodTable.l1 : Nat → Int → Int → List (S60) → Int → Int → Int → List (S60) → List (S60) → Int → Option (Bool)
 | 0, _, _, _, _, _, _, _, _, _ => none
 | k + 1, x3, x25, x38, x39, x40, x231000, x231001, x231002, x231003 => if x40 < x39 then (if 0 ≤ x40 then (if x40 < (x38.length : Int) then (if ((rd_T60 x38 x40).f0 = true) then ((impl_isKey.f ((rd_T60 x38 x40).f1)).bind fun t245 => (if t245 = true then ((impl_within.f ((rd_T60 x38 x40).f2) 0 9999).bind fun t246 => (impl_GoodTable.j3 k x3 x40 x25 x38 x39 x40 (!t246) x231000 x231001 x231002 x231003 ((rd_T60 x38 x40).f0) ((rd_T60 x38 x40).f1) ((rd_T60 x38 x40).f2))) else (impl_GoodTable.j3 k x3 x40 x25 x38 x39 x40 true x231000 x231001 x231002 x231003 ((rd_T60 x38 x40).f0) ((rd_T60 x38 x40).f1) ((rd_T60 x38 x40).f2)))) else (if (((rd_T60 x38 x40).f0) || (!(((rd_T60 x38 x40).f1) == 0) || (!(((rd_T60 x38 x40).f2) == 0)))) = true then (some false) else (impl_GoodTable.l1 k x3 x25 x38 x39 (wrap64 (x40 + 1)) x231000 x231001 x231002 x231003))) else (none)) else (none)) else (impl_GoodTable.l0 k (wrap64 (x25 + 1)) x231000 x231001 x231002 x231003)
def impl_GoodTable.j3 : Nat → Int → Int → Int → List (S60) → Int → Int → Bool → Int → List (S60) → List (S60) → Int → Bool → Int → Int → Option (Bool)
 | 0, _, _, _, _, _, _, _, _, _, _, _, _, _, _ => none
 | k + 1, x3, x4, x25, x38, x39, x40, x60, x231000, x231001, x231002, x231003, x245000, x245001, x245002 => if x60 = true then (some false) else ((impl_placesOf.f x231000 x245001).bind fun bt247 => ((some (([bt247.1, bt247.2] : List Int) : List Int)).bind fun y249 => (if 0 ≤ x4 then (if x4 < (y249.length : Int) then (if x3 = (rd y249 x4) then (impl_GoodTable.l1 k x3 x25 x38 x39 (wrap64 (x40 + 1)) x231000 x231001 x231002 x231003) else (some false)) else (none)) else (none))))
end
def impl_GoodTable.f (k : Nat) (a0_0 : Int) (l0_1 : List (S60)) (l0_2 : List (S60)) (a0_3 : Int) : Option (Bool) := (impl_isSeed.f a0_0).bind fun t231 => (if t231 = true then (if (l0_1.length : Int) = 11 then (impl_GoodTable.j0 k ((l0_2.length : Int) != 11) a0_0 l0_1 l0_2 a0_3) else (impl_GoodTable.j0 k true a0_0 l0_1 l0_2 a0_3)) else (impl_GoodTable.j0 k true a0_0 l0_1 l0_2 a0_3))
theorem impl_GoodTable.mono_l : ∀ k, (∀ y0 y1 y2 y3 y4, LeO (impl_GoodTable.j0 k y0 y1 y2 y3 y4) (impl_GoodTable.j0 (k + 1) y0 y1 y2 y3 y4)) ∧ (∀ y0 y1 y2 y3 y4, LeO (impl_GoodTable.l0 k y0 y1 y2 y3 y4) (impl_GoodTable.l0 (k + 1) y0 y1 y2 y3 y4)) ∧ (∀ y0 y1 y2 y3 y4 y5 y6 y7 y8, LeO (impl_GoodTable.l1 k y0 y1 y2 y3 y4 y5 y6 y7 y8) (impl_GoodTable.l1 (k + 1) y0 y1 y2 y3 y4 y5 y6 y7 y8)) ∧ (∀ y0 y1 y2 y3 y4 y5 y6 y7 y8 y9 y10 y11 y12 y13, LeO (impl_GoodTable.j3 k y0 y1 y2 y3 y4 y5 y6 y7 y8 y9 y10 y11 y12 y13) (impl_GoodTable.j3 (k + 1) y0 y1 y2 y3 y4 y5 y6 y7 y8 y9 y10 y11 y12 y13))
 | 0 => ⟨fun _ _ _ _ _ r h => by simp [impl_GoodTable.j0] at h, fun _ _ _ _ _ r h => by simp [impl_GoodTable.l0] at h, fun _ _ _ _ _ _ _ _ _ r h => by simp [impl_GoodTable.l1] at h, fun _ _ _ _ _ _ _ _ _ _ _ _ _ _ r h => by simp [impl_GoodTable.j3] at h⟩
 | k + 1 => by
  obtain ⟨ih0, ih1, ih2, ih3⟩ := impl_GoodTable.mono_l k
  refine ⟨?_, ?_, ?_, ?_⟩
  ·intro y0 y1 y2 y3 y4
   unfold impl_GoodTable.j0
   repeat' first
   | (with_reducible exact ih0 _ _ _ _ _)
   | (with_reducible exact ih1 _ _ _ _ _)
   | (with_reducible exact ih2 _ _ _ _ _ _ _ _ _)
   | (with_reducible exact ih3 _ _ _ _ _ _ _ _ _ _ _ _ _ _)
   | (with_reducible exact impl_keysIn.mono _ _ _ _ _)
   | (with_reducible exact LeO.refl _)
   | (with_reducible exact LeO.none _)
   | (with_reducible refine LeO.ite ?_ ?_)
   | (with_reducible refine LeO.bind ?_ (fun _ => ?_))
   | exact ih0 _ _ _ _ _
   | exact ih1 _ _ _ _ _
   | exact ih2 _ _ _ _ _ _ _ _ _
   | exact ih3 _ _ _ _ _ _ _ _ _ _ _ _ _ _
   | exact impl_keysIn.mono _ _ _ _ _
   | exact LeO.none _
   | refine LeO.ite ?_ ?_
   | refine LeO.bind ?_ (fun _ => ?_)
  ·intro y0 y1 y2 y3 y4
   unfold impl_GoodTable.l0
   repeat' first
   | (with_reducible exact ih0 _ _ _ _ _)
   | (with_reducible exact ih1 _ _ _ _ _)
   | (with_reducible exact ih2 _ _ _ _ _ _ _ _ _)
   | (with_reducible exact ih3 _ _ _ _ _ _ _ _ _ _ _ _ _ _)
   | (with_reducible exact impl_keysIn.mono _ _ _ _ _)
   | (with_reducible exact LeO.refl _)
   | (with_reducible exact LeO.none _)
   | (with_reducible refine LeO.ite ?_ ?_)
   | (with_reducible refine LeO.bind ?_ (fun _ => ?_))
   | exact ih0 _ _ _ _ _
   | exact ih1 _ _ _ _ _
   | exact ih2 _ _ _ _ _ _ _ _ _
   | exact ih3 _ _ _ _ _ _ _ _ _ _ _ _ _ _
   | exact impl_keysIn.mono _ _ _ _ _
   | exact LeO.none _
   | refine LeO.ite ?_ ?_
   | refine LeO.bind ?_ (fun _ => ?_)
  ·intro y0 y1 y2 y3 y4 y5 y6 y7 y8
   unfold impl_GoodTable.l1
   repeat' first
   | (with_reducible exact ih0 _ _ _ _ _)
   | (with_reducible exact ih1 _ _ _ _ _)
   | (with_reducible exact ih2 _ _ _ _ _ _ _ _ _)
   | (with_reducible exact ih3 _ _ _ _ _ _ _ _ _ _ _ _ _ _)
   | (with_reducible exact impl_keysIn.mono _ _ _ _ _)
   | (with_reducible exact LeO.refl _)
   | (with_reducible exact LeO.none _)
   | (with_reducible refine LeO.ite ?_ ?_)
   | (with_reducible refine LeO.bind ?_ (fun _ => ?_))
   | exact ih0 _ _ _ _ _
   | exact ih1 _ _ _ _ _
   | exact ih2 _ _ _ _ _ _ _ _ _
   | exact ih3 _ _ _ _ _ _ _ _ _ _ _ _ _ _
   | exact impl_keysIn.mono _ _ _ _ _
   | exact LeO.none _
   | refine LeO.ite ?_ ?_
   | refine LeO.bind ?_ (fun _ => ?_)
  ·intro y0 y1 y2 y3 y4 y5 y6 y7 y8 y9 y10 y11 y12 y13
   unfold impl_GoodTable.j3
   repeat' first
   | (with_reducible exact ih0 _ _ _ _ _)
   | (with_reducible exact ih1 _ _ _ _ _)
   | (with_reducible exact ih2 _ _ _ _ _ _ _ _ _)
   | (with_reducible exact ih3 _ _ _ _ _ _ _ _ _ _ _ _ _ _)
   | (with_reducible exact impl_keysIn.mono _ _ _ _ _)
   | (with_reducible exact LeO.refl _)
   | (with_reducible exact LeO.none _)
   | (with_reducible refine LeO.ite ?_ ?_)
   | (with_reducible refine LeO.bind ?_ (fun _ => ?_))
   | exact ih0 _ _ _ _ _
   | exact ih1 _ _ _ _ _
   | exact ih2 _ _ _ _ _ _ _ _ _
   | exact ih3 _ _ _ _ _ _ _ _ _ _ _ _ _ _
   | exact impl_keysIn.mono _ _ _ _ _
   | exact LeO.none _
   | refine LeO.ite ?_ ?_
   | refine LeO.bind ?_ (fun _ => ?_)
theorem impl_GoodTable.mono : ∀ a0 a1 a2 a3 k, LeO (impl_GoodTable.f k a0 a1 a2 a3) (impl_GoodTable.f (k + 1) a0 a1 a2 a3) := by
 intro a0 a1 a2 a3 k
 obtain ⟨ih0, ih1, ih2, ih3⟩ := impl_GoodTable.mono_l k
 unfold impl_GoodTable.f
 repeat' first
   | (with_reducible exact ih0 _ _ _ _ _)
   | (with_reducible exact ih1 _ _ _ _ _)
   | (with_reducible exact ih2 _ _ _ _ _ _ _ _ _)
   | (with_reducible exact ih3 _ _ _ _ _ _ _ _ _ _ _ _ _ _)
   | (with_reducible exact impl_keysIn.mono _ _ _ _ _)
   | (with_reducible exact LeO.refl _)
   | (with_reducible exact LeO.none _)
   | (with_reducible refine LeO.ite ?_ ?_)
   | (with_reducible refine LeO.bind ?_ (fun _ => ?_))
   | exact ih0 _ _ _ _ _
   | exact ih1 _ _ _ _ _
   | exact ih2 _ _ _ _ _ _ _ _ _
   | exact ih3 _ _ _ _ _ _ _ _ _ _ _ _ _ _
   | exact impl_keysIn.mono _ _ _ _ _
   | exact LeO.none _
   | refine LeO.ite ?_ ?_
   | refine LeO.bind ?_ (fun _ => ?_)
def impl_GoodTable.T6 : Bool × List (List Nat × List Nat) := (true, [([], []), ([0], [0]), ([], []), ([1, 2], [1, 2]), ([3], [3]), ([], []), ([5], [5]), ([], []), ([6, 7], [6, 7]), ([8], [8]), ([4, 9], [4, 9]), ([10], [10]), ([], [])])
def impl_GoodTable.B6 : List Nat := [0, 1, 0, 7, 15, 0, 32, 0, 224, 480, 1023, 2047, 0]
theorem impl_GoodTable.tab6 : rtab .any (opsOf Try.f19 6) = impl_GoodTable.T6 := by kernel_rfl
theorem impl_GoodTable.bits6 : waitsOk impl_GoodTable.T6.2 impl_GoodTable.B6 = true := by kernel_rfl
def impl_GoodTable.T20 : Bool × List (List Nat × List Nat) := (true, [([], []), ([0], [0]), ([], []), ([2], [2]), ([1, 3], [1, 3]), ([4], [4]), ([5], [5]), ([6, 5, 5], [5, 6]), ([7, 5], [5, 7]), ([5], [5]), ([9, 5], [5, 9]), ([8, 10, 5], [5, 8, 10]), ([5, 11], [5, 11]), ([12, 7, 0, 1, 2, 3, 4, 5, 6, 7, 8, 9, 10, 11, 12], [12])])
def impl_GoodTable.B20 : List Nat := [0, 1, 0, 4, 15, 31, 63, 127, 255, 63, 575, 2047, 4095, 8191]
theorem impl_GoodTable.tab20 : rtab .any (opsOf Try.f19 20) = impl_GoodTable.T20 := by kernel_rfl
theorem impl_GoodTable.bits20 : waitsOk impl_GoodTable.T20.2 impl_GoodTable.B20 = true := by kernel_rfl
set_option maxHeartbeats 8000000 in
set_option maxRecDepth 100000 in
theorem impl_GoodTable.calls (k : Nat) (a0_0 : Int) (A0_1 : Option Addr) (c0_1 : Nat) (l0_1 : List (S60)) (A0_2 : Option Addr) (c0_2 : Nat) (l0_2 : List (S60)) (a0_3 : Int) (r : Bool) (w : World) (hr0_1 : Kd.C k60 w A0_1 l0_1.length l0_1) (hc0_1 : l0_1.length ≤ c0_1) (hr0_2 : Kd.C k60 w A0_2 l0_2.length l0_2) (hc0_2 : l0_2.length ≤ c0_2) (h : impl_GoodTable.f k a0_0 l0_1 l0_2 a0_3 = some r) :
  Calls Try.prog 19 #[.agg #[.int .i64 a0_0, .slice A0_1 l0_1.length c0_1, .slice A0_2 l0_2.length c0_2, .int .i64 a0_3]] w fun e w' => e = .returned (.bool r) ∧ Below w.heap.size w w' := by
 have hu27 := Try.underlying27
 have hu60 := Try.underlying60
 have HR0_1 := Aside0.mk hr0_1
 have HC0_1 := Aside0.mk hc0_1
 clear hr0_1 hc0_1
 have HR0_2 := Aside0.mk hr0_2
 have HC0_2 := Aside0.mk hc0_2
 clear hr0_2 hc0_2
 have HB := Aside0.mk (Below.refl w.heap.size w)
 have H : ((impl_isSeed.f a0_0).bind fun t231 => (if t231 = true then (if (l0_1.length : Int) = 11 then (impl_GoodTable.j0 k ((l0_2.length : Int) != 11) a0_0 l0_1 l0_2 a0_3) else (impl_GoodTable.j0 k true a0_0 l0_1 l0_2 a0_3)) else (impl_GoodTable.j0 k true a0_0 l0_1 l0_2 a0_3))) = some r := h
 clear h
 have HC2 := Aside0.mk H
 clear H
 go_enter Try.func19, Try.ntmps19
 go_upto_region 1 with (first | ((with_reducible refine gate_dst (N := 1) rfl ?_); (try (refine gate_guard (by rfl) ?_; dsimp only)); refine box_event ?hg (N := 1) ?hd (cs := #[.int .i64 a0_0, .slice A0_1 l0_1.length c0_1, .slice A0_2 l0_2.length c0_2, .int .i64 a0_3]) (t := 27) ?hr ?_; (case hd => rfl); (case hg => rfl); (case hr => first | (go_simp; done) | (go_simp; rfl)); intro gb230 hg w3 hbox hb; have n0_ := Aside0.mk (Op.a5 (by repeat (first | (with_reducible first | exact HB.out | apply Op.a1 | apply Op.a2 | apply Op.a3) | exact HB.out)) hb); have n1_ := Aside0.mk (hbox); have n2_ := Aside0.mk ((by rw [hg]; exact (Op.a6 (by repeat (first | (with_reducible first | exact HB.out | apply Op.a1 | apply Op.a2 | apply Op.a3) | exact HB.out))) : w.heap.size ≤ gb230)); have n3_ := Aside0.mk ((by rw [hg]; exact (Op.a6 (by repeat (first | (with_reducible first | exact HB.out | apply Op.a1 | apply Op.a2 | apply Op.a3) | exact HB.out))) : w.heap.size ≤ gb230)); clear HB; have HB := n0_; have BK230 := n1_; have GW230 := n2_; have GE230 := n3_; clear n0_ n1_ n2_ n3_; clear hb hbox hg))
 (try simp only [Act.put, List.setIfInBounds_toArray, List.set_cons_zero, List.set_cons_succ])
 go_cut [24] (fun v24 wc => ∃ (kq : Nat) (x24_1 : Bool), v24 = .bool x24_1 ∧ Aside0 (impl_GoodTable.j0 kq x24_1 a0_0 l0_1 l0_2 a0_3 = some r) ∧ Aside0 (kq ≤ k) ∧ Aside0 (wc.heap[gb230]? = some (.cells #[.int .i64 a0_0, (.slice A0_1 l0_1.length c0_1), (.slice A0_2 l0_2.length c0_2), .int .i64 a0_3] 27 (0, 0))) ∧ Aside0 (Below w.heap.size w wc))
 case first =>
  have H := HC2.out
  clear HC2
  replace H := Option.bind_eq_some_iff.mp H
  obtain ⟨t231, A40, H⟩ := H
  replace H : (if t231 = true then (if (l0_1.length : Int) = 11 then (impl_GoodTable.j0 k ((l0_2.length : Int) != 11) a0_0 l0_1 l0_2 a0_3) else (impl_GoodTable.j0 k true a0_0 l0_1 l0_2 a0_3)) else (impl_GoodTable.j0 k true a0_0 l0_1 l0_2 a0_3)) = some r := H
  have A4 := Aside0.mk A40
  clear A40
  by_cases c5 : t231 = true
  ·subst c5
   have H1 : (if (l0_1.length : Int) = 11 then (impl_GoodTable.j0 k ((l0_2.length : Int) != 11) a0_0 l0_1 l0_2 a0_3) else (impl_GoodTable.j0 k true a0_0 l0_1 l0_2 a0_3)) = some r := by rw [if_pos rfl] at H; exact H
   clear H
   have H := H1
   clear H1
   by_cases c6 : (l0_1.length : Int) = 11
   ·rw [if_pos c6] at H
    have c6b0 : ((l0_1.length : Int) == 11) = true := beq_iff_eq.mpr c6
    have c6b1 : ((l0_1.length : Int) != 11) = false := bne_eq_false_iff_eq.mpr c6
    clear c6
    (first | rw [c6b0] | (simp only [i64_w, i32_w]; rw [c6b0]) | skip)
    have H' := Aside0.mk H
    clear H
    have hcz7_0 : w3.cell? ⟨gb230, 0, none⟩ = some (.int .i64 a0_0) := (blk_cell BK230.out 0).trans rfl
    have hcz7_1 : w3.cell? ⟨gb230, 1, none⟩ = some (.slice A0_1 l0_1.length c0_1) := (blk_cell BK230.out 1).trans rfl
    have hcz7_2 : w3.cell? ⟨gb230, 2, none⟩ = some (.slice A0_2 l0_2.length c0_2) := (blk_cell BK230.out 2).trans rfl
    have hcz7_3 : w3.cell? ⟨gb230, 3, none⟩ = some (.int .i64 a0_3) := (blk_cell BK230.out 3).trans rfl
    have hfz7_0 := blk_frozen BK230.out 0
    have hfz7_1 := blk_frozen BK230.out 1
    have hfz7_2 := blk_frozen BK230.out 2
    have hfz7_3 := blk_frozen BK230.out 3
    go_wp2_with (first | ((with_reducible refine gate_callee (f := 33) rfl ?_); refine goesL_ (some 11) rfl rfl Try.func33 (by kernel_rfl) rfl #[.int .i64 a0_0] rfl (by (try simp only [List.map_toArray, List.map_cons, List.map_nil]); first | done | rfl | (simp only [List.length_drop, List.length_take]; rfl)) ?_; (with_reducible refine (impl_isSeed.calls a0_0 true _ A4.out).mono ?_); rintro e w' ⟨rfl, ⟨nd, rfl⟩⟩; refine ⟨_, rfl, ?_⟩))
    go_meet
    case rel => exact ⟨_, (((l0_2.length : Int) != 11)), (by first | rfl | (simp; done) | (simp [*]; done)), H', ⟨by first | omega | exact Nat.le_refl _⟩, ⟨by (with_reducible repeat (first | refine Op.b1 ?_ _ | refine Op.b2 ?_ | refine Op.b3 ?_ _)); exact BK230.out⟩, ⟨by repeat (first | (with_reducible first | exact HB.out | apply Op.a1 | apply Op.a2 | apply Op.a3 | refine Op.a4 ?_ GE230.out) | exact HB.out)⟩⟩
   ·rw [if_neg c6] at H
    have c6b0 : ((l0_1.length : Int) == 11) = false := beq_eq_false_iff_ne.mpr c6
    have c6b1 : ((l0_1.length : Int) != 11) = true := bne_iff_ne.mpr c6
    (first | rw [c6b0] | (simp only [i64_w, i32_w]; rw [c6b0]) | skip)
    have H' := Aside0.mk H
    clear H
    have hcz8_0 : w3.cell? ⟨gb230, 0, none⟩ = some (.int .i64 a0_0) := (blk_cell BK230.out 0).trans rfl
    have hcz8_1 : w3.cell? ⟨gb230, 1, none⟩ = some (.slice A0_1 l0_1.length c0_1) := (blk_cell BK230.out 1).trans rfl
    have hcz8_2 : w3.cell? ⟨gb230, 2, none⟩ = some (.slice A0_2 l0_2.length c0_2) := (blk_cell BK230.out 2).trans rfl
    have hcz8_3 : w3.cell? ⟨gb230, 3, none⟩ = some (.int .i64 a0_3) := (blk_cell BK230.out 3).trans rfl
    have hfz8_0 := blk_frozen BK230.out 0
    have hfz8_1 := blk_frozen BK230.out 1
    have hfz8_2 := blk_frozen BK230.out 2
    have hfz8_3 := blk_frozen BK230.out 3
    go_wp2_with (first | ((with_reducible refine gate_callee (f := 33) rfl ?_); refine goesL_ (some 11) rfl rfl Try.func33 (by kernel_rfl) rfl #[.int .i64 a0_0] rfl (by (try simp only [List.map_toArray, List.map_cons, List.map_nil]); first | done | rfl | (simp only [List.length_drop, List.length_take]; rfl)) ?_; (with_reducible refine (impl_isSeed.calls a0_0 true _ A4.out).mono ?_); rintro e w' ⟨rfl, ⟨nd, rfl⟩⟩; refine ⟨_, rfl, ?_⟩))
    go_meet
    case rel => exact ⟨_, (true), (by first | rfl | (simp; done) | (simp [*]; done)), H', ⟨by first | omega | exact Nat.le_refl _⟩, ⟨by (with_reducible repeat (first | refine Op.b1 ?_ _ | refine Op.b2 ?_ | refine Op.b3 ?_ _)); exact BK230.out⟩, ⟨by repeat (first | (with_reducible first | exact HB.out | apply Op.a1 | apply Op.a2 | apply Op.a3 | refine Op.a4 ?_ GE230.out) | exact HB.out)⟩⟩
  ·replace c5 := Bool.eq_false_iff.mpr c5
   subst c5
   have H1 : (impl_GoodTable.j0 k true a0_0 l0_1 l0_2 a0_3) = some r := by rw [if_neg (show ¬ (false = true) by decide)] at H; exact H
   clear H
   have H := H1
   clear H1
   have H' := Aside0.mk H
   clear H
   have hcz9_0 : w3.cell? ⟨gb230, 0, none⟩ = some (.int .i64 a0_0) := (blk_cell BK230.out 0).trans rfl
   have hcz9_1 : w3.cell? ⟨gb230, 1, none⟩ = some (.slice A0_1 l0_1.length c0_1) := (blk_cell BK230.out 1).trans rfl
   have hcz9_2 : w3.cell? ⟨gb230, 2, none⟩ = some (.slice A0_2 l0_2.length c0_2) := (blk_cell BK230.out 2).trans rfl
   have hcz9_3 : w3.cell? ⟨gb230, 3, none⟩ = some (.int .i64 a0_3) := (blk_cell BK230.out 3).trans rfl
   have hfz9_0 := blk_frozen BK230.out 0
   have hfz9_1 := blk_frozen BK230.out 1
   have hfz9_2 := blk_frozen BK230.out 2
   have hfz9_3 := blk_frozen BK230.out 3
   go_wp2_with (first | ((with_reducible refine gate_callee (f := 33) rfl ?_); refine goesL_ (some 11) rfl rfl Try.func33 (by kernel_rfl) rfl #[.int .i64 a0_0] rfl (by (try simp only [List.map_toArray, List.map_cons, List.map_nil]); first | done | rfl | (simp only [List.length_drop, List.length_take]; rfl)) ?_; (with_reducible refine (impl_isSeed.calls a0_0 false _ A4.out).mono ?_); rintro e w' ⟨rfl, ⟨nd, rfl⟩⟩; refine ⟨_, rfl, ?_⟩))
   go_meet
   case rel => exact ⟨_, (true), (by first | rfl | (simp; done) | (simp [*]; done)), H', ⟨by first | omega | exact Nat.le_refl _⟩, ⟨by (with_reducible repeat (first | refine Op.b1 ?_ _ | refine Op.b2 ?_ | refine Op.b3 ?_ _)); exact BK230.out⟩, ⟨by repeat (first | (with_reducible first | exact HB.out | apply Op.a1 | apply Op.a2 | apply Op.a3 | refine Op.a4 ?_ GE230.out) | exact HB.out)⟩⟩
 case rest =>
  clear HC2
  try clear c1
  try clear p2
  try clear c3
  try clear c5
  try clear c6
  try clear c6b0
  try clear c6b1
  try clear hcz7_0
  try clear hcz7_1
  try clear hcz7_2
  try clear hcz7_3
  try clear hcz8_0
  try clear hcz8_1
  try clear hcz8_2
  try clear hcz8_3
  try clear hcz9_0
  try clear hcz9_1
  try clear hcz9_2
  try clear hcz9_3
  try clear hfz7_0
  try clear hfz7_1
  try clear hfz7_2
  try clear hfz7_3
  try clear hfz8_0
  try clear hfz8_1
  try clear hfz8_2
  try clear hfz8_3
  try clear hfz9_0
  try clear hfz9_1
  try clear hfz9_2
  try clear hfz9_3
  obtain ⟨kq, x24_1, rfl, HA, HJ1, BK230, HB⟩ := hcut
  cases kq with
  | zero => exact absurd HA.out (by simp [impl_GoodTable.j0])
  | succ kj1 =>
   have H := HA.out
   clear HA
   simp only [impl_GoodTable.j0] at H
   by_cases c10 : x24_1 = true
   ·subst c10
    have H1 : (some false) = some r := by rw [if_pos rfl] at H; exact H
    clear H
    have H := H1
    clear H1
    obtain rfl := Option.some.inj H
    go_wp2
    go_ret
    exact ⟨by first | rfl | (simp [errW_none, errW_some] <;> rfl) | (simp [*, errW_none, errW_some] <;> rfl), by repeat (first | (with_reducible first | exact HB.out | apply Op.a1 | apply Op.a2 | apply Op.a3 | refine Op.a4 ?_ GE230.out) | exact HB.out)⟩
   ·replace c10 := Bool.eq_false_iff.mpr c10
    subst c10
    have H1 : (impl_GoodTable.l0 kj1 0 a0_0 l0_1 l0_2 a0_3) = some r := by rw [if_neg (show ¬ (false = true) by decide)] at H; exact H
    clear H
    have H := H1
    clear H1
    have H' := Aside0.mk H
    clear H
    go_wp2
    go_loopg [25] kj1 (fun kq v25 w' => ∃ (x25_2 : Int), v25 = .int .i64 x25_2 ∧ Aside0 (impl_GoodTable.l0 kq x25_2 a0_0 l0_1 l0_2 a0_3 = some r) ∧ Aside0 (kq ≤ kj1) ∧ Aside0 (w'.heap[gb230]? = some (.cells #[.int .i64 a0_0, (.slice A0_1 l0_1.length c0_1), (.slice A0_2 l0_2.length c0_2), .int .i64 a0_3] 27 (0, 0))) ∧ Aside0 (Below w.heap.size w w'))
    case atStart => exact ⟨(0), (by first | rfl | (simp; done) | (simp [*]; done)), H', ⟨Nat.le_refl _⟩, ⟨by (with_reducible repeat (first | refine Op.b1 ?_ _ | refine Op.b2 ?_ | refine Op.b3 ?_ _)); exact BK230.out⟩, ⟨by repeat (first | (with_reducible first | exact HB.out | apply Op.a1 | apply Op.a2 | apply Op.a3 | refine Op.a4 ?_ GE230.out) | exact HB.out)⟩⟩
    case round =>
     clear H'
     try clear c1
     try clear p2
     try clear c3
     try clear c5
     try clear c6
     try clear c6b0
     try clear c6b1
     try clear c10
     try clear hcz7_0
     try clear hcz7_1
     try clear hcz7_2
     try clear hcz7_3
     try clear hcz8_0
     try clear hcz8_1
     try clear hcz8_2
     try clear hcz8_3
     try clear hcz9_0
     try clear hcz9_1
     try clear hcz9_2
     try clear hcz9_3
     try clear hfz7_0
     try clear hfz7_1
     try clear hfz7_2
     try clear hfz7_3
     try clear hfz8_0
     try clear hfz8_1
     try clear hfz8_2
     try clear hfz8_3
     try clear hfz9_0
     try clear hfz9_1
     try clear hfz9_2
     try clear hfz9_3
     try clear p2
     obtain ⟨x25_2, rfl, HA, HK2, BK230, HB⟩ := hrel
     cases gk with
     | zero => exact absurd HA.out (by simp [impl_GoodTable.l0])
     | succ k2 =>
      have H := HA.out
      clear HA
      simp only [impl_GoodTable.l0] at H
      by_cases c11 : x25_2 < 11
      ·rw [if_pos c11] at H
       have c11b0 : decide (x25_2 < 11) = true := decide_eq_true c11
       clear c11
       by_cases c12 : 0 ≤ x25_2
       ·rw [if_pos c12] at H
        have c12b0 : decide (0 ≤ x25_2) = true := decide_eq_true c12
        clear c12
        by_cases c13 : x25_2 < (l0_1.length : Int)
        ·rw [if_pos c13] at H
         have c13b0 : decide (x25_2 < (l0_1.length : Int)) = true := decide_eq_true c13
         clear c13
         by_cases c14 : x25_2 < (l0_2.length : Int)
         ·rw [if_pos c14] at H
          have c14b0 : decide (x25_2 < (l0_2.length : Int)) = true := decide_eq_true c14
          clear c14
          obtain ⟨y240, hy240⟩ : ∃ y_ : List (S60), y_ = (([(⟨(rd_T60 l0_1 x25_2).f0, (rd_T60 l0_1 x25_2).f1, (rd_T60 l0_1 x25_2).f2⟩ : S60), (⟨(rd_T60 l0_2 x25_2).f0, (rd_T60 l0_2 x25_2).f1, (rd_T60 l0_2 x25_2).f2⟩ : S60)] : List (S60))) := ⟨_, rfl⟩
          replace H : (impl_GoodTable.l1 k2 x25_2 x25_2 y240 (y240.length : Int) 0 a0_0 l0_1 l0_2 a0_3) = some r := by first | (rw [hy240]; with_reducible exact H) | (have H2_ := (Option.bind_some _ _).symm.trans H; rw [hy240]; with_reducible exact H2_) | (have H2_ := (Option.bind_some _ _).symm.trans H; with_reducible exact H2_) | with_reducible exact H | (rw [hy240]; exact H) | exact H
          have Ny240 := Aside0.mk hy240
          clear hy240
          have H' := Aside0.mk H
          clear H
          try go_wp2
          have n0_ := Aside0.mk (Op.b2 BK230.out)
          have n1_ := Aside0.mk (Op.a3 HB.out)
          clear BK230
          clear HB
          have BK230 := n0_
          have HB := n1_
          clear n0_ n1_
          have p238 : 0 ≤ (x25_2 : Int) := of_decide_eq_true (by first | (with_reducible assumption) | assumption)
          have q238 : x25_2 < (l0_1.length : Int) := of_decide_eq_true (by first | (with_reducible assumption) | assumption)
          obtain ⟨ad238, e238, hx238_0, hx238_1, hx238_2⟩ := at_T60 HR0_1.out x25_2 p238 q238
          have hw238_2 := hx238_2
          have hw238_1 := hx238_1
          have hw238_0 := hx238_0
          cases e238
          replace hx238_0 := (HB.out.cell (World.block_lt_of_cell? w _ hx238_0)).trans hx238_0
          replace hx238_1 := (HB.out.cell (World.block_lt_of_cell? w _ hx238_1)).trans hx238_1
          replace hx238_2 := (HB.out.cell (World.block_lt_of_cell? w _ hx238_2)).trans hx238_2
          replace p238 := eq_true p238
          replace q238 := eq_true q238
          have p239 : 0 ≤ (x25_2 : Int) := of_decide_eq_true (by first | (with_reducible assumption) | assumption)
          have q239 : x25_2 < (l0_2.length : Int) := of_decide_eq_true (by first | (with_reducible assumption) | assumption)
          obtain ⟨ad239, e239, hx239_0, hx239_1, hx239_2⟩ := at_T60 HR0_2.out x25_2 p239 q239
          have hw239_2 := hx239_2
          have hw239_1 := hx239_1
          have hw239_0 := hx239_0
          cases e239
          replace hx239_0 := (HB.out.cell (World.block_lt_of_cell? w _ hx239_0)).trans hx239_0
          replace hx239_1 := (HB.out.cell (World.block_lt_of_cell? w _ hx239_1)).trans hx239_1
          replace hx239_2 := (HB.out.cell (World.block_lt_of_cell? w _ hx239_2)).trans hx239_2
          replace p239 := eq_true p239
          replace q239 := eq_true q239
          refine start_ (n := 13) (S := fun w' => w'.cell? ⟨gb230, 0, none⟩ = some (.int .i64 a0_0) ∧ w'.cell? ⟨gb230, 1, none⟩ = some (.slice (some ad238) l0_1.length c0_1) ∧ w'.cell? ⟨gb230, 2, none⟩ = some (.slice (some ad239) l0_2.length c0_2) ∧ w'.cell? ⟨gb230, 3, none⟩ = some (.int .i64 a0_3) ∧ w'.cell? (ad238.add ((x25_2).toNat * 3)) = some (.bool ((rd_T60 l0_1 x25_2).f0)) ∧ w'.cell? ⟨(ad238.add ((x25_2).toNat * 3)).block, (ad238.add ((x25_2).toNat * 3)).off + 1, none⟩ = some (.int .i64 ((rd_T60 l0_1 x25_2).f1)) ∧ w'.cell? ⟨(ad238.add ((x25_2).toNat * 3)).block, (ad238.add ((x25_2).toNat * 3)).off + 2, none⟩ = some (.int .i64 ((rd_T60 l0_1 x25_2).f2)) ∧ w'.cell? (ad239.add ((x25_2).toNat * 3)) = some (.bool ((rd_T60 l0_2 x25_2).f0)) ∧ w'.cell? ⟨(ad239.add ((x25_2).toNat * 3)).block, (ad239.add ((x25_2).toNat * 3)).off + 1, none⟩ = some (.int .i64 ((rd_T60 l0_2 x25_2).f1)) ∧ w'.cell? ⟨(ad239.add ((x25_2).toNat * 3)).block, (ad239.add ((x25_2).toNat * 3)).off + 2, none⟩ = some (.int .i64 ((rd_T60 l0_2 x25_2).f2))) (ds := []) #[false, false, false, false, false, false, false, false, false, false, false, false, false] (by kernel_rfl) rfl rfl ⟨(blk_cell BK230.out 0).trans rfl, (blk_cell BK230.out 1).trans rfl, (blk_cell BK230.out 2).trans rfl, (blk_cell BK230.out 3).trans rfl, ((HB.out.cell (World.block_lt_of_cell? w _ hw238_0)).trans hw238_0), ((HB.out.cell (World.block_lt_of_cell? w _ hw238_1)).trans hw238_1), ((HB.out.cell (World.block_lt_of_cell? w _ hw238_2)).trans hw238_2), ((HB.out.cell (World.block_lt_of_cell? w _ hw239_0)).trans hw239_0), ((HB.out.cell (World.block_lt_of_cell? w _ hw239_1)).trans hw239_1), ((HB.out.cell (World.block_lt_of_cell? w _ hw239_2)).trans hw239_2)⟩ (fun hHeld => ?_); refine with_tabW impl_GoodTable.tab6 impl_GoodTable.bits6 (fun HT_ HW_ => ?_)
          generalize wr.drew = w15 at BK230 HB hx238_0 hx238_1 hx238_2 hx239_0 hx239_1 hx239_2 hHeld ⊢
          refine pure_ (i := 0) (N := some 28) (v := ?_) (a' := ?_) #[true, false, false, false, false, false, false, false, false, false, false, false, false] rfl rfl (any_of HT_.out (by kernel_rfl)) (fun _ _ _ h => h) (Or.inl ⟨by rfl, ?_⟩) ?_ ?_
          rotate_left
          ·intro w'
           go_simp
           with_reducible rfl
          rotate_left
          ·simp only [Act.put, List.setIfInBounds_toArray, List.set_cons_zero, List.set_cons_succ, i64_w, i32_w]
           rfl
          refine pure_ (i := 2) (N := some 30) (v := ?_) (a' := ?_) #[true, false, true, false, false, false, false, false, false, false, false, false, false] rfl rfl (any_of HT_.out (by kernel_rfl)) (fun _ _ _ h => h) (Or.inl ⟨by rfl, ?_⟩) ?_ ?_
          rotate_left
          ·intro w'
           go_simp
           with_reducible rfl
          rotate_left
          ·simp only [Act.put, List.setIfInBounds_toArray, List.set_cons_zero, List.set_cons_succ, i64_w, i32_w]
           rfl
          refine pure_ (i := 5) (N := some 33) (v := ?_) (a' := ?_) #[true, false, true, false, false, true, false, false, false, false, false, false, false] rfl rfl (any_of HT_.out (by kernel_rfl)) (fun _ _ _ h => h) (Or.inl ⟨by rfl, ?_⟩) ?_ ?_
          rotate_left
          ·intro w'
           go_simp
           with_reducible rfl
          rotate_left
          ·simp only [Act.put, List.setIfInBounds_toArray, List.set_cons_zero, List.set_cons_succ, i64_w, i32_w]
           rfl
          refine pure_ (i := 7) (N := some 35) (v := ?_) (a' := ?_) #[true, false, true, false, false, true, false, true, false, false, false, false, false] rfl rfl (any_of HT_.out (by kernel_rfl)) (fun _ _ _ h => h) (Or.inl ⟨by rfl, ?_⟩) ?_ ?_
          rotate_left
          ·intro w'
           go_simp
           with_reducible rfl
          rotate_left
          ·simp only [Act.put, List.setIfInBounds_toArray, List.set_cons_zero, List.set_cons_succ, i64_w, i32_w]
           rfl
          refine pure_ (i := 12) (N := some 40) (v := ?_) (a' := ?_) #[true, false, true, false, false, true, false, true, false, false, false, false, true] rfl rfl (any_of HT_.out (by kernel_rfl)) (fun _ _ _ h => h) (Or.inl ⟨by rfl, ?_⟩) ?_ ?_
          rotate_left
          ·intro w'
           go_simp
           with_reducible rfl
          rotate_left
          ·simp only [Act.put, List.setIfInBounds_toArray, List.set_cons_zero, List.set_cons_succ, i64_w, i32_w]
           rfl
          refine take_ (i := 1) (N := some 29) (v := ?_) (a' := ?_) #[true, true, true, false, false, true, false, true, false, false, false, false, true] rfl rfl (take_ofW HT_.out HW_.out (by kernel_rfl)) (fun _ _ _ h => h) (Or.inl ⟨by rfl, ?_⟩) hHeld ?_ ?_
          rotate_left
          ·rintro w' ⟨s0, s1, s2, s3, s4, s5, s6, s7, s8, s9⟩
           go_simp
           with_reducible rfl
          rotate_left
          ·simp only [Act.put, List.setIfInBounds_toArray, List.set_cons_zero, List.set_cons_succ, i64_w, i32_w]
           rfl
          refine pure_ (i := 3) (N := some 31) (v := ?_) (a' := ?_) #[true, true, true, true, false, true, false, true, false, false, false, false, true] rfl rfl (any_of HT_.out (by kernel_rfl)) (fun _ _ _ h => h) (Or.inl ⟨by rfl, ?_⟩) ?_ ?_
          rotate_left
          ·intro w'
           go_simp
           with_reducible rfl
          rotate_left
          ·simp only [Act.put, List.setIfInBounds_toArray, List.set_cons_zero, List.set_cons_succ, i64_w, i32_w]
           rfl
          refine take_ (i := 4) (N := some 32) (v := ?_) (a' := ?_) #[true, true, true, true, true, true, false, true, false, false, false, false, true] rfl rfl (take_ofW HT_.out HW_.out (by kernel_rfl)) (fun _ _ _ h => h) (Or.inl ⟨by rfl, ?_⟩) hHeld ?_ ?_
          rotate_left
          ·rintro w' ⟨s0, s1, s2, s3, s4, s5, s6, s7, s8, s9⟩
           go_simp
           with_reducible rfl
          rotate_left
          ·simp only [Act.put, List.setIfInBounds_toArray, List.set_cons_zero, List.set_cons_succ, i64_w, i32_w]
           rfl
          refine take_ (i := 6) (N := some 34) (v := ?_) (a' := ?_) #[true, true, true, true, true, true, true, true, false, false, false, false, true] rfl rfl (take_ofW HT_.out HW_.out (by kernel_rfl)) (fun _ _ _ h => h) (Or.inl ⟨by rfl, ?_⟩) hHeld ?_ ?_
          rotate_left
          ·rintro w' ⟨s0, s1, s2, s3, s4, s5, s6, s7, s8, s9⟩
           go_simp
           with_reducible rfl
          rotate_left
          ·simp only [Act.put, List.setIfInBounds_toArray, List.set_cons_zero, List.set_cons_succ, i64_w, i32_w]
           rfl
          refine pure_ (i := 8) (N := some 36) (v := ?_) (a' := ?_) #[true, true, true, true, true, true, true, true, true, false, false, false, true] rfl rfl (any_of HT_.out (by kernel_rfl)) (fun _ _ _ h => h) (Or.inl ⟨by rfl, ?_⟩) ?_ ?_
          rotate_left
          ·intro w'
           go_simp
           with_reducible rfl
          rotate_left
          ·simp only [Act.put, List.setIfInBounds_toArray, List.set_cons_zero, List.set_cons_succ, i64_w, i32_w]
           rfl
          refine take_ (i := 9) (N := some 37) (v := ?_) (a' := ?_) #[true, true, true, true, true, true, true, true, true, true, false, false, true] rfl rfl (take_ofW HT_.out HW_.out (by kernel_rfl)) (fun _ _ _ h => h) (Or.inl ⟨by rfl, ?_⟩) hHeld ?_ ?_
          rotate_left
          ·rintro w' ⟨s0, s1, s2, s3, s4, s5, s6, s7, s8, s9⟩
           go_simp
           with_reducible rfl
          rotate_left
          ·simp only [Act.put, List.setIfInBounds_toArray, List.set_cons_zero, List.set_cons_succ, i64_w, i32_w]
           rfl
          refine one_ (i := 10) (N := some 38) #[true, true, true, true, true, true, true, true, true, true, true, false, true] rfl rfl (one_of HT_.out (by kernel_rfl)) (by decide) (fun K hK => ?_)
          refine Kd.R_lit_step k60 _ 60 ?hg (N := 38) ?hd (xs := ([(⟨(rd_T60 l0_1 x25_2).f0, (rd_T60 l0_1 x25_2).f1, (rd_T60 l0_1 x25_2).f2⟩ : S60), (⟨(rd_T60 l0_2 x25_2).f0, (rd_T60 l0_2 x25_2).f1, (rd_T60 l0_2 x25_2).f2⟩ : S60)] : List (S60))) (inner := [.bool ((rd_T60 l0_1 x25_2).f0), .int .i64 ((rd_T60 l0_1 x25_2).f1), .int .i64 ((rd_T60 l0_1 x25_2).f2), .bool ((rd_T60 l0_2 x25_2).f0), .int .i64 ((rd_T60 l0_2 x25_2).f1), .int .i64 ((rd_T60 l0_2 x25_2).f2)]) (ok := fun _ => True) (okp := fun _ => True) ?hr ?hp (fun _ hk => hk) trivial (Below.refl _ _) (Nat.le_refl _) (by simp) ?_; (case hd => rfl); (case hg => rfl); (case hr => first | (go_simp; done) | (go_simp; rfl)); (case hp => exact (Reps.c3 (show Kd.M k60 _ _ _ (⟨(rd_T60 l0_1 x25_2).f0, (rd_T60 l0_1 x25_2).f1, (rd_T60 l0_1 x25_2).f2⟩ : S60) [.bool ((rd_T60 l0_1 x25_2).f0), .int .i64 ((rd_T60 l0_1 x25_2).f1), .int .i64 ((rd_T60 l0_1 x25_2).f2)] from (k60_mkM _ _ _ (⟨(rd_T60 l0_1 x25_2).f0, (rd_T60 l0_1 x25_2).f1, (rd_T60 l0_1 x25_2).f2⟩ : S60) )) (Reps.c3 (show Kd.M k60 _ _ _ (⟨(rd_T60 l0_2 x25_2).f0, (rd_T60 l0_2 x25_2).f1, (rd_T60 l0_2 x25_2).f2⟩ : S60) [.bool ((rd_T60 l0_2 x25_2).f0), .int .i64 ((rd_T60 l0_2 x25_2).f1), .int .i64 ((rd_T60 l0_2 x25_2).f2)] from (k60_mkM _ _ _ (⟨(rd_T60 l0_2 x25_2).f0, (rd_T60 l0_2 x25_2).f1, (rd_T60 l0_2 x25_2).f2⟩ : S60) )) (Reps.none _ _))))
          intro v241 w16 ho17 hb hg_ hnew_
          clear hg_ hnew_
          (first | rw [← Ny240.out] at ho17 | (simp only [Int.reduceToNat] at ho17; rw [← Ny240.out] at ho17))
          have n0_ := Aside0.mk (Kd.R_lower ho17 (Op.a6 (by repeat (first | (with_reducible first | exact HB.out | apply Op.a1 | apply Op.a2 | apply Op.a3 | refine Op.a4 ?_ GE230.out) | exact HB.out))))
          have n1_ := Aside0.mk (Op.b4 (g := gb230) (o := .cells #[.int .i64 a0_0, .slice (some ad238) l0_1.length c0_1, .slice (some ad239) l0_2.length c0_2, .int .i64 a0_3] 27 (0, 0)) (by (with_reducible repeat (first | refine Op.b1 ?_ _ | refine Op.b2 ?_ | refine Op.b3 ?_ _)); exact BK230.out) hb)
          have n2_ := Aside0.mk (Op.a5 (by repeat (first | (with_reducible first | exact HB.out | apply Op.a1 | apply Op.a2 | apply Op.a3 | refine Op.a4 ?_ GE230.out) | exact HB.out)) hb)
          clear BK230
          clear HB
          have HO242 := n0_
          have BK230 := n1_
          have HB := n2_
          clear n0_ n1_ n2_
          clear hb ho17
          obtain ⟨Ao18, co18, eo18⟩ := Kd.R_slice HO242.out
          (first | subst eo18 | (injection eo18 with f1_ f2_ f3_; have f4_ := f1_.symm; have f5_ := f3_.symm; clear f1_ f2_ f3_; subst f4_; subst f5_))
          refine hK.out _ _ ⟨(blk_cell BK230.out 0).trans rfl, (blk_cell BK230.out 1).trans rfl, (blk_cell BK230.out 2).trans rfl, (blk_cell BK230.out 3).trans rfl, ((HB.out.cell (World.block_lt_of_cell? w _ hw238_0)).trans hw238_0), ((HB.out.cell (World.block_lt_of_cell? w _ hw238_1)).trans hw238_1), ((HB.out.cell (World.block_lt_of_cell? w _ hw238_2)).trans hw238_2), ((HB.out.cell (World.block_lt_of_cell? w _ hw239_0)).trans hw239_0), ((HB.out.cell (World.block_lt_of_cell? w _ hw239_1)).trans hw239_1), ((HB.out.cell (World.block_lt_of_cell? w _ hw239_2)).trans hw239_2)⟩ (fun hHeld => ?_)
          clear hK K
          refine norm_ (a' := ?_) ?_ ?_
          rotate_left
          ·show Act.put _ (some 38) _ = _
           simp only [Act.put, List.setIfInBounds_toArray, List.set_cons_zero, List.set_cons_succ, i64_w, i32_w]
           rfl
          refine pure_ (i := 11) (N := some 39) (v := ?_) (a' := ?_) #[true, true, true, true, true, true, true, true, true, true, true, true, true] rfl rfl (any_of HT_.out (by kernel_rfl)) (fun _ _ _ h => h) (Or.inl ⟨by rfl, ?_⟩) ?_ ?_
          rotate_left
          ·intro w'
           go_simp
           with_reducible rfl
          rotate_left
          ·simp only [Act.put, List.setIfInBounds_toArray, List.set_cons_zero, List.set_cons_succ, i64_w, i32_w]
           rfl
          refine done_ (done_of HT_.out (by kernel_rfl)) ?_
          try go_wp2
          go_loopg [40] k2 (fun kq v40 w' => ∃ (x40_3 : Int), v40 = .int .i64 x40_3 ∧ Aside0 (impl_GoodTable.l1 kq x25_2 x25_2 y240 (y240.length : Int) x40_3 a0_0 l0_1 l0_2 a0_3 = some r) ∧ Aside0 (kq ≤ k2) ∧ Aside0 (Kd.R k60 60 w' w.heap.size (fun _ => True) (.slice Ao18 y240.length co18) y240) ∧ Aside0 (w'.heap[gb230]? = some (.cells #[.int .i64 a0_0, (.slice (some ad238) l0_1.length c0_1), (.slice (some ad239) l0_2.length c0_2), .int .i64 a0_3] 27 (0, 0))) ∧ Aside0 (Below w.heap.size w w'))
          case atStart => exact ⟨(0), (by first | rfl | (simp; done) | (simp [*]; done)), H', ⟨Nat.le_refl _⟩, ⟨by (with_reducible repeat (first | apply Kd.R_alloc | apply Kd.R_drewN | apply Kd.R_drew)); exact HO242.out⟩, ⟨by (with_reducible repeat (first | refine Op.b1 ?_ _ | refine Op.b2 ?_ | refine Op.b3 ?_ _)); exact BK230.out⟩, ⟨by repeat (first | (with_reducible first | exact HB.out | apply Op.a1 | apply Op.a2 | apply Op.a3 | refine Op.a4 ?_ GE230.out) | exact HB.out)⟩⟩
          case round =>
           clear H'
           try clear c1
           try clear p2
           try clear q2
           try clear hx2
           try clear c3
           try clear c5
           try clear c6
           try clear c6b0
           try clear c6b1
           try clear c10
           try clear c11
           try clear c11b0
           try clear c12
           try clear c12b0
           try clear c13
           try clear c13b0
           try clear c14
           try clear c14b0
           try clear hcz7_0
           try clear hcz7_1
           try clear hcz7_2
           try clear hcz7_3
           try clear hcz8_0
           try clear hcz8_1
           try clear hcz8_2
           try clear hcz8_3
           try clear hcz9_0
           try clear hcz9_1
           try clear hcz9_2
           try clear hcz9_3
           try clear hfz7_0
           try clear hfz7_1
           try clear hfz7_2
           try clear hfz7_3
           try clear hfz8_0
           try clear hfz8_1
           try clear hfz8_2
           try clear hfz8_3
           try clear hfz9_0
           try clear hfz9_1
           try clear hfz9_2
           try clear hfz9_3
           try clear hx238_0
           try clear hx238_1
           try clear hx238_2
           try clear hx239_0
           try clear hx239_1
           try clear hx239_2
           try clear p2
           try clear p238
           try clear p239
           try clear q238
           try clear q239
           obtain ⟨x40_3, rfl, HA, HK3, HO_38, BK230, HB⟩ := hrel
           cases gk with
           | zero => exact absurd HA.out (by simp [impl_GoodTable.l1])
           | succ k3 =>
            have H := HA.out
            clear HA
            simp only [impl_GoodTable.l1] at H
            by_cases c19 : x40_3 < (y240.length : Int)
            ·rw [if_pos c19] at H
             have c19b0 : decide (x40_3 < (y240.length : Int)) = true := decide_eq_true c19
             clear c19
             by_cases c20 : 0 ≤ x40_3
             ·rw [if_pos c20] at H
              have c20b0 : decide (0 ≤ x40_3) = true := decide_eq_true c20
              clear c20
              by_cases c21 : x40_3 < (y240.length : Int)
              ·rw [if_pos c21] at H
               have c21b0 : decide (x40_3 < (y240.length : Int)) = true := decide_eq_true c21
               clear c21
               obtain ⟨bq22, hbq22⟩ : ∃ b_ : Bool, b_ = ((rd_T60 y240 x40_3).f0) := ⟨_, rfl⟩
               replace H : (if (bq22 = true) then ((impl_isKey.f ((rd_T60 y240 x40_3).f1)).bind fun t245 => (if t245 = true then ((impl_within.f ((rd_T60 y240 x40_3).f2) 0 9999).bind fun t246 => (impl_GoodTable.j3 k3 x25_2 x40_3 x25_2 y240 (y240.length : Int) x40_3 (!t246) a0_0 l0_1 l0_2 a0_3 bq22 ((rd_T60 y240 x40_3).f1) ((rd_T60 y240 x40_3).f2))) else (impl_GoodTable.j3 k3 x25_2 x40_3 x25_2 y240 (y240.length : Int) x40_3 true a0_0 l0_1 l0_2 a0_3 bq22 ((rd_T60 y240 x40_3).f1) ((rd_T60 y240 x40_3).f2)))) else (if ((bq22) || (!(((rd_T60 y240 x40_3).f1) == 0) || (!(((rd_T60 y240 x40_3).f2) == 0)))) = true then (some false) else (impl_GoodTable.l1 k3 x25_2 x25_2 y240 (y240.length : Int) (wrap64 (x40_3 + 1)) a0_0 l0_1 l0_2 a0_3))) = some r := by rw [← hbq22] at H; exact H
               have Nbq22 := Aside0.mk hbq22
               clear hbq22
               by_cases c23 : (bq22 = true)
               ·subst c23
                have H1 : ((impl_isKey.f ((rd_T60 y240 x40_3).f1)).bind fun t245 => (if t245 = true then ((impl_within.f ((rd_T60 y240 x40_3).f2) 0 9999).bind fun t246 => (impl_GoodTable.j3 k3 x25_2 x40_3 x25_2 y240 (y240.length : Int) x40_3 (!t246) a0_0 l0_1 l0_2 a0_3 true ((rd_T60 y240 x40_3).f1) ((rd_T60 y240 x40_3).f2))) else (impl_GoodTable.j3 k3 x25_2 x40_3 x25_2 y240 (y240.length : Int) x40_3 true a0_0 l0_1 l0_2 a0_3 true ((rd_T60 y240 x40_3).f1) ((rd_T60 y240 x40_3).f2)))) = some r := by rw [if_pos rfl] at H; exact H
                clear H
                have H := H1
                clear H1
                have HC24 := Aside0.mk H
                clear H
                have p243 : 0 ≤ (x40_3 : Int) := of_decide_eq_true (by first | (with_reducible assumption) | assumption)
                have q243 : x40_3 < (y240.length : Int) := of_decide_eq_true (by first | (with_reducible assumption) | assumption)
                obtain ⟨ad243, e243, hx243_0, hx243_1, hx243_2⟩ := at_T60 (Kd.R_reads' HO_38.out).2.2 x40_3 p243 q243
                (try rw [← Nbq22.out] at hx243_0)
                cases e243
                replace p243 := eq_true p243
                replace q243 := eq_true q243
                go_upto_region 12 with (first | ((with_reducible refine gate_dst (N := 5) rfl ?_); (try (refine gate_guard (by rfl) ?_; dsimp only)); refine box_event ?hg (N := 5) ?hd (cs := #[.bool false, .int .i64 0, .int .i64 0]) (t := 60) ?hr ?_; (case hd => rfl); (case hg => rfl); (case hr => first | (go_simp; done) | (go_simp; rfl)); intro gb244 hg w25 hbox hb; have n0_ := Aside0.mk (Kd.R_below (Kd.R_elderB (by (with_reducible repeat (first | apply Kd.R_alloc | apply Kd.R_drewN | apply Kd.R_drew)); exact HO_38.out) gb244 (Nat.le_of_eq hg.symm)) hb); have n1_ := Aside0.mk (Op.b4 (g := gb230) (o := .cells #[.int .i64 a0_0, .slice (some ad238) l0_1.length c0_1, .slice (some ad239) l0_2.length c0_2, .int .i64 a0_3] 27 (0, 0)) (by (with_reducible repeat (first | refine Op.b1 ?_ _ | refine Op.b2 ?_ | refine Op.b3 ?_ _)); exact BK230.out) hb); have n2_ := Aside0.mk (Op.a5 (by repeat (first | (with_reducible first | exact HB.out | apply Op.a1 | apply Op.a2 | apply Op.a3 | refine Op.a4 ?_ GE230.out) | exact HB.out)) hb); have n3_ := Aside0.mk (hbox); have n4_ := Aside0.mk ((by rw [hg]; exact (Op.a6 (by repeat (first | (with_reducible first | exact HB.out | apply Op.a1 | apply Op.a2 | apply Op.a3 | refine Op.a4 ?_ GE230.out) | exact HB.out))) : w.heap.size ≤ gb244)); have n5_ := Aside0.mk ((by rw [hg]; exact (Op.a6 (by repeat (first | (with_reducible first | exact HB.out | apply Op.a1 | apply Op.a2 | apply Op.a3 | refine Op.a4 ?_ GE230.out) | exact HB.out))) : w.heap.size ≤ gb244)); have n6_ := Aside0.mk ((by rw [hg]; exact Nat.ne_of_lt (blk_lt (g := gb230) (o := .cells #[.int .i64 a0_0, .slice (some ad238) l0_1.length c0_1, .slice (some ad239) l0_2.length c0_2, .int .i64 a0_3] 27 (0, 0)) (by (with_reducible repeat (first | refine Op.b1 ?_ _ | refine Op.b2 ?_ | refine Op.b3 ?_ _)); exact BK230.out)) : gb230 ≠ gb244)); have n7_ := Aside0.mk ((by rw [hg]; exact Nat.ne_of_gt (blk_lt (g := gb230) (o := .cells #[.int .i64 a0_0, .slice (some ad238) l0_1.length c0_1, .slice (some ad239) l0_2.length c0_2, .int .i64 a0_3] 27 (0, 0)) (by (with_reducible repeat (first | refine Op.b1 ?_ _ | refine Op.b2 ?_ | refine Op.b3 ?_ _)); exact BK230.out)) : gb244 ≠ gb230)); clear HO_38; clear BK230; clear HB; have HO_38 := n0_; have BK230 := n1_; have HB := n2_; have BK244 := n3_; have GW244 := n4_; have GE244 := n5_; have NB230_244 := n6_; have NB244_230 := n7_; clear n0_ n1_ n2_ n3_ n4_ n5_ n6_ n7_; clear hb hbox hg; have hnb26 := NB244_230.out; have hnc26 := NB230_244.out; have hcz27_0 : w25.cell? ⟨gb244, 0, none⟩ = some (.bool false) := (blk_cell BK244.out 0).trans rfl; have hcz27_1 : w25.cell? ⟨gb244, 1, none⟩ = some (.int .i64 0) := (blk_cell BK244.out 1).trans rfl; have hcz27_2 : w25.cell? ⟨gb244, 2, none⟩ = some (.int .i64 0) := (blk_cell BK244.out 2).trans rfl; have hfz27_0 := blk_frozen BK244.out 0; have hfz27_1 := blk_frozen BK244.out 1; have hfz27_2 := blk_frozen BK244.out 2))
                (try simp only [Act.put, List.setIfInBounds_toArray, List.set_cons_zero, List.set_cons_succ])
                go_cut [60] (fun v60 wc => ∃ (kq : Nat) (x60_23 : Bool), v60 = .bool x60_23 ∧ Aside0 (impl_GoodTable.j3 kq x25_2 x40_3 x25_2 y240 (y240.length : Int) x40_3 x60_23 a0_0 l0_1 l0_2 a0_3 true ((rd_T60 y240 x40_3).f1) ((rd_T60 y240 x40_3).f2) = some r) ∧ Aside0 (kq ≤ k3) ∧ Aside0 (Kd.R k60 60 wc w.heap.size (fun k_ => k_ ≠ gb244) (.slice (some ad243) y240.length co18) y240) ∧ Aside0 (wc.heap[gb230]? = some (.cells #[.int .i64 a0_0, (.slice (some ad238) l0_1.length c0_1), (.slice (some ad239) l0_2.length c0_2), .int .i64 a0_3] 27 (0, 0))) ∧ Aside0 (wc.heap[gb244]? = some (.cells #[.bool true, .int .i64 ((rd_T60 y240 x40_3).f1), .int .i64 ((rd_T60 y240 x40_3).f2)] 60 (0, 0))) ∧ Aside0 (Below w.heap.size w wc))
                case first =>
                 have H := HC24.out
                 clear HC24
                 replace H := Option.bind_eq_some_iff.mp H
                 obtain ⟨t245, A280, H⟩ := H
                 replace H : (if t245 = true then ((impl_within.f ((rd_T60 y240 x40_3).f2) 0 9999).bind fun t246 => (impl_GoodTable.j3 k3 x25_2 x40_3 x25_2 y240 (y240.length : Int) x40_3 (!t246) a0_0 l0_1 l0_2 a0_3 true ((rd_T60 y240 x40_3).f1) ((rd_T60 y240 x40_3).f2))) else (impl_GoodTable.j3 k3 x25_2 x40_3 x25_2 y240 (y240.length : Int) x40_3 true a0_0 l0_1 l0_2 a0_3 true ((rd_T60 y240 x40_3).f1) ((rd_T60 y240 x40_3).f2))) = some r := H
                 have A28 := Aside0.mk A280
                 clear A280
                 by_cases c29 : t245 = true
                 ·subst c29
                  have H1 : ((impl_within.f ((rd_T60 y240 x40_3).f2) 0 9999).bind fun t246 => (impl_GoodTable.j3 k3 x25_2 x40_3 x25_2 y240 (y240.length : Int) x40_3 (!t246) a0_0 l0_1 l0_2 a0_3 true ((rd_T60 y240 x40_3).f1) ((rd_T60 y240 x40_3).f2))) = some r := by rw [if_pos rfl] at H; exact H
                  clear H
                  have H := H1
                  clear H1
                  replace H := Option.bind_eq_some_iff.mp H
                  obtain ⟨t246, A300, H⟩ := H
                  replace H : (impl_GoodTable.j3 k3 x25_2 x40_3 x25_2 y240 (y240.length : Int) x40_3 (!t246) a0_0 l0_1 l0_2 a0_3 true ((rd_T60 y240 x40_3).f1) ((rd_T60 y240 x40_3).f2)) = some r := H
                  have A30 := Aside0.mk A300
                  clear A300
                  have H' := Aside0.mk H
                  clear H
                  have hnb31 := NB244_230.out
                  have hnc31 := NB230_244.out
                  have hcz32_0 : w25.cell? ⟨gb244, 0, none⟩ = some (.bool false) := (blk_cell BK244.out 0).trans rfl
                  have hcz32_1 : w25.cell? ⟨gb244, 1, none⟩ = some (.int .i64 0) := (blk_cell BK244.out 1).trans rfl
                  have hcz32_2 : w25.cell? ⟨gb244, 2, none⟩ = some (.int .i64 0) := (blk_cell BK244.out 2).trans rfl
                  have hfz32_0 := blk_frozen BK244.out 0
                  have hfz32_1 := blk_frozen BK244.out 1
                  have hfz32_2 := blk_frozen BK244.out 2
                  go_wp2_with (first | ((with_reducible refine gate_callee (f := 34) rfl ?_); refine goesL_ (some 53) rfl rfl Try.func34 (by kernel_rfl) rfl #[.int .i64 ((rd_T60 y240 x40_3).f1)] rfl (by (try simp only [List.map_toArray, List.map_cons, List.map_nil]); first | done | rfl | (simp only [List.length_drop, List.length_take]; rfl)) ?_; (with_reducible refine (impl_isKey.calls ((rd_T60 y240 x40_3).f1) true _ A28.out).mono ?_); rintro e w' ⟨rfl, ⟨nd, rfl⟩⟩; refine ⟨_, rfl, ?_⟩) | (go_at_call 44; (with_reducible refine (impl_within.calls ((rd_T60 y240 x40_3).f2) 0 9999 t246 _ A30.out).mono ?_); rintro e w' ⟨rfl, ⟨nd, rfl⟩⟩))
                  go_meet
                  case rel => exact ⟨_, (!t246), (by first | rfl | (simp; done) | (simp [*]; done)), H', ⟨by have := HJ1.out; have := HK2.out; have := HK3.out; first | omega | exact Nat.le_refl _⟩, ⟨by (with_reducible repeat (first | apply Kd.R_alloc | apply Kd.R_drewN | apply Kd.R_drew)); exact Kd.R_mono (Kd.R_far (p := ⟨gb244, 2, none⟩) (Kd.R_far (p := ⟨gb244, 1, none⟩) (Kd.R_far (p := ⟨gb244, 0, none⟩) (Kd.R_mono HO_38.out (fun k_ hk => (⟨hk, hk.2⟩ : _ ∧ k_ ≠ gb244))) (fun _ hk => hk.2) (.bool true)) (fun _ hk => hk.2) (.int .i64 ((rd_T60 y240 x40_3).f1))) (fun _ hk => hk.2) (.int .i64 ((rd_T60 y240 x40_3).f2))) (fun _ hk => hk.1.2)⟩, ⟨by (with_reducible repeat (first | refine Op.b1 ?_ _ | refine Op.b2 ?_ | refine Op.b3 ?_ _)); refine blk_far ?_ NB230_244.out _; (with_reducible repeat (first | refine Op.b1 ?_ _ | refine Op.b2 ?_ | refine Op.b3 ?_ _)); refine blk_far ?_ NB230_244.out _; (with_reducible repeat (first | refine Op.b1 ?_ _ | refine Op.b2 ?_ | refine Op.b3 ?_ _)); refine blk_far ?_ NB230_244.out _; (with_reducible repeat (first | refine Op.b1 ?_ _ | refine Op.b2 ?_ | refine Op.b3 ?_ _)); exact BK230.out⟩, ⟨by (with_reducible repeat (first | refine Op.b1 ?_ _ | refine Op.b2 ?_ | refine Op.b3 ?_ _)); refine blk_put (cs := #[.bool true, .int .i64 ((rd_T60 y240 x40_3).f1), .int .i64 0]) ?_ 2 _ rfl; (with_reducible repeat (first | refine Op.b1 ?_ _ | refine Op.b2 ?_ | refine Op.b3 ?_ _)); refine blk_put (cs := #[.bool true, .int .i64 0, .int .i64 0]) ?_ 1 _ rfl; (with_reducible repeat (first | refine Op.b1 ?_ _ | refine Op.b2 ?_ | refine Op.b3 ?_ _)); refine blk_put (cs := #[.bool false, .int .i64 0, .int .i64 0]) ?_ 0 _ rfl; (with_reducible repeat (first | refine Op.b1 ?_ _ | refine Op.b2 ?_ | refine Op.b3 ?_ _)); exact BK244.out⟩, ⟨by repeat (first | (with_reducible first | exact HB.out | apply Op.a1 | apply Op.a2 | apply Op.a3 | refine Op.a4 ?_ GE230.out | refine Op.a4 ?_ GE244.out) | exact HB.out)⟩⟩
                 ·replace c29 := Bool.eq_false_iff.mpr c29
                  subst c29
                  have H1 : (impl_GoodTable.j3 k3 x25_2 x40_3 x25_2 y240 (y240.length : Int) x40_3 true a0_0 l0_1 l0_2 a0_3 true ((rd_T60 y240 x40_3).f1) ((rd_T60 y240 x40_3).f2)) = some r := by rw [if_neg (show ¬ (false = true) by decide)] at H; exact H
                  clear H
                  have H := H1
                  clear H1
                  have H' := Aside0.mk H
                  clear H
                  have hnb33 := NB244_230.out
                  have hnc33 := NB230_244.out
                  have hcz34_0 : w25.cell? ⟨gb244, 0, none⟩ = some (.bool false) := (blk_cell BK244.out 0).trans rfl
                  have hcz34_1 : w25.cell? ⟨gb244, 1, none⟩ = some (.int .i64 0) := (blk_cell BK244.out 1).trans rfl
                  have hcz34_2 : w25.cell? ⟨gb244, 2, none⟩ = some (.int .i64 0) := (blk_cell BK244.out 2).trans rfl
                  have hfz34_0 := blk_frozen BK244.out 0
                  have hfz34_1 := blk_frozen BK244.out 1
                  have hfz34_2 := blk_frozen BK244.out 2
                  go_wp2_with (first | ((with_reducible refine gate_callee (f := 34) rfl ?_); refine goesL_ (some 53) rfl rfl Try.func34 (by kernel_rfl) rfl #[.int .i64 ((rd_T60 y240 x40_3).f1)] rfl (by (try simp only [List.map_toArray, List.map_cons, List.map_nil]); first | done | rfl | (simp only [List.length_drop, List.length_take]; rfl)) ?_; (with_reducible refine (impl_isKey.calls ((rd_T60 y240 x40_3).f1) false _ A28.out).mono ?_); rintro e w' ⟨rfl, ⟨nd, rfl⟩⟩; refine ⟨_, rfl, ?_⟩))
                  go_meet
                  case rel => exact ⟨_, (true), (by first | rfl | (simp; done) | (simp [*]; done)), H', ⟨by have := HJ1.out; have := HK2.out; have := HK3.out; first | omega | exact Nat.le_refl _⟩, ⟨by (with_reducible repeat (first | apply Kd.R_alloc | apply Kd.R_drewN | apply Kd.R_drew)); exact Kd.R_mono (Kd.R_far (p := ⟨gb244, 2, none⟩) (Kd.R_far (p := ⟨gb244, 1, none⟩) (Kd.R_far (p := ⟨gb244, 0, none⟩) (Kd.R_mono HO_38.out (fun k_ hk => (⟨hk, hk.2⟩ : _ ∧ k_ ≠ gb244))) (fun _ hk => hk.2) (.bool true)) (fun _ hk => hk.2) (.int .i64 ((rd_T60 y240 x40_3).f1))) (fun _ hk => hk.2) (.int .i64 ((rd_T60 y240 x40_3).f2))) (fun _ hk => hk.1.2)⟩, ⟨by (with_reducible repeat (first | refine Op.b1 ?_ _ | refine Op.b2 ?_ | refine Op.b3 ?_ _)); refine blk_far ?_ NB230_244.out _; (with_reducible repeat (first | refine Op.b1 ?_ _ | refine Op.b2 ?_ | refine Op.b3 ?_ _)); refine blk_far ?_ NB230_244.out _; (with_reducible repeat (first | refine Op.b1 ?_ _ | refine Op.b2 ?_ | refine Op.b3 ?_ _)); refine blk_far ?_ NB230_244.out _; (with_reducible repeat (first | refine Op.b1 ?_ _ | refine Op.b2 ?_ | refine Op.b3 ?_ _)); exact BK230.out⟩, ⟨by (with_reducible repeat (first | refine Op.b1 ?_ _ | refine Op.b2 ?_ | refine Op.b3 ?_ _)); refine blk_put (cs := #[.bool true, .int .i64 ((rd_T60 y240 x40_3).f1), .int .i64 0]) ?_ 2 _ rfl; (with_reducible repeat (first | refine Op.b1 ?_ _ | refine Op.b2 ?_ | refine Op.b3 ?_ _)); refine blk_put (cs := #[.bool true, .int .i64 0, .int .i64 0]) ?_ 1 _ rfl; (with_reducible repeat (first | refine Op.b1 ?_ _ | refine Op.b2 ?_ | refine Op.b3 ?_ _)); refine blk_put (cs := #[.bool false, .int .i64 0, .int .i64 0]) ?_ 0 _ rfl; (with_reducible repeat (first | refine Op.b1 ?_ _ | refine Op.b2 ?_ | refine Op.b3 ?_ _)); exact BK244.out⟩, ⟨by repeat (first | (with_reducible first | exact HB.out | apply Op.a1 | apply Op.a2 | apply Op.a3 | refine Op.a4 ?_ GE230.out | refine Op.a4 ?_ GE244.out) | exact HB.out)⟩⟩
                case rest =>
                 clear HC24
                 try clear c1
                 try clear c2
                 try clear p2
                 try clear q2
                 try clear hx2
                 try clear c3
                 try clear c5
                 try clear c6
                 try clear c6b0
                 try clear c6b1
                 try clear p6
                 try clear c10
                 try clear c11
                 try clear c11b0
                 try clear c12
                 try clear c12b0
                 try clear c13
                 try clear c13b0
                 try clear c14
                 try clear c14b0
                 try clear c19
                 try clear c19b0
                 try clear c20
                 try clear c20b0
                 try clear c21
                 try clear c21b0
                 try clear q22
                 try clear c23
                 try clear p23
                 try clear q23
                 try clear hx23
                 try clear p24
                 try clear q24
                 try clear hx24
                 try clear c26
                 try clear c29
                 try clear c31
                 try clear c33
                 try clear c34
                 try clear hcz27_0
                 try clear hcz27_1
                 try clear hcz27_2
                 try clear hcz32_0
                 try clear hcz32_1
                 try clear hcz32_2
                 try clear hcz34_0
                 try clear hcz34_1
                 try clear hcz34_2
                 try clear hcz7_0
                 try clear hcz7_1
                 try clear hcz7_2
                 try clear hcz7_3
                 try clear hcz8_0
                 try clear hcz8_1
                 try clear hcz8_2
                 try clear hcz8_3
                 try clear hcz9_0
                 try clear hcz9_1
                 try clear hcz9_2
                 try clear hcz9_3
                 try clear hfz27_0
                 try clear hfz27_1
                 try clear hfz27_2
                 try clear hfz32_0
                 try clear hfz32_1
                 try clear hfz32_2
                 try clear hfz34_0
                 try clear hfz34_1
                 try clear hfz34_2
                 try clear hfz7_0
                 try clear hfz7_1
                 try clear hfz7_2
                 try clear hfz7_3
                 try clear hfz8_0
                 try clear hfz8_1
                 try clear hfz8_2
                 try clear hfz8_3
                 try clear hfz9_0
                 try clear hfz9_1
                 try clear hfz9_2
                 try clear hfz9_3
                 try clear hx238_0
                 try clear hx238_1
                 try clear hx238_2
                 try clear hx239_0
                 try clear hx239_1
                 try clear hx239_2
                 try clear hx243_0
                 try clear hx243_1
                 try clear hx243_2
                 try clear p2
                 try clear p238
                 try clear p239
                 try clear p243
                 try clear q2
                 try clear q238
                 try clear q239
                 try clear q243
                 obtain ⟨kq, x60_23, rfl, HA, HJ23, HO_38, BK230, BK244, HB⟩ := hcut
                 cases kq with
                 | zero => exact absurd HA.out (by simp [impl_GoodTable.j3])
                 | succ kj23 =>
                  have H := HA.out
                  clear HA
                  simp only [impl_GoodTable.j3] at H
                  by_cases c35 : x60_23 = true
                  ·subst c35
                   have H1 : (some false) = some r := by rw [if_pos rfl] at H; exact H
                   clear H
                   have H := H1
                   clear H1
                   obtain rfl := Option.some.inj H
                   go_wp2
                   go_ret
                   exact ⟨by first | rfl | (simp [errW_none, errW_some] <;> rfl) | (simp [*, errW_none, errW_some] <;> rfl), by repeat (first | (with_reducible first | exact HB.out | apply Op.a1 | apply Op.a2 | apply Op.a3 | refine Op.a4 ?_ GE230.out | refine Op.a4 ?_ GE244.out) | exact HB.out)⟩
                  ·replace c35 := Bool.eq_false_iff.mpr c35
                   subst c35
                   have H1 : ((impl_placesOf.f a0_0 ((rd_T60 y240 x40_3).f1)).bind fun bt247 => ((some (([bt247.1, bt247.2] : List Int) : List Int)).bind fun y249 => (if 0 ≤ x40_3 then (if x40_3 < (y249.length : Int) then (if x25_2 = (rd y249 x40_3) then (impl_GoodTable.l1 kj23 x25_2 x25_2 y240 (y240.length : Int) (wrap64 (x40_3 + 1)) a0_0 l0_1 l0_2 a0_3) else (some false)) else (none)) else (none)))) = some r := by rw [if_neg (show ¬ (false = true) by decide)] at H; exact H
                   clear H
                   have H := H1
                   clear H1
                   replace H := Option.bind_eq_some_iff.mp H
                   obtain ⟨⟨t247, t248⟩, A360, H⟩ := H
                   replace H : ((some (([t247, t248] : List Int) : List Int)).bind fun y249 => (if 0 ≤ x40_3 then (if x40_3 < (y249.length : Int) then (if x25_2 = (rd y249 x40_3) then (impl_GoodTable.l1 kj23 x25_2 x25_2 y240 (y240.length : Int) (wrap64 (x40_3 + 1)) a0_0 l0_1 l0_2 a0_3) else (some false)) else (none)) else (none))) = some r := H
                   have A36 := Aside0.mk A360
                   clear A360
                   obtain ⟨y249, hy249⟩ : ∃ y_ : List Int, y_ = (([t247, t248] : List Int)) := ⟨_, rfl⟩
                   replace H : (if 0 ≤ x40_3 then (if x40_3 < (y249.length : Int) then (if x25_2 = (rd y249 x40_3) then (impl_GoodTable.l1 kj23 x25_2 x25_2 y240 (y240.length : Int) (wrap64 (x40_3 + 1)) a0_0 l0_1 l0_2 a0_3) else (some false)) else (none)) else (none)) = some r := by first | (rw [hy249]; with_reducible exact H) | (have H2_ := (Option.bind_some _ _).symm.trans H; rw [hy249]; with_reducible exact H2_) | (have H2_ := (Option.bind_some _ _).symm.trans H; with_reducible exact H2_) | with_reducible exact H | (rw [hy249]; exact H) | exact H
                   have Ny249 := Aside0.mk hy249
                   clear hy249
                   by_cases c37 : 0 ≤ x40_3
                   ·rw [if_pos c37] at H
                    have c37b0 : decide (0 ≤ x40_3) = true := decide_eq_true c37
                    clear c37
                    by_cases c38 : x40_3 < (y249.length : Int)
                    ·rw [if_pos c38] at H
                     have c38b0 : decide (x40_3 < (y249.length : Int)) = true := decide_eq_true c38
                     clear c38
                     by_cases c39 : x25_2 = (rd y249 x40_3)
                     ·rw [if_pos c39] at H
                      have c39b0 : (x25_2 == (rd y249 x40_3)) = true := beq_iff_eq.mpr c39
                      have c39b1 : (x25_2 != (rd y249 x40_3)) = false := bne_eq_false_iff_eq.mpr c39
                      clear c39
                      have H' := Aside0.mk H
                      clear H
                      have hnb40 := NB230_244.out
                      have hnc40 := NB244_230.out
                      have hcz41_0 : wc.cell? ⟨gb230, 0, none⟩ = some (.int .i64 a0_0) := (blk_cell BK230.out 0).trans rfl
                      have hcz41_1 : wc.cell? ⟨gb230, 1, none⟩ = some (.slice (some ad238) l0_1.length c0_1) := (blk_cell BK230.out 1).trans rfl
                      have hcz41_2 : wc.cell? ⟨gb230, 2, none⟩ = some (.slice (some ad239) l0_2.length c0_2) := (blk_cell BK230.out 2).trans rfl
                      have hcz41_3 : wc.cell? ⟨gb230, 3, none⟩ = some (.int .i64 a0_3) := (blk_cell BK230.out 3).trans rfl
                      have hfz41_0 := blk_frozen BK230.out 0
                      have hfz41_1 := blk_frozen BK230.out 1
                      have hfz41_2 := blk_frozen BK230.out 2
                      have hfz41_3 := blk_frozen BK230.out 3
                      have hcz42_0 : wc.cell? ⟨gb244, 0, none⟩ = some (.bool true) := (blk_cell BK244.out 0).trans rfl
                      have hcz42_1 : wc.cell? ⟨gb244, 1, none⟩ = some (.int .i64 ((rd_T60 y240 x40_3).f1)) := (blk_cell BK244.out 1).trans rfl
                      have hcz42_2 : wc.cell? ⟨gb244, 2, none⟩ = some (.int .i64 ((rd_T60 y240 x40_3).f2)) := (blk_cell BK244.out 2).trans rfl
                      have hfz42_0 := blk_frozen BK244.out 0
                      have hfz42_1 := blk_frozen BK244.out 1
                      have hfz42_2 := blk_frozen BK244.out 2
                      go_wp2_with (first | ((with_reducible refine gate_callee (f := 35) rfl ?_); refine goesL_ (some 66) rfl rfl Try.func35 (by kernel_rfl) rfl #[.int .i64 a0_0, .int .i64 ((rd_T60 y240 x40_3).f1)] rfl (by (try simp only [List.map_toArray, List.map_cons, List.map_nil]); first | done | rfl | (simp only [List.length_drop, List.length_take]; rfl)) ?_; (with_reducible refine (impl_placesOf.calls a0_0 ((rd_T60 y240 x40_3).f1) t247 t248 _ A36.out).mono ?_); rintro e w' ⟨rfl, ⟨nd, rfl⟩⟩; refine ⟨_, rfl, ?_⟩) | ((with_reducible refine gate_dst (N := 72) rfl ?_); (try (refine gate_guard (by rfl) ?_; dsimp only)); refine Kd.R_lit (Kd.int .i64) _ 3 ?hg (N := 72) ?hd (xs := ([t247, t248] : List Int)) (inner := [.int .i64 t247, .int .i64 t248]) (ok := fun _ => True) (okp := fun _ => True) ?hr ?hp (fun _ hk => hk) trivial (Below.refl _ _) (Nat.le_refl _) (by simp) ?_; (case hd => rfl); (case hg => rfl); (case hr => first | (go_simp; done) | (go_simp; rfl)); (case hp => exact (Reps.one (show Kd.M (Kd.int .i64) _ _ _ t247 [.int .i64 t247] from rfl) (Reps.one (show Kd.M (Kd.int .i64) _ _ _ t248 [.int .i64 t248] from rfl) (Reps.none _ _)))); intro v250 w43 ho44 hb hg_ hnew_; clear hg_ hnew_; (first | rw [← Ny249.out] at ho44 | (simp only [Int.reduceToNat] at ho44; rw [← Ny249.out] at ho44)); have n0_ := Aside0.mk (Kd.R_below (by (with_reducible repeat (first | apply Kd.R_alloc | apply Kd.R_drewN | apply Kd.R_drew)); exact HO_38.out) hb); have n1_ := Aside0.mk (Kd.R_lower ho44 (Op.a6 (by repeat (first | (with_reducible first | exact HB.out | apply Op.a1 | apply Op.a2 | apply Op.a3 | refine Op.a4 ?_ GE230.out | refine Op.a4 ?_ GE244.out) | exact HB.out)))); have n2_ := Aside0.mk (Op.b4 (g := gb230) (o := .cells #[.int .i64 a0_0, .slice (some ad238) l0_1.length c0_1, .slice (some ad239) l0_2.length c0_2, .int .i64 a0_3] 27 (0, 0)) (by (with_reducible repeat (first | refine Op.b1 ?_ _ | refine Op.b2 ?_ | refine Op.b3 ?_ _)); exact BK230.out) hb); have n3_ := Aside0.mk (Op.b4 (g := gb244) (o := .cells #[.bool true, .int .i64 ((rd_T60 y240 x40_3).f1), .int .i64 ((rd_T60 y240 x40_3).f2)] 60 (0, 0)) (by (with_reducible repeat (first | refine Op.b1 ?_ _ | refine Op.b2 ?_ | refine Op.b3 ?_ _)); exact BK244.out) hb); have n4_ := Aside0.mk (Op.a5 (by repeat (first | (with_reducible first | exact HB.out | apply Op.a1 | apply Op.a2 | apply Op.a3 | refine Op.a4 ?_ GE230.out | refine Op.a4 ?_ GE244.out) | exact HB.out)) hb); clear HO_38; clear BK230; clear BK244; clear HB; have HO_38 := n0_; have HO251 := n1_; have BK230 := n2_; have BK244 := n3_; have HB := n4_; clear n0_ n1_ n2_ n3_ n4_; clear hb ho44; obtain ⟨Ao45, co45, eo45⟩ := Kd.R_slice HO251.out; subst eo45; have p252 : 0 ≤ (x40_3 : Int) := of_decide_eq_true (by first | (with_reducible assumption) | assumption); have q252 : x40_3 < (y249.length : Int) := of_decide_eq_true (by first | (with_reducible assumption) | assumption); obtain ⟨ad252, e252, hx252_0⟩ := Kd.at_int (Kd.R_reads' HO251.out).2.2 x40_3 p252 q252; cases e252; replace p252 := eq_true p252; replace q252 := eq_true q252))
                      go_roundg kj23
                      case measure => have := HJ1.out; have := HK2.out; have := HK3.out; have := HJ23.out; omega
                      case rel => exact ⟨(wrap64 (x40_3 + 1)), (by first | rfl | (simp; done) | (simp [*]; done)), H', ⟨by have := HJ1.out; have := HK2.out; have := HK3.out; have := HJ23.out; omega⟩, ⟨by (with_reducible repeat (first | apply Kd.R_alloc | apply Kd.R_drewN | apply Kd.R_drew)); exact Kd.R_mono HO_38.out (fun _ hk => trivial)⟩, ⟨by (with_reducible repeat (first | refine Op.b1 ?_ _ | refine Op.b2 ?_ | refine Op.b3 ?_ _)); exact BK230.out⟩, ⟨by repeat (first | (with_reducible first | exact HB.out | apply Op.a1 | apply Op.a2 | apply Op.a3 | refine Op.a4 ?_ GE230.out | refine Op.a4 ?_ GE244.out) | exact HB.out)⟩⟩
                     ·rw [if_neg c39] at H
                      have c39b0 : (x25_2 == (rd y249 x40_3)) = false := beq_eq_false_iff_ne.mpr c39
                      have c39b1 : (x25_2 != (rd y249 x40_3)) = true := bne_iff_ne.mpr c39
                      obtain rfl := Option.some.inj H
                      have hnb46 := NB230_244.out
                      have hnc46 := NB244_230.out
                      have hcz47_0 : wc.cell? ⟨gb230, 0, none⟩ = some (.int .i64 a0_0) := (blk_cell BK230.out 0).trans rfl
                      have hcz47_1 : wc.cell? ⟨gb230, 1, none⟩ = some (.slice (some ad238) l0_1.length c0_1) := (blk_cell BK230.out 1).trans rfl
                      have hcz47_2 : wc.cell? ⟨gb230, 2, none⟩ = some (.slice (some ad239) l0_2.length c0_2) := (blk_cell BK230.out 2).trans rfl
                      have hcz47_3 : wc.cell? ⟨gb230, 3, none⟩ = some (.int .i64 a0_3) := (blk_cell BK230.out 3).trans rfl
                      have hfz47_0 := blk_frozen BK230.out 0
                      have hfz47_1 := blk_frozen BK230.out 1
                      have hfz47_2 := blk_frozen BK230.out 2
                      have hfz47_3 := blk_frozen BK230.out 3
                      have hcz48_0 : wc.cell? ⟨gb244, 0, none⟩ = some (.bool true) := (blk_cell BK244.out 0).trans rfl
                      have hcz48_1 : wc.cell? ⟨gb244, 1, none⟩ = some (.int .i64 ((rd_T60 y240 x40_3).f1)) := (blk_cell BK244.out 1).trans rfl
                      have hcz48_2 : wc.cell? ⟨gb244, 2, none⟩ = some (.int .i64 ((rd_T60 y240 x40_3).f2)) := (blk_cell BK244.out 2).trans rfl
                      have hfz48_0 := blk_frozen BK244.out 0
                      have hfz48_1 := blk_frozen BK244.out 1
                      have hfz48_2 := blk_frozen BK244.out 2
                      go_wp2_with (first | ((with_reducible refine gate_callee (f := 35) rfl ?_); refine goesL_ (some 66) rfl rfl Try.func35 (by kernel_rfl) rfl #[.int .i64 a0_0, .int .i64 ((rd_T60 y240 x40_3).f1)] rfl (by (try simp only [List.map_toArray, List.map_cons, List.map_nil]); first | done | rfl | (simp only [List.length_drop, List.length_take]; rfl)) ?_; (with_reducible refine (impl_placesOf.calls a0_0 ((rd_T60 y240 x40_3).f1) t247 t248 _ A36.out).mono ?_); rintro e w' ⟨rfl, ⟨nd, rfl⟩⟩; refine ⟨_, rfl, ?_⟩) | ((with_reducible refine gate_dst (N := 72) rfl ?_); (try (refine gate_guard (by rfl) ?_; dsimp only)); refine Kd.R_lit (Kd.int .i64) _ 3 ?hg (N := 72) ?hd (xs := ([t247, t248] : List Int)) (inner := [.int .i64 t247, .int .i64 t248]) (ok := fun _ => True) (okp := fun _ => True) ?hr ?hp (fun _ hk => hk) trivial (Below.refl _ _) (Nat.le_refl _) (by simp) ?_; (case hd => rfl); (case hg => rfl); (case hr => first | (go_simp; done) | (go_simp; rfl)); (case hp => exact (Reps.one (show Kd.M (Kd.int .i64) _ _ _ t247 [.int .i64 t247] from rfl) (Reps.one (show Kd.M (Kd.int .i64) _ _ _ t248 [.int .i64 t248] from rfl) (Reps.none _ _)))); intro v250 w49 ho50 hb hg_ hnew_; clear hg_ hnew_; (first | rw [← Ny249.out] at ho50 | (simp only [Int.reduceToNat] at ho50; rw [← Ny249.out] at ho50)); have n0_ := Aside0.mk (Kd.R_below (by (with_reducible repeat (first | apply Kd.R_alloc | apply Kd.R_drewN | apply Kd.R_drew)); exact HO_38.out) hb); have n1_ := Aside0.mk (Kd.R_lower ho50 (Op.a6 (by repeat (first | (with_reducible first | exact HB.out | apply Op.a1 | apply Op.a2 | apply Op.a3 | refine Op.a4 ?_ GE230.out | refine Op.a4 ?_ GE244.out) | exact HB.out)))); have n2_ := Aside0.mk (Op.b4 (g := gb230) (o := .cells #[.int .i64 a0_0, .slice (some ad238) l0_1.length c0_1, .slice (some ad239) l0_2.length c0_2, .int .i64 a0_3] 27 (0, 0)) (by (with_reducible repeat (first | refine Op.b1 ?_ _ | refine Op.b2 ?_ | refine Op.b3 ?_ _)); exact BK230.out) hb); have n3_ := Aside0.mk (Op.b4 (g := gb244) (o := .cells #[.bool true, .int .i64 ((rd_T60 y240 x40_3).f1), .int .i64 ((rd_T60 y240 x40_3).f2)] 60 (0, 0)) (by (with_reducible repeat (first | refine Op.b1 ?_ _ | refine Op.b2 ?_ | refine Op.b3 ?_ _)); exact BK244.out) hb); have n4_ := Aside0.mk (Op.a5 (by repeat (first | (with_reducible first | exact HB.out | apply Op.a1 | apply Op.a2 | apply Op.a3 | refine Op.a4 ?_ GE230.out | refine Op.a4 ?_ GE244.out) | exact HB.out)) hb); clear HO_38; clear BK230; clear BK244; clear HB; have HO_38 := n0_; have HO251 := n1_; have BK230 := n2_; have BK244 := n3_; have HB := n4_; clear n0_ n1_ n2_ n3_ n4_; clear hb ho50; obtain ⟨Ao51, co51, eo51⟩ := Kd.R_slice HO251.out; subst eo51; have p252 : 0 ≤ (x40_3 : Int) := of_decide_eq_true (by first | (with_reducible assumption) | assumption); have q252 : x40_3 < (y249.length : Int) := of_decide_eq_true (by first | (with_reducible assumption) | assumption); obtain ⟨ad252, e252, hx252_0⟩ := Kd.at_int (Kd.R_reads' HO251.out).2.2 x40_3 p252 q252; cases e252; replace p252 := eq_true p252; replace q252 := eq_true q252))
                      go_ret
                      exact ⟨by first | rfl | (simp [errW_none, errW_some] <;> rfl) | (simp [*, errW_none, errW_some] <;> rfl), by repeat (first | (with_reducible first | exact HB.out | apply Op.a1 | apply Op.a2 | apply Op.a3 | refine Op.a4 ?_ GE230.out | refine Op.a4 ?_ GE244.out) | exact HB.out)⟩
                    ·rw [if_neg c38] at H
                     exact absurd H (by simp)
                   ·rw [if_neg c37] at H
                    exact absurd H (by simp)
               ·replace c23 := Bool.eq_false_iff.mpr c23
                subst c23
                have H1 : (if ((false) || (!(((rd_T60 y240 x40_3).f1) == 0) || (!(((rd_T60 y240 x40_3).f2) == 0)))) = true then (some false) else (impl_GoodTable.l1 k3 x25_2 x25_2 y240 (y240.length : Int) (wrap64 (x40_3 + 1)) a0_0 l0_1 l0_2 a0_3)) = some r := by rw [if_neg (show ¬ (false = true) by decide)] at H; exact H
                clear H
                have H := H1
                clear H1
                by_cases c52 : ((false) || (!(((rd_T60 y240 x40_3).f1) == 0) || (!(((rd_T60 y240 x40_3).f2) == 0)))) = true
                ·rw [if_pos c52] at H
                 have c52b0 : ((false) || (!(((rd_T60 y240 x40_3).f1) == 0) || (!(((rd_T60 y240 x40_3).f2) == 0)))) = true := c52
                 have c52b1 : ¬ ((!(((rd_T60 y240 x40_3).f1) == 0)) = false ∧ (!(((rd_T60 y240 x40_3).f2) == 0)) = false) := by revert c52b0; cases (((rd_T60 y240 x40_3).f1) == 0) <;> cases (((rd_T60 y240 x40_3).f2) == 0) <;> simp
                 clear c52
                 obtain rfl := Option.some.inj H
                 have p243 : 0 ≤ (x40_3 : Int) := of_decide_eq_true (by first | (with_reducible assumption) | assumption)
                 have q243 : x40_3 < (y240.length : Int) := of_decide_eq_true (by first | (with_reducible assumption) | assumption)
                 obtain ⟨ad243, e243, hx243_0, hx243_1, hx243_2⟩ := at_T60 (Kd.R_reads' HO_38.out).2.2 x40_3 p243 q243
                 (try rw [← Nbq22.out] at hx243_0)
                 cases e243
                 replace p243 := eq_true p243
                 replace q243 := eq_true q243
                 go_wp2_with (first | ((with_reducible refine gate_dst (N := 5) rfl ?_); (try (refine gate_guard (by rfl) ?_; dsimp only)); refine box_event ?hg (N := 5) ?hd (cs := #[.bool false, .int .i64 0, .int .i64 0]) (t := 60) ?hr ?_; (case hd => rfl); (case hg => rfl); (case hr => first | (go_simp; done) | (go_simp; rfl)); intro gb244 hg w53 hbox hb; have n0_ := Aside0.mk (Kd.R_below (Kd.R_elderB (by (with_reducible repeat (first | apply Kd.R_alloc | apply Kd.R_drewN | apply Kd.R_drew)); exact HO_38.out) gb244 (Nat.le_of_eq hg.symm)) hb); have n1_ := Aside0.mk (Op.b4 (g := gb230) (o := .cells #[.int .i64 a0_0, .slice (some ad238) l0_1.length c0_1, .slice (some ad239) l0_2.length c0_2, .int .i64 a0_3] 27 (0, 0)) (by (with_reducible repeat (first | refine Op.b1 ?_ _ | refine Op.b2 ?_ | refine Op.b3 ?_ _)); exact BK230.out) hb); have n2_ := Aside0.mk (Op.a5 (by repeat (first | (with_reducible first | exact HB.out | apply Op.a1 | apply Op.a2 | apply Op.a3 | refine Op.a4 ?_ GE230.out) | exact HB.out)) hb); have n3_ := Aside0.mk (hbox); have n4_ := Aside0.mk ((by rw [hg]; exact (Op.a6 (by repeat (first | (with_reducible first | exact HB.out | apply Op.a1 | apply Op.a2 | apply Op.a3 | refine Op.a4 ?_ GE230.out) | exact HB.out))) : w.heap.size ≤ gb244)); have n5_ := Aside0.mk ((by rw [hg]; exact (Op.a6 (by repeat (first | (with_reducible first | exact HB.out | apply Op.a1 | apply Op.a2 | apply Op.a3 | refine Op.a4 ?_ GE230.out) | exact HB.out))) : w.heap.size ≤ gb244)); have n6_ := Aside0.mk ((by rw [hg]; exact Nat.ne_of_lt (blk_lt (g := gb230) (o := .cells #[.int .i64 a0_0, .slice (some ad238) l0_1.length c0_1, .slice (some ad239) l0_2.length c0_2, .int .i64 a0_3] 27 (0, 0)) (by (with_reducible repeat (first | refine Op.b1 ?_ _ | refine Op.b2 ?_ | refine Op.b3 ?_ _)); exact BK230.out)) : gb230 ≠ gb244)); have n7_ := Aside0.mk ((by rw [hg]; exact Nat.ne_of_gt (blk_lt (g := gb230) (o := .cells #[.int .i64 a0_0, .slice (some ad238) l0_1.length c0_1, .slice (some ad239) l0_2.length c0_2, .int .i64 a0_3] 27 (0, 0)) (by (with_reducible repeat (first | refine Op.b1 ?_ _ | refine Op.b2 ?_ | refine Op.b3 ?_ _)); exact BK230.out)) : gb244 ≠ gb230)); clear HO_38; clear BK230; clear HB; have HO_38 := n0_; have BK230 := n1_; have HB := n2_; have BK244 := n3_; have GW244 := n4_; have GE244 := n5_; have NB230_244 := n6_; have NB244_230 := n7_; clear n0_ n1_ n2_ n3_ n4_ n5_ n6_ n7_; clear hb hbox hg; have hnb54 := NB244_230.out; have hnc54 := NB230_244.out; have hcz55_0 : w53.cell? ⟨gb244, 0, none⟩ = some (.bool false) := (blk_cell BK244.out 0).trans rfl; have hcz55_1 : w53.cell? ⟨gb244, 1, none⟩ = some (.int .i64 0) := (blk_cell BK244.out 1).trans rfl; have hcz55_2 : w53.cell? ⟨gb244, 2, none⟩ = some (.int .i64 0) := (blk_cell BK244.out 2).trans rfl; have hfz55_0 := blk_frozen BK244.out 0; have hfz55_1 := blk_frozen BK244.out 1; have hfz55_2 := blk_frozen BK244.out 2))
                 try any_goals (exact absurd (show ((!(((rd_T60 y240 x40_3).f1) == 0)) = false ∧ (!(((rd_T60 y240 x40_3).f2) == 0)) = false) from by assumption) c52b1)
                 go_ret
                 exact ⟨by first | rfl | (simp [errW_none, errW_some] <;> rfl) | (simp [*, errW_none, errW_some] <;> rfl), by repeat (first | (with_reducible first | exact HB.out | apply Op.a1 | apply Op.a2 | apply Op.a3 | refine Op.a4 ?_ GE230.out | refine Op.a4 ?_ GE244.out) | exact HB.out)⟩
                ·rw [if_neg c52] at H
                 have c52b0 : ((false) || (!(((rd_T60 y240 x40_3).f1) == 0) || (!(((rd_T60 y240 x40_3).f2) == 0)))) = false := by simpa using c52
                 have c52b1 : ¬ ((!(((rd_T60 y240 x40_3).f1) == 0)) = true ∨ (!(((rd_T60 y240 x40_3).f2) == 0)) = true) := by revert c52b0; cases (((rd_T60 y240 x40_3).f1) == 0) <;> cases (((rd_T60 y240 x40_3).f2) == 0) <;> simp
                 clear c52
                 have H' := Aside0.mk H
                 clear H
                 have p243 : 0 ≤ (x40_3 : Int) := of_decide_eq_true (by first | (with_reducible assumption) | assumption)
                 have q243 : x40_3 < (y240.length : Int) := of_decide_eq_true (by first | (with_reducible assumption) | assumption)
                 obtain ⟨ad243, e243, hx243_0, hx243_1, hx243_2⟩ := at_T60 (Kd.R_reads' HO_38.out).2.2 x40_3 p243 q243
                 (try rw [← Nbq22.out] at hx243_0)
                 cases e243
                 replace p243 := eq_true p243
                 replace q243 := eq_true q243
                 go_wp2_with (first | ((with_reducible refine gate_dst (N := 5) rfl ?_); (try (refine gate_guard (by rfl) ?_; dsimp only)); refine box_event ?hg (N := 5) ?hd (cs := #[.bool false, .int .i64 0, .int .i64 0]) (t := 60) ?hr ?_; (case hd => rfl); (case hg => rfl); (case hr => first | (go_simp; done) | (go_simp; rfl)); intro gb244 hg w56 hbox hb; have n0_ := Aside0.mk (Kd.R_below (Kd.R_elderB (by (with_reducible repeat (first | apply Kd.R_alloc | apply Kd.R_drewN | apply Kd.R_drew)); exact HO_38.out) gb244 (Nat.le_of_eq hg.symm)) hb); have n1_ := Aside0.mk (Op.b4 (g := gb230) (o := .cells #[.int .i64 a0_0, .slice (some ad238) l0_1.length c0_1, .slice (some ad239) l0_2.length c0_2, .int .i64 a0_3] 27 (0, 0)) (by (with_reducible repeat (first | refine Op.b1 ?_ _ | refine Op.b2 ?_ | refine Op.b3 ?_ _)); exact BK230.out) hb); have n2_ := Aside0.mk (Op.a5 (by repeat (first | (with_reducible first | exact HB.out | apply Op.a1 | apply Op.a2 | apply Op.a3 | refine Op.a4 ?_ GE230.out) | exact HB.out)) hb); have n3_ := Aside0.mk (hbox); have n4_ := Aside0.mk ((by rw [hg]; exact (Op.a6 (by repeat (first | (with_reducible first | exact HB.out | apply Op.a1 | apply Op.a2 | apply Op.a3 | refine Op.a4 ?_ GE230.out) | exact HB.out))) : w.heap.size ≤ gb244)); have n5_ := Aside0.mk ((by rw [hg]; exact (Op.a6 (by repeat (first | (with_reducible first | exact HB.out | apply Op.a1 | apply Op.a2 | apply Op.a3 | refine Op.a4 ?_ GE230.out) | exact HB.out))) : w.heap.size ≤ gb244)); have n6_ := Aside0.mk ((by rw [hg]; exact Nat.ne_of_lt (blk_lt (g := gb230) (o := .cells #[.int .i64 a0_0, .slice (some ad238) l0_1.length c0_1, .slice (some ad239) l0_2.length c0_2, .int .i64 a0_3] 27 (0, 0)) (by (with_reducible repeat (first | refine Op.b1 ?_ _ | refine Op.b2 ?_ | refine Op.b3 ?_ _)); exact BK230.out)) : gb230 ≠ gb244)); have n7_ := Aside0.mk ((by rw [hg]; exact Nat.ne_of_gt (blk_lt (g := gb230) (o := .cells #[.int .i64 a0_0, .slice (some ad238) l0_1.length c0_1, .slice (some ad239) l0_2.length c0_2, .int .i64 a0_3] 27 (0, 0)) (by (with_reducible repeat (first | refine Op.b1 ?_ _ | refine Op.b2 ?_ | refine Op.b3 ?_ _)); exact BK230.out)) : gb244 ≠ gb230)); clear HO_38; clear BK230; clear HB; have HO_38 := n0_; have BK230 := n1_; have HB := n2_; have BK244 := n3_; have GW244 := n4_; have GE244 := n5_; have NB230_244 := n6_; have NB244_230 := n7_; clear n0_ n1_ n2_ n3_ n4_ n5_ n6_ n7_; clear hb hbox hg; have hnb57 := NB244_230.out; have hnc57 := NB230_244.out; have hcz58_0 : w56.cell? ⟨gb244, 0, none⟩ = some (.bool false) := (blk_cell BK244.out 0).trans rfl; have hcz58_1 : w56.cell? ⟨gb244, 1, none⟩ = some (.int .i64 0) := (blk_cell BK244.out 1).trans rfl; have hcz58_2 : w56.cell? ⟨gb244, 2, none⟩ = some (.int .i64 0) := (blk_cell BK244.out 2).trans rfl; have hfz58_0 := blk_frozen BK244.out 0; have hfz58_1 := blk_frozen BK244.out 1; have hfz58_2 := blk_frozen BK244.out 2))
                 try any_goals (exact absurd (show ((!(((rd_T60 y240 x40_3).f1) == 0)) = true ∨ (!(((rd_T60 y240 x40_3).f2) == 0)) = true) from by assumption) c52b1)
                 go_roundg k3
                 case measure => have := HJ1.out; have := HK2.out; have := HK3.out; omega
                 case rel => exact ⟨(wrap64 (x40_3 + 1)), (by first | rfl | (simp; done) | (simp [*]; done)), H', ⟨by have := HJ1.out; have := HK2.out; have := HK3.out; omega⟩, ⟨by (with_reducible repeat (first | apply Kd.R_alloc | apply Kd.R_drewN | apply Kd.R_drew)); exact Kd.R_mono (Kd.R_far (p := ⟨gb244, 2, none⟩) (Kd.R_far (p := ⟨gb244, 1, none⟩) (Kd.R_far (p := ⟨gb244, 0, none⟩) (Kd.R_mono HO_38.out (fun k_ hk => (⟨hk, hk.2⟩ : _ ∧ k_ ≠ gb244))) (fun _ hk => hk.2) (.bool false)) (fun _ hk => hk.2) (.int .i64 ((rd_T60 y240 x40_3).f1))) (fun _ hk => hk.2) (.int .i64 ((rd_T60 y240 x40_3).f2))) (fun _ hk => trivial)⟩, ⟨by (with_reducible repeat (first | refine Op.b1 ?_ _ | refine Op.b2 ?_ | refine Op.b3 ?_ _)); refine blk_far ?_ NB230_244.out _; (with_reducible repeat (first | refine Op.b1 ?_ _ | refine Op.b2 ?_ | refine Op.b3 ?_ _)); refine blk_far ?_ NB230_244.out _; (with_reducible repeat (first | refine Op.b1 ?_ _ | refine Op.b2 ?_ | refine Op.b3 ?_ _)); refine blk_far ?_ NB230_244.out _; (with_reducible repeat (first | refine Op.b1 ?_ _ | refine Op.b2 ?_ | refine Op.b3 ?_ _)); exact BK230.out⟩, ⟨by repeat (first | (with_reducible first | exact HB.out | apply Op.a1 | apply Op.a2 | apply Op.a3 | refine Op.a4 ?_ GE230.out | refine Op.a4 ?_ GE244.out) | exact HB.out)⟩⟩
              ·rw [if_neg c21] at H
               exact absurd H (by simp)
             ·rw [if_neg c20] at H
              exact absurd H (by simp)
            ·rw [if_neg c19] at H
             have c19b0 : decide (x40_3 < (y240.length : Int)) = false := decide_eq_false c19
             clear c19
             have H' := Aside0.mk H
             clear H
             go_wp2
             go_roundg k3
             case measure => have := HJ1.out; have := HK2.out; have := HK3.out; omega
             case rel => exact ⟨(wrap64 (x25_2 + 1)), (by first | rfl | (simp; done) | (simp [*]; done)), H', ⟨by have := HJ1.out; have := HK2.out; have := HK3.out; omega⟩, ⟨by (with_reducible repeat (first | refine Op.b1 ?_ _ | refine Op.b2 ?_ | refine Op.b3 ?_ _)); exact BK230.out⟩, ⟨by repeat (first | (with_reducible first | exact HB.out | apply Op.a1 | apply Op.a2 | apply Op.a3 | refine Op.a4 ?_ GE230.out) | exact HB.out)⟩⟩
         ·rw [if_neg c14] at H
          exact absurd H (by simp)
        ·rw [if_neg c13] at H
         exact absurd H (by simp)
       ·rw [if_neg c12] at H
        exact absurd H (by simp)
      ·rw [if_neg c11] at H
       have c11b0 : decide (x25_2 < 11) = false := decide_eq_false c11
       clear c11
       replace H := Option.bind_eq_some_iff.mp H
       obtain ⟨t232, A590, H⟩ := H
       replace H : (if a0_3 = (t232.length : Int) then ((slices_Compact_int_int.f t232).bind fun t235 => (some ((t235.length : Int) == a0_3))) else (some false)) = some r := H
       have A59 := Aside0.mk A590
       clear A590
       by_cases c60 : a0_3 = (t232.length : Int)
       ·rw [if_pos c60] at H
        have c60b0 : (a0_3 == (t232.length : Int)) = true := beq_iff_eq.mpr c60
        have c60b1 : (a0_3 != (t232.length : Int)) = false := bne_eq_false_iff_eq.mpr c60
        clear c60
        replace H := Option.bind_eq_some_iff.mp H
        obtain ⟨t235, A610, H⟩ := H
        replace H : (some ((t235.length : Int) == a0_3)) = some r := H
        have A61 := Aside0.mk A610
        clear A610
        obtain rfl := Option.some.inj H
        have hcz62_0 : wr.cell? ⟨gb230, 0, none⟩ = some (.int .i64 a0_0) := (blk_cell BK230.out 0).trans rfl
        have hcz62_1 : wr.cell? ⟨gb230, 1, none⟩ = some (.slice A0_1 l0_1.length c0_1) := (blk_cell BK230.out 1).trans rfl
        have hcz62_2 : wr.cell? ⟨gb230, 2, none⟩ = some (.slice A0_2 l0_2.length c0_2) := (blk_cell BK230.out 2).trans rfl
        have hcz62_3 : wr.cell? ⟨gb230, 3, none⟩ = some (.int .i64 a0_3) := (blk_cell BK230.out 3).trans rfl
        have hfz62_0 := blk_frozen BK230.out 0
        have hfz62_1 := blk_frozen BK230.out 1
        have hfz62_2 := blk_frozen BK230.out 2
        have hfz62_3 := blk_frozen BK230.out 3
        try go_wp2_with (first | ((with_reducible refine gate_callee (f := 45) rfl ?_); refine goesL_ (some 80) rfl rfl Try.func45 (by kernel_rfl) rfl #[.agg #[.int .i64 a0_0, .slice A0_1 l0_1.length c0_1, .slice A0_2 l0_2.length c0_2, .int .i64 a0_3]] rfl (by (try simp only [List.map_toArray, List.map_cons, List.map_nil]); first | done | rfl | (simp only [List.length_drop, List.length_take]; rfl)) ?_; (with_reducible refine (impl_keysIn.calls k2 a0_0 _ _ l0_1 _ _ l0_2 a0_3 t232 _ ?side1 ?side2 ?side3 ?side4 A59.out).mono ?_); (case side1 => repeat (first | exact (Kd.C_below HR0_1.out HB.out) | (with_reducible refine Kd.C_alloc ?_ _) | (with_reducible refine Kd.C_drewN ?_ _) | (with_reducible refine Kd.C_drew ?_))); (case side2 => exact HC0_1.out); (case side3 => repeat (first | exact (Kd.C_below HR0_2.out HB.out) | (with_reducible refine Kd.C_alloc ?_ _) | (with_reducible refine Kd.C_drewN ?_ _) | (with_reducible refine Kd.C_drew ?_))); (case side4 => exact HC0_2.out); rintro e w63 ⟨v233, rfl, ho0, hb⟩; refine ⟨_, rfl, ?_⟩; have n0_ := Aside0.mk (Kd.R_lower ho0 (Op.a6 (by repeat (first | (with_reducible first | exact HB.out | apply Op.a1 | apply Op.a2 | apply Op.a3 | refine Op.a4 ?_ GE230.out) | exact HB.out)))); have n1_ := Aside0.mk (Op.b4 (g := gb230) (o := .cells #[.int .i64 a0_0, .slice A0_1 l0_1.length c0_1, .slice A0_2 l0_2.length c0_2, .int .i64 a0_3] 27 (0, 0)) (by (with_reducible repeat (first | refine Op.b1 ?_ _ | refine Op.b2 ?_ | refine Op.b3 ?_ _)); exact BK230.out) hb); have n2_ := Aside0.mk (Op.a5 (by repeat (first | (with_reducible first | exact HB.out | apply Op.a1 | apply Op.a2 | apply Op.a3 | refine Op.a4 ?_ GE230.out) | exact HB.out)) hb); clear BK230; clear HB; have HO234 := n0_; have BK230 := n1_; have HB := n2_; clear n0_ n1_ n2_; (try clear hb); (try clear hb2); (try clear hk); (try clear hi); (try clear ho0)))
        have n0_ := Aside0.mk (Kd.R_drew HO234.out)
        have n1_ := Aside0.mk (Op.b2 BK230.out)
        have n2_ := Aside0.mk (Op.a3 HB.out)
        clear HO234
        clear BK230
        clear HB
        have HO234 := n0_
        have BK230 := n1_
        have HB := n2_
        clear n0_ n1_ n2_
        obtain ⟨Ao65, co65, eo65⟩ := Kd.R_slice HO234.out
        (first | subst eo65 | (injection eo65 with f1_ f2_ f3_; have f4_ := f1_.symm; have f5_ := f3_.symm; clear f1_ f2_ f3_; subst f4_; subst f5_))
        refine start_ (n := 14) (S := fun w' => w'.cell? ⟨gb230, 0, none⟩ = some (.int .i64 a0_0) ∧ w'.cell? ⟨gb230, 1, none⟩ = some (.slice A0_1 l0_1.length c0_1) ∧ w'.cell? ⟨gb230, 2, none⟩ = some (.slice A0_2 l0_2.length c0_2) ∧ w'.cell? ⟨gb230, 3, none⟩ = some (.int .i64 a0_3)) (ds := []) #[false, false, false, false, false, false, false, false, false, false, false, false, false, false] (by kernel_rfl) rfl rfl ⟨(blk_cell BK230.out 0).trans rfl, (blk_cell BK230.out 1).trans rfl, (blk_cell BK230.out 2).trans rfl, (blk_cell BK230.out 3).trans rfl⟩ (fun hHeld => ?_); refine with_tabW impl_GoodTable.tab20 impl_GoodTable.bits20 (fun HT_ HW_ => ?_)
        generalize w63.drew = w64 at HO234 BK230 HB hHeld ⊢
        refine pure_ (i := 0) (N := some 81) (v := ?_) (a' := ?_) #[true, false, false, false, false, false, false, false, false, false, false, false, false, false] rfl rfl (any_of HT_.out (by kernel_rfl)) (fun _ _ _ h => h) (Or.inl ⟨by rfl, ?_⟩) ?_ ?_
        rotate_left
        ·intro w'
         go_simp
         with_reducible rfl
        rotate_left
        ·simp only [Act.put, List.setIfInBounds_toArray, List.set_cons_zero, List.set_cons_succ, i64_w, i32_w]
         rfl
        refine pure_ (i := 2) (N := some 83) (v := ?_) (a' := ?_) #[true, false, true, false, false, false, false, false, false, false, false, false, false, false] rfl rfl (any_of HT_.out (by kernel_rfl)) (fun _ _ _ h => h) (Or.inl ⟨by rfl, ?_⟩) ?_ ?_
        rotate_left
        ·intro w'
         go_simp
         with_reducible rfl
        rotate_left
        ·simp only [Act.put, List.setIfInBounds_toArray, List.set_cons_zero, List.set_cons_succ, i64_w, i32_w]
         rfl
        refine pure_ (i := 3) (N := some 84) (v := ?_) (a' := ?_) #[true, false, true, true, false, false, false, false, false, false, false, false, false, false] rfl rfl (any_of HT_.out (by kernel_rfl)) (fun _ _ _ h => h) (Or.inl ⟨by rfl, ?_⟩) ?_ ?_
        rotate_left
        ·intro w'
         go_simp
         with_reducible rfl
        rotate_left
        ·simp only [Act.put, List.setIfInBounds_toArray, List.set_cons_zero, List.set_cons_succ, i64_w, i32_w]
         rfl
        refine take_ (i := 1) (N := some 82) (v := ?_) (a' := ?_) #[true, true, true, true, false, false, false, false, false, false, false, false, false, false] rfl rfl (take_ofW HT_.out HW_.out (by kernel_rfl)) (fun _ _ _ h => h) (Or.inl ⟨by rfl, ?_⟩) hHeld ?_ ?_
        rotate_left
        ·rintro w' ⟨s0, s1, s2, s3⟩
         go_simp
         with_reducible rfl
        rotate_left
        ·simp only [Act.put, List.setIfInBounds_toArray, List.set_cons_zero, List.set_cons_succ, i64_w, i32_w]
         rfl
        refine pure_ (i := 4) (N := some 85) (v := ?_) (a' := ?_) #[true, true, true, true, true, false, false, false, false, false, false, false, false, false] rfl rfl (any_of HT_.out (by kernel_rfl)) (fun _ _ _ h => h) (Or.inl ⟨by rfl, ?_⟩) ?_ ?_
        rotate_left
        ·intro w'
         go_simp
         with_reducible rfl
        rotate_left
        ·simp only [Act.put, List.setIfInBounds_toArray, List.set_cons_zero, List.set_cons_succ, i64_w, i32_w]
         rfl
        refine pure_ (i := 5) (N := some 86) (v := ?_) (a' := ?_) #[true, true, true, true, true, true, false, false, false, false, false, false, false, false] rfl rfl (any_of HT_.out (by kernel_rfl)) (fun _ _ _ h => h) (Or.inl ⟨by rfl, ?_⟩) ?_ ?_
        rotate_left
        ·intro w'
         go_simp
         with_reducible rfl
        rotate_left
        ·simp only [Act.put, List.setIfInBounds_toArray, List.set_cons_zero, List.set_cons_succ, i64_w, i32_w]
         rfl
        refine pure_ (i := 6) (N := some 87) (v := ?_) (a' := ?_) #[true, true, true, true, true, true, true, false, false, false, false, false, false, false] rfl rfl (any_of HT_.out (by kernel_rfl)) (fun _ _ _ h => h) (Or.inl ⟨by rfl, ?_⟩) ?_ ?_
        rotate_left
        ·intro w'
         go_simp
         with_reducible rfl
        rotate_left
        ·simp only [Act.put, List.setIfInBounds_toArray, List.set_cons_zero, List.set_cons_succ, i64_w, i32_w]
         rfl
        refine pure_ (i := 9) (N := some 90) (v := ?_) (a' := ?_) #[true, true, true, true, true, true, true, false, false, true, false, false, false, false] rfl rfl (any_of HT_.out (by kernel_rfl)) (fun _ _ _ h => h) (Or.inl ⟨by rfl, ?_⟩) ?_ ?_
        rotate_left
        ·intro w'
         go_simp
         with_reducible rfl
        rotate_left
        ·simp only [Act.put, List.setIfInBounds_toArray, List.set_cons_zero, List.set_cons_succ, i64_w, i32_w]
         rfl
        refine take_ (i := 10) (N := some 91) (v := ?_) (a' := ?_) #[true, true, true, true, true, true, true, false, false, true, true, false, false, false] rfl rfl (take_ofW HT_.out HW_.out (by kernel_rfl)) (fun _ _ _ h => h) (Or.inl ⟨by rfl, ?_⟩) hHeld ?_ ?_
        rotate_left
        ·rintro w' ⟨s0, s1, s2, s3⟩
         go_simp
         with_reducible rfl
        rotate_left
        ·simp only [Act.put, List.setIfInBounds_toArray, List.set_cons_zero, List.set_cons_succ, i64_w, i32_w]
         rfl
        refine one_ (i := 7) (N := some 88) #[true, true, true, true, true, true, true, true, false, true, true, false, false, false] rfl rfl (one_of HT_.out (by kernel_rfl)) (by decide) (fun K hK => ?_)
        refine goes_ Try.func46 (by kernel_rfl) rfl #[.slice Ao65 t232.length co65] (by rfl) rfl rfl (by (try simp only [List.map_toArray, List.map_cons, List.map_nil]); first | done | rfl | (simp only [List.length_drop, List.length_take]; rfl)) ?_
        with_reducible refine (slices_Compact_int_int.calls (fun k_ => some k_ = (.slice Ao65 t232.length co65 : Value).ownBlock) (.slice Ao65 t232.length co65) t232 t235 w _ ?side1 ?side2 A61.out).mono ?_
        (case side1 => repeat (first | (with_reducible first | exact HB.out | apply Op.a1 | apply Op.a2 | apply Op.a3 | refine Op.a4 ?_ GE230.out) | exact HB.out))
        (case side2 => exact Kd.R_tight rfl HO234.out)
        rintro e w66 ⟨v236, rfl, ho0, hb, hkp⟩
        refine ⟨_, rfl, ?_⟩
        have n0_ := Aside0.mk (blk_kept (by (with_reducible repeat (first | refine Op.b1 ?_ _ | refine Op.b2 ?_ | refine Op.b3 ?_ _)); exact BK230.out) hkp (fun hs_ => (fun e_ => (Kd.R_ne HO234.out BK230.out (by decide)) e_) hs_))
        have n1_ := Aside0.mk (Kd.R_mono (ok' := fun k_ => True) ho0 (fun k_ hk_ => trivial))
        have n2_ := Aside0.mk (hb)
        clear BK230
        clear HB
        clear HO234
        have BK230 := n0_
        have HO237 := n1_
        have HB := n2_
        clear n0_ n1_ n2_
        (try clear hb)
        (try clear hkp)
        (try clear ho0)
        obtain ⟨Ao67, co67, eo67⟩ := Kd.R_slice HO237.out
        (first | subst eo67 | (injection eo67 with f1_ f2_ f3_; have f4_ := f1_.symm; have f5_ := f3_.symm; clear f1_ f2_ f3_; subst f4_; subst f5_))
        refine hK.out _ _ ⟨(blk_cell BK230.out 0).trans rfl, (blk_cell BK230.out 1).trans rfl, (blk_cell BK230.out 2).trans rfl, (blk_cell BK230.out 3).trans rfl⟩ (fun hHeld => ?_)
        clear hK K
        refine norm_ (a' := ?_) ?_ ?_
        rotate_left
        ·show Act.put _ (some 88) _ = _
         simp only [Act.put, List.setIfInBounds_toArray, List.set_cons_zero, List.set_cons_succ, i64_w, i32_w]
         rfl
        refine pure_ (i := 8) (N := some 89) (v := ?_) (a' := ?_) #[true, true, true, true, true, true, true, true, true, true, true, false, false, false] rfl rfl (any_of HT_.out (by kernel_rfl)) (fun _ _ _ h => h) (Or.inl ⟨by rfl, ?_⟩) ?_ ?_
        rotate_left
        ·intro w'
         go_simp
         with_reducible rfl
        rotate_left
        ·simp only [Act.put, List.setIfInBounds_toArray, List.set_cons_zero, List.set_cons_succ, i64_w, i32_w]
         rfl
        refine pure_ (i := 11) (N := some 92) (v := ?_) (a' := ?_) #[true, true, true, true, true, true, true, true, true, true, true, true, false, false] rfl rfl (any_of HT_.out (by kernel_rfl)) (fun _ _ _ h => h) (Or.inl ⟨by rfl, ?_⟩) ?_ ?_
        rotate_left
        ·intro w'
         go_simp
         with_reducible rfl
        rotate_left
        ·simp only [Act.put, List.setIfInBounds_toArray, List.set_cons_zero, List.set_cons_succ, i64_w, i32_w]
         rfl
        refine pure_ (i := 12) (N := some 93) (v := ?_) (a' := ?_) #[true, true, true, true, true, true, true, true, true, true, true, true, true, false] rfl rfl (any_of HT_.out (by kernel_rfl)) (fun _ _ _ h => h) (Or.inl ⟨by rfl, ?_⟩) ?_ ?_
        rotate_left
        ·intro w'
         go_simp
         with_reducible rfl
        rotate_left
        ·simp only [Act.put, List.setIfInBounds_toArray, List.set_cons_zero, List.set_cons_succ, i64_w, i32_w]
         rfl
        refine pure_ (i := 13) (N := some 2) (v := ?_) (a' := ?_) #[true, true, true, true, true, true, true, true, true, true, true, true, true, true] rfl rfl (any_of HT_.out (by kernel_rfl)) (fun _ _ _ h => h) (Or.inl ⟨by rfl, ?_⟩) ?_ ?_
        rotate_left
        ·intro w'
         go_simp
         with_reducible rfl
        rotate_left
        ·simp only [Act.put, List.setIfInBounds_toArray, List.set_cons_zero, List.set_cons_succ, i64_w, i32_w]
         rfl
        refine done_ (done_of HT_.out (by kernel_rfl)) ?_
        try go_wp2
        go_ret
        exact ⟨by first | rfl | (simp [errW_none, errW_some] <;> rfl) | (simp [*, errW_none, errW_some] <;> rfl), by repeat (first | (with_reducible first | exact HB.out | apply Op.a1 | apply Op.a2 | apply Op.a3 | refine Op.a4 ?_ GE230.out) | exact HB.out)⟩
       ·rw [if_neg c60] at H
        have c60b0 : (a0_3 == (t232.length : Int)) = false := beq_eq_false_iff_ne.mpr c60
        have c60b1 : (a0_3 != (t232.length : Int)) = true := bne_iff_ne.mpr c60
        obtain rfl := Option.some.inj H
        have hcz68_0 : wr.cell? ⟨gb230, 0, none⟩ = some (.int .i64 a0_0) := (blk_cell BK230.out 0).trans rfl
        have hcz68_1 : wr.cell? ⟨gb230, 1, none⟩ = some (.slice A0_1 l0_1.length c0_1) := (blk_cell BK230.out 1).trans rfl
        have hcz68_2 : wr.cell? ⟨gb230, 2, none⟩ = some (.slice A0_2 l0_2.length c0_2) := (blk_cell BK230.out 2).trans rfl
        have hcz68_3 : wr.cell? ⟨gb230, 3, none⟩ = some (.int .i64 a0_3) := (blk_cell BK230.out 3).trans rfl
        have hfz68_0 := blk_frozen BK230.out 0
        have hfz68_1 := blk_frozen BK230.out 1
        have hfz68_2 := blk_frozen BK230.out 2
        have hfz68_3 := blk_frozen BK230.out 3
        try go_wp2_with (first | ((with_reducible refine gate_callee (f := 45) rfl ?_); refine goesL_ (some 80) rfl rfl Try.func45 (by kernel_rfl) rfl #[.agg #[.int .i64 a0_0, .slice A0_1 l0_1.length c0_1, .slice A0_2 l0_2.length c0_2, .int .i64 a0_3]] rfl (by (try simp only [List.map_toArray, List.map_cons, List.map_nil]); first | done | rfl | (simp only [List.length_drop, List.length_take]; rfl)) ?_; (with_reducible refine (impl_keysIn.calls k2 a0_0 _ _ l0_1 _ _ l0_2 a0_3 t232 _ ?side1 ?side2 ?side3 ?side4 A59.out).mono ?_); (case side1 => repeat (first | exact (Kd.C_below HR0_1.out HB.out) | (with_reducible refine Kd.C_alloc ?_ _) | (with_reducible refine Kd.C_drewN ?_ _) | (with_reducible refine Kd.C_drew ?_))); (case side2 => exact HC0_1.out); (case side3 => repeat (first | exact (Kd.C_below HR0_2.out HB.out) | (with_reducible refine Kd.C_alloc ?_ _) | (with_reducible refine Kd.C_drewN ?_ _) | (with_reducible refine Kd.C_drew ?_))); (case side4 => exact HC0_2.out); rintro e w69 ⟨v233, rfl, ho0, hb⟩; refine ⟨_, rfl, ?_⟩; have n0_ := Aside0.mk (Kd.R_lower ho0 (Op.a6 (by repeat (first | (with_reducible first | exact HB.out | apply Op.a1 | apply Op.a2 | apply Op.a3 | refine Op.a4 ?_ GE230.out) | exact HB.out)))); have n1_ := Aside0.mk (Op.b4 (g := gb230) (o := .cells #[.int .i64 a0_0, .slice A0_1 l0_1.length c0_1, .slice A0_2 l0_2.length c0_2, .int .i64 a0_3] 27 (0, 0)) (by (with_reducible repeat (first | refine Op.b1 ?_ _ | refine Op.b2 ?_ | refine Op.b3 ?_ _)); exact BK230.out) hb); have n2_ := Aside0.mk (Op.a5 (by repeat (first | (with_reducible first | exact HB.out | apply Op.a1 | apply Op.a2 | apply Op.a3 | refine Op.a4 ?_ GE230.out) | exact HB.out)) hb); clear BK230; clear HB; have HO234 := n0_; have BK230 := n1_; have HB := n2_; clear n0_ n1_ n2_; (try clear hb); (try clear hb2); (try clear hk); (try clear hi); (try clear ho0)))
        have n0_ := Aside0.mk (Kd.R_drew HO234.out)
        have n1_ := Aside0.mk (Op.b2 BK230.out)
        have n2_ := Aside0.mk (Op.a3 HB.out)
        clear HO234
        clear BK230
        clear HB
        have HO234 := n0_
        have BK230 := n1_
        have HB := n2_
        clear n0_ n1_ n2_
        obtain ⟨Ao71, co71, eo71⟩ := Kd.R_slice HO234.out
        (first | subst eo71 | (injection eo71 with f1_ f2_ f3_; have f4_ := f1_.symm; have f5_ := f3_.symm; clear f1_ f2_ f3_; subst f4_; subst f5_))
        refine start_ (n := 14) (S := fun w' => w'.cell? ⟨gb230, 0, none⟩ = some (.int .i64 a0_0) ∧ w'.cell? ⟨gb230, 1, none⟩ = some (.slice A0_1 l0_1.length c0_1) ∧ w'.cell? ⟨gb230, 2, none⟩ = some (.slice A0_2 l0_2.length c0_2) ∧ w'.cell? ⟨gb230, 3, none⟩ = some (.int .i64 a0_3)) (ds := []) #[false, false, false, false, false, false, false, false, false, false, false, false, false, false] (by kernel_rfl) rfl rfl ⟨(blk_cell BK230.out 0).trans rfl, (blk_cell BK230.out 1).trans rfl, (blk_cell BK230.out 2).trans rfl, (blk_cell BK230.out 3).trans rfl⟩ (fun hHeld => ?_); refine with_tabW impl_GoodTable.tab20 impl_GoodTable.bits20 (fun HT_ HW_ => ?_)
        generalize w69.drew = w70 at HO234 BK230 HB hHeld ⊢
        refine pure_ (i := 0) (N := some 81) (v := ?_) (a' := ?_) #[true, false, false, false, false, false, false, false, false, false, false, false, false, false] rfl rfl (any_of HT_.out (by kernel_rfl)) (fun _ _ _ h => h) (Or.inl ⟨by rfl, ?_⟩) ?_ ?_
        rotate_left
        ·intro w'
         go_simp
         with_reducible rfl
        rotate_left
        ·simp only [Act.put, List.setIfInBounds_toArray, List.set_cons_zero, List.set_cons_succ, i64_w, i32_w]
         rfl
        refine pure_ (i := 2) (N := some 83) (v := ?_) (a' := ?_) #[true, false, true, false, false, false, false, false, false, false, false, false, false, false] rfl rfl (any_of HT_.out (by kernel_rfl)) (fun _ _ _ h => h) (Or.inl ⟨by rfl, ?_⟩) ?_ ?_
        rotate_left
        ·intro w'
         go_simp
         with_reducible rfl
        rotate_left
        ·simp only [Act.put, List.setIfInBounds_toArray, List.set_cons_zero, List.set_cons_succ, i64_w, i32_w]
         rfl
        refine pure_ (i := 3) (N := some 84) (v := ?_) (a' := ?_) #[true, false, true, true, false, false, false, false, false, false, false, false, false, false] rfl rfl (any_of HT_.out (by kernel_rfl)) (fun _ _ _ h => h) (Or.inl ⟨by rfl, ?_⟩) ?_ ?_
        rotate_left
        ·intro w'
         go_simp
         with_reducible rfl
        rotate_left
        ·simp only [Act.put, List.setIfInBounds_toArray, List.set_cons_zero, List.set_cons_succ, i64_w, i32_w]
         rfl
        refine take_ (i := 1) (N := some 82) (v := ?_) (a' := ?_) #[true, true, true, true, false, false, false, false, false, false, false, false, false, false] rfl rfl (take_ofW HT_.out HW_.out (by kernel_rfl)) (fun _ _ _ h => h) (Or.inl ⟨by rfl, ?_⟩) hHeld ?_ ?_
        rotate_left
        ·rintro w' ⟨s0, s1, s2, s3⟩
         go_simp
         with_reducible rfl
        rotate_left
        ·simp only [Act.put, List.setIfInBounds_toArray, List.set_cons_zero, List.set_cons_succ, i64_w, i32_w]
         rfl
        refine pure_ (i := 4) (N := some 85) (v := ?_) (a' := ?_) #[true, true, true, true, true, false, false, false, false, false, false, false, false, false] rfl rfl (any_of HT_.out (by kernel_rfl)) (fun _ _ _ h => h) (Or.inl ⟨by rfl, ?_⟩) ?_ ?_
        rotate_left
        ·intro w'
         go_simp
         with_reducible rfl
        rotate_left
        ·simp only [Act.put, List.setIfInBounds_toArray, List.set_cons_zero, List.set_cons_succ, i64_w, i32_w]
         rfl
        refine pure_ (i := 5) (N := some 86) (v := ?_) (a' := ?_) #[true, true, true, true, true, true, false, false, false, false, false, false, false, false] rfl rfl (any_of HT_.out (by kernel_rfl)) (fun _ _ _ h => h) (Or.inl ⟨by rfl, ?_⟩) ?_ ?_
        rotate_left
        ·intro w'
         go_simp
         with_reducible rfl
        rotate_left
        ·simp only [Act.put, List.setIfInBounds_toArray, List.set_cons_zero, List.set_cons_succ, i64_w, i32_w]
         rfl
        refine pure_ (i := 6) (N := some 87) (v := undef) (a' := ?_) #[true, true, true, true, true, true, true, false, false, false, false, false, false, false] rfl rfl (any_of HT_.out (by kernel_rfl)) (fun _ _ _ h => h) (Or.inr ⟨by rfl, rfl⟩) ?_ ?_
        rotate_left
        ·simp only [Act.put, List.setIfInBounds_toArray, List.set_cons_zero, List.set_cons_succ, i64_w, i32_w]
         rfl
        refine pure_ (i := 7) (N := some 88) (v := undef) (a' := ?_) #[true, true, true, true, true, true, true, true, false, false, false, false, false, false] rfl rfl (any_of HT_.out (by kernel_rfl)) (fun _ _ _ h => h) (Or.inr ⟨by rfl, rfl⟩) ?_ ?_
        rotate_left
        ·simp only [Act.put, List.setIfInBounds_toArray, List.set_cons_zero, List.set_cons_succ, i64_w, i32_w]
         rfl
        refine pure_ (i := 8) (N := some 89) (v := undef) (a' := ?_) #[true, true, true, true, true, true, true, true, true, false, false, false, false, false] rfl rfl (any_of HT_.out (by kernel_rfl)) (fun _ _ _ h => h) (Or.inr ⟨by rfl, rfl⟩) ?_ ?_
        rotate_left
        ·simp only [Act.put, List.setIfInBounds_toArray, List.set_cons_zero, List.set_cons_succ, i64_w, i32_w]
         rfl
        refine pure_ (i := 9) (N := some 90) (v := undef) (a' := ?_) #[true, true, true, true, true, true, true, true, true, true, false, false, false, false] rfl rfl (any_of HT_.out (by kernel_rfl)) (fun _ _ _ h => h) (Or.inr ⟨by rfl, rfl⟩) ?_ ?_
        rotate_left
        ·simp only [Act.put, List.setIfInBounds_toArray, List.set_cons_zero, List.set_cons_succ, i64_w, i32_w]
         rfl
        refine pure_ (i := 10) (N := some 91) (v := undef) (a' := ?_) #[true, true, true, true, true, true, true, true, true, true, true, false, false, false] rfl rfl (any_of HT_.out (by kernel_rfl)) (fun _ _ _ h => h) (Or.inr ⟨by rfl, rfl⟩) ?_ ?_
        rotate_left
        ·simp only [Act.put, List.setIfInBounds_toArray, List.set_cons_zero, List.set_cons_succ, i64_w, i32_w]
         rfl
        refine pure_ (i := 11) (N := some 92) (v := undef) (a' := ?_) #[true, true, true, true, true, true, true, true, true, true, true, true, false, false] rfl rfl (any_of HT_.out (by kernel_rfl)) (fun _ _ _ h => h) (Or.inr ⟨by rfl, rfl⟩) ?_ ?_
        rotate_left
        ·simp only [Act.put, List.setIfInBounds_toArray, List.set_cons_zero, List.set_cons_succ, i64_w, i32_w]
         rfl
        refine pure_ (i := 12) (N := some 93) (v := ?_) (a' := ?_) #[true, true, true, true, true, true, true, true, true, true, true, true, true, false] rfl rfl (any_of HT_.out (by kernel_rfl)) (fun _ _ _ h => h) (Or.inl ⟨by rfl, ?_⟩) ?_ ?_
        rotate_left
        ·intro w'
         go_simp
         with_reducible rfl
        rotate_left
        ·simp only [Act.put, List.setIfInBounds_toArray, List.set_cons_zero, List.set_cons_succ, i64_w, i32_w]
         rfl
        refine pure_ (i := 13) (N := some 2) (v := ?_) (a' := ?_) #[true, true, true, true, true, true, true, true, true, true, true, true, true, true] rfl rfl (any_of HT_.out (by kernel_rfl)) (fun _ _ _ h => h) (Or.inl ⟨by rfl, ?_⟩) ?_ ?_
        rotate_left
        ·intro w'
         go_simp
         with_reducible rfl
        rotate_left
        ·simp only [Act.put, List.setIfInBounds_toArray, List.set_cons_zero, List.set_cons_succ, i64_w, i32_w]
         rfl
        refine done_ (done_of HT_.out (by kernel_rfl)) ?_
        try go_wp2
        go_ret
        exact ⟨by first | rfl | (simp [errW_none, errW_some] <;> rfl) | (simp [*, errW_none, errW_some] <;> rfl), by repeat (first | (with_reducible first | exact HB.out | apply Op.a1 | apply Op.a2 | apply Op.a3 | refine Op.a4 ?_ GE230.out) | exact HB.out)⟩

end Go.Proofs.Ytnohankakmmnoaa.PFnExactFindKey
