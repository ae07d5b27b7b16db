/- Contracts of functions of the translation, written by a program of this repo (a changed copy of the printer). Not trusted: Lean checks it. -/
-- squeezed
import Derived.Test.YtlmnlmcahhegkaaPFnExactSavedByx0
import Derived.Test.YtlmnlmcahhegkaaPFnExactSavedByx1
import Derived.Test.YtlmnlmcahhegkaaPFnExactSavedByx2
import Derived.Test.YtlmnlmcahhegkaaPFnExactSavedByx3
namespace Go.Proofs.Ytlmnlmcahhegkaa.PFnExactSavedBy
open Go.RowKit Go.Proofs.YtlmnlmcahhegkaaW.PrintWords Go.Proofs.YtlmnlmcahhegkaaW.PrintLast Go.Proofs.YtlmnlmcahhegkaaW.PrintMore
attribute [local go_sem] max2_int min2_int max_two min_two max_three min_three max_four min_four   -- for this text's walks alone
set_option linter.unusedVariables false
set_option linter.unusedSimpArgs false

/-! ### impl_SavedBy: function 43 -/
def impl_SavedBy.f (k : Nat) (l0 : List ByteArray) : Option (Int × Int × Bool) := (impl_DedupAll.f k l0).bind fun bt208 => (if bt208.2.2 = true then ((strings_Join.f l0 (⟨#[]⟩ : ByteArray)).bind fun t216 => ((strings_Join.f bt208.1 (⟨#[]⟩ : ByteArray)).bind fun t217 => (some ((t216.size : Int), (t217.size : Int), true)))) else (some (0, 0, false)))
theorem impl_SavedBy.mono : ∀ a0 k, LeO (impl_SavedBy.f k a0) (impl_SavedBy.f (k + 1) a0) := by
 intro a0 k
 unfold impl_SavedBy.f
 repeat' first
   | (with_reducible exact impl_DedupAll.mono _ _)
   | (with_reducible exact LeO.refl _)
   | (with_reducible exact LeO.none _)
   | (with_reducible refine LeO.ite ?_ ?_)
   | (with_reducible refine LeO.bind ?_ (fun _ => ?_))
   | exact impl_DedupAll.mono _ _
   | exact LeO.none _
   | refine LeO.ite ?_ ?_
   | refine LeO.bind ?_ (fun _ => ?_)
def impl_SavedBy.T4 : Bool × List (List Nat × List Nat) := (true, [([], []), ([0], [0]), ([1], [1]), ([], []), ([3], [3]), ([4, 1], [4]), ([5], [5]), ([2, 5, 0, 1, 2], [2]), ([6, 7, 0, 1, 2, 3, 4, 5, 6, 7], [6]), ([8, 0, 1, 2, 3, 4, 5, 6, 7, 8], [])])
def impl_SavedBy.B4 : List Nat := [0, 1, 3, 0, 8, 27, 59, 63, 255, 511]
theorem impl_SavedBy.tab4 : rtab .any (opsOf Try.f43 4) = impl_SavedBy.T4 := by kernel_rfl
theorem impl_SavedBy.bits4 : waitsOk impl_SavedBy.T4.2 impl_SavedBy.B4 = true := by kernel_rfl
set_option maxHeartbeats 8000000 in
set_option maxRecDepth 100000 in
theorem impl_SavedBy.calls (k : Nat) (A0 : Option Addr) (c0 : Nat) (l0 : List ByteArray) (r1 : Int) (r2 : Int) (r3 : Bool) (w : World) (hr0 : Kd.C Kd.string w A0 l0.length l0) (hc0 : l0.length ≤ c0) (h : impl_SavedBy.f k l0 = some (r1, r2, r3)) :
  Calls Try.prog 43 #[.slice A0 l0.length c0] w fun e w' => e = .returned (.tuple #[.int .i64 r1, .int .i64 r2, .bool r3]) ∧ Below w.heap.size w w' := by
 have hu57 := Try.underlying57
 have HR0 := Aside0.mk hr0
 have HC0 := Aside0.mk hc0
 clear hr0 hc0
 have HB := Aside0.mk (Below.refl w.heap.size w)
 have H : ((impl_DedupAll.f k l0).bind fun bt208 => (if bt208.2.2 = true then ((strings_Join.f l0 (⟨#[]⟩ : ByteArray)).bind fun t216 => ((strings_Join.f bt208.1 (⟨#[]⟩ : ByteArray)).bind fun t217 => (some ((t216.size : Int), (t217.size : Int), true)))) else (some (0, 0, false)))) = some (r1, r2, r3) := h
 clear h
 replace H := Option.bind_eq_some_iff.mp H
 obtain ⟨⟨t208, t211, t214⟩, A20, H⟩ := H
 replace H : (if t214 = true then ((strings_Join.f l0 (⟨#[]⟩ : ByteArray)).bind fun t216 => ((strings_Join.f t208 (⟨#[]⟩ : ByteArray)).bind fun t217 => (some ((t216.size : Int), (t217.size : Int), true)))) else (some (0, 0, false))) = some (r1, r2, r3) := H
 have A2 := Aside0.mk A20
 clear A20
 by_cases c3 : t214 = true
 ·subst c3
  have H1 : ((strings_Join.f l0 (⟨#[]⟩ : ByteArray)).bind fun t216 => ((strings_Join.f t208 (⟨#[]⟩ : ByteArray)).bind fun t217 => (some ((t216.size : Int), (t217.size : Int), true)))) = some (r1, r2, r3) := by rw [if_pos rfl] at H; exact H
  clear H
  have H := H1
  clear H1
  replace H := Option.bind_eq_some_iff.mp H
  obtain ⟨t216, A40, H⟩ := H
  replace H : ((strings_Join.f t208 (⟨#[]⟩ : ByteArray)).bind fun t217 => (some ((t216.size : Int), (t217.size : Int), true))) = some (r1, r2, r3) := H
  have A4 := Aside0.mk A40
  clear A40
  replace H := Option.bind_eq_some_iff.mp H
  obtain ⟨t217, A50, H⟩ := H
  replace H : (some ((t216.size : Int), (t217.size : Int), true)) = some (r1, r2, r3) := H
  have A5 := Aside0.mk A50
  clear A50
  simp only [Option.some.injEq, Prod.mk.injEq] at H
  obtain ⟨rfl, rfl, rfl⟩ := H
  go_enter Try.func43, Try.ntmps43
  try go_wp2_with (first | ((with_reducible refine gate_callee (f := 45) rfl ?_); refine goesL_ (some 9) rfl rfl Try.func45 (by kernel_rfl) rfl #[.slice A0 l0.length c0] rfl (by (try simp only [List.map_toArray, List.map_cons, List.map_nil]); first | done | rfl | (simp only [List.length_drop, List.length_take]; rfl)) ?_; (with_reducible refine (impl_DedupAll.calls k _ _ l0 t208 t211 true _ ?side1 ?side2 A2.out).mono ?_); (case side1 => repeat (first | exact HR0.out | (with_reducible refine Kd.C_alloc ?_ _) | (with_reducible refine Kd.C_drewN ?_ _) | (with_reducible refine Kd.C_drew ?_))); (case side2 => exact HC0.out); rintro e w6 ⟨v209, v212, rfl, ho0, ho1, hb⟩; refine ⟨_, rfl, ?_⟩; have n0_ := Aside0.mk (Kd.R_lower ho0 (Op.a6 (by repeat (first | (with_reducible first | exact HB.out | apply Op.a1 | apply Op.a2 | apply Op.a3) | exact HB.out)))); have n1_ := Aside0.mk (Kd.S_lower ho1 (Op.a6 (by repeat (first | (with_reducible first | exact HB.out | apply Op.a1 | apply Op.a2 | apply Op.a3) | exact HB.out)))); have n2_ := Aside0.mk (Op.a5 (by repeat (first | (with_reducible first | exact HB.out | apply Op.a1 | apply Op.a2 | apply Op.a3) | exact HB.out)) hb); clear HB; have HO210 := n0_; have HO213 := n1_; have HB := n2_; clear n0_ n1_ n2_; (try clear hb); (try clear hb2); (try clear hk); (try clear hi); (try clear ho0); (try clear ho1)) | ((with_reducible refine gate_dst (N := 5) rfl ?_); refine box_event ?hg (N := 5) ?hd (cs := #[.slice none 0 0, .slice none 0 0]) (t := 57) ?hr ?_; (case hd => rfl); (case hg => rfl); (case hr => first | (go_simp; done) | (go_simp; rfl)); intro gb215 hg w7 hbox hb; have n0_ := Aside0.mk (Kd.R_below (by (with_reducible repeat (first | apply Kd.R_alloc | apply Kd.R_drewN | apply Kd.R_drew)); exact HO210.out) hb); have n1_ := Aside0.mk (Kd.S_below (by (with_reducible repeat (first | apply Kd.S_alloc | apply Kd.S_drewN | apply Kd.S_drew)); exact HO213.out) hb); have n2_ := Aside0.mk (Op.a5 (by repeat (first | (with_reducible first | exact HB.out | apply Op.a1 | apply Op.a2 | apply Op.a3) | exact HB.out)) hb); have n3_ := Aside0.mk (hbox); have n4_ := Aside0.mk ((by rw [hg]; exact (Op.a6 (by repeat (first | (with_reducible first | exact HB.out | apply Op.a1 | apply Op.a2 | apply Op.a3) | exact HB.out))) : w.heap.size ≤ gb215)); have n5_ := Aside0.mk ((by rw [hg]; exact (Op.a6 (by repeat (first | (with_reducible first | exact HB.out | apply Op.a1 | apply Op.a2 | apply Op.a3) | exact HB.out))) : w.heap.size ≤ gb215)); clear HO210; clear HO213; clear HB; have HO210 := n0_; have HO213 := n1_; have HB := n2_; have BK215 := n3_; have GW215 := n4_; have GE215 := n5_; clear n0_ n1_ n2_ n3_ n4_ n5_; clear hb hbox hg; obtain ⟨Ao8, co8, eo8⟩ := Kd.R_slice HO210.out; subst eo8; have hcz9_0 : w7.cell? ⟨gb215, 0, none⟩ = some (.slice none 0 0) := (blk_cell BK215.out 0).trans rfl; have hcz9_1 : w7.cell? ⟨gb215, 1, none⟩ = some (.slice none 0 0) := (blk_cell BK215.out 1).trans rfl; have hfz9_0 := blk_frozen BK215.out 0; have hfz9_1 := blk_frozen BK215.out 1; obtain ⟨Ao10, co10, eo10⟩ := Kd.S_slice HO213.out; subst eo10))
  have n0_ : Aside0 (Kd.R Kd.string 9 ((w7.setCell ⟨gb215, 0, none⟩ (.slice Ao8 t208.length co8)).setCell ⟨gb215, 1, none⟩ (.slice Ao10 t211.length co10)) w.heap.size (fun _ => True) (.slice Ao8 t208.length co8) t208) := ⟨by (with_reducible repeat (first | apply Kd.R_alloc | apply Kd.R_drewN | apply Kd.R_drew)); exact Kd.R_mono (Kd.R_far (p := ⟨gb215, 1, none⟩) (Kd.R_far (p := ⟨gb215, 0, none⟩) (Kd.R_types HO210.out BK215.out (by decide)) (fun _ hk => hk.2) (.slice Ao8 t208.length co8)) (fun _ hk => hk.2) (.slice Ao10 t211.length co10)) (fun _ hk => trivial)⟩
  have n1_ : Aside0 (Kd.S (Kd.slice 3 (Kd.int .i64)) 39 ((w7.setCell ⟨gb215, 0, none⟩ (.slice Ao8 t208.length co8)).setCell ⟨gb215, 1, none⟩ (.slice Ao10 t211.length co10)) w.heap.size (fun _ => True) (.slice Ao10 t211.length co10) t211) := ⟨by (with_reducible repeat (first | apply Kd.S_alloc | apply Kd.S_drewN | apply Kd.S_drew)); exact Kd.S_mono (Kd.S_far (p := ⟨gb215, 1, none⟩) (Kd.S_far (p := ⟨gb215, 0, none⟩) (Kd.S_types HO213.out BK215.out (by decide)) (fun _ hk => hk.2) (.slice Ao8 t208.length co8)) (fun _ hk => hk.2) (.slice Ao10 t211.length co10)) (fun _ hk => trivial)⟩
  have n2_ : Aside0 (((w7.setCell ⟨gb215, 0, none⟩ (.slice Ao8 t208.length co8)).setCell ⟨gb215, 1, none⟩ (.slice Ao10 t211.length co10)).heap[gb215]? = some (.cells #[.slice Ao8 t208.length co8, .slice Ao10 t211.length co10] 57 (0, 0))) := ⟨by (with_reducible repeat (first | refine Op.b1 ?_ _ | refine Op.b2 ?_ | refine Op.b3 ?_ _)); refine blk_put (cs := #[.slice Ao8 t208.length co8, .slice none 0 0]) ?_ 1 _ rfl; (with_reducible repeat (first | refine Op.b1 ?_ _ | refine Op.b2 ?_ | refine Op.b3 ?_ _)); refine blk_put (cs := #[.slice none 0 0, .slice none 0 0]) ?_ 0 _ rfl; (with_reducible repeat (first | refine Op.b1 ?_ _ | refine Op.b2 ?_ | refine Op.b3 ?_ _)); exact BK215.out⟩
  have n3_ : Aside0 (Below w.heap.size w ((w7.setCell ⟨gb215, 0, none⟩ (.slice Ao8 t208.length co8)).setCell ⟨gb215, 1, none⟩ (.slice Ao10 t211.length co10))) := ⟨by repeat (first | (with_reducible first | exact HB.out | apply Op.a1 | apply Op.a2 | apply Op.a3 | refine Op.a4 ?_ GE215.out) | exact HB.out)⟩
  (try clear HO210)
  (try clear HO213)
  (try clear BK215)
  (try clear HB)
  generalize ((w7.setCell ⟨gb215, 0, none⟩ (.slice Ao8 t208.length co8)).setCell ⟨gb215, 1, none⟩ (.slice Ao10 t211.length co10)) = w11 at n0_ n1_ n2_ n3_ ⊢
  have HO210 := n0_
  have HO213 := n1_
  have BK215 := n2_
  have HB := n3_
  clear n0_ n1_ n2_ n3_
  have n0_ := Aside0.mk (Kd.R_drew HO210.out)
  have n1_ := Aside0.mk (Kd.S_drew HO213.out)
  have n2_ := Aside0.mk (Op.b2 BK215.out)
  have n3_ := Aside0.mk (Op.a3 HB.out)
  clear HO210
  clear HO213
  clear BK215
  clear HB
  have HO210 := n0_
  have HO213 := n1_
  have BK215 := n2_
  have HB := n3_
  clear n0_ n1_ n2_ n3_
  refine start_ (n := 10) (S := fun w' => w'.cell? ⟨gb215, 0, none⟩ = some (.slice Ao8 t208.length co8) ∧ w'.cell? ⟨gb215, 1, none⟩ = some (.slice Ao10 t211.length co10)) (ds := []) #[false, false, false, false, false, false, false, false, false, false] (by kernel_rfl) rfl rfl ⟨(blk_cell BK215.out 0).trans rfl, (blk_cell BK215.out 1).trans rfl⟩ (fun hHeld => ?_); refine with_tabW impl_SavedBy.tab4 impl_SavedBy.bits4 (fun HT_ HW_ => ?_)
  generalize w11.drew = w12 at HO210 HO213 BK215 HB hHeld ⊢
  refine pure_ (i := 0) (N := some 14) (v := ?_) (a' := ?_) #[true, false, false, false, false, false, false, false, false, false] rfl rfl (any_of HT_.out (by kernel_rfl)) (fun _ _ _ h => h) (Or.inl ⟨by rfl, ?_⟩) ?_ ?_
  rotate_left
  ·intro w'
   go_simp
   with_reducible rfl
  rotate_left
  ·simp only [Act.put, List.setIfInBounds_toArray, List.set_cons_zero, List.set_cons_succ, i64_w, i32_w]
   rfl
  refine pure_ (i := 3) (N := some 17) (v := ?_) (a' := ?_) #[true, false, false, true, false, false, false, false, false, false] rfl rfl (any_of HT_.out (by kernel_rfl)) (fun _ _ _ h => h) (Or.inl ⟨by rfl, ?_⟩) ?_ ?_
  rotate_left
  ·intro w'
   go_simp
   with_reducible rfl
  rotate_left
  ·simp only [Act.put, List.setIfInBounds_toArray, List.set_cons_zero, List.set_cons_succ, i64_w, i32_w]
   rfl
  refine take_ (i := 4) (N := some 18) (v := ?_) (a' := ?_) #[true, false, false, true, true, false, false, false, false, false] rfl rfl (take_ofW HT_.out HW_.out (by kernel_rfl)) (fun _ _ _ h => h) (Or.inl ⟨by rfl, ?_⟩) hHeld ?_ ?_
  rotate_left
  ·rintro w' ⟨s0, s1⟩
   go_simp
   with_reducible rfl
  rotate_left
  ·simp only [Act.put, List.setIfInBounds_toArray, List.set_cons_zero, List.set_cons_succ, i64_w, i32_w]
   rfl
  refine one_ (i := 1) (N := some 15) #[true, true, false, true, true, false, false, false, false, false] rfl rfl (one_of HT_.out (by kernel_rfl)) (by decide) (fun K hK => ?_)
  refine goes_ Try.func80 (by kernel_rfl) rfl #[.slice A0 l0.length c0, .string (⟨#[]⟩ : ByteArray)] (by rfl) rfl rfl (by (try simp only [List.map_toArray, List.map_cons, List.map_nil]); first | done | rfl | (simp only [List.length_drop, List.length_take]; rfl)) ?_
  with_reducible refine (strings_Join.calls _ _ l0 (⟨#[]⟩ : ByteArray) t216 _ ?side1 ?side2 A4.out).mono ?_
  (case side1 => repeat (first | exact (Kd.C_below HR0.out HB.out) | (with_reducible refine Kd.C_alloc ?_ _) | (with_reducible refine Kd.C_drewN ?_ _) | (with_reducible refine Kd.C_drew ?_)))
  (case side2 => exact HC0.out)
  rintro e w13 ⟨rfl, hb⟩
  refine ⟨_, rfl, ?_⟩
  have n0_ := Aside0.mk (Kd.R_below (by (with_reducible repeat (first | apply Kd.R_alloc | apply Kd.R_drewN | apply Kd.R_drew)); exact HO210.out) hb)
  have n1_ := Aside0.mk (Kd.S_below (by (with_reducible repeat (first | apply Kd.S_alloc | apply Kd.S_drewN | apply Kd.S_drew)); exact HO213.out) hb)
  have n2_ := Aside0.mk (Op.b4 (g := gb215) (o := .cells #[.slice Ao8 t208.length co8, .slice Ao10 t211.length co10] 57 (0, 0)) (by (with_reducible repeat (first | refine Op.b1 ?_ _ | refine Op.b2 ?_ | refine Op.b3 ?_ _)); exact BK215.out) hb)
  have n3_ := Aside0.mk (Op.a5 (by repeat (first | (with_reducible first | exact HB.out | apply Op.a1 | apply Op.a2 | apply Op.a3 | refine Op.a4 ?_ GE215.out) | exact HB.out)) hb)
  clear HO210
  clear HO213
  clear BK215
  clear HB
  have HO210 := n0_
  have HO213 := n1_
  have BK215 := n2_
  have HB := n3_
  clear n0_ n1_ n2_ n3_
  (try clear hb)
  (try clear hb2)
  (try clear hk)
  (try clear hi)
  refine hK.out _ _ ⟨(blk_cell BK215.out 0).trans rfl, (blk_cell BK215.out 1).trans rfl⟩ (fun hHeld => ?_)
  clear hK K
  refine norm_ (a' := ?_) ?_ ?_
  rotate_left
  ·show Act.put _ (some 15) _ = _
   simp only [Act.put, List.setIfInBounds_toArray, List.set_cons_zero, List.set_cons_succ, i64_w, i32_w]
   rfl
  refine pure_ (i := 2) (N := some 16) (v := ?_) (a' := ?_) #[true, true, true, true, true, false, false, false, false, false] rfl rfl (any_of HT_.out (by kernel_rfl)) (fun _ _ _ h => h) (Or.inl ⟨by rfl, ?_⟩) ?_ ?_
  rotate_left
  ·intro w'
   go_simp
   with_reducible rfl
  rotate_left
  ·simp only [Act.put, List.setIfInBounds_toArray, List.set_cons_zero, List.set_cons_succ, i64_w, i32_w]
   rfl
  refine one_ (i := 5) (N := some 19) #[true, true, true, true, true, true, false, false, false, false] rfl rfl (one_of HT_.out (by kernel_rfl)) (by decide) (fun K hK => ?_)
  refine goes_ Try.func80 (by kernel_rfl) rfl #[.slice Ao8 t208.length co8, .string (⟨#[]⟩ : ByteArray)] (by rfl) rfl rfl (by (try simp only [List.map_toArray, List.map_cons, List.map_nil]); first | done | rfl | (simp only [List.length_drop, List.length_take]; rfl)) ?_
  with_reducible refine (strings_Join.calls _ _ t208 (⟨#[]⟩ : ByteArray) t217 _ ?side1 ?side2 A5.out).mono ?_
  (case side1 => repeat (first | exact (Kd.R_reads' HO210.out).2.2 | (with_reducible refine Kd.C_alloc ?_ _) | (with_reducible refine Kd.C_drewN ?_ _) | (with_reducible refine Kd.C_drew ?_)))
  (case side2 => exact (Kd.R_reads' HO210.out).2.1)
  rintro e w14 ⟨rfl, hb⟩
  refine ⟨_, rfl, ?_⟩
  have n0_ := Aside0.mk (Kd.R_below (by (with_reducible repeat (first | apply Kd.R_alloc | apply Kd.R_drewN | apply Kd.R_drew)); exact HO210.out) hb)
  have n1_ := Aside0.mk (Kd.S_below (by (with_reducible repeat (first | apply Kd.S_alloc | apply Kd.S_drewN | apply Kd.S_drew)); exact HO213.out) hb)
  have n2_ := Aside0.mk (Op.b4 (g := gb215) (o := .cells #[.slice Ao8 t208.length co8, .slice Ao10 t211.length co10] 57 (0, 0)) (by (with_reducible repeat (first | refine Op.b1 ?_ _ | refine Op.b2 ?_ | refine Op.b3 ?_ _)); exact BK215.out) hb)
  have n3_ := Aside0.mk (Op.a5 (by repeat (first | (with_reducible first | exact HB.out | apply Op.a1 | apply Op.a2 | apply Op.a3 | refine Op.a4 ?_ GE215.out) | exact HB.out)) hb)
  clear HO210
  clear HO213
  clear BK215
  clear HB
  have HO210 := n0_
  have HO213 := n1_
  have BK215 := n2_
  have HB := n3_
  clear n0_ n1_ n2_ n3_
  (try clear hb)
  (try clear hb2)
  (try clear hk)
  (try clear hi)
  refine hK.out _ _ ⟨(blk_cell BK215.out 0).trans rfl, (blk_cell BK215.out 1).trans rfl⟩ (fun hHeld => ?_)
  clear hK K
  refine norm_ (a' := ?_) ?_ ?_
  rotate_left
  ·show Act.put _ (some 19) _ = _
   simp only [Act.put, List.setIfInBounds_toArray, List.set_cons_zero, List.set_cons_succ, i64_w, i32_w]
   rfl
  refine pure_ (i := 6) (N := some 20) (v := ?_) (a' := ?_) #[true, true, true, true, true, true, true, false, false, false] rfl rfl (any_of HT_.out (by kernel_rfl)) (fun _ _ _ h => h) (Or.inl ⟨by rfl, ?_⟩) ?_ ?_
  rotate_left
  ·intro w'
   go_simp
   with_reducible rfl
  rotate_left
  ·simp only [Act.put, List.setIfInBounds_toArray, List.set_cons_zero, List.set_cons_succ, i64_w, i32_w]
   rfl
  refine pure_ (i := 7) (N := some 2) (v := ?_) (a' := ?_) #[true, true, true, true, true, true, true, true, false, false] rfl rfl (any_of HT_.out (by kernel_rfl)) (fun _ _ _ h => h) (Or.inl ⟨by rfl, ?_⟩) ?_ ?_
  rotate_left
  ·intro w'
   go_simp
   with_reducible rfl
  rotate_left
  ·simp only [Act.put, List.setIfInBounds_toArray, List.set_cons_zero, List.set_cons_succ, i64_w, i32_w]
   rfl
  refine pure_ (i := 8) (N := some 3) (v := ?_) (a' := ?_) #[true, true, true, true, true, true, true, true, true, false] rfl rfl (any_of HT_.out (by kernel_rfl)) (fun _ _ _ h => h) (Or.inl ⟨by rfl, ?_⟩) ?_ ?_
  rotate_left
  ·intro w'
   go_simp
   with_reducible rfl
  rotate_left
  ·simp only [Act.put, List.setIfInBounds_toArray, List.set_cons_zero, List.set_cons_succ, i64_w, i32_w]
   rfl
  refine pure_ (i := 9) (N := some 4) (v := ?_) (a' := ?_) #[true, true, true, true, true, true, true, true, true, true] rfl rfl (any_of HT_.out (by kernel_rfl)) (fun _ _ _ h => h) (Or.inl ⟨by rfl, ?_⟩) ?_ ?_
  rotate_left
  ·intro w'
   go_simp
   with_reducible rfl
  rotate_left
  ·simp only [Act.put, List.setIfInBounds_toArray, List.set_cons_zero, List.set_cons_succ, i64_w, i32_w]
   rfl
  refine done_ (done_of HT_.out (by kernel_rfl)) ?_
  try go_wp2
  go_ret3
  exact ⟨by first | rfl | (simp [errW_none, errW_some] <;> rfl) | (simp [*, errW_none, errW_some] <;> rfl), by repeat (first | (with_reducible first | exact HB.out | apply Op.a1 | apply Op.a2 | apply Op.a3 | refine Op.a4 ?_ GE215.out) | exact HB.out)⟩
 ·replace c3 := Bool.eq_false_iff.mpr c3
  subst c3
  have H1 : (some (0, 0, false)) = some (r1, r2, r3) := by rw [if_neg (show ¬ (false = true) by decide)] at H; exact H
  clear H
  have H := H1
  clear H1
  simp only [Option.some.injEq, Prod.mk.injEq] at H
  obtain ⟨rfl, rfl, rfl⟩ := H
  go_enter Try.func43, Try.ntmps43
  go_wp2_with (first | ((with_reducible refine gate_callee (f := 45) rfl ?_); refine goesL_ (some 9) rfl rfl Try.func45 (by kernel_rfl) rfl #[.slice A0 l0.length c0] rfl (by (try simp only [List.map_toArray, List.map_cons, List.map_nil]); first | done | rfl | (simp only [List.length_drop, List.length_take]; rfl)) ?_; (with_reducible refine (impl_DedupAll.calls k _ _ l0 t208 t211 false _ ?side1 ?side2 A2.out).mono ?_); (case side1 => repeat (first | exact HR0.out | (with_reducible refine Kd.C_alloc ?_ _) | (with_reducible refine Kd.C_drewN ?_ _) | (with_reducible refine Kd.C_drew ?_))); (case side2 => exact HC0.out); rintro e w15 ⟨v209, v212, rfl, ho0, ho1, hb⟩; refine ⟨_, rfl, ?_⟩; have n0_ := Aside0.mk (Kd.R_lower ho0 (Op.a6 (by repeat (first | (with_reducible first | exact HB.out | apply Op.a1 | apply Op.a2 | apply Op.a3) | exact HB.out)))); have n1_ := Aside0.mk (Kd.S_lower ho1 (Op.a6 (by repeat (first | (with_reducible first | exact HB.out | apply Op.a1 | apply Op.a2 | apply Op.a3) | exact HB.out)))); have n2_ := Aside0.mk (Op.a5 (by repeat (first | (with_reducible first | exact HB.out | apply Op.a1 | apply Op.a2 | apply Op.a3) | exact HB.out)) hb); clear HB; have HO210 := n0_; have HO213 := n1_; have HB := n2_; clear n0_ n1_ n2_; (try clear hb); (try clear hb2); (try clear hk); (try clear hi); (try clear ho0); (try clear ho1)) | ((with_reducible refine gate_dst (N := 5) rfl ?_); refine box_event ?hg (N := 5) ?hd (cs := #[.slice none 0 0, .slice none 0 0]) (t := 57) ?hr ?_; (case hd => rfl); (case hg => rfl); (case hr => first | (go_simp; done) | (go_simp; rfl)); intro gb215 hg w16 hbox hb; have n0_ := Aside0.mk (Kd.R_below (by (with_reducible repeat (first | apply Kd.R_alloc | apply Kd.R_drewN | apply Kd.R_drew)); exact HO210.out) hb); have n1_ := Aside0.mk (Kd.S_below (by (with_reducible repeat (first | apply Kd.S_alloc | apply Kd.S_drewN | apply Kd.S_drew)); exact HO213.out) hb); have n2_ := Aside0.mk (Op.a5 (by repeat (first | (with_reducible first | exact HB.out | apply Op.a1 | apply Op.a2 | apply Op.a3) | exact HB.out)) hb); have n3_ := Aside0.mk (hbox); have n4_ := Aside0.mk ((by rw [hg]; exact (Op.a6 (by repeat (first | (with_reducible first | exact HB.out | apply Op.a1 | apply Op.a2 | apply Op.a3) | exact HB.out))) : w.heap.size ≤ gb215)); have n5_ := Aside0.mk ((by rw [hg]; exact (Op.a6 (by repeat (first | (with_reducible first | exact HB.out | apply Op.a1 | apply Op.a2 | apply Op.a3) | exact HB.out))) : w.heap.size ≤ gb215)); clear HO210; clear HO213; clear HB; have HO210 := n0_; have HO213 := n1_; have HB := n2_; have BK215 := n3_; have GW215 := n4_; have GE215 := n5_; clear n0_ n1_ n2_ n3_ n4_ n5_; clear hb hbox hg; obtain ⟨Ao17, co17, eo17⟩ := Kd.R_slice HO210.out; subst eo17; have hcz18_0 : w16.cell? ⟨gb215, 0, none⟩ = some (.slice none 0 0) := (blk_cell BK215.out 0).trans rfl; have hcz18_1 : w16.cell? ⟨gb215, 1, none⟩ = some (.slice none 0 0) := (blk_cell BK215.out 1).trans rfl; have hfz18_0 := blk_frozen BK215.out 0; have hfz18_1 := blk_frozen BK215.out 1; obtain ⟨Ao19, co19, eo19⟩ := Kd.S_slice HO213.out; subst eo19))
  go_ret3
  exact ⟨by first | rfl | (simp [errW_none, errW_some] <;> rfl) | (simp [*, errW_none, errW_some] <;> rfl), by repeat (first | (with_reducible first | exact HB.out | apply Op.a1 | apply Op.a2 | apply Op.a3 | refine Op.a4 ?_ GE215.out) | exact HB.out)⟩

/-! ### laws_FnExactSavedBy: function 10 -/
/-- what the law asks, one after the other -/
def laws_FnExactSavedBy.f (k : Nat) (l0 : List ByteArray) : Option Bool :=
 (laws_szStringS.f k l0 1048576).bind fun be3 => if be3 < 0 then some true else ((laws_toStringS.f k l0).bind fun be6 => (spec_SavedBy.f k be6).bind fun be11 => (laws_toStringS.f k l0).bind fun be14 => (impl_SavedBy.f k be14).bind fun be19 => if (be19.1 != be11.1) = true then some false else (if (be19.2.1 != be11.2.1) = true then some false else (if (be19.2.2 != be11.2.2) = true then some false else ((laws_toStringS.f k l0).bind fun be22 => (laws_eqStringS.f k be14 be22).bind fun be25 => if be25 = true then (some true) else some false))))
set_option maxRecDepth 100000 in
set_option maxHeartbeats 8000000 in
theorem laws_FnExactSavedBy.calls (k : Nat) (A0 : Option Addr) (c0 : Nat) (l0 : List ByteArray) (r : Bool) (w : World) (hr0 : Kd.C Kd.string w A0 l0.length l0) (hc0 : l0.length ≤ c0) (h : laws_FnExactSavedBy.f k l0 = some true) :
  Calls Try.prog 10 #[.slice A0 l0.length c0] w fun e w' => e = .returned (.bool true) ∧ Below w.heap.size w w' := by
 have HR0 := Aside0.mk hr0
 have HC0 := Aside0.mk hc0
 clear hr0 hc0
 have HB := Aside0.mk (Below.refl w.heap.size w)
 have HS0 : Aside0 (0 ≤ w.heap.size) := ⟨Nat.zero_le _⟩
 unfold laws_FnExactSavedBy.f at h
 replace h := Option.bind_eq_some_iff.1 h
 obtain ⟨r2, e3, h⟩ := h
 try dsimp only at h
 have Ee3 := Aside0.mk e3
 clear e3
 by_cases c1_ : r2 < 0
 ·clear h
  have c1b_ : decide (r2 < 0) = true := decide_eq_true c1_
  clear c1_
  go_enter Try.func10, Try.ntmps10
  go_wp2_with (first | ((with_reducible refine gate_callee (f := 38) rfl ?_); refine goesL_ (some 13) rfl rfl Try.func38 (by kernel_rfl) rfl #[.slice A0 l0.length c0, .int .i64 1048576] rfl (by (try simp only [List.map_toArray, List.map_cons, List.map_nil]); first | done | rfl | (simp only [List.length_drop, List.length_take]; rfl)) ?_; (with_reducible refine (laws_szStringS.calls k _ _ l0 1048576 r2 _ ?side1 ?side2 Ee3.out).mono ?_); (case side1 => exact (Kd.C_below HR0.out HB.out)); (case side2 => exact HC0.out); rintro ex_ w1 ⟨rfl, hd⟩; refine ⟨_, rfl, ?_⟩; have hb := hd.below; have hk := Kept.of_below hb (fun _ => False); have HSw1 := Aside0.mk (And.intro (hb.size) HS0.out); replace HB := Aside0.mk (Op.a5 HB.out hb); clear hb hk hd))
  go_ret
  exact ⟨rfl, HB.out⟩
 replace h := (if_neg c1_).symm.trans h
 have c1b_ : decide (r2 < 0) = false := decide_eq_false c1_
 clear c1_
 replace h := Option.bind_eq_some_iff.1 h
 obtain ⟨r5, e6, h⟩ := h
 try dsimp only at h
 have Ee6 := Aside0.mk e6
 clear e6
 replace h := Option.bind_eq_some_iff.1 h
 obtain ⟨⟨r8, r9, r10⟩, e11, h⟩ := h
 try dsimp only at h
 have Ee11 := Aside0.mk e11
 clear e11
 replace h := Option.bind_eq_some_iff.1 h
 obtain ⟨r13, e14, h⟩ := h
 try dsimp only at h
 have Ee14 := Aside0.mk e14
 clear e14
 replace h := Option.bind_eq_some_iff.1 h
 obtain ⟨⟨r16, r17, r18⟩, e19, h⟩ := h
 try dsimp only at h
 have Ee19 := Aside0.mk e19
 clear e19
 replace h := Op.must_n h
 obtain ⟨c2_, h⟩ := h
 have c2b_ := Bool.eq_false_iff.mpr c2_
 clear c2_
 replace h := Op.must_n h
 obtain ⟨c3_, h⟩ := h
 have c3b_ := Bool.eq_false_iff.mpr c3_
 clear c3_
 replace h := Op.must_n h
 obtain ⟨c4_, h⟩ := h
 have c4e_ : (r18 == r10) = true := by revert c4_; cases r18 <;> cases r10 <;> decide
 clear c4_
 replace h := Option.bind_eq_some_iff.1 h
 obtain ⟨r21, e22, h⟩ := h
 try dsimp only at h
 have Ee22 := Aside0.mk e22
 clear e22
 replace h := Option.bind_eq_some_iff.1 h
 obtain ⟨r24, e25, h⟩ := h
 try dsimp only at h
 have Ee25 := Aside0.mk e25
 clear e25
 replace h := Op.must_t h
 obtain ⟨rfl, h⟩ := h
 clear h
 go_enter Try.func10, Try.ntmps10
 go_wp2_with (first | ((with_reducible refine gate_callee (f := 38) rfl ?_); refine goesL_ (some 13) rfl rfl Try.func38 (by kernel_rfl) rfl #[.slice A0 l0.length c0, .int .i64 1048576] rfl (by (try simp only [List.map_toArray, List.map_cons, List.map_nil]); first | done | rfl | (simp only [List.length_drop, List.length_take]; rfl)) ?_; (with_reducible refine (laws_szStringS.calls k _ _ l0 1048576 r2 _ ?side1 ?side2 Ee3.out).mono ?_); (case side1 => exact (Kd.C_below HR0.out HB.out)); (case side2 => exact HC0.out); rintro ex_ w1 ⟨rfl, hd⟩; refine ⟨_, rfl, ?_⟩; have hb := hd.below; have hk := Kept.of_below hb (fun _ => False); have HSw1 := Aside0.mk (And.intro (hb.size) HS0.out); replace HB := Aside0.mk (Op.a5 HB.out hb); clear hb hk hd) | ((with_reducible refine gate_callee (f := 40) rfl ?_); refine goesL_ (some 18) rfl rfl Try.func40 (by kernel_rfl) rfl #[.slice A0 l0.length c0] rfl (by (try simp only [List.map_toArray, List.map_cons, List.map_nil]); first | done | rfl | (simp only [List.length_drop, List.length_take]; rfl)) ?_; (with_reducible refine (laws_toStringS.calls k _ _ l0 r5 _ ?side1 ?side2 Ee6.out).mono ?_); (case side1 => exact (Kd.C_below HR0.out HB.out)); (case side2 => exact HC0.out); rintro ex_ w4 ⟨ve6_0, rfl, ho0, hb⟩; refine ⟨_, rfl, ?_⟩; have hk := Kept.of_below hb (fun _ => False); have HSw4 := Aside0.mk (And.intro (hb.size) HSw1.out); have Oe6_0 := Aside0.mk (Op.inR ho0 (a := w1.heap.size) (b := w.heap.size) HB.out.size (Nat.le_refl _)); replace HB := Aside0.mk (Op.a5 HB.out hb); obtain ⟨Ae6_0, cAe6_0, ev_⟩ := Kd.R_slice Oe6_0.out; subst ev_; clear hb hk ho0) | ((with_reducible refine gate_callee (f := 42) rfl ?_); refine goesL_ (some 19) rfl rfl Try.func42 (by kernel_rfl) rfl #[.slice Ae6_0 r5.length cAe6_0] rfl (by (try simp only [List.map_toArray, List.map_cons, List.map_nil]); first | done | rfl | (simp only [List.length_drop, List.length_take]; rfl)) ?_; (with_reducible refine (spec_SavedBy.calls k _ _ r5 r8 r9 r10 _ ?side1 ?side2 Ee11.out).mono ?_); (case side1 => exact (Kd.R_reads' Oe6_0.out).2.2); (case side2 => (have h_ := Kd.R_reads' Oe6_0.out; have h1_ := h_.1; have h2_ := h_.2.1; omega)); rintro ex_ w7 ⟨rfl, hb⟩; refine ⟨_, rfl, ?_⟩; have hk := Kept.of_below hb (fun _ => False); replace Oe6_0 := Aside0.mk (Op.mvR Oe6_0.out hk (fun _ _ hs => hs)); have HSw7 := Aside0.mk (And.intro (hb.size) HSw4.out); replace HB := Aside0.mk (Op.a5 HB.out hb); clear hb hk) | ((with_reducible refine gate_callee (f := 40) rfl ?_); refine goesL_ (some 24) rfl rfl Try.func40 (by kernel_rfl) rfl #[.slice A0 l0.length c0] rfl (by (try simp only [List.map_toArray, List.map_cons, List.map_nil]); first | done | rfl | (simp only [List.length_drop, List.length_take]; rfl)) ?_; (with_reducible refine (laws_toStringS.calls k _ _ l0 r13 _ ?side1 ?side2 Ee14.out).mono ?_); (case side1 => exact (Kd.C_below HR0.out HB.out)); (case side2 => exact HC0.out); rintro ex_ w12 ⟨ve14_0, rfl, ho0, hb⟩; refine ⟨_, rfl, ?_⟩; have hk := Kept.of_below hb (fun _ => False); replace Oe6_0 := Aside0.mk (Op.mvR Oe6_0.out hk (fun _ _ hs => hs)); have HSw12 := Aside0.mk (And.intro (hb.size) HSw7.out); have Oe14_0 := Aside0.mk (Op.inR ho0 (a := w7.heap.size) (b := w.heap.size) HB.out.size (Nat.le_refl _)); replace HB := Aside0.mk (Op.a5 HB.out hb); obtain ⟨Ae14_0, cAe14_0, ev_⟩ := Kd.R_slice Oe14_0.out; subst ev_; clear hb hk ho0) | ((with_reducible refine gate_callee (f := 43) rfl ?_); refine goesL_ (some 27) rfl rfl Try.func43 (by kernel_rfl) rfl #[.slice Ae14_0 r13.length cAe14_0] rfl (by (try simp only [List.map_toArray, List.map_cons, List.map_nil]); first | done | rfl | (simp only [List.length_drop, List.length_take]; rfl)) ?_; (with_reducible refine (impl_SavedBy.calls k _ _ r13 r16 r17 r18 _ ?side1 ?side2 Ee19.out).mono ?_); (case side1 => exact (Kd.R_reads' Oe14_0.out).2.2); (case side2 => (have h_ := Kd.R_reads' Oe14_0.out; have h1_ := h_.1; have h2_ := h_.2.1; omega)); rintro ex_ w15 ⟨rfl, hb⟩; refine ⟨_, rfl, ?_⟩; have hk := Kept.of_below hb (fun _ => False); replace Oe6_0 := Aside0.mk (Op.mvR Oe6_0.out hk (fun _ _ hs => hs)); replace Oe14_0 := Aside0.mk (Op.mvR Oe14_0.out hk (fun _ _ hs => hs)); have HSw15 := Aside0.mk (And.intro (hb.size) HSw12.out); replace HB := Aside0.mk (Op.a5 HB.out hb); clear hb hk) | ((with_reducible refine gate_callee (f := 40) rfl ?_); refine goesL_ (some 46) rfl rfl Try.func40 (by kernel_rfl) rfl #[.slice A0 l0.length c0] rfl (by (try simp only [List.map_toArray, List.map_cons, List.map_nil]); first | done | rfl | (simp only [List.length_drop, List.length_take]; rfl)) ?_; (with_reducible refine (laws_toStringS.calls k _ _ l0 r21 _ ?side1 ?side2 Ee22.out).mono ?_); (case side1 => exact (Kd.C_below HR0.out HB.out)); (case side2 => exact HC0.out); rintro ex_ w20 ⟨ve22_0, rfl, ho0, hb⟩; refine ⟨_, rfl, ?_⟩; have hk := Kept.of_below hb (fun _ => False); replace Oe6_0 := Aside0.mk (Op.mvR Oe6_0.out hk (fun _ _ hs => hs)); replace Oe14_0 := Aside0.mk (Op.mvR Oe14_0.out hk (fun _ _ hs => hs)); have HSw20 := Aside0.mk (And.intro (hb.size) HSw15.out); have Oe22_0 := Aside0.mk (Op.inR ho0 (a := w15.heap.size) (b := w.heap.size) HB.out.size (Nat.le_refl _)); replace HB := Aside0.mk (Op.a5 HB.out hb); obtain ⟨Ae22_0, cAe22_0, ev_⟩ := Kd.R_slice Oe22_0.out; subst ev_; clear hb hk ho0) | ((with_reducible refine gate_callee (f := 35) rfl ?_); refine goesL_ (some 47) rfl rfl Try.func35 (by kernel_rfl) rfl #[.slice Ae14_0 r13.length cAe14_0, .slice Ae22_0 r21.length cAe22_0] rfl (by (try simp only [List.map_toArray, List.map_cons, List.map_nil]); first | done | rfl | (simp only [List.length_drop, List.length_take]; rfl)) ?_; (with_reducible refine (laws_eqStringS.calls k _ _ r13 _ _ r21 true _ ?side1 ?side2 ?side3 ?side4 Ee25.out).mono ?_); (case side1 => exact (Kd.R_reads' Oe14_0.out).2.2); (case side2 => (have h_ := Kd.R_reads' Oe14_0.out; have h1_ := h_.1; have h2_ := h_.2.1; omega)); (case side3 => exact (Kd.R_reads' Oe22_0.out).2.2); (case side4 => (have h_ := Kd.R_reads' Oe22_0.out; have h1_ := h_.1; have h2_ := h_.2.1; omega)); rintro ex_ w23 ⟨rfl, hd⟩; refine ⟨_, rfl, ?_⟩; have hb := hd.below; have hk := Kept.of_below hb (fun _ => False); replace Oe6_0 := Aside0.mk (Op.mvR Oe6_0.out hk (fun _ _ hs => hs)); replace Oe14_0 := Aside0.mk (Op.mvR Oe14_0.out hk (fun _ _ hs => hs)); replace Oe22_0 := Aside0.mk (Op.mvR Oe22_0.out hk (fun _ _ hs => hs)); have HSw23 := Aside0.mk (And.intro (hb.size) HSw20.out); replace HB := Aside0.mk (Op.a5 HB.out hb); clear hb hk hd))
 go_ret
 exact ⟨rfl, HB.out⟩

/-- THE ONE PURE STATEMENT of laws_FnExactSavedBy: yours. -/
def laws_FnExactSavedBy.Pure : Prop := ∀ (l0 : List ByteArray), (l0.length ≤ maxLen ∧ ∀ y_ ∈ l0, (fun z_ : ByteArray => z_.size ≤ maxLen) y_) → ∃ k, laws_FnExactSavedBy.f k l0 = some true
set_option maxHeartbeats 1000000 in
theorem laws_FnExactSavedBy.walk (P : laws_FnExactSavedBy.Pure) (A0 : Option Addr) (c0 : Nat) (l0 : List ByteArray) (w : World) (hr0 : Kd.C Kd.string w A0 l0.length l0) (hc0 : l0.length ≤ c0) (q0 : l0.length ≤ maxLen ∧ ∀ y_ ∈ l0, (fun z_ : ByteArray => z_.size ≤ maxLen) y_) :
  Calls Try.prog 10 #[.slice A0 l0.length c0] w fun e w' => e = .returned (.bool true) ∧ Below w.heap.size w w' := by
 obtain ⟨k, h⟩ := P l0 q0
 refine (laws_FnExactSavedBy.calls k _ _ l0 true w hr0 hc0 h).mono ?_
 rintro e w' ⟨rfl, hd⟩
 exact ⟨rfl, hd⟩

end Go.Proofs.Ytlmnlmcahhegkaa.PFnExactSavedBy
