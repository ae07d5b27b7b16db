/- Contracts of functions of the translation, written by a program of this repo (a changed copy of the printer). Not trusted: Lean checks it. -/
-- squeezed
import Derived.Test.YtlmnlmcahhegkaaPFnExactDedupAllx0
import Derived.Test.YtlmnlmcahhegkaaPFnExactDedupAllx1
import Derived.Test.YtlmnlmcahhegkaaPFnExactDedupAllx2
import Derived.Test.YtlmnlmcahhegkaaPFnExactDedupAllx3
import Derived.Test.YtlmnlmcahhegkaaPFnExactDedupAllx4
namespace Go.Proofs.Ytlmnlmcahhegkaa.PFnExactDedupAll
open Go.RowKit Go.Proofs.YtlmnlmcahhegkaaW.PrintWords Go.Proofs.YtlmnlmcahhegkaaW.PrintLast Go.Proofs.YtlmnlmcahhegkaaW.PrintMore
attribute [local go_sem] max2_int min2_int max_two min_two max_three min_three max_four min_four   -- for this text's walks alone
set_option linter.unusedVariables false
set_option linter.unusedSimpArgs false

/-! ### laws_heldStringS: function 37 -/
def laws_heldStringS.l0 : Nat → List ByteArray → Int → Int → Option (Int)
 | 0, _, _, _ => none
 | k + 1, x0, x1, x5 => if x5 < (x0.length : Int) then (if 0 ≤ x5 then ((laws_markText.f k x1).bind fun t214 => (if (rdOf ByteArray.empty x0 x5).toList = t214.toList then (laws_heldStringS.l0 k x0 (wrap64 (x1 + 1)) (wrap64 (x5 + 1))) else (some (-1)))) else (none)) else (some x1)
def laws_heldStringS.f (k : Nat) (l0 : List ByteArray) (a1 : Int) : Option (Int) := laws_heldStringS.l0 k l0 a1 0
theorem laws_heldStringS.mono_l : ∀ k, (∀ y0 y1 y2, LeO (laws_heldStringS.l0 k y0 y1 y2) (laws_heldStringS.l0 (k + 1) y0 y1 y2))
 | 0 => fun _ _ _ r h => by simp [laws_heldStringS.l0] at h
 | k + 1 => by
  have ih0 := laws_heldStringS.mono_l k
  ·intro y0 y1 y2
   unfold laws_heldStringS.l0
   repeat' first
   | (with_reducible exact ih0 _ _ _)
   | (with_reducible exact laws_markText.mono _ _)
   | (with_reducible exact LeO.refl _)
   | (with_reducible exact LeO.none _)
   | (with_reducible refine LeO.ite ?_ ?_)
   | (with_reducible refine LeO.bind ?_ (fun _ => ?_))
   | exact ih0 _ _ _
   | exact laws_markText.mono _ _
   | exact LeO.none _
   | refine LeO.ite ?_ ?_
   | refine LeO.bind ?_ (fun _ => ?_)
theorem laws_heldStringS.mono : ∀ a0 a1 k, LeO (laws_heldStringS.f k a0 a1) (laws_heldStringS.f (k + 1) a0 a1) := by
 intro a0 a1 k
 have ih0 := laws_heldStringS.mono_l k
 unfold laws_heldStringS.f
 repeat' first
   | (with_reducible exact ih0 _ _ _)
   | (with_reducible exact laws_markText.mono _ _)
   | (with_reducible exact LeO.refl _)
   | (with_reducible exact LeO.none _)
   | (with_reducible refine LeO.ite ?_ ?_)
   | (with_reducible refine LeO.bind ?_ (fun _ => ?_))
   | exact ih0 _ _ _
   | exact laws_markText.mono _ _
   | exact LeO.none _
   | refine LeO.ite ?_ ?_
   | refine LeO.bind ?_ (fun _ => ?_)
set_option maxHeartbeats 8000000 in
set_option maxRecDepth 100000 in
theorem laws_heldStringS.calls (k : Nat) (A0 : Option Addr) (c0 : Nat) (l0 : List ByteArray) (a1 : Int) (r : Int) (w : World) (hr0 : Kd.C Kd.string w A0 l0.length l0) (hc0 : l0.length ≤ c0) (h : laws_heldStringS.f k l0 a1 = some r) :
  Calls Try.prog 37 #[.slice A0 l0.length c0, .int .i64 a1] w fun e w' => e = .returned (.int .i64 r) ∧ Below w.heap.size w w' := by
 have HR0 := Aside0.mk hr0
 have HC0 := Aside0.mk hc0
 clear hr0 hc0
 have HB := Aside0.mk (Below.refl w.heap.size w)
 have H : (laws_heldStringS.l0 k l0 a1 0) = some r := h
 clear h
 have H' := Aside0.mk H
 clear H
 go_enter Try.func37, Try.ntmps37
 go_wp2
 go_loopg [1, 5] k (fun kq v1 v5 w' => ∃ (x1_1 : Int) (x5_1 : Int), v1 = .int .i64 x1_1 ∧ v5 = .int .i64 x5_1 ∧ Aside0 (laws_heldStringS.l0 kq l0 x1_1 x5_1 = some r) ∧ Aside0 (kq ≤ k) ∧ Aside0 (Below w.heap.size w w'))
 case atStart => exact ⟨(a1), (0), (by first | rfl | (simp; done) | (simp [*]; done)), (by first | rfl | (simp; done) | (simp [*]; done)), H', ⟨Nat.le_refl _⟩, ⟨by repeat (first | (with_reducible first | exact HB.out | apply Op.a1 | apply Op.a2 | apply Op.a3) | exact HB.out)⟩⟩
 case round =>
  clear H'
  try clear p2
  obtain ⟨x1_1, x5_1, rfl, rfl, HA, HK1, HB⟩ := hrel
  cases gk with
  | zero => exact absurd HA.out (by simp [laws_heldStringS.l0])
  | succ k1 =>
   have H := HA.out
   clear HA
   simp only [laws_heldStringS.l0] at H
   by_cases c3 : x5_1 < (l0.length : Int)
   ·rw [if_pos c3] at H
    have c3b0 : decide (x5_1 < (l0.length : Int)) = true := decide_eq_true c3
    clear c3
    by_cases c4 : 0 ≤ x5_1
    ·rw [if_pos c4] at H
     have c4b0 : decide (0 ≤ x5_1) = true := decide_eq_true c4
     clear c4
     replace H := Option.bind_eq_some_iff.mp H
     obtain ⟨t214, A50, H⟩ := H
     replace H : (if (rdOf ByteArray.empty l0 x5_1).toList = t214.toList then (laws_heldStringS.l0 k1 l0 (wrap64 (x1_1 + 1)) (wrap64 (x5_1 + 1))) else (some (-1))) = some r := H
     have A5 := Aside0.mk A50
     clear A50
     by_cases c6 : (rdOf ByteArray.empty l0 x5_1).toList = t214.toList
     ·rw [if_pos c6] at H
      have c6b0 : ((rdOf ByteArray.empty l0 x5_1).toList == t214.toList) = true := beq_iff_eq.mpr c6
      have c6b1 : ((rdOf ByteArray.empty l0 x5_1).toList != t214.toList) = false := bne_eq_false_iff_eq.mpr c6
      clear c6
      have H' := Aside0.mk H
      clear H
      try go_wp2
      have n0_ := Aside0.mk (Op.a3 HB.out)
      clear HB
      have HB := n0_
      clear n0_
      have p213 : 0 ≤ (x5_1 : Int) := of_decide_eq_true (by first | (with_reducible assumption) | assumption)
      have q213 : x5_1 < (l0.length : Int) := of_decide_eq_true (by first | (with_reducible assumption) | assumption)
      obtain ⟨ad213, e213, hx213_0⟩ := Kd.at_string HR0.out x5_1 p213 q213
      have hw213_0 := hx213_0
      cases e213
      replace hx213_0 := (HB.out.cell (World.block_lt_of_cell? w _ hx213_0)).trans hx213_0
      replace p213 := eq_true p213
      replace q213 := eq_true q213
      refine start_ (n := 7) (S := fun w' => w'.cell? (ad213.add (x5_1).toNat) = some (.string (rdOf ByteArray.empty l0 x5_1))) (ds := []) #[false, false, false, false, false, false, false] (by kernel_rfl) rfl rfl (((HB.out.cell (World.block_lt_of_cell? w _ hw213_0)).trans hw213_0)) (fun hHeld => ?_)
      generalize wr.drew = w7 at HB hx213_0 hHeld ⊢
      refine pure_ (i := 0) (N := some 12) (v := ?_) (a' := ?_) #[true, false, false, false, false, false, false] rfl rfl (by kernel_rfl) (fun _ _ _ h => h) (Or.inl ⟨by rfl, ?_⟩) ?_ ?_
      rotate_left
      ·intro w'
       go_simp
       with_reducible rfl
      rotate_left
      ·simp only [Act.put, List.setIfInBounds_toArray, List.set_cons_zero, List.set_cons_succ, i64_w, i32_w]
       rfl
      refine pure_ (i := 1) (N := some 13) (v := ?_) (a' := ?_) #[true, true, false, false, false, false, false] rfl rfl (by kernel_rfl) (fun _ _ _ h => h) (Or.inl ⟨by rfl, ?_⟩) ?_ ?_
      rotate_left
      ·intro w'
       go_simp
       with_reducible rfl
      rotate_left
      ·simp only [Act.put, List.setIfInBounds_toArray, List.set_cons_zero, List.set_cons_succ, i64_w, i32_w]
       rfl
      refine pure_ (i := 2) (N := some 14) (v := ?_) (a' := ?_) #[true, true, true, false, false, false, false] rfl rfl (by kernel_rfl) (fun _ _ _ h => h) (Or.inl ⟨by rfl, ?_⟩) ?_ ?_
      rotate_left
      ·intro w'
       go_simp
       with_reducible rfl
      rotate_left
      ·simp only [Act.put, List.setIfInBounds_toArray, List.set_cons_zero, List.set_cons_succ, i64_w, i32_w]
       rfl
      refine pure_ (i := 4) (N := some 16) (v := ?_) (a' := ?_) #[true, true, true, false, true, false, false] rfl rfl (by kernel_rfl) (fun _ _ _ h => h) (Or.inl ⟨by rfl, ?_⟩) ?_ ?_
      rotate_left
      ·intro w'
       go_simp
       with_reducible rfl
      rotate_left
      ·simp only [Act.put, List.setIfInBounds_toArray, List.set_cons_zero, List.set_cons_succ, i64_w, i32_w]
       rfl
      refine take_ (i := 3) (N := some 15) (v := ?_) (a' := ?_) #[true, true, true, true, true, false, false] rfl rfl (by kernel_rfl) (fun _ _ _ h => h) (Or.inl ⟨by rfl, ?_⟩) hHeld ?_ ?_
      rotate_left
      ·intro w' s0
       go_simp
       with_reducible rfl
      rotate_left
      ·simp only [Act.put, List.setIfInBounds_toArray, List.set_cons_zero, List.set_cons_succ, i64_w, i32_w]
       rfl
      refine one_ (i := 5) (N := some 17) #[true, true, true, true, true, true, false] rfl rfl (by kernel_rfl) (by decide) (fun K hK => ?_)
      refine goes_ Try.func79 (by kernel_rfl) rfl #[.int .i64 x1_1] (by rfl) rfl rfl (by (try simp only [List.map_toArray, List.map_cons, List.map_nil]); first | done | rfl | (simp only [List.length_drop, List.length_take]; rfl)) ?_
      with_reducible refine (laws_markText.calls k1 x1_1 t214 _ A5.out).mono ?_
      rintro e w8 ⟨rfl, hb⟩
      refine ⟨_, rfl, ?_⟩
      have n0_ := Aside0.mk (Op.a5 (by repeat (first | (with_reducible first | exact HB.out | apply Op.a1 | apply Op.a2 | apply Op.a3) | exact HB.out)) hb)
      clear HB
      have HB := n0_
      clear n0_
      (try clear hb)
      (try clear hb2)
      (try clear hk)
      (try clear hi)
      refine hK.out _ _ (((HB.out.cell (World.block_lt_of_cell? w _ hw213_0)).trans hw213_0)) (fun hHeld => ?_)
      clear hK K
      refine norm_ (a' := ?_) ?_ ?_
      rotate_left
      ·show Act.put _ (some 17) _ = _
       simp only [Act.put, List.setIfInBounds_toArray, List.set_cons_zero, List.set_cons_succ, i64_w, i32_w]
       rfl
      refine pure_ (i := 6) (N := some 18) (v := ?_) (a' := ?_) #[true, true, true, true, true, true, true] rfl rfl (by kernel_rfl) (fun _ _ _ h => h) (Or.inl ⟨by rfl, ?_⟩) ?_ ?_
      rotate_left
      ·intro w'
       go_simp
       with_reducible rfl
      rotate_left
      ·simp only [Act.put, List.setIfInBounds_toArray, List.set_cons_zero, List.set_cons_succ, i64_w, i32_w]
       rfl
      refine done_ (by kernel_rfl) ?_
      try go_wp2
      go_roundg k1
      case measure => have := HK1.out; omega
      case rel => exact ⟨(wrap64 (x1_1 + 1)), (wrap64 (x5_1 + 1)), (by first | rfl | (simp; done) | (simp [*]; done)), (by first | rfl | (simp; done) | (simp [*]; done)), H', ⟨by have := HK1.out; omega⟩, ⟨by repeat (first | (with_reducible first | exact HB.out | apply Op.a1 | apply Op.a2 | apply Op.a3) | exact HB.out)⟩⟩
     ·rw [if_neg c6] at H
      have c6b0 : ((rdOf ByteArray.empty l0 x5_1).toList == t214.toList) = false := beq_eq_false_iff_ne.mpr c6
      have c6b1 : ((rdOf ByteArray.empty l0 x5_1).toList != t214.toList) = true := bne_iff_ne.mpr c6
      obtain rfl := Option.some.inj H
      try go_wp2
      have n0_ := Aside0.mk (Op.a3 HB.out)
      clear HB
      have HB := n0_
      clear n0_
      have p213 : 0 ≤ (x5_1 : Int) := of_decide_eq_true (by first | (with_reducible assumption) | assumption)
      have q213 : x5_1 < (l0.length : Int) := of_decide_eq_true (by first | (with_reducible assumption) | assumption)
      obtain ⟨ad213, e213, hx213_0⟩ := Kd.at_string HR0.out x5_1 p213 q213
      have hw213_0 := hx213_0
      cases e213
      replace hx213_0 := (HB.out.cell (World.block_lt_of_cell? w _ hx213_0)).trans hx213_0
      replace p213 := eq_true p213
      replace q213 := eq_true q213
      refine start_ (n := 7) (S := fun w' => w'.cell? (ad213.add (x5_1).toNat) = some (.string (rdOf ByteArray.empty l0 x5_1))) (ds := []) #[false, false, false, false, false, false, false] (by kernel_rfl) rfl rfl (((HB.out.cell (World.block_lt_of_cell? w _ hw213_0)).trans hw213_0)) (fun hHeld => ?_)
      generalize wr.drew = w9 at HB hx213_0 hHeld ⊢
      refine pure_ (i := 0) (N := some 12) (v := ?_) (a' := ?_) #[true, false, false, false, false, false, false] rfl rfl (by kernel_rfl) (fun _ _ _ h => h) (Or.inl ⟨by rfl, ?_⟩) ?_ ?_
      rotate_left
      ·intro w'
       go_simp
       with_reducible rfl
      rotate_left
      ·simp only [Act.put, List.setIfInBounds_toArray, List.set_cons_zero, List.set_cons_succ, i64_w, i32_w]
       rfl
      refine pure_ (i := 1) (N := some 13) (v := ?_) (a' := ?_) #[true, true, false, false, false, false, false] rfl rfl (by kernel_rfl) (fun _ _ _ h => h) (Or.inl ⟨by rfl, ?_⟩) ?_ ?_
      rotate_left
      ·intro w'
       go_simp
       with_reducible rfl
      rotate_left
      ·simp only [Act.put, List.setIfInBounds_toArray, List.set_cons_zero, List.set_cons_succ, i64_w, i32_w]
       rfl
      refine pure_ (i := 2) (N := some 14) (v := ?_) (a' := ?_) #[true, true, true, false, false, false, false] rfl rfl (by kernel_rfl) (fun _ _ _ h => h) (Or.inl ⟨by rfl, ?_⟩) ?_ ?_
      rotate_left
      ·intro w'
       go_simp
       with_reducible rfl
      rotate_left
      ·simp only [Act.put, List.setIfInBounds_toArray, List.set_cons_zero, List.set_cons_succ, i64_w, i32_w]
       rfl
      refine pure_ (i := 4) (N := some 16) (v := ?_) (a' := ?_) #[true, true, true, false, true, false, false] rfl rfl (by kernel_rfl) (fun _ _ _ h => h) (Or.inl ⟨by rfl, ?_⟩) ?_ ?_
      rotate_left
      ·intro w'
       go_simp
       with_reducible rfl
      rotate_left
      ·simp only [Act.put, List.setIfInBounds_toArray, List.set_cons_zero, List.set_cons_succ, i64_w, i32_w]
       rfl
      refine take_ (i := 3) (N := some 15) (v := ?_) (a' := ?_) #[true, true, true, true, true, false, false] rfl rfl (by kernel_rfl) (fun _ _ _ h => h) (Or.inl ⟨by rfl, ?_⟩) hHeld ?_ ?_
      rotate_left
      ·intro w' s0
       go_simp
       with_reducible rfl
      rotate_left
      ·simp only [Act.put, List.setIfInBounds_toArray, List.set_cons_zero, List.set_cons_succ, i64_w, i32_w]
       rfl
      refine one_ (i := 5) (N := some 17) #[true, true, true, true, true, true, false] rfl rfl (by kernel_rfl) (by decide) (fun K hK => ?_)
      refine goes_ Try.func79 (by kernel_rfl) rfl #[.int .i64 x1_1] (by rfl) rfl rfl (by (try simp only [List.map_toArray, List.map_cons, List.map_nil]); first | done | rfl | (simp only [List.length_drop, List.length_take]; rfl)) ?_
      with_reducible refine (laws_markText.calls k1 x1_1 t214 _ A5.out).mono ?_
      rintro e w10 ⟨rfl, hb⟩
      refine ⟨_, rfl, ?_⟩
      have n0_ := Aside0.mk (Op.a5 (by repeat (first | (with_reducible first | exact HB.out | apply Op.a1 | apply Op.a2 | apply Op.a3) | exact HB.out)) hb)
      clear HB
      have HB := n0_
      clear n0_
      (try clear hb)
      (try clear hb2)
      (try clear hk)
      (try clear hi)
      refine hK.out _ _ (((HB.out.cell (World.block_lt_of_cell? w _ hw213_0)).trans hw213_0)) (fun hHeld => ?_)
      clear hK K
      refine norm_ (a' := ?_) ?_ ?_
      rotate_left
      ·show Act.put _ (some 17) _ = _
       simp only [Act.put, List.setIfInBounds_toArray, List.set_cons_zero, List.set_cons_succ, i64_w, i32_w]
       rfl
      refine pure_ (i := 6) (N := some 18) (v := ?_) (a' := ?_) #[true, true, true, true, true, true, true] rfl rfl (by kernel_rfl) (fun _ _ _ h => h) (Or.inl ⟨by rfl, ?_⟩) ?_ ?_
      rotate_left
      ·intro w'
       go_simp
       with_reducible rfl
      rotate_left
      ·simp only [Act.put, List.setIfInBounds_toArray, List.set_cons_zero, List.set_cons_succ, i64_w, i32_w]
       rfl
      refine done_ (by kernel_rfl) ?_
      try go_wp2
      go_ret
      exact ⟨by first | rfl | (simp [errW_none, errW_some] <;> rfl) | (simp [*, errW_none, errW_some] <;> rfl), by repeat (first | (with_reducible first | exact HB.out | apply Op.a1 | apply Op.a2 | apply Op.a3) | exact HB.out)⟩
    ·rw [if_neg c4] at H
     exact absurd H (by simp)
   ·rw [if_neg c3] at H
    have c3b0 : decide (x5_1 < (l0.length : Int)) = false := decide_eq_false c3
    clear c3
    obtain rfl := Option.some.inj H
    go_wp2
    go_ret
    exact ⟨by first | rfl | (simp [errW_none, errW_some] <;> rfl) | (simp [*, errW_none, errW_some] <;> rfl), by repeat (first | (with_reducible first | exact HB.out | apply Op.a1 | apply Op.a2 | apply Op.a3) | exact HB.out)⟩

/-! ### laws_heldIntS: function 32 -/
def laws_heldIntS.l0 : Nat → List Int → Int → Int → Option (Int)
 | 0, _, _, _ => none
 | k + 1, x0, x1, x5 => if x5 < (x0.length : Int) then (if 0 ≤ x5 then (if (rd x0 x5) = x1 then (laws_heldIntS.l0 k x0 (wrap64 (x1 + 1)) (wrap64 (x5 + 1))) else (some (-1))) else (none)) else (some x1)
def laws_heldIntS.f (k : Nat) (l0 : List Int) (a1 : Int) : Option (Int) := laws_heldIntS.l0 k l0 a1 0
theorem laws_heldIntS.mono_l : ∀ k, (∀ y0 y1 y2, LeO (laws_heldIntS.l0 k y0 y1 y2) (laws_heldIntS.l0 (k + 1) y0 y1 y2))
 | 0 => fun _ _ _ r h => by simp [laws_heldIntS.l0] at h
 | k + 1 => by
  have ih0 := laws_heldIntS.mono_l k
  ·intro y0 y1 y2
   unfold laws_heldIntS.l0
   repeat' first
   | (with_reducible exact ih0 _ _ _)
   | (with_reducible exact LeO.refl _)
   | (with_reducible exact LeO.none _)
   | (with_reducible refine LeO.ite ?_ ?_)
   | (with_reducible refine LeO.bind ?_ (fun _ => ?_))
   | exact ih0 _ _ _
   | exact LeO.none _
   | refine LeO.ite ?_ ?_
   | refine LeO.bind ?_ (fun _ => ?_)
theorem laws_heldIntS.mono : ∀ a0 a1 k, LeO (laws_heldIntS.f k a0 a1) (laws_heldIntS.f (k + 1) a0 a1) := by
 intro a0 a1 k
 have ih0 := laws_heldIntS.mono_l k
 unfold laws_heldIntS.f
 repeat' first
   | (with_reducible exact ih0 _ _ _)
   | (with_reducible exact LeO.refl _)
   | (with_reducible exact LeO.none _)
   | (with_reducible refine LeO.ite ?_ ?_)
   | (with_reducible refine LeO.bind ?_ (fun _ => ?_))
   | exact ih0 _ _ _
   | exact LeO.none _
   | refine LeO.ite ?_ ?_
   | refine LeO.bind ?_ (fun _ => ?_)
set_option maxHeartbeats 8000000 in
set_option maxRecDepth 100000 in
theorem laws_heldIntS.calls (k : Nat) (A0 : Option Addr) (c0 : Nat) (l0 : List Int) (a1 : Int) (r : Int) (w : World) (hr0 : Kd.C (Kd.int .i64) w A0 l0.length l0) (hc0 : l0.length ≤ c0) (h : laws_heldIntS.f k l0 a1 = some r) :
  Calls Try.prog 32 #[.slice A0 l0.length c0, .int .i64 a1] w fun e w' => e = .returned (.int .i64 r) ∧ Drawn0 w w' := by
 have HR0 := Aside0.mk hr0
 have HC0 := Aside0.mk hc0
 clear hr0 hc0
 have H : (laws_heldIntS.l0 k l0 a1 0) = some r := h
 clear h
 have H' := Aside0.mk H
 clear H
 go_enter Try.func32, Try.ntmps32
 go_wp2
 go_loopg [1, 5] k (fun kq v1 v5 w' => ∃ (x1_1 : Int) (x5_1 : Int), v1 = .int .i64 x1_1 ∧ v5 = .int .i64 x5_1 ∧ Aside0 (laws_heldIntS.l0 kq l0 x1_1 x5_1 = some r) ∧ Aside0 (kq ≤ k) ∧ Drawn0 w w')
 case atStart => exact ⟨(a1), (0), (by first | rfl | (simp; done) | (simp [*]; done)), (by first | rfl | (simp; done) | (simp [*]; done)), H', ⟨Nat.le_refl _⟩, by repeat (first | exact Drawn0.refl _ | apply Drawn0.step)⟩
 case round =>
  clear H'
  try clear p2
  obtain ⟨x1_1, x5_1, rfl, rfl, HA, HK1, ⟨m1, rfl⟩⟩ := hrel
  cases gk with
  | zero => exact absurd HA.out (by simp [laws_heldIntS.l0])
  | succ k1 =>
   have H := HA.out
   clear HA
   simp only [laws_heldIntS.l0] at H
   by_cases c3 : x5_1 < (l0.length : Int)
   ·rw [if_pos c3] at H
    have c3b0 : decide (x5_1 < (l0.length : Int)) = true := decide_eq_true c3
    clear c3
    by_cases c4 : 0 ≤ x5_1
    ·rw [if_pos c4] at H
     have c4b0 : decide (0 ≤ x5_1) = true := decide_eq_true c4
     clear c4
     by_cases c5 : (rd l0 x5_1) = x1_1
     ·rw [if_pos c5] at H
      have c5b0 : ((rd l0 x5_1) == x1_1) = true := beq_iff_eq.mpr c5
      have c5b1 : ((rd l0 x5_1) != x1_1) = false := bne_eq_false_iff_eq.mpr c5
      clear c5
      have H' := Aside0.mk H
      clear H
      have p215 : 0 ≤ (x5_1 : Int) := of_decide_eq_true (by first | (with_reducible assumption) | assumption)
      have q215 : x5_1 < (l0.length : Int) := of_decide_eq_true (by first | (with_reducible assumption) | assumption)
      obtain ⟨ad215, e215, hx215_0⟩ := Kd.at_int HR0.out x5_1 p215 q215
      cases e215
      replace p215 := eq_true p215
      replace q215 := eq_true q215
      go_wp2
      go_roundg k1
      case measure => have := HK1.out; omega
      case rel => exact ⟨(wrap64 (x1_1 + 1)), (wrap64 (x5_1 + 1)), (by first | rfl | (simp; done) | (simp [*]; done)), (by first | rfl | (simp; done) | (simp [*]; done)), H', ⟨by have := HK1.out; omega⟩, by repeat (first | exact Drawn0.refl _ | apply Drawn0.step)⟩
     ·rw [if_neg c5] at H
      have c5b0 : ((rd l0 x5_1) == x1_1) = false := beq_eq_false_iff_ne.mpr c5
      have c5b1 : ((rd l0 x5_1) != x1_1) = true := bne_iff_ne.mpr c5
      obtain rfl := Option.some.inj H
      have p215 : 0 ≤ (x5_1 : Int) := of_decide_eq_true (by first | (with_reducible assumption) | assumption)
      have q215 : x5_1 < (l0.length : Int) := of_decide_eq_true (by first | (with_reducible assumption) | assumption)
      obtain ⟨ad215, e215, hx215_0⟩ := Kd.at_int HR0.out x5_1 p215 q215
      cases e215
      replace p215 := eq_true p215
      replace q215 := eq_true q215
      go_wp2
      go_ret
      exact ⟨by first | rfl | (simp; done) | (simp [*]; done), by repeat (first | exact Drawn0.refl _ | apply Drawn0.step)⟩
    ·rw [if_neg c4] at H
     exact absurd H (by simp)
   ·rw [if_neg c3] at H
    have c3b0 : decide (x5_1 < (l0.length : Int)) = false := decide_eq_false c3
    clear c3
    obtain rfl := Option.some.inj H
    go_wp2
    go_ret
    exact ⟨by first | rfl | (simp; done) | (simp [*]; done), by repeat (first | exact Drawn0.refl _ | apply Drawn0.step)⟩

/-! ### laws_heldIntSS: function 86 -/
def laws_heldIntSS.l0 : Nat → List (List Int) → Int → Int → Option (Int)
 | 0, _, _, _ => none
 | k + 1, x0, x1, x5 => if x5 < (x0.length : Int) then (if 0 ≤ x5 then ((laws_heldIntS.f k (rd_L3 x0 x5) x1).bind fun t217 => (if t217 < 0 then (some (-1)) else (laws_heldIntSS.l0 k x0 t217 (wrap64 (x5 + 1))))) else (none)) else (some x1)
def laws_heldIntSS.f (k : Nat) (l0 : List (List Int)) (a1 : Int) : Option (Int) := laws_heldIntSS.l0 k l0 a1 0
theorem laws_heldIntSS.mono_l : ∀ k, (∀ y0 y1 y2, LeO (laws_heldIntSS.l0 k y0 y1 y2) (laws_heldIntSS.l0 (k + 1) y0 y1 y2))
 | 0 => fun _ _ _ r h => by simp [laws_heldIntSS.l0] at h
 | k + 1 => by
  have ih0 := laws_heldIntSS.mono_l k
  ·intro y0 y1 y2
   unfold laws_heldIntSS.l0
   repeat' first
   | (with_reducible exact ih0 _ _ _)
   | (with_reducible exact laws_heldIntS.mono _ _ _)
   | (with_reducible exact LeO.refl _)
   | (with_reducible exact LeO.none _)
   | (with_reducible refine LeO.ite ?_ ?_)
   | (with_reducible refine LeO.bind ?_ (fun _ => ?_))
   | exact ih0 _ _ _
   | exact laws_heldIntS.mono _ _ _
   | exact LeO.none _
   | refine LeO.ite ?_ ?_
   | refine LeO.bind ?_ (fun _ => ?_)
theorem laws_heldIntSS.mono : ∀ a0 a1 k, LeO (laws_heldIntSS.f k a0 a1) (laws_heldIntSS.f (k + 1) a0 a1) := by
 intro a0 a1 k
 have ih0 := laws_heldIntSS.mono_l k
 unfold laws_heldIntSS.f
 repeat' first
   | (with_reducible exact ih0 _ _ _)
   | (with_reducible exact laws_heldIntS.mono _ _ _)
   | (with_reducible exact LeO.refl _)
   | (with_reducible exact LeO.none _)
   | (with_reducible refine LeO.ite ?_ ?_)
   | (with_reducible refine LeO.bind ?_ (fun _ => ?_))
   | exact ih0 _ _ _
   | exact laws_heldIntS.mono _ _ _
   | exact LeO.none _
   | refine LeO.ite ?_ ?_
   | refine LeO.bind ?_ (fun _ => ?_)
set_option maxHeartbeats 8000000 in
set_option maxRecDepth 100000 in
theorem laws_heldIntSS.calls (k : Nat) (A0 : Option Addr) (c0 : Nat) (l0 : List (List Int)) (a1 : Int) (r : Int) (w : World) (hr0 : Kd.C (Kd.slice 3 (Kd.int .i64)) w A0 l0.length l0) (hc0 : l0.length ≤ c0) (h : laws_heldIntSS.f k l0 a1 = some r) :
  Calls Try.prog 86 #[.slice A0 l0.length c0, .int .i64 a1] w fun e w' => e = .returned (.int .i64 r) ∧ Drawn0 w w' := by
 have HR0 := Aside0.mk hr0
 have HC0 := Aside0.mk hc0
 clear hr0 hc0
 have H : (laws_heldIntSS.l0 k l0 a1 0) = some r := h
 clear h
 have H' := Aside0.mk H
 clear H
 go_enter Try.func86, Try.ntmps86
 go_wp2
 go_loopg [1, 5] k (fun kq v1 v5 w' => ∃ (x1_1 : Int) (x5_1 : Int), v1 = .int .i64 x1_1 ∧ v5 = .int .i64 x5_1 ∧ Aside0 (laws_heldIntSS.l0 kq l0 x1_1 x5_1 = some r) ∧ Aside0 (kq ≤ k) ∧ Drawn0 w w')
 case atStart => exact ⟨(a1), (0), (by first | rfl | (simp; done) | (simp [*]; done)), (by first | rfl | (simp; done) | (simp [*]; done)), H', ⟨Nat.le_refl _⟩, by repeat (first | exact Drawn0.refl _ | apply Drawn0.step)⟩
 case round =>
  clear H'
  try clear p2
  obtain ⟨x1_1, x5_1, rfl, rfl, HA, HK1, ⟨m1, rfl⟩⟩ := hrel
  cases gk with
  | zero => exact absurd HA.out (by simp [laws_heldIntSS.l0])
  | succ k1 =>
   have H := HA.out
   clear HA
   simp only [laws_heldIntSS.l0] at H
   by_cases c3 : x5_1 < (l0.length : Int)
   ·rw [if_pos c3] at H
    have c3b0 : decide (x5_1 < (l0.length : Int)) = true := decide_eq_true c3
    clear c3
    by_cases c4 : 0 ≤ x5_1
    ·rw [if_pos c4] at H
     have c4b0 : decide (0 ≤ x5_1) = true := decide_eq_true c4
     clear c4
     replace H := Option.bind_eq_some_iff.mp H
     obtain ⟨t217, A50, H⟩ := H
     replace H : (if t217 < 0 then (some (-1)) else (laws_heldIntSS.l0 k1 l0 t217 (wrap64 (x5_1 + 1)))) = some r := H
     have A5 := Aside0.mk A50
     clear A50
     by_cases c6 : t217 < 0
     ·rw [if_pos c6] at H
      have c6b0 : decide (t217 < 0) = true := decide_eq_true c6
      clear c6
      obtain rfl := Option.some.inj H
      have p216 : 0 ≤ (x5_1 : Int) := of_decide_eq_true (by first | (with_reducible assumption) | assumption)
      have q216 : x5_1 < (l0.length : Int) := of_decide_eq_true (by first | (with_reducible assumption) | assumption)
      obtain ⟨ad216, A216_0, c216_0, e216, hx216_0, hl216_0, hi216_0⟩ := at_L3 HR0.out x5_1 p216 q216
      cases e216
      have HR216_0 := Aside0.mk hi216_0
      have HC216_0 := Aside0.mk hl216_0
      clear hi216_0 hl216_0
      replace p216 := eq_true p216
      replace q216 := eq_true q216
      go_wp2_with (first | ((with_reducible refine gate_callee (f := 32) rfl ?_); refine goesL_ (some 17) rfl rfl Try.func32 (by kernel_rfl) rfl #[.slice A216_0 (rd_L3 l0 x5_1).length c216_0, .int .i64 x1_1] rfl (by (try simp only [List.map_toArray, List.map_cons, List.map_nil]); first | done | rfl | (simp only [List.length_drop, List.length_take]; rfl)) ?_; (with_reducible refine (laws_heldIntS.calls k1 _ _ (rd_L3 l0 x5_1) x1_1 t217 _ ?side1 ?side2 A5.out).mono ?_); (case side1 => repeat (first | exact HR216_0.out | (with_reducible refine Kd.C_alloc ?_ _) | (with_reducible refine Kd.C_drewN ?_ _) | (with_reducible refine Kd.C_drew ?_))); (case side2 => exact HC216_0.out); rintro e w' ⟨rfl, ⟨nd, rfl⟩⟩; refine ⟨_, rfl, ?_⟩))
      go_ret
      exact ⟨by first | rfl | (simp; done) | (simp [*]; done), by repeat (first | exact Drawn0.refl _ | apply Drawn0.step)⟩
     ·rw [if_neg c6] at H
      have c6b0 : decide (t217 < 0) = false := decide_eq_false c6
      clear c6
      have H' := Aside0.mk H
      clear H
      have p216 : 0 ≤ (x5_1 : Int) := of_decide_eq_true (by first | (with_reducible assumption) | assumption)
      have q216 : x5_1 < (l0.length : Int) := of_decide_eq_true (by first | (with_reducible assumption) | assumption)
      obtain ⟨ad216, A216_0, c216_0, e216, hx216_0, hl216_0, hi216_0⟩ := at_L3 HR0.out x5_1 p216 q216
      cases e216
      have HR216_0 := Aside0.mk hi216_0
      have HC216_0 := Aside0.mk hl216_0
      clear hi216_0 hl216_0
      replace p216 := eq_true p216
      replace q216 := eq_true q216
      go_wp2_with (first | ((with_reducible refine gate_callee (f := 32) rfl ?_); refine goesL_ (some 17) rfl rfl Try.func32 (by kernel_rfl) rfl #[.slice A216_0 (rd_L3 l0 x5_1).length c216_0, .int .i64 x1_1] rfl (by (try simp only [List.map_toArray, List.map_cons, List.map_nil]); first | done | rfl | (simp only [List.length_drop, List.length_take]; rfl)) ?_; (with_reducible refine (laws_heldIntS.calls k1 _ _ (rd_L3 l0 x5_1) x1_1 t217 _ ?side1 ?side2 A5.out).mono ?_); (case side1 => repeat (first | exact HR216_0.out | (with_reducible refine Kd.C_alloc ?_ _) | (with_reducible refine Kd.C_drewN ?_ _) | (with_reducible refine Kd.C_drew ?_))); (case side2 => exact HC216_0.out); rintro e w' ⟨rfl, ⟨nd, rfl⟩⟩; refine ⟨_, rfl, ?_⟩))
      go_roundg k1
      case measure => have := HK1.out; omega
      case rel => exact ⟨(t217), (wrap64 (x5_1 + 1)), (by first | rfl | (simp; done) | (simp [*]; done)), (by first | rfl | (simp; done) | (simp [*]; done)), H', ⟨by have := HK1.out; omega⟩, by repeat (first | exact Drawn0.refl _ | apply Drawn0.step)⟩
    ·rw [if_neg c4] at H
     exact absurd H (by simp)
   ·rw [if_neg c3] at H
    have c3b0 : decide (x5_1 < (l0.length : Int)) = false := decide_eq_false c3
    clear c3
    obtain rfl := Option.some.inj H
    go_wp2
    go_ret
    exact ⟨by first | rfl | (simp; done) | (simp [*]; done), by repeat (first | exact Drawn0.refl _ | apply Drawn0.step)⟩

/-! ### laws_heldRecipe: function 48 -/
def laws_heldRecipe.f (k : Nat) (l0_0 : List ByteArray) (l0_1 : List (List Int)) (a1 : Int) : Option (Int) := (laws_heldStringS.f k l0_0 a1).bind fun t219 => (if t219 < 0 then (some (-1)) else ((laws_heldIntSS.f k l0_1 t219).bind fun t220 => (if t220 < 0 then (some (-1)) else (some t220))))
theorem laws_heldRecipe.mono : ∀ a0 a1 a2 k, LeO (laws_heldRecipe.f k a0 a1 a2) (laws_heldRecipe.f (k + 1) a0 a1 a2) := by
 intro a0 a1 a2 k
 unfold laws_heldRecipe.f
 repeat' first
   | (with_reducible exact laws_heldIntSS.mono _ _ _)
   | (with_reducible exact laws_heldStringS.mono _ _ _)
   | (with_reducible exact LeO.refl _)
   | (with_reducible exact LeO.none _)
   | (with_reducible refine LeO.ite ?_ ?_)
   | (with_reducible refine LeO.bind ?_ (fun _ => ?_))
   | exact laws_heldIntSS.mono _ _ _
   | exact laws_heldStringS.mono _ _ _
   | exact LeO.none _
   | refine LeO.ite ?_ ?_
   | refine LeO.bind ?_ (fun _ => ?_)
set_option maxHeartbeats 8000000 in
set_option maxRecDepth 100000 in
theorem laws_heldRecipe.calls (k : Nat) (A0_0 : Option Addr) (c0_0 : Nat) (l0_0 : List ByteArray) (A0_1 : Option Addr) (c0_1 : Nat) (l0_1 : List (List Int)) (a1 : Int) (r : Int) (w : World) (hr0_0 : Kd.C Kd.string w A0_0 l0_0.length l0_0) (hc0_0 : l0_0.length ≤ c0_0) (hr0_1 : Kd.C (Kd.slice 3 (Kd.int .i64)) w A0_1 l0_1.length l0_1) (hc0_1 : l0_1.length ≤ c0_1) (h : laws_heldRecipe.f k l0_0 l0_1 a1 = some r) :
  Calls Try.prog 48 #[.agg #[.slice A0_0 l0_0.length c0_0, .slice A0_1 l0_1.length c0_1], .int .i64 a1] w fun e w' => e = .returned (.int .i64 r) ∧ Below w.heap.size w w' := by
 have hu57 := Try.underlying57
 have HR0_0 := Aside0.mk hr0_0
 have HC0_0 := Aside0.mk hc0_0
 clear hr0_0 hc0_0
 have HR0_1 := Aside0.mk hr0_1
 have HC0_1 := Aside0.mk hc0_1
 clear hr0_1 hc0_1
 have HB := Aside0.mk (Below.refl w.heap.size w)
 have H : ((laws_heldStringS.f k l0_0 a1).bind fun t219 => (if t219 < 0 then (some (-1)) else ((laws_heldIntSS.f k l0_1 t219).bind fun t220 => (if t220 < 0 then (some (-1)) else (some t220))))) = some r := h
 clear h
 replace H := Option.bind_eq_some_iff.mp H
 obtain ⟨t219, A30, H⟩ := H
 replace H : (if t219 < 0 then (some (-1)) else ((laws_heldIntSS.f k l0_1 t219).bind fun t220 => (if t220 < 0 then (some (-1)) else (some t220)))) = some r := H
 have A3 := Aside0.mk A30
 clear A30
 by_cases c4 : t219 < 0
 ·rw [if_pos c4] at H
  have c4b0 : decide (t219 < 0) = true := decide_eq_true c4
  clear c4
  obtain rfl := Option.some.inj H
  go_enter Try.func48, Try.ntmps48
  go_wp2_with (first | ((with_reducible refine gate_dst (N := 2) rfl ?_); refine box_event ?hg (N := 2) ?hd (cs := #[.slice A0_0 l0_0.length c0_0, .slice A0_1 l0_1.length c0_1]) (t := 57) ?hr ?_; (case hd => rfl); (case hg => rfl); (case hr => first | (go_simp; done) | (go_simp; rfl)); intro gb218 hg w5 hbox hb; have n0_ := Aside0.mk (Op.a5 (by repeat (first | (with_reducible first | exact HB.out | apply Op.a1 | apply Op.a2 | apply Op.a3) | exact HB.out)) hb); have n1_ := Aside0.mk (hbox); have n2_ := Aside0.mk ((by rw [hg]; exact (Op.a6 (by repeat (first | (with_reducible first | exact HB.out | apply Op.a1 | apply Op.a2 | apply Op.a3) | exact HB.out))) : w.heap.size ≤ gb218)); have n3_ := Aside0.mk ((by rw [hg]; exact (Op.a6 (by repeat (first | (with_reducible first | exact HB.out | apply Op.a1 | apply Op.a2 | apply Op.a3) | exact HB.out))) : w.heap.size ≤ gb218)); clear HB; have HB := n0_; have BK218 := n1_; have GW218 := n2_; have GE218 := n3_; clear n0_ n1_ n2_ n3_; clear hb hbox hg; have hcz6_0 : w5.cell? ⟨gb218, 0, none⟩ = some (.slice A0_0 l0_0.length c0_0) := (blk_cell BK218.out 0).trans rfl; have hcz6_1 : w5.cell? ⟨gb218, 1, none⟩ = some (.slice A0_1 l0_1.length c0_1) := (blk_cell BK218.out 1).trans rfl; have hfz6_0 := blk_frozen BK218.out 0; have hfz6_1 := blk_frozen BK218.out 1) | ((with_reducible refine gate_callee (f := 37) rfl ?_); refine goesL_ (some 8) rfl rfl Try.func37 (by kernel_rfl) rfl #[.slice A0_0 l0_0.length c0_0, .int .i64 a1] rfl (by (try simp only [List.map_toArray, List.map_cons, List.map_nil]); first | done | rfl | (simp only [List.length_drop, List.length_take]; rfl)) ?_; (with_reducible refine (laws_heldStringS.calls k _ _ l0_0 a1 t219 _ ?side1 ?side2 A3.out).mono ?_); (case side1 => repeat (first | exact (Kd.C_below HR0_0.out HB.out) | (with_reducible refine Kd.C_alloc ?_ _) | (with_reducible refine Kd.C_drewN ?_ _) | (with_reducible refine Kd.C_drew ?_))); (case side2 => exact HC0_0.out); rintro e w7 ⟨rfl, hb⟩; refine ⟨_, rfl, ?_⟩; have n0_ := Aside0.mk (Op.b4 (g := gb218) (o := .cells #[.slice A0_0 l0_0.length c0_0, .slice A0_1 l0_1.length c0_1] 57 (0, 0)) (by (with_reducible repeat (first | refine Op.b1 ?_ _ | refine Op.b2 ?_ | refine Op.b3 ?_ _)); exact BK218.out) hb); have n1_ := Aside0.mk (Op.a5 (by repeat (first | (with_reducible first | exact HB.out | apply Op.a1 | apply Op.a2 | apply Op.a3 | refine Op.a4 ?_ GE218.out) | exact HB.out)) hb); clear BK218; clear HB; have BK218 := n0_; have HB := n1_; clear n0_ n1_; (try clear hb); (try clear hb2); (try clear hk); (try clear hi)))
  go_ret
  exact ⟨by first | rfl | (simp [errW_none, errW_some] <;> rfl) | (simp [*, errW_none, errW_some] <;> rfl), by repeat (first | (with_reducible first | exact HB.out | apply Op.a1 | apply Op.a2 | apply Op.a3 | refine Op.a4 ?_ GE218.out) | exact HB.out)⟩
 ·rw [if_neg c4] at H
  have c4b0 : decide (t219 < 0) = false := decide_eq_false c4
  clear c4
  replace H := Option.bind_eq_some_iff.mp H
  obtain ⟨t220, A80, H⟩ := H
  replace H : (if t220 < 0 then (some (-1)) else (some t220)) = some r := H
  have A8 := Aside0.mk A80
  clear A80
  by_cases c9 : t220 < 0
  ·rw [if_pos c9] at H
   have c9b0 : decide (t220 < 0) = true := decide_eq_true c9
   clear c9
   obtain rfl := Option.some.inj H
   go_enter Try.func48, Try.ntmps48
   go_wp2_with (first | ((with_reducible refine gate_dst (N := 2) rfl ?_); refine box_event ?hg (N := 2) ?hd (cs := #[.slice A0_0 l0_0.length c0_0, .slice A0_1 l0_1.length c0_1]) (t := 57) ?hr ?_; (case hd => rfl); (case hg => rfl); (case hr => first | (go_simp; done) | (go_simp; rfl)); intro gb218 hg w10 hbox hb; have n0_ := Aside0.mk (Op.a5 (by repeat (first | (with_reducible first | exact HB.out | apply Op.a1 | apply Op.a2 | apply Op.a3) | exact HB.out)) hb); have n1_ := Aside0.mk (hbox); have n2_ := Aside0.mk ((by rw [hg]; exact (Op.a6 (by repeat (first | (with_reducible first | exact HB.out | apply Op.a1 | apply Op.a2 | apply Op.a3) | exact HB.out))) : w.heap.size ≤ gb218)); have n3_ := Aside0.mk ((by rw [hg]; exact (Op.a6 (by repeat (first | (with_reducible first | exact HB.out | apply Op.a1 | apply Op.a2 | apply Op.a3) | exact HB.out))) : w.heap.size ≤ gb218)); clear HB; have HB := n0_; have BK218 := n1_; have GW218 := n2_; have GE218 := n3_; clear n0_ n1_ n2_ n3_; clear hb hbox hg; have hcz11_0 : w10.cell? ⟨gb218, 0, none⟩ = some (.slice A0_0 l0_0.length c0_0) := (blk_cell BK218.out 0).trans rfl; have hcz11_1 : w10.cell? ⟨gb218, 1, none⟩ = some (.slice A0_1 l0_1.length c0_1) := (blk_cell BK218.out 1).trans rfl; have hfz11_0 := blk_frozen BK218.out 0; have hfz11_1 := blk_frozen BK218.out 1) | ((with_reducible refine gate_callee (f := 37) rfl ?_); refine goesL_ (some 8) rfl rfl Try.func37 (by kernel_rfl) rfl #[.slice A0_0 l0_0.length c0_0, .int .i64 a1] rfl (by (try simp only [List.map_toArray, List.map_cons, List.map_nil]); first | done | rfl | (simp only [List.length_drop, List.length_take]; rfl)) ?_; (with_reducible refine (laws_heldStringS.calls k _ _ l0_0 a1 t219 _ ?side1 ?side2 A3.out).mono ?_); (case side1 => repeat (first | exact (Kd.C_below HR0_0.out HB.out) | (with_reducible refine Kd.C_alloc ?_ _) | (with_reducible refine Kd.C_drewN ?_ _) | (with_reducible refine Kd.C_drew ?_))); (case side2 => exact HC0_0.out); rintro e w12 ⟨rfl, hb⟩; refine ⟨_, rfl, ?_⟩; have n0_ := Aside0.mk (Op.b4 (g := gb218) (o := .cells #[.slice A0_0 l0_0.length c0_0, .slice A0_1 l0_1.length c0_1] 57 (0, 0)) (by (with_reducible repeat (first | refine Op.b1 ?_ _ | refine Op.b2 ?_ | refine Op.b3 ?_ _)); exact BK218.out) hb); have n1_ := Aside0.mk (Op.a5 (by repeat (first | (with_reducible first | exact HB.out | apply Op.a1 | apply Op.a2 | apply Op.a3 | refine Op.a4 ?_ GE218.out) | exact HB.out)) hb); clear BK218; clear HB; have BK218 := n0_; have HB := n1_; clear n0_ n1_; (try clear hb); (try clear hb2); (try clear hk); (try clear hi); have hcz13_0 : w12.cell? ⟨gb218, 0, none⟩ = some (.slice A0_0 l0_0.length c0_0) := (blk_cell BK218.out 0).trans rfl; have hcz13_1 : w12.cell? ⟨gb218, 1, none⟩ = some (.slice A0_1 l0_1.length c0_1) := (blk_cell BK218.out 1).trans rfl; have hfz13_0 := blk_frozen BK218.out 0; have hfz13_1 := blk_frozen BK218.out 1) | ((with_reducible refine gate_callee (f := 86) rfl ?_); refine goesL_ (some 14) rfl rfl Try.func86 (by kernel_rfl) rfl #[.slice A0_1 l0_1.length c0_1, .int .i64 t219] rfl (by (try simp only [List.map_toArray, List.map_cons, List.map_nil]); first | done | rfl | (simp only [List.length_drop, List.length_take]; rfl)) ?_; (with_reducible refine (laws_heldIntSS.calls k _ _ l0_1 t219 t220 _ ?side1 ?side2 A8.out).mono ?_); (case side1 => repeat (first | exact (Kd.C_below HR0_1.out HB.out) | (with_reducible refine Kd.C_alloc ?_ _) | (with_reducible refine Kd.C_drewN ?_ _) | (with_reducible refine Kd.C_drew ?_))); (case side2 => exact HC0_1.out); rintro e w' ⟨rfl, ⟨nd, rfl⟩⟩; refine ⟨_, rfl, ?_⟩))
   go_ret
   exact ⟨by first | rfl | (simp [errW_none, errW_some] <;> rfl) | (simp [*, errW_none, errW_some] <;> rfl), by repeat (first | (with_reducible first | exact HB.out | apply Op.a1 | apply Op.a2 | apply Op.a3 | refine Op.a4 ?_ GE218.out) | exact HB.out)⟩
  ·rw [if_neg c9] at H
   have c9b0 : decide (t220 < 0) = false := decide_eq_false c9
   clear c9
   obtain rfl := Option.some.inj H
   go_enter Try.func48, Try.ntmps48
   go_wp2_with (first | ((with_reducible refine gate_dst (N := 2) rfl ?_); refine box_event ?hg (N := 2) ?hd (cs := #[.slice A0_0 l0_0.length c0_0, .slice A0_1 l0_1.length c0_1]) (t := 57) ?hr ?_; (case hd => rfl); (case hg => rfl); (case hr => first | (go_simp; done) | (go_simp; rfl)); intro gb218 hg w14 hbox hb; have n0_ := Aside0.mk (Op.a5 (by repeat (first | (with_reducible first | exact HB.out | apply Op.a1 | apply Op.a2 | apply Op.a3) | exact HB.out)) hb); have n1_ := Aside0.mk (hbox); have n2_ := Aside0.mk ((by rw [hg]; exact (Op.a6 (by repeat (first | (with_reducible first | exact HB.out | apply Op.a1 | apply Op.a2 | apply Op.a3) | exact HB.out))) : w.heap.size ≤ gb218)); have n3_ := Aside0.mk ((by rw [hg]; exact (Op.a6 (by repeat (first | (with_reducible first | exact HB.out | apply Op.a1 | apply Op.a2 | apply Op.a3) | exact HB.out))) : w.heap.size ≤ gb218)); clear HB; have HB := n0_; have BK218 := n1_; have GW218 := n2_; have GE218 := n3_; clear n0_ n1_ n2_ n3_; clear hb hbox hg; have hcz15_0 : w14.cell? ⟨gb218, 0, none⟩ = some (.slice A0_0 l0_0.length c0_0) := (blk_cell BK218.out 0).trans rfl; have hcz15_1 : w14.cell? ⟨gb218, 1, none⟩ = some (.slice A0_1 l0_1.length c0_1) := (blk_cell BK218.out 1).trans rfl; have hfz15_0 := blk_frozen BK218.out 0; have hfz15_1 := blk_frozen BK218.out 1) | ((with_reducible refine gate_callee (f := 37) rfl ?_); refine goesL_ (some 8) rfl rfl Try.func37 (by kernel_rfl) rfl #[.slice A0_0 l0_0.length c0_0, .int .i64 a1] rfl (by (try simp only [List.map_toArray, List.map_cons, List.map_nil]); first | done | rfl | (simp only [List.length_drop, List.length_take]; rfl)) ?_; (with_reducible refine (laws_heldStringS.calls k _ _ l0_0 a1 t219 _ ?side1 ?side2 A3.out).mono ?_); (case side1 => repeat (first | exact (Kd.C_below HR0_0.out HB.out) | (with_reducible refine Kd.C_alloc ?_ _) | (with_reducible refine Kd.C_drewN ?_ _) | (with_reducible refine Kd.C_drew ?_))); (case side2 => exact HC0_0.out); rintro e w16 ⟨rfl, hb⟩; refine ⟨_, rfl, ?_⟩; have n0_ := Aside0.mk (Op.b4 (g := gb218) (o := .cells #[.slice A0_0 l0_0.length c0_0, .slice A0_1 l0_1.length c0_1] 57 (0, 0)) (by (with_reducible repeat (first | refine Op.b1 ?_ _ | refine Op.b2 ?_ | refine Op.b3 ?_ _)); exact BK218.out) hb); have n1_ := Aside0.mk (Op.a5 (by repeat (first | (with_reducible first | exact HB.out | apply Op.a1 | apply Op.a2 | apply Op.a3 | refine Op.a4 ?_ GE218.out) | exact HB.out)) hb); clear BK218; clear HB; have BK218 := n0_; have HB := n1_; clear n0_ n1_; (try clear hb); (try clear hb2); (try clear hk); (try clear hi); have hcz17_0 : w16.cell? ⟨gb218, 0, none⟩ = some (.slice A0_0 l0_0.length c0_0) := (blk_cell BK218.out 0).trans rfl; have hcz17_1 : w16.cell? ⟨gb218, 1, none⟩ = some (.slice A0_1 l0_1.length c0_1) := (blk_cell BK218.out 1).trans rfl; have hfz17_0 := blk_frozen BK218.out 0; have hfz17_1 := blk_frozen BK218.out 1) | ((with_reducible refine gate_callee (f := 86) rfl ?_); refine goesL_ (some 14) rfl rfl Try.func86 (by kernel_rfl) rfl #[.slice A0_1 l0_1.length c0_1, .int .i64 t219] rfl (by (try simp only [List.map_toArray, List.map_cons, List.map_nil]); first | done | rfl | (simp only [List.length_drop, List.length_take]; rfl)) ?_; (with_reducible refine (laws_heldIntSS.calls k _ _ l0_1 t219 t220 _ ?side1 ?side2 A8.out).mono ?_); (case side1 => repeat (first | exact (Kd.C_below HR0_1.out HB.out) | (with_reducible refine Kd.C_alloc ?_ _) | (with_reducible refine Kd.C_drewN ?_ _) | (with_reducible refine Kd.C_drew ?_))); (case side2 => exact HC0_1.out); rintro e w' ⟨rfl, ⟨nd, rfl⟩⟩; refine ⟨_, rfl, ?_⟩))
   go_ret
   exact ⟨by first | rfl | (simp [errW_none, errW_some] <;> rfl) | (simp [*, errW_none, errW_some] <;> rfl), by repeat (first | (with_reducible first | exact HB.out | apply Op.a1 | apply Op.a2 | apply Op.a3 | refine Op.a4 ?_ GE218.out) | exact HB.out)⟩

/-! ### laws_FnExactDedupAll: function 11 -/
/-- what the law asks, one after the other -/
def laws_FnExactDedupAll.f (k : Nat) (l0 : List ByteArray) : Option Bool :=
 (laws_szStringS.f k l0 1048576).bind fun be3 => if be3 < 0 then some true else ((laws_toStringS.f k l0).bind fun be6 => (spec_DedupAll.f k be6).bind fun be11 => (laws_toStringS.f k l0).bind fun be17 => (impl_DedupAll.f k be17).bind fun be22 => (laws_eqRecipe.f k be22.1 be22.2.1 be11.1 be11.2.1).bind fun be28 => if be28 = true then (if (be22.2.2 != be11.2.2) = true then some false else ((laws_toStringS.f k l0).bind fun be31 => (laws_eqStringS.f k be17 be31).bind fun be34 => if be34 = true then ((laws_markStringS.f k be17 1).bind fun be38 => if be38.1 < 0 then some false else ((laws_eqRecipe.f k be22.1 be22.2.1 be11.1 be11.2.1).bind fun be41 => if be41 = true then (if (be22.2.2 != be11.2.2) = true then some false else ((laws_markRecipe.f k be22.1 be22.2.1 1).bind fun be46 => (laws_heldRecipe.f k be46.2.1 be46.2.2 1).bind fun be49 => if be49 < 0 then some false else (if (be49 != be46.1) = true then some false else ((laws_toStringS.f k l0).bind fun be52 => (impl_DedupAll.f k be52).bind fun be57 => (laws_eqRecipe.f k be57.1 be57.2.1 be11.1 be11.2.1).bind fun be63 => if be63 = true then (if (be57.2.2 != be11.2.2) = true then some false else ((laws_heldRecipe.f k be46.2.1 be46.2.2 1).bind fun be66 => if be66 < 0 then some false else (if (be66 != be46.1) = true then some false else (some true)))) else some false)))) else some false)) else some false)) else some false)
set_option maxRecDepth 100000 in
set_option maxHeartbeats 8000000 in
theorem laws_FnExactDedupAll.calls (k : Nat) (A0 : Option Addr) (c0 : Nat) (l0 : List ByteArray) (r : Bool) (w : World) (hr0 : Kd.C Kd.string w A0 l0.length l0) (hc0 : l0.length ≤ c0) (h : laws_FnExactDedupAll.f k l0 = some true) :
  Calls Try.prog 11 #[.slice A0 l0.length c0] w fun e w' => e = .returned (.bool true) ∧ Below w.heap.size w w' := by
 have hu57 := Try.underlying57
 have HR0 := Aside0.mk hr0
 have HC0 := Aside0.mk hc0
 clear hr0 hc0
 have HB := Aside0.mk (Below.refl w.heap.size w)
 have HS0 : Aside0 (0 ≤ w.heap.size) := ⟨Nat.zero_le _⟩
 unfold laws_FnExactDedupAll.f at h
 replace h := Option.bind_eq_some_iff.1 h
 obtain ⟨r2, e3, h⟩ := h
 try dsimp only at h
 have Ee3 := Aside0.mk e3
 clear e3
 by_cases c1_ : r2 < 0
 ·clear h
  have c1b_ : decide (r2 < 0) = true := decide_eq_true c1_
  clear c1_
  go_enter Try.func11, Try.ntmps11
  go_wp2_with (first | ((with_reducible refine gate_callee (f := 38) rfl ?_); refine goesL_ (some 16) rfl rfl Try.func38 (by kernel_rfl) rfl #[.slice A0 l0.length c0, .int .i64 1048576] rfl (by (try simp only [List.map_toArray, List.map_cons, List.map_nil]); first | done | rfl | (simp only [List.length_drop, List.length_take]; rfl)) ?_; (with_reducible refine (laws_szStringS.calls k _ _ l0 1048576 r2 _ ?side1 ?side2 Ee3.out).mono ?_); (case side1 => exact (Kd.C_below HR0.out HB.out)); (case side2 => exact HC0.out); rintro ex_ w1 ⟨rfl, hd⟩; refine ⟨_, rfl, ?_⟩; have hb := hd.below; have hk := Kept.of_below hb (fun _ => False); have HSw1 := Aside0.mk (And.intro (hb.size) HS0.out); replace HB := Aside0.mk (Op.a5 HB.out hb); clear hb hk hd))
  go_ret
  exact ⟨rfl, HB.out⟩
 replace h := (if_neg c1_).symm.trans h
 have c1b_ : decide (r2 < 0) = false := decide_eq_false c1_
 clear c1_
 replace h := Option.bind_eq_some_iff.1 h
 obtain ⟨r5, e6, h⟩ := h
 try dsimp only at h
 have Ee6 := Aside0.mk e6
 clear e6
 replace h := Option.bind_eq_some_iff.1 h
 obtain ⟨⟨r8, r9, r10⟩, e11, h⟩ := h
 try dsimp only at h
 have Ee11 := Aside0.mk e11
 clear e11
 replace h := Option.bind_eq_some_iff.1 h
 obtain ⟨r16, e17, h⟩ := h
 try dsimp only at h
 have Ee17 := Aside0.mk e17
 clear e17
 replace h := Option.bind_eq_some_iff.1 h
 obtain ⟨⟨r19, r20, r21⟩, e22, h⟩ := h
 try dsimp only at h
 have Ee22 := Aside0.mk e22
 clear e22
 replace h := Option.bind_eq_some_iff.1 h
 obtain ⟨r27, e28, h⟩ := h
 try dsimp only at h
 have Ee28 := Aside0.mk e28
 clear e28
 replace h := Op.must_t h
 obtain ⟨rfl, h⟩ := h
 replace h := Op.must_n h
 obtain ⟨c2_, h⟩ := h
 have c2e_ : (r21 == r10) = true := by revert c2_; cases r21 <;> cases r10 <;> decide
 clear c2_
 replace h := Option.bind_eq_some_iff.1 h
 obtain ⟨r30, e31, h⟩ := h
 try dsimp only at h
 have Ee31 := Aside0.mk e31
 clear e31
 replace h := Option.bind_eq_some_iff.1 h
 obtain ⟨r33, e34, h⟩ := h
 try dsimp only at h
 have Ee34 := Aside0.mk e34
 clear e34
 replace h := Op.must_t h
 obtain ⟨rfl, h⟩ := h
 replace h := Option.bind_eq_some_iff.1 h
 obtain ⟨⟨r36, r37⟩, e38, h⟩ := h
 try dsimp only at h
 have Ee38 := Aside0.mk e38
 clear e38
 replace h := Op.must_n h
 obtain ⟨c3_, h⟩ := h
 have c3b_ : decide (r36 < 0) = false := decide_eq_false c3_
 clear c3_
 replace h := Option.bind_eq_some_iff.1 h
 obtain ⟨r40, e41, h⟩ := h
 try dsimp only at h
 have Ee41 := Aside0.mk e41
 clear e41
 replace h := Op.must_t h
 obtain ⟨rfl, h⟩ := h
 replace h := Op.must_n h
 obtain ⟨c4_, h⟩ := h
 have c4e_ : (r21 == r10) = true := by revert c4_; cases r21 <;> cases r10 <;> decide
 clear c4_
 replace h := Option.bind_eq_some_iff.1 h
 obtain ⟨⟨r43, r44, r45⟩, e46, h⟩ := h
 try dsimp only at h
 have Ee46 := Aside0.mk e46
 clear e46
 replace h := Option.bind_eq_some_iff.1 h
 obtain ⟨r48, e49, h⟩ := h
 try dsimp only at h
 have Ee49 := Aside0.mk e49
 clear e49
 replace h := Op.must_n h
 obtain ⟨c5_, h⟩ := h
 have c5b_ : decide (r48 < 0) = false := decide_eq_false c5_
 clear c5_
 replace h := Op.must_n h
 obtain ⟨c6_, h⟩ := h
 have c6b_ := Bool.eq_false_iff.mpr c6_
 clear c6_
 replace h := Option.bind_eq_some_iff.1 h
 obtain ⟨r51, e52, h⟩ := h
 try dsimp only at h
 have Ee52 := Aside0.mk e52
 clear e52
 replace h := Option.bind_eq_some_iff.1 h
 obtain ⟨⟨r54, r55, r56⟩, e57, h⟩ := h
 try dsimp only at h
 have Ee57 := Aside0.mk e57
 clear e57
 replace h := Option.bind_eq_some_iff.1 h
 obtain ⟨r62, e63, h⟩ := h
 try dsimp only at h
 have Ee63 := Aside0.mk e63
 clear e63
 replace h := Op.must_t h
 obtain ⟨rfl, h⟩ := h
 replace h := Op.must_n h
 obtain ⟨c7_, h⟩ := h
 have c7e_ : (r56 == r10) = true := by revert c7_; cases r56 <;> cases r10 <;> decide
 clear c7_
 replace h := Option.bind_eq_some_iff.1 h
 obtain ⟨r65, e66, h⟩ := h
 try dsimp only at h
 have Ee66 := Aside0.mk e66
 clear e66
 replace h := Op.must_n h
 obtain ⟨c8_, h⟩ := h
 have c8b_ : decide (r65 < 0) = false := decide_eq_false c8_
 clear c8_
 replace h := Op.must_n h
 obtain ⟨c9_, h⟩ := h
 have c9b_ := Bool.eq_false_iff.mpr c9_
 clear c9_
 clear h
 go_enter Try.func11, Try.ntmps11
 go_wp2_with (first | ((with_reducible refine gate_callee (f := 38) rfl ?_); refine goesL_ (some 16) rfl rfl Try.func38 (by kernel_rfl) rfl #[.slice A0 l0.length c0, .int .i64 1048576] rfl (by (try simp only [List.map_toArray, List.map_cons, List.map_nil]); first | done | rfl | (simp only [List.length_drop, List.length_take]; rfl)) ?_; (with_reducible refine (laws_szStringS.calls k _ _ l0 1048576 r2 _ ?side1 ?side2 Ee3.out).mono ?_); (case side1 => exact (Kd.C_below HR0.out HB.out)); (case side2 => exact HC0.out); rintro ex_ w1 ⟨rfl, hd⟩; refine ⟨_, rfl, ?_⟩; have hb := hd.below; have hk := Kept.of_below hb (fun _ => False); have HSw1 := Aside0.mk (And.intro (hb.size) HS0.out); replace HB := Aside0.mk (Op.a5 HB.out hb); clear hb hk hd) | ((with_reducible refine gate_callee (f := 40) rfl ?_); refine goesL_ (some 21) rfl rfl Try.func40 (by kernel_rfl) rfl #[.slice A0 l0.length c0] rfl (by (try simp only [List.map_toArray, List.map_cons, List.map_nil]); first | done | rfl | (simp only [List.length_drop, List.length_take]; rfl)) ?_; (with_reducible refine (laws_toStringS.calls k _ _ l0 r5 _ ?side1 ?side2 Ee6.out).mono ?_); (case side1 => exact (Kd.C_below HR0.out HB.out)); (case side2 => exact HC0.out); rintro ex_ w4 ⟨ve6_0, rfl, ho0, hb⟩; refine ⟨_, rfl, ?_⟩; have hk := Kept.of_below hb (fun _ => False); have HSw4 := Aside0.mk (And.intro (hb.size) HSw1.out); have Oe6_0 := Aside0.mk (Op.inR ho0 (a := w1.heap.size) (b := w.heap.size) HB.out.size (Nat.le_refl _)); replace HB := Aside0.mk (Op.a5 HB.out hb); obtain ⟨Ae6_0, cAe6_0, ev_⟩ := Kd.R_slice Oe6_0.out; subst ev_; clear hb hk ho0) | ((with_reducible refine gate_callee (f := 44) rfl ?_); refine goesL_ (some 22) rfl rfl Try.func44 (by kernel_rfl) rfl #[.slice Ae6_0 r5.length cAe6_0] rfl (by (try simp only [List.map_toArray, List.map_cons, List.map_nil]); first | done | rfl | (simp only [List.length_drop, List.length_take]; rfl)) ?_; (with_reducible refine (spec_DedupAll.calls k _ _ r5 r8 r9 r10 _ ?side1 ?side2 Ee11.out).mono ?_); (case side1 => exact (Kd.R_reads' Oe6_0.out).2.2); (case side2 => (have h_ := Kd.R_reads' Oe6_0.out; have h1_ := h_.1; have h2_ := h_.2.1; omega)); rintro ex_ w7 ⟨ve11_0, ve11_1, rfl, ho0, ho1, hb⟩; refine ⟨_, rfl, ?_⟩; have hk := Kept.of_below hb (fun _ => False); replace Oe6_0 := Aside0.mk (Op.mvR Oe6_0.out hk (fun _ _ hs => hs)); have HSw7 := Aside0.mk (And.intro (hb.size) HSw4.out); have Oe11_0 := Aside0.mk (Op.inR ho0 (a := w4.heap.size) (b := w.heap.size) HB.out.size (Nat.le_refl _)); have Oe11_1 := Aside0.mk (Op.inS (Kd.S_apart' ho1 (Kd.R_typed ho0) (by decide)) (a := w4.heap.size) (b := w.heap.size) HB.out.size (Nat.le_refl _)); replace HB := Aside0.mk (Op.a5 HB.out hb); obtain ⟨Ae11_0, cAe11_0, ev_⟩ := Kd.R_slice Oe11_0.out; subst ev_; obtain ⟨Ae11_1, cAe11_1, ev_⟩ := Kd.S_slice Oe11_1.out; subst ev_; clear hb hk ho0 ho1) | ((with_reducible refine gate_dst (N := 4) rfl ?_); refine box_event ?hg (N := 4) ?hd (cs := #[.slice none 0 0, .slice none 0 0]) (t := 57) ?hr ?_; (case hd => rfl); (case hg => rfl); (case hr => first | (go_simp; done) | (go_simp; rfl)); intro g12 hg w13 hbox hb; have hk := Kept.of_below hb (fun _ => False); replace Oe6_0 := Aside0.mk (Op.mvR Oe6_0.out hk (fun _ _ hs => hs)); replace Oe11_0 := Aside0.mk (Op.mvR Oe11_0.out hk (fun _ _ hs => hs)); replace Oe11_1 := Aside0.mk (Op.mvS Oe11_1.out hk (fun _ _ hs => hs)); have BKg12 := Aside0.mk hbox; have GEg12 := Aside0.mk (show w.heap.size ≤ g12 from by rw [hg]; exact HB.out.size); have HSw13 := Aside0.mk (And.intro (And.intro (show w7.heap.size ≤ g12 from Nat.le_of_eq hg.symm) (And.intro (blk_lt hbox) hb.size)) HSw7.out); replace HB := Aside0.mk (Op.a5 HB.out hb); clear hg hbox hb hk; have hz_g12_0_w13 : w13.cell? ⟨g12, 0, none⟩ = some (.slice none 0 0) := (blk_cell BKg12.out 0).trans rfl; have hf_g12_0_w13 := blk_frozen BKg12.out 0; have hz_g12_1_w13 : w13.cell? ⟨g12, 1, none⟩ = some (.slice none 0 0) := (blk_cell BKg12.out 1).trans rfl; have hf_g12_1_w13 := blk_frozen BKg12.out 1) | ((with_reducible refine gate_store (t := 57) (p := 4) rfl ?_); refine store_event (t := 57) (p := 4) (v := ?vo_w14) (w1 := ((w13.setCell ⟨g12, 0, none⟩ (.slice Ae11_0 r8.length cAe11_0)).setCell ⟨g12, 1, none⟩ (.slice Ae11_1 r9.length cAe11_1))) ?hg ?ho ?hn ?hr ?_; (case ho => rfl); (case hg => rfl); (case hn => rfl); (case hr => first | (go_simp; done) | (go_simp; rfl)); intro w14 hw; have hk : Kept w13 w14 (fun j => j = g12) := (by rw [hw]; exact Op.kept_put (Op.kept_put (Kept.refl _ _) 0 _) 1 _); replace Oe6_0 := Aside0.mk (Op.mvR Oe6_0.out hk (fun j hj hs => by (have hj2 := hj.2; have q := HSw13.out; have hs2 : j = g12 := hs; omega))); replace Oe11_0 := Aside0.mk (Op.mvR Oe11_0.out hk (fun j hj hs => by (have hj2 := hj.2; have q := HSw13.out; have hs2 : j = g12 := hs; omega))); replace Oe11_1 := Aside0.mk (Op.mvS Oe11_1.out hk (fun j hj hs => by (have hj2 := hj.2; have q := HSw13.out; have hs2 : j = g12 := hs; omega))); replace BKg12 : Aside0 (w14.heap[g12]? = some (.cells #[.slice Ae11_0 r8.length cAe11_0, .slice Ae11_1 r9.length cAe11_1] 57 (0, 0))) := ⟨by rw [hw]; exact (blk_put (cs' := #[.slice Ae11_0 r8.length cAe11_0, .slice Ae11_1 r9.length cAe11_1]) (blk_put (cs' := #[.slice Ae11_0 r8.length cAe11_0, .slice none 0 0]) BKg12.out 0 _ rfl) 1 _ rfl)⟩; replace HB : Aside0 (Below w.heap.size w w14) := ⟨by rw [hw]; exact below_set (Op.a4 (HB.out) GEg12.out) GEg12.out⟩; have HSw14 := Aside0.mk (And.intro (hk.1) HSw13.out); clear hw hk; have hz_g12_0_w14 : w14.cell? ⟨g12, 0, none⟩ = some (.slice Ae11_0 r8.length cAe11_0) := (blk_cell BKg12.out 0).trans rfl; have hf_g12_0_w14 := blk_frozen BKg12.out 0; have hz_g12_1_w14 : w14.cell? ⟨g12, 1, none⟩ = some (.slice Ae11_1 r9.length cAe11_1) := (blk_cell BKg12.out 1).trans rfl; have hf_g12_1_w14 := blk_frozen BKg12.out 1) | ((with_reducible refine gate_callee (f := 40) rfl ?_); refine goesL_ (some 26) rfl rfl Try.func40 (by kernel_rfl) rfl #[.slice A0 l0.length c0] rfl (by (try simp only [List.map_toArray, List.map_cons, List.map_nil]); first | done | rfl | (simp only [List.length_drop, List.length_take]; rfl)) ?_; (with_reducible refine (laws_toStringS.calls k _ _ l0 r16 _ ?side1 ?side2 Ee17.out).mono ?_); (case side1 => exact (Kd.C_below HR0.out HB.out)); (case side2 => exact HC0.out); rintro ex_ w15 ⟨ve17_0, rfl, ho0, hb⟩; refine ⟨_, rfl, ?_⟩; have hk := Kept.of_below hb (fun _ => False); replace Oe6_0 := Aside0.mk (Op.mvR Oe6_0.out hk (fun _ _ hs => hs)); replace Oe11_0 := Aside0.mk (Op.mvR Oe11_0.out hk (fun _ _ hs => hs)); replace Oe11_1 := Aside0.mk (Op.mvS Oe11_1.out hk (fun _ _ hs => hs)); replace BKg12 := Aside0.mk (Op.mvB BKg12.out hk (fun hs => hs)); have HSw15 := Aside0.mk (And.intro (hb.size) HSw14.out); have Oe17_0 := Aside0.mk (Op.inR ho0 (a := w14.heap.size) (b := w.heap.size) HB.out.size (Nat.le_refl _)); replace HB := Aside0.mk (Op.a5 HB.out hb); obtain ⟨Ae17_0, cAe17_0, ev_⟩ := Kd.R_slice Oe17_0.out; subst ev_; clear hb hk ho0; have hz_g12_0_w15 : w15.cell? ⟨g12, 0, none⟩ = some (.slice Ae11_0 r8.length cAe11_0) := (blk_cell BKg12.out 0).trans rfl; have hf_g12_0_w15 := blk_frozen BKg12.out 0; have hz_g12_1_w15 : w15.cell? ⟨g12, 1, none⟩ = some (.slice Ae11_1 r9.length cAe11_1) := (blk_cell BKg12.out 1).trans rfl; have hf_g12_1_w15 := blk_frozen BKg12.out 1) | ((with_reducible refine gate_callee (f := 45) rfl ?_); refine goesL_ (some 29) rfl rfl Try.func45 (by kernel_rfl) rfl #[.slice Ae17_0 r16.length cAe17_0] rfl (by (try simp only [List.map_toArray, List.map_cons, List.map_nil]); first | done | rfl | (simp only [List.length_drop, List.length_take]; rfl)) ?_; (with_reducible refine (impl_DedupAll.calls k _ _ r16 r19 r20 r21 _ ?side1 ?side2 Ee22.out).mono ?_); (case side1 => exact (Kd.R_reads' Oe17_0.out).2.2); (case side2 => (have h_ := Kd.R_reads' Oe17_0.out; have h1_ := h_.1; have h2_ := h_.2.1; omega)); rintro ex_ w18 ⟨ve22_0, ve22_1, rfl, ho0, ho1, hb⟩; refine ⟨_, rfl, ?_⟩; have hk := Kept.of_below hb (fun _ => False); replace Oe6_0 := Aside0.mk (Op.mvR Oe6_0.out hk (fun _ _ hs => hs)); replace Oe11_0 := Aside0.mk (Op.mvR Oe11_0.out hk (fun _ _ hs => hs)); replace Oe11_1 := Aside0.mk (Op.mvS Oe11_1.out hk (fun _ _ hs => hs)); replace Oe17_0 := Aside0.mk (Op.mvR Oe17_0.out hk (fun _ _ hs => hs)); replace BKg12 := Aside0.mk (Op.mvB BKg12.out hk (fun hs => hs)); have HSw18 := Aside0.mk (And.intro (hb.size) HSw15.out); have Oe22_0 := Aside0.mk (Op.inR ho0 (a := w15.heap.size) (b := w.heap.size) HB.out.size (Nat.le_refl _)); have Oe22_1 := Aside0.mk (Op.inS (Kd.S_apart' ho1 (Kd.R_typed ho0) (by decide)) (a := w15.heap.size) (b := w.heap.size) HB.out.size (Nat.le_refl _)); replace HB := Aside0.mk (Op.a5 HB.out hb); obtain ⟨Ae22_0, cAe22_0, ev_⟩ := Kd.R_slice Oe22_0.out; subst ev_; obtain ⟨Ae22_1, cAe22_1, ev_⟩ := Kd.S_slice Oe22_1.out; subst ev_; clear hb hk ho0 ho1; have hz_g12_0_w18 : w18.cell? ⟨g12, 0, none⟩ = some (.slice Ae11_0 r8.length cAe11_0) := (blk_cell BKg12.out 0).trans rfl; have hf_g12_0_w18 := blk_frozen BKg12.out 0; have hz_g12_1_w18 : w18.cell? ⟨g12, 1, none⟩ = some (.slice Ae11_1 r9.length cAe11_1) := (blk_cell BKg12.out 1).trans rfl; have hf_g12_1_w18 := blk_frozen BKg12.out 1) | ((with_reducible refine gate_dst (N := 7) rfl ?_); refine box_event ?hg (N := 7) ?hd (cs := #[.slice none 0 0, .slice none 0 0]) (t := 57) ?hr ?_; (case hd => rfl); (case hg => rfl); (case hr => first | (go_simp; done) | (go_simp; rfl)); intro g23 hg w24 hbox hb; have hk := Kept.of_below hb (fun _ => False); replace Oe6_0 := Aside0.mk (Op.mvR Oe6_0.out hk (fun _ _ hs => hs)); replace Oe11_0 := Aside0.mk (Op.mvR Oe11_0.out hk (fun _ _ hs => hs)); replace Oe11_1 := Aside0.mk (Op.mvS Oe11_1.out hk (fun _ _ hs => hs)); replace Oe17_0 := Aside0.mk (Op.mvR Oe17_0.out hk (fun _ _ hs => hs)); replace Oe22_0 := Aside0.mk (Op.mvR Oe22_0.out hk (fun _ _ hs => hs)); replace Oe22_1 := Aside0.mk (Op.mvS Oe22_1.out hk (fun _ _ hs => hs)); replace BKg12 := Aside0.mk (Op.mvB BKg12.out hk (fun hs => hs)); have BKg23 := Aside0.mk hbox; have GEg23 := Aside0.mk (show w.heap.size ≤ g23 from by rw [hg]; exact HB.out.size); have HSw24 := Aside0.mk (And.intro (And.intro (show w18.heap.size ≤ g23 from Nat.le_of_eq hg.symm) (And.intro (blk_lt hbox) hb.size)) HSw18.out); replace HB := Aside0.mk (Op.a5 HB.out hb); clear hg hbox hb hk; have hz_g12_0_w24 : w24.cell? ⟨g12, 0, none⟩ = some (.slice Ae11_0 r8.length cAe11_0) := (blk_cell BKg12.out 0).trans rfl; have hf_g12_0_w24 := blk_frozen BKg12.out 0; have hz_g12_1_w24 : w24.cell? ⟨g12, 1, none⟩ = some (.slice Ae11_1 r9.length cAe11_1) := (blk_cell BKg12.out 1).trans rfl; have hf_g12_1_w24 := blk_frozen BKg12.out 1; have hz_g23_0_w24 : w24.cell? ⟨g23, 0, none⟩ = some (.slice none 0 0) := (blk_cell BKg23.out 0).trans rfl; have hf_g23_0_w24 := blk_frozen BKg23.out 0; have hz_g23_1_w24 : w24.cell? ⟨g23, 1, none⟩ = some (.slice none 0 0) := (blk_cell BKg23.out 1).trans rfl; have hf_g23_1_w24 := blk_frozen BKg23.out 1) | ((with_reducible refine gate_store (t := 57) (p := 7) rfl ?_); refine store_event (t := 57) (p := 7) (v := ?vo_w25) (w1 := ((w24.setCell ⟨g23, 0, none⟩ (.slice Ae22_0 r19.length cAe22_0)).setCell ⟨g23, 1, none⟩ (.slice Ae22_1 r20.length cAe22_1))) ?hg ?ho ?hn ?hr ?_; (case ho => rfl); (case hg => rfl); (case hn => rfl); (case hr => first | (go_simp; done) | (go_simp; rfl)); intro w25 hw; have hk : Kept w24 w25 (fun j => j = g23) := (by rw [hw]; exact Op.kept_put (Op.kept_put (Kept.refl _ _) 0 _) 1 _); replace Oe6_0 := Aside0.mk (Op.mvR Oe6_0.out hk (fun j hj hs => by (have hj2 := hj.2; have q := HSw24.out; have hs2 : j = g23 := hs; omega))); replace Oe11_0 := Aside0.mk (Op.mvR Oe11_0.out hk (fun j hj hs => by (have hj2 := hj.2; have q := HSw24.out; have hs2 : j = g23 := hs; omega))); replace Oe11_1 := Aside0.mk (Op.mvS Oe11_1.out hk (fun j hj hs => by (have hj2 := hj.2; have q := HSw24.out; have hs2 : j = g23 := hs; omega))); replace Oe17_0 := Aside0.mk (Op.mvR Oe17_0.out hk (fun j hj hs => by (have hj2 := hj.2; have q := HSw24.out; have hs2 : j = g23 := hs; omega))); replace Oe22_0 := Aside0.mk (Op.mvR Oe22_0.out hk (fun j hj hs => by (have hj2 := hj.2; have q := HSw24.out; have hs2 : j = g23 := hs; omega))); replace Oe22_1 := Aside0.mk (Op.mvS Oe22_1.out hk (fun j hj hs => by (have hj2 := hj.2; have q := HSw24.out; have hs2 : j = g23 := hs; omega))); replace BKg12 := Aside0.mk (Op.mvB BKg12.out hk (fun hs => by (have q := HSw24.out; have hs2 : g12 = g23 := hs; omega))); replace BKg23 : Aside0 (w25.heap[g23]? = some (.cells #[.slice Ae22_0 r19.length cAe22_0, .slice Ae22_1 r20.length cAe22_1] 57 (0, 0))) := ⟨by rw [hw]; exact (blk_put (cs' := #[.slice Ae22_0 r19.length cAe22_0, .slice Ae22_1 r20.length cAe22_1]) (blk_put (cs' := #[.slice Ae22_0 r19.length cAe22_0, .slice none 0 0]) BKg23.out 0 _ rfl) 1 _ rfl)⟩; replace HB : Aside0 (Below w.heap.size w w25) := ⟨by rw [hw]; exact below_set (Op.a4 (HB.out) GEg23.out) GEg23.out⟩; have HSw25 := Aside0.mk (And.intro (hk.1) HSw24.out); clear hw hk; have hz_g12_0_w25 : w25.cell? ⟨g12, 0, none⟩ = some (.slice Ae11_0 r8.length cAe11_0) := (blk_cell BKg12.out 0).trans rfl; have hf_g12_0_w25 := blk_frozen BKg12.out 0; have hz_g12_1_w25 : w25.cell? ⟨g12, 1, none⟩ = some (.slice Ae11_1 r9.length cAe11_1) := (blk_cell BKg12.out 1).trans rfl; have hf_g12_1_w25 := blk_frozen BKg12.out 1; have hz_g23_0_w25 : w25.cell? ⟨g23, 0, none⟩ = some (.slice Ae22_0 r19.length cAe22_0) := (blk_cell BKg23.out 0).trans rfl; have hf_g23_0_w25 := blk_frozen BKg23.out 0; have hz_g23_1_w25 : w25.cell? ⟨g23, 1, none⟩ = some (.slice Ae22_1 r20.length cAe22_1) := (blk_cell BKg23.out 1).trans rfl; have hf_g23_1_w25 := blk_frozen BKg23.out 1) | ((with_reducible refine gate_callee (f := 46) rfl ?_); refine goesL_ (some 34) rfl rfl Try.func46 (by kernel_rfl) rfl #[.agg #[.slice Ae22_0 r19.length cAe22_0, .slice Ae22_1 r20.length cAe22_1], .agg #[.slice Ae11_0 r8.length cAe11_0, .slice Ae11_1 r9.length cAe11_1]] rfl (by (try simp only [List.map_toArray, List.map_cons, List.map_nil]); first | done | rfl | (simp only [List.length_drop, List.length_take]; rfl)) ?_; (with_reducible refine (laws_eqRecipe.calls k _ _ r19 _ _ r20 _ _ r8 _ _ r9 true _ ?side1 ?side2 ?side3 ?side4 ?side5 ?side6 ?side7 ?side8 Ee28.out).mono ?_); (case side1 => exact (Kd.R_reads' Oe22_0.out).2.2); (case side2 => (have h_ := Kd.R_reads' Oe22_0.out; have h1_ := h_.1; have h2_ := h_.2.1; omega)); (case side3 => exact (Kd.S_reads' Oe22_1.out).2.2); (case side4 => (have h_ := Kd.S_reads' Oe22_1.out; have h1_ := h_.1; have h2_ := h_.2.1; omega)); (case side5 => exact (Kd.R_reads' Oe11_0.out).2.2); (case side6 => (have h_ := Kd.R_reads' Oe11_0.out; have h1_ := h_.1; have h2_ := h_.2.1; omega)); (case side7 => exact (Kd.S_reads' Oe11_1.out).2.2); (case side8 => (have h_ := Kd.S_reads' Oe11_1.out; have h1_ := h_.1; have h2_ := h_.2.1; omega)); rintro ex_ w26 ⟨rfl, hb⟩; refine ⟨_, rfl, ?_⟩; have hk := Kept.of_below hb (fun _ => False); replace Oe6_0 := Aside0.mk (Op.mvR Oe6_0.out hk (fun _ _ hs => hs)); replace Oe11_0 := Aside0.mk (Op.mvR Oe11_0.out hk (fun _ _ hs => hs)); replace Oe11_1 := Aside0.mk (Op.mvS Oe11_1.out hk (fun _ _ hs => hs)); replace Oe17_0 := Aside0.mk (Op.mvR Oe17_0.out hk (fun _ _ hs => hs)); replace Oe22_0 := Aside0.mk (Op.mvR Oe22_0.out hk (fun _ _ hs => hs)); replace Oe22_1 := Aside0.mk (Op.mvS Oe22_1.out hk (fun _ _ hs => hs)); replace BKg12 := Aside0.mk (Op.mvB BKg12.out hk (fun hs => hs)); replace BKg23 := Aside0.mk (Op.mvB BKg23.out hk (fun hs => hs)); have HSw26 := Aside0.mk (And.intro (hb.size) HSw25.out); replace HB := Aside0.mk (Op.a5 HB.out hb); clear hb hk; have hz_g12_0_w26 : w26.cell? ⟨g12, 0, none⟩ = some (.slice Ae11_0 r8.length cAe11_0) := (blk_cell BKg12.out 0).trans rfl; have hf_g12_0_w26 := blk_frozen BKg12.out 0; have hz_g12_1_w26 : w26.cell? ⟨g12, 1, none⟩ = some (.slice Ae11_1 r9.length cAe11_1) := (blk_cell BKg12.out 1).trans rfl; have hf_g12_1_w26 := blk_frozen BKg12.out 1; have hz_g23_0_w26 : w26.cell? ⟨g23, 0, none⟩ = some (.slice Ae22_0 r19.length cAe22_0) := (blk_cell BKg23.out 0).trans rfl; have hf_g23_0_w26 := blk_frozen BKg23.out 0; have hz_g23_1_w26 : w26.cell? ⟨g23, 1, none⟩ = some (.slice Ae22_1 r20.length cAe22_1) := (blk_cell BKg23.out 1).trans rfl; have hf_g23_1_w26 := blk_frozen BKg23.out 1) | ((with_reducible refine gate_callee (f := 40) rfl ?_); refine goesL_ (some 43) rfl rfl Try.func40 (by kernel_rfl) rfl #[.slice A0 l0.length c0] rfl (by (try simp only [List.map_toArray, List.map_cons, List.map_nil]); first | done | rfl | (simp only [List.length_drop, List.length_take]; rfl)) ?_; (with_reducible refine (laws_toStringS.calls k _ _ l0 r30 _ ?side1 ?side2 Ee31.out).mono ?_); (case side1 => exact (Kd.C_below HR0.out HB.out)); (case side2 => exact HC0.out); rintro ex_ w29 ⟨ve31_0, rfl, ho0, hb⟩; refine ⟨_, rfl, ?_⟩; have hk := Kept.of_below hb (fun _ => False); replace Oe6_0 := Aside0.mk (Op.mvR Oe6_0.out hk (fun _ _ hs => hs)); replace Oe11_0 := Aside0.mk (Op.mvR Oe11_0.out hk (fun _ _ hs => hs)); replace Oe11_1 := Aside0.mk (Op.mvS Oe11_1.out hk (fun _ _ hs => hs)); replace Oe17_0 := Aside0.mk (Op.mvR Oe17_0.out hk (fun _ _ hs => hs)); replace Oe22_0 := Aside0.mk (Op.mvR Oe22_0.out hk (fun _ _ hs => hs)); replace Oe22_1 := Aside0.mk (Op.mvS Oe22_1.out hk (fun _ _ hs => hs)); replace BKg12 := Aside0.mk (Op.mvB BKg12.out hk (fun hs => hs)); replace BKg23 := Aside0.mk (Op.mvB BKg23.out hk (fun hs => hs)); have HSw29 := Aside0.mk (And.intro (hb.size) HSw26.out); have Oe31_0 := Aside0.mk (Op.inR ho0 (a := w26.heap.size) (b := w.heap.size) HB.out.size (Nat.le_refl _)); replace HB := Aside0.mk (Op.a5 HB.out hb); obtain ⟨Ae31_0, cAe31_0, ev_⟩ := Kd.R_slice Oe31_0.out; subst ev_; clear hb hk ho0; have hz_g12_0_w29 : w29.cell? ⟨g12, 0, none⟩ = some (.slice Ae11_0 r8.length cAe11_0) := (blk_cell BKg12.out 0).trans rfl; have hf_g12_0_w29 := blk_frozen BKg12.out 0; have hz_g12_1_w29 : w29.cell? ⟨g12, 1, none⟩ = some (.slice Ae11_1 r9.length cAe11_1) := (blk_cell BKg12.out 1).trans rfl; have hf_g12_1_w29 := blk_frozen BKg12.out 1; have hz_g23_0_w29 : w29.cell? ⟨g23, 0, none⟩ = some (.slice Ae22_0 r19.length cAe22_0) := (blk_cell BKg23.out 0).trans rfl; have hf_g23_0_w29 := blk_frozen BKg23.out 0; have hz_g23_1_w29 : w29.cell? ⟨g23, 1, none⟩ = some (.slice Ae22_1 r20.length cAe22_1) := (blk_cell BKg23.out 1).trans rfl; have hf_g23_1_w29 := blk_frozen BKg23.out 1) | ((with_reducible refine gate_callee (f := 35) rfl ?_); refine goesL_ (some 44) rfl rfl Try.func35 (by kernel_rfl) rfl #[.slice Ae17_0 r16.length cAe17_0, .slice Ae31_0 r30.length cAe31_0] rfl (by (try simp only [List.map_toArray, List.map_cons, List.map_nil]); first | done | rfl | (simp only [List.length_drop, List.length_take]; rfl)) ?_; (with_reducible refine (laws_eqStringS.calls k _ _ r16 _ _ r30 true _ ?side1 ?side2 ?side3 ?side4 Ee34.out).mono ?_); (case side1 => exact (Kd.R_reads' Oe17_0.out).2.2); (case side2 => (have h_ := Kd.R_reads' Oe17_0.out; have h1_ := h_.1; have h2_ := h_.2.1; omega)); (case side3 => exact (Kd.R_reads' Oe31_0.out).2.2); (case side4 => (have h_ := Kd.R_reads' Oe31_0.out; have h1_ := h_.1; have h2_ := h_.2.1; omega)); rintro ex_ w32 ⟨rfl, hd⟩; refine ⟨_, rfl, ?_⟩; have hb := hd.below; have hk := Kept.of_below hb (fun _ => False); replace Oe6_0 := Aside0.mk (Op.mvR Oe6_0.out hk (fun _ _ hs => hs)); replace Oe11_0 := Aside0.mk (Op.mvR Oe11_0.out hk (fun _ _ hs => hs)); replace Oe11_1 := Aside0.mk (Op.mvS Oe11_1.out hk (fun _ _ hs => hs)); replace Oe17_0 := Aside0.mk (Op.mvR Oe17_0.out hk (fun _ _ hs => hs)); replace Oe22_0 := Aside0.mk (Op.mvR Oe22_0.out hk (fun _ _ hs => hs)); replace Oe22_1 := Aside0.mk (Op.mvS Oe22_1.out hk (fun _ _ hs => hs)); replace Oe31_0 := Aside0.mk (Op.mvR Oe31_0.out hk (fun _ _ hs => hs)); replace BKg12 := Aside0.mk (Op.mvB BKg12.out hk (fun hs => hs)); replace BKg23 := Aside0.mk (Op.mvB BKg23.out hk (fun hs => hs)); have HSw32 := Aside0.mk (And.intro (hb.size) HSw29.out); replace HB := Aside0.mk (Op.a5 HB.out hb); clear hb hk hd; have hz_g12_0_w32 : w32.cell? ⟨g12, 0, none⟩ = some (.slice Ae11_0 r8.length cAe11_0) := (blk_cell BKg12.out 0).trans rfl; have hf_g12_0_w32 := blk_frozen BKg12.out 0; have hz_g12_1_w32 : w32.cell? ⟨g12, 1, none⟩ = some (.slice Ae11_1 r9.length cAe11_1) := (blk_cell BKg12.out 1).trans rfl; have hf_g12_1_w32 := blk_frozen BKg12.out 1; have hz_g23_0_w32 : w32.cell? ⟨g23, 0, none⟩ = some (.slice Ae22_0 r19.length cAe22_0) := (blk_cell BKg23.out 0).trans rfl; have hf_g23_0_w32 := blk_frozen BKg23.out 0; have hz_g23_1_w32 : w32.cell? ⟨g23, 1, none⟩ = some (.slice Ae22_1 r20.length cAe22_1) := (blk_cell BKg23.out 1).trans rfl; have hf_g23_1_w32 := blk_frozen BKg23.out 1) | ((with_reducible refine gate_callee (f := 36) rfl ?_); refine goesL_ (some 48) rfl rfl Try.func36 (by kernel_rfl) rfl #[.slice Ae17_0 r16.length cAe17_0, .int .i64 1] rfl (by (try simp only [List.map_toArray, List.map_cons, List.map_nil]); first | done | rfl | (simp only [List.length_drop, List.length_take]; rfl)) ?_; have tOe17_0 := Aside0.mk (Op.tiR rfl Oe17_0.out); (with_reducible refine (laws_markStringS.calls k _ _ r16 1 r36 r37 w _ HB.out tOe17_0.out Ee38.out).mono ?_); rintro ex_ w35 ⟨rfl, ho0, hb, hk⟩; refine ⟨_, rfl, ?_⟩; replace Oe6_0 := Aside0.mk (Op.mvR Oe6_0.out hk (fun j hj hs => by (have hj2 := hj.2; have q := HSw32.out; have hs2 := hs.2.2; omega))); replace Oe11_0 := Aside0.mk (Op.mvR Oe11_0.out hk (fun j hj hs => by (have hj2 := hj.2; have q := HSw32.out; have hs2 := hs.2.2; omega))); replace Oe11_1 := Aside0.mk (Op.mvS Oe11_1.out hk (fun j hj hs => by (have hj2 := hj.2; have q := HSw32.out; have hs2 := hs.2.2; omega))); replace Oe22_0 := Aside0.mk (Op.mvR Oe22_0.out hk (fun j hj hs => by (have hj2 := hj.2; have q := HSw32.out; have hs2 := hs.2.2; omega))); replace Oe22_1 := Aside0.mk (Op.mvS Oe22_1.out hk (fun j hj hs => by (have hj2 := hj.2; have q := HSw32.out; have hs2 := hs.2.2; omega))); replace Oe31_0 := Aside0.mk (Op.mvR Oe31_0.out hk (fun j hj hs => by (have hj2 := hj.2; have q := HSw32.out; have hs2 := hs.2.2; omega))); replace BKg12 := Aside0.mk (Op.mvB BKg12.out hk (fun hs => by (have q := HSw32.out; have hs2 := hs.2.2; omega))); replace BKg23 := Aside0.mk (Op.mvB BKg23.out hk (fun hs => by (have q := HSw32.out; have hs2 := hs.2.2; omega))); replace HB := Aside0.mk hb; have HSw35 := Aside0.mk (And.intro (hk.1) HSw32.out); replace Oe17_0 := Aside0.mk (Kd.R_reok rfl ho0 Oe17_0.out.1); clear hb hk ho0 tOe17_0; have hz_g12_0_w35 : w35.cell? ⟨g12, 0, none⟩ = some (.slice Ae11_0 r8.length cAe11_0) := (blk_cell BKg12.out 0).trans rfl; have hf_g12_0_w35 := blk_frozen BKg12.out 0; have hz_g12_1_w35 : w35.cell? ⟨g12, 1, none⟩ = some (.slice Ae11_1 r9.length cAe11_1) := (blk_cell BKg12.out 1).trans rfl; have hf_g12_1_w35 := blk_frozen BKg12.out 1; have hz_g23_0_w35 : w35.cell? ⟨g23, 0, none⟩ = some (.slice Ae22_0 r19.length cAe22_0) := (blk_cell BKg23.out 0).trans rfl; have hf_g23_0_w35 := blk_frozen BKg23.out 0; have hz_g23_1_w35 : w35.cell? ⟨g23, 1, none⟩ = some (.slice Ae22_1 r20.length cAe22_1) := (blk_cell BKg23.out 1).trans rfl; have hf_g23_1_w35 := blk_frozen BKg23.out 1; have hl_ := (Kd.R_reads' Oe17_0.out).1; have LOe17_0_r37 := Aside0.mk hl_; clear hl_) | (go_at_call 46; (with_reducible refine (laws_eqRecipe.calls k _ _ r19 _ _ r20 _ _ r8 _ _ r9 true _ ?side1 ?side2 ?side3 ?side4 ?side5 ?side6 ?side7 ?side8 Ee41.out).mono ?_); (case side1 => exact (Kd.R_reads' Oe22_0.out).2.2); (case side2 => (have h_ := Kd.R_reads' Oe22_0.out; have h1_ := h_.1; have h2_ := h_.2.1; omega)); (case side3 => exact (Kd.S_reads' Oe22_1.out).2.2); (case side4 => (have h_ := Kd.S_reads' Oe22_1.out; have h1_ := h_.1; have h2_ := h_.2.1; omega)); (case side5 => exact (Kd.R_reads' Oe11_0.out).2.2); (case side6 => (have h_ := Kd.R_reads' Oe11_0.out; have h1_ := h_.1; have h2_ := h_.2.1; omega)); (case side7 => exact (Kd.S_reads' Oe11_1.out).2.2); (case side8 => (have h_ := Kd.S_reads' Oe11_1.out; have h1_ := h_.1; have h2_ := h_.2.1; omega)); rintro ex_ w39 ⟨rfl, hb⟩; have hk := Kept.of_below hb (fun _ => False); replace Oe6_0 := Aside0.mk (Op.mvR Oe6_0.out hk (fun _ _ hs => hs)); replace Oe11_0 := Aside0.mk (Op.mvR Oe11_0.out hk (fun _ _ hs => hs)); replace Oe11_1 := Aside0.mk (Op.mvS Oe11_1.out hk (fun _ _ hs => hs)); replace Oe17_0 := Aside0.mk (Op.mvR Oe17_0.out hk (fun _ _ hs => hs)); replace Oe22_0 := Aside0.mk (Op.mvR Oe22_0.out hk (fun _ _ hs => hs)); replace Oe22_1 := Aside0.mk (Op.mvS Oe22_1.out hk (fun _ _ hs => hs)); replace Oe31_0 := Aside0.mk (Op.mvR Oe31_0.out hk (fun _ _ hs => hs)); replace BKg12 := Aside0.mk (Op.mvB BKg12.out hk (fun hs => hs)); replace BKg23 := Aside0.mk (Op.mvB BKg23.out hk (fun hs => hs)); have HSw39 := Aside0.mk (And.intro (hb.size) HSw35.out); replace HB := Aside0.mk (Op.a5 HB.out hb); clear hb hk; have hz_g12_0_w39 : w39.cell? ⟨g12, 0, none⟩ = some (.slice Ae11_0 r8.length cAe11_0) := (blk_cell BKg12.out 0).trans rfl; have hf_g12_0_w39 := blk_frozen BKg12.out 0; have hz_g12_1_w39 : w39.cell? ⟨g12, 1, none⟩ = some (.slice Ae11_1 r9.length cAe11_1) := (blk_cell BKg12.out 1).trans rfl; have hf_g12_1_w39 := blk_frozen BKg12.out 1; have hz_g23_0_w39 : w39.cell? ⟨g23, 0, none⟩ = some (.slice Ae22_0 r19.length cAe22_0) := (blk_cell BKg23.out 0).trans rfl; have hf_g23_0_w39 := blk_frozen BKg23.out 0; have hz_g23_1_w39 : w39.cell? ⟨g23, 1, none⟩ = some (.slice Ae22_1 r20.length cAe22_1) := (blk_cell BKg23.out 1).trans rfl; have hf_g23_1_w39 := blk_frozen BKg23.out 1) | ((with_reducible refine gate_callee (f := 47) rfl ?_); refine goesL_ (some 64) rfl rfl Try.func47 (by kernel_rfl) rfl #[.agg #[.slice Ae22_0 r19.length cAe22_0, .slice Ae22_1 r20.length cAe22_1], .int .i64 1] rfl (by (try simp only [List.map_toArray, List.map_cons, List.map_nil]); first | done | rfl | (simp only [List.length_drop, List.length_take]; rfl)) ?_; have tOe22_0 := Aside0.mk (Op.tiR rfl Oe22_0.out); (with_reducible refine (laws_markRecipe.calls k _ _ _ _ r19 r20 1 r43 r44 r45 w _ HB.out tOe22_0.out Oe22_1.out ?sd0 Ee46.out).mono ?_); (case sd0 => (intro j h1 h2; first | exact h1.1 h2.1 | exact h1.1.1 h2.1 | exact h1.1.2 h2.1 | exact h1.1.2.1 h2.1 | exact h1.1.2.2 h2.1 | exact h2.1.2 h1.1 | exact (Oe22_0.out.1 j h1.1.symm).1 h2.1 | exact (Oe22_0.out.1 j h1.1.symm).1.1 h2.1 | exact (Oe22_0.out.1 j h1.1.symm).1.2 h2.1 | exact (Oe22_1.out.1 j h2.1.symm).1 h1.1 | exact (Oe22_1.out.1 j h2.1.symm).1.1 h1.1 | exact (Oe22_1.out.1 j h2.1.symm).1.2 h1.1)); rintro ex_ w42 ⟨rfl, ho0, ho1, hb, hk⟩; refine ⟨_, rfl, ?_⟩; replace Oe6_0 := Aside0.mk (Op.mvR Oe6_0.out hk (fun j hj hs => by (have hj2 := hj.2; have q := HSw39.out; exact Or.elim hs (fun hs => by (have hs2 := hs.2.2; omega)) (fun hs => by (have hs2 := hs.2; omega))))); replace Oe11_0 := Aside0.mk (Op.mvR Oe11_0.out hk (fun j hj hs => by (have hj2 := hj.2; have q := HSw39.out; exact Or.elim hs (fun hs => by (have hs2 := hs.2.2; omega)) (fun hs => by (have hs2 := hs.2; omega))))); replace Oe11_1 := Aside0.mk (Op.mvS Oe11_1.out hk (fun j hj hs => by (have hj2 := hj.2; have q := HSw39.out; exact Or.elim hs (fun hs => by (have hs2 := hs.2.2; omega)) (fun hs => by (have hs2 := hs.2; omega))))); replace Oe17_0 := Aside0.mk (Op.mvR Oe17_0.out hk (fun j hj hs => by (have hj2 := hj.2; have q := HSw39.out; exact Or.elim hs (fun hs => by (have hs2 := hs.2.2; omega)) (fun hs => by (have hs2 := hs.2; omega))))); replace Oe31_0 := Aside0.mk (Op.mvR Oe31_0.out hk (fun j hj hs => by (have hj2 := hj.2; have q := HSw39.out; exact Or.elim hs (fun hs => by (have hs2 := hs.2.2; omega)) (fun hs => by (have hs2 := hs.2; omega))))); replace BKg12 := Aside0.mk (Op.mvB BKg12.out hk (fun hs => by (have q := HSw39.out; exact Or.elim hs (fun hs => by (have hs2 := hs.2.2; omega)) (fun hs => by (have hs2 := hs.2; omega))))); replace BKg23 := Aside0.mk (Op.mvB BKg23.out hk (fun hs => by (have q := HSw39.out; exact Or.elim hs (fun hs => by (have hs2 := hs.2.2; omega)) (fun hs => by (have hs2 := hs.2; omega))))); replace HB := Aside0.mk hb; have HSw42 := Aside0.mk (And.intro (hk.1) HSw39.out); replace Oe22_0 := Aside0.mk (Kd.R_reok rfl ho0 Oe22_0.out.1); replace Oe22_1 := Aside0.mk ho1; clear hb hk ho0 ho1 tOe22_0; have hz_g12_0_w42 : w42.cell? ⟨g12, 0, none⟩ = some (.slice Ae11_0 r8.length cAe11_0) := (blk_cell BKg12.out 0).trans rfl; have hf_g12_0_w42 := blk_frozen BKg12.out 0; have hz_g12_1_w42 : w42.cell? ⟨g12, 1, none⟩ = some (.slice Ae11_1 r9.length cAe11_1) := (blk_cell BKg12.out 1).trans rfl; have hf_g12_1_w42 := blk_frozen BKg12.out 1; have hz_g23_0_w42 : w42.cell? ⟨g23, 0, none⟩ = some (.slice Ae22_0 r19.length cAe22_0) := (blk_cell BKg23.out 0).trans rfl; have hf_g23_0_w42 := blk_frozen BKg23.out 0; have hz_g23_1_w42 : w42.cell? ⟨g23, 1, none⟩ = some (.slice Ae22_1 r20.length cAe22_1) := (blk_cell BKg23.out 1).trans rfl; have hf_g23_1_w42 := blk_frozen BKg23.out 1; have hl_ := (Kd.R_reads' Oe22_0.out).1; have LOe22_0_r44 := Aside0.mk hl_; clear hl_; have hl_ := (Kd.S_reads' Oe22_1.out).1; have LOe22_1_r45 := Aside0.mk hl_; clear hl_) | ((with_reducible refine gate_callee (f := 48) rfl ?_); refine goesL_ (some 67) rfl rfl Try.func48 (by kernel_rfl) rfl #[.agg #[.slice Ae22_0 r19.length cAe22_0, .slice Ae22_1 r20.length cAe22_1], .int .i64 1] rfl (by (try simp only [List.map_toArray, List.map_cons, List.map_nil]); first | done | rfl | (simp only [List.length_drop, List.length_take]; rfl)) ?_; refine Op.args_eq (args := #[.agg #[.slice Ae22_0 r44.length cAe22_0, .slice Ae22_1 r45.length cAe22_1], .int .i64 1]) (by simp only [LOe22_0_r44.out, LOe22_1_r45.out]) ?_; (with_reducible refine (laws_heldRecipe.calls k _ _ r44 _ _ r45 1 r48 _ ?side1 ?side2 ?side3 ?side4 Ee49.out).mono ?_); (case side1 => exact (Kd.R_reads' Oe22_0.out).2.2); (case side2 => (have h_ := Kd.R_reads' Oe22_0.out; have h1_ := h_.1; have h2_ := h_.2.1; omega)); (case side3 => exact (Kd.S_reads' Oe22_1.out).2.2); (case side4 => (have h_ := Kd.S_reads' Oe22_1.out; have h1_ := h_.1; have h2_ := h_.2.1; omega)); rintro ex_ w47 ⟨rfl, hb⟩; refine ⟨_, rfl, ?_⟩; have hk := Kept.of_below hb (fun _ => False); replace Oe6_0 := Aside0.mk (Op.mvR Oe6_0.out hk (fun _ _ hs => hs)); replace Oe11_0 := Aside0.mk (Op.mvR Oe11_0.out hk (fun _ _ hs => hs)); replace Oe11_1 := Aside0.mk (Op.mvS Oe11_1.out hk (fun _ _ hs => hs)); replace Oe17_0 := Aside0.mk (Op.mvR Oe17_0.out hk (fun _ _ hs => hs)); replace Oe22_0 := Aside0.mk (Op.mvR Oe22_0.out hk (fun _ _ hs => hs)); replace Oe22_1 := Aside0.mk (Op.mvS Oe22_1.out hk (fun _ _ hs => hs)); replace Oe31_0 := Aside0.mk (Op.mvR Oe31_0.out hk (fun _ _ hs => hs)); replace BKg12 := Aside0.mk (Op.mvB BKg12.out hk (fun hs => hs)); replace BKg23 := Aside0.mk (Op.mvB BKg23.out hk (fun hs => hs)); have HSw47 := Aside0.mk (And.intro (hb.size) HSw42.out); replace HB := Aside0.mk (Op.a5 HB.out hb); clear hb hk; have hz_g12_0_w47 : w47.cell? ⟨g12, 0, none⟩ = some (.slice Ae11_0 r8.length cAe11_0) := (blk_cell BKg12.out 0).trans rfl; have hf_g12_0_w47 := blk_frozen BKg12.out 0; have hz_g12_1_w47 : w47.cell? ⟨g12, 1, none⟩ = some (.slice Ae11_1 r9.length cAe11_1) := (blk_cell BKg12.out 1).trans rfl; have hf_g12_1_w47 := blk_frozen BKg12.out 1; have hz_g23_0_w47 : w47.cell? ⟨g23, 0, none⟩ = some (.slice Ae22_0 r19.length cAe22_0) := (blk_cell BKg23.out 0).trans rfl; have hf_g23_0_w47 := blk_frozen BKg23.out 0; have hz_g23_1_w47 : w47.cell? ⟨g23, 1, none⟩ = some (.slice Ae22_1 r20.length cAe22_1) := (blk_cell BKg23.out 1).trans rfl; have hf_g23_1_w47 := blk_frozen BKg23.out 1) | ((with_reducible refine gate_callee (f := 40) rfl ?_); refine goesL_ (some 75) rfl rfl Try.func40 (by kernel_rfl) rfl #[.slice A0 l0.length c0] rfl (by (try simp only [List.map_toArray, List.map_cons, List.map_nil]); first | done | rfl | (simp only [List.length_drop, List.length_take]; rfl)) ?_; (with_reducible refine (laws_toStringS.calls k _ _ l0 r51 _ ?side1 ?side2 Ee52.out).mono ?_); (case side1 => exact (Kd.C_below HR0.out HB.out)); (case side2 => exact HC0.out); rintro ex_ w50 ⟨ve52_0, rfl, ho0, hb⟩; refine ⟨_, rfl, ?_⟩; have hk := Kept.of_below hb (fun _ => False); replace Oe6_0 := Aside0.mk (Op.mvR Oe6_0.out hk (fun _ _ hs => hs)); replace Oe11_0 := Aside0.mk (Op.mvR Oe11_0.out hk (fun _ _ hs => hs)); replace Oe11_1 := Aside0.mk (Op.mvS Oe11_1.out hk (fun _ _ hs => hs)); replace Oe17_0 := Aside0.mk (Op.mvR Oe17_0.out hk (fun _ _ hs => hs)); replace Oe22_0 := Aside0.mk (Op.mvR Oe22_0.out hk (fun _ _ hs => hs)); replace Oe22_1 := Aside0.mk (Op.mvS Oe22_1.out hk (fun _ _ hs => hs)); replace Oe31_0 := Aside0.mk (Op.mvR Oe31_0.out hk (fun _ _ hs => hs)); replace BKg12 := Aside0.mk (Op.mvB BKg12.out hk (fun hs => hs)); replace BKg23 := Aside0.mk (Op.mvB BKg23.out hk (fun hs => hs)); have HSw50 := Aside0.mk (And.intro (hb.size) HSw47.out); have Oe52_0 := Aside0.mk (Op.inR ho0 (a := w47.heap.size) (b := w.heap.size) HB.out.size (Nat.le_refl _)); replace HB := Aside0.mk (Op.a5 HB.out hb); obtain ⟨Ae52_0, cAe52_0, ev_⟩ := Kd.R_slice Oe52_0.out; subst ev_; clear hb hk ho0; have hz_g12_0_w50 : w50.cell? ⟨g12, 0, none⟩ = some (.slice Ae11_0 r8.length cAe11_0) := (blk_cell BKg12.out 0).trans rfl; have hf_g12_0_w50 := blk_frozen BKg12.out 0; have hz_g12_1_w50 : w50.cell? ⟨g12, 1, none⟩ = some (.slice Ae11_1 r9.length cAe11_1) := (blk_cell BKg12.out 1).trans rfl; have hf_g12_1_w50 := blk_frozen BKg12.out 1; have hz_g23_0_w50 : w50.cell? ⟨g23, 0, none⟩ = some (.slice Ae22_0 r19.length cAe22_0) := (blk_cell BKg23.out 0).trans rfl; have hf_g23_0_w50 := blk_frozen BKg23.out 0; have hz_g23_1_w50 : w50.cell? ⟨g23, 1, none⟩ = some (.slice Ae22_1 r20.length cAe22_1) := (blk_cell BKg23.out 1).trans rfl; have hf_g23_1_w50 := blk_frozen BKg23.out 1) | ((with_reducible refine gate_callee (f := 45) rfl ?_); refine goesL_ (some 76) rfl rfl Try.func45 (by kernel_rfl) rfl #[.slice Ae52_0 r51.length cAe52_0] rfl (by (try simp only [List.map_toArray, List.map_cons, List.map_nil]); first | done | rfl | (simp only [List.length_drop, List.length_take]; rfl)) ?_; (with_reducible refine (impl_DedupAll.calls k _ _ r51 r54 r55 r56 _ ?side1 ?side2 Ee57.out).mono ?_); (case side1 => exact (Kd.R_reads' Oe52_0.out).2.2); (case side2 => (have h_ := Kd.R_reads' Oe52_0.out; have h1_ := h_.1; have h2_ := h_.2.1; omega)); rintro ex_ w53 ⟨ve57_0, ve57_1, rfl, ho0, ho1, hb⟩; refine ⟨_, rfl, ?_⟩; have hk := Kept.of_below hb (fun _ => False); replace Oe6_0 := Aside0.mk (Op.mvR Oe6_0.out hk (fun _ _ hs => hs)); replace Oe11_0 := Aside0.mk (Op.mvR Oe11_0.out hk (fun _ _ hs => hs)); replace Oe11_1 := Aside0.mk (Op.mvS Oe11_1.out hk (fun _ _ hs => hs)); replace Oe17_0 := Aside0.mk (Op.mvR Oe17_0.out hk (fun _ _ hs => hs)); replace Oe22_0 := Aside0.mk (Op.mvR Oe22_0.out hk (fun _ _ hs => hs)); replace Oe22_1 := Aside0.mk (Op.mvS Oe22_1.out hk (fun _ _ hs => hs)); replace Oe31_0 := Aside0.mk (Op.mvR Oe31_0.out hk (fun _ _ hs => hs)); replace Oe52_0 := Aside0.mk (Op.mvR Oe52_0.out hk (fun _ _ hs => hs)); replace BKg12 := Aside0.mk (Op.mvB BKg12.out hk (fun hs => hs)); replace BKg23 := Aside0.mk (Op.mvB BKg23.out hk (fun hs => hs)); have HSw53 := Aside0.mk (And.intro (hb.size) HSw50.out); have Oe57_0 := Aside0.mk (Op.inR ho0 (a := w50.heap.size) (b := w.heap.size) HB.out.size (Nat.le_refl _)); have Oe57_1 := Aside0.mk (Op.inS (Kd.S_apart' ho1 (Kd.R_typed ho0) (by decide)) (a := w50.heap.size) (b := w.heap.size) HB.out.size (Nat.le_refl _)); replace HB := Aside0.mk (Op.a5 HB.out hb); obtain ⟨Ae57_0, cAe57_0, ev_⟩ := Kd.R_slice Oe57_0.out; subst ev_; obtain ⟨Ae57_1, cAe57_1, ev_⟩ := Kd.S_slice Oe57_1.out; subst ev_; clear hb hk ho0 ho1; have hz_g12_0_w53 : w53.cell? ⟨g12, 0, none⟩ = some (.slice Ae11_0 r8.length cAe11_0) := (blk_cell BKg12.out 0).trans rfl; have hf_g12_0_w53 := blk_frozen BKg12.out 0; have hz_g12_1_w53 : w53.cell? ⟨g12, 1, none⟩ = some (.slice Ae11_1 r9.length cAe11_1) := (blk_cell BKg12.out 1).trans rfl; have hf_g12_1_w53 := blk_frozen BKg12.out 1; have hz_g23_0_w53 : w53.cell? ⟨g23, 0, none⟩ = some (.slice Ae22_0 r19.length cAe22_0) := (blk_cell BKg23.out 0).trans rfl; have hf_g23_0_w53 := blk_frozen BKg23.out 0; have hz_g23_1_w53 : w53.cell? ⟨g23, 1, none⟩ = some (.slice Ae22_1 r20.length cAe22_1) := (blk_cell BKg23.out 1).trans rfl; have hf_g23_1_w53 := blk_frozen BKg23.out 1) | ((with_reducible refine gate_dst (N := 12) rfl ?_); refine box_event ?hg (N := 12) ?hd (cs := #[.slice none 0 0, .slice none 0 0]) (t := 57) ?hr ?_; (case hd => rfl); (case hg => rfl); (case hr => first | (go_simp; done) | (go_simp; rfl)); intro g58 hg w59 hbox hb; have hk := Kept.of_below hb (fun _ => False); replace Oe6_0 := Aside0.mk (Op.mvR Oe6_0.out hk (fun _ _ hs => hs)); replace Oe11_0 := Aside0.mk (Op.mvR Oe11_0.out hk (fun _ _ hs => hs)); replace Oe11_1 := Aside0.mk (Op.mvS Oe11_1.out hk (fun _ _ hs => hs)); replace Oe17_0 := Aside0.mk (Op.mvR Oe17_0.out hk (fun _ _ hs => hs)); replace Oe22_0 := Aside0.mk (Op.mvR Oe22_0.out hk (fun _ _ hs => hs)); replace Oe22_1 := Aside0.mk (Op.mvS Oe22_1.out hk (fun _ _ hs => hs)); replace Oe31_0 := Aside0.mk (Op.mvR Oe31_0.out hk (fun _ _ hs => hs)); replace Oe52_0 := Aside0.mk (Op.mvR Oe52_0.out hk (fun _ _ hs => hs)); replace Oe57_0 := Aside0.mk (Op.mvR Oe57_0.out hk (fun _ _ hs => hs)); replace Oe57_1 := Aside0.mk (Op.mvS Oe57_1.out hk (fun _ _ hs => hs)); replace BKg12 := Aside0.mk (Op.mvB BKg12.out hk (fun hs => hs)); replace BKg23 := Aside0.mk (Op.mvB BKg23.out hk (fun hs => hs)); have BKg58 := Aside0.mk hbox; have GEg58 := Aside0.mk (show w.heap.size ≤ g58 from by rw [hg]; exact HB.out.size); have HSw59 := Aside0.mk (And.intro (And.intro (show w53.heap.size ≤ g58 from Nat.le_of_eq hg.symm) (And.intro (blk_lt hbox) hb.size)) HSw53.out); replace HB := Aside0.mk (Op.a5 HB.out hb); clear hg hbox hb hk; have hz_g12_0_w59 : w59.cell? ⟨g12, 0, none⟩ = some (.slice Ae11_0 r8.length cAe11_0) := (blk_cell BKg12.out 0).trans rfl; have hf_g12_0_w59 := blk_frozen BKg12.out 0; have hz_g12_1_w59 : w59.cell? ⟨g12, 1, none⟩ = some (.slice Ae11_1 r9.length cAe11_1) := (blk_cell BKg12.out 1).trans rfl; have hf_g12_1_w59 := blk_frozen BKg12.out 1; have hz_g23_0_w59 : w59.cell? ⟨g23, 0, none⟩ = some (.slice Ae22_0 r19.length cAe22_0) := (blk_cell BKg23.out 0).trans rfl; have hf_g23_0_w59 := blk_frozen BKg23.out 0; have hz_g23_1_w59 : w59.cell? ⟨g23, 1, none⟩ = some (.slice Ae22_1 r20.length cAe22_1) := (blk_cell BKg23.out 1).trans rfl; have hf_g23_1_w59 := blk_frozen BKg23.out 1; have hz_g58_0_w59 : w59.cell? ⟨g58, 0, none⟩ = some (.slice none 0 0) := (blk_cell BKg58.out 0).trans rfl; have hf_g58_0_w59 := blk_frozen BKg58.out 0; have hz_g58_1_w59 : w59.cell? ⟨g58, 1, none⟩ = some (.slice none 0 0) := (blk_cell BKg58.out 1).trans rfl; have hf_g58_1_w59 := blk_frozen BKg58.out 1) | ((with_reducible refine gate_store (t := 57) (p := 12) rfl ?_); refine store_event (t := 57) (p := 12) (v := ?vo_w60) (w1 := ((w59.setCell ⟨g58, 0, none⟩ (.slice Ae57_0 r54.length cAe57_0)).setCell ⟨g58, 1, none⟩ (.slice Ae57_1 r55.length cAe57_1))) ?hg ?ho ?hn ?hr ?_; (case ho => rfl); (case hg => rfl); (case hn => rfl); (case hr => first | (go_simp; done) | (go_simp; rfl)); intro w60 hw; have hk : Kept w59 w60 (fun j => j = g58) := (by rw [hw]; exact Op.kept_put (Op.kept_put (Kept.refl _ _) 0 _) 1 _); replace Oe6_0 := Aside0.mk (Op.mvR Oe6_0.out hk (fun j hj hs => by (have hj2 := hj.2; have q := HSw59.out; have hs2 : j = g58 := hs; omega))); replace Oe11_0 := Aside0.mk (Op.mvR Oe11_0.out hk (fun j hj hs => by (have hj2 := hj.2; have q := HSw59.out; have hs2 : j = g58 := hs; omega))); replace Oe11_1 := Aside0.mk (Op.mvS Oe11_1.out hk (fun j hj hs => by (have hj2 := hj.2; have q := HSw59.out; have hs2 : j = g58 := hs; omega))); replace Oe17_0 := Aside0.mk (Op.mvR Oe17_0.out hk (fun j hj hs => by (have hj2 := hj.2; have q := HSw59.out; have hs2 : j = g58 := hs; omega))); replace Oe22_0 := Aside0.mk (Op.mvR Oe22_0.out hk (fun j hj hs => by (have hj2 := hj.2; have q := HSw59.out; have hs2 : j = g58 := hs; omega))); replace Oe22_1 := Aside0.mk (Op.mvS Oe22_1.out hk (fun j hj hs => by (have hj2 := hj.2; have q := HSw59.out; have hs2 : j = g58 := hs; omega))); replace Oe31_0 := Aside0.mk (Op.mvR Oe31_0.out hk (fun j hj hs => by (have hj2 := hj.2; have q := HSw59.out; have hs2 : j = g58 := hs; omega))); replace Oe52_0 := Aside0.mk (Op.mvR Oe52_0.out hk (fun j hj hs => by (have hj2 := hj.2; have q := HSw59.out; have hs2 : j = g58 := hs; omega))); replace Oe57_0 := Aside0.mk (Op.mvR Oe57_0.out hk (fun j hj hs => by (have hj2 := hj.2; have q := HSw59.out; have hs2 : j = g58 := hs; omega))); replace Oe57_1 := Aside0.mk (Op.mvS Oe57_1.out hk (fun j hj hs => by (have hj2 := hj.2; have q := HSw59.out; have hs2 : j = g58 := hs; omega))); replace BKg12 := Aside0.mk (Op.mvB BKg12.out hk (fun hs => by (have q := HSw59.out; have hs2 : g12 = g58 := hs; omega))); replace BKg23 := Aside0.mk (Op.mvB BKg23.out hk (fun hs => by (have q := HSw59.out; have hs2 : g23 = g58 := hs; omega))); replace BKg58 : Aside0 (w60.heap[g58]? = some (.cells #[.slice Ae57_0 r54.length cAe57_0, .slice Ae57_1 r55.length cAe57_1] 57 (0, 0))) := ⟨by rw [hw]; exact (blk_put (cs' := #[.slice Ae57_0 r54.length cAe57_0, .slice Ae57_1 r55.length cAe57_1]) (blk_put (cs' := #[.slice Ae57_0 r54.length cAe57_0, .slice none 0 0]) BKg58.out 0 _ rfl) 1 _ rfl)⟩; replace HB : Aside0 (Below w.heap.size w w60) := ⟨by rw [hw]; exact below_set (Op.a4 (HB.out) GEg58.out) GEg58.out⟩; have HSw60 := Aside0.mk (And.intro (hk.1) HSw59.out); clear hw hk; have hz_g12_0_w60 : w60.cell? ⟨g12, 0, none⟩ = some (.slice Ae11_0 r8.length cAe11_0) := (blk_cell BKg12.out 0).trans rfl; have hf_g12_0_w60 := blk_frozen BKg12.out 0; have hz_g12_1_w60 : w60.cell? ⟨g12, 1, none⟩ = some (.slice Ae11_1 r9.length cAe11_1) := (blk_cell BKg12.out 1).trans rfl; have hf_g12_1_w60 := blk_frozen BKg12.out 1; have hz_g23_0_w60 : w60.cell? ⟨g23, 0, none⟩ = some (.slice Ae22_0 r19.length cAe22_0) := (blk_cell BKg23.out 0).trans rfl; have hf_g23_0_w60 := blk_frozen BKg23.out 0; have hz_g23_1_w60 : w60.cell? ⟨g23, 1, none⟩ = some (.slice Ae22_1 r20.length cAe22_1) := (blk_cell BKg23.out 1).trans rfl; have hf_g23_1_w60 := blk_frozen BKg23.out 1; have hz_g58_0_w60 : w60.cell? ⟨g58, 0, none⟩ = some (.slice Ae57_0 r54.length cAe57_0) := (blk_cell BKg58.out 0).trans rfl; have hf_g58_0_w60 := blk_frozen BKg58.out 0; have hz_g58_1_w60 : w60.cell? ⟨g58, 1, none⟩ = some (.slice Ae57_1 r55.length cAe57_1) := (blk_cell BKg58.out 1).trans rfl; have hf_g58_1_w60 := blk_frozen BKg58.out 1) | ((with_reducible refine gate_callee (f := 46) rfl ?_); refine goesL_ (some 81) rfl rfl Try.func46 (by kernel_rfl) rfl #[.agg #[.slice Ae57_0 r54.length cAe57_0, .slice Ae57_1 r55.length cAe57_1], .agg #[.slice Ae11_0 r8.length cAe11_0, .slice Ae11_1 r9.length cAe11_1]] rfl (by (try simp only [List.map_toArray, List.map_cons, List.map_nil]); first | done | rfl | (simp only [List.length_drop, List.length_take]; rfl)) ?_; (with_reducible refine (laws_eqRecipe.calls k _ _ r54 _ _ r55 _ _ r8 _ _ r9 true _ ?side1 ?side2 ?side3 ?side4 ?side5 ?side6 ?side7 ?side8 Ee63.out).mono ?_); (case side1 => exact (Kd.R_reads' Oe57_0.out).2.2); (case side2 => (have h_ := Kd.R_reads' Oe57_0.out; have h1_ := h_.1; have h2_ := h_.2.1; omega)); (case side3 => exact (Kd.S_reads' Oe57_1.out).2.2); (case side4 => (have h_ := Kd.S_reads' Oe57_1.out; have h1_ := h_.1; have h2_ := h_.2.1; omega)); (case side5 => exact (Kd.R_reads' Oe11_0.out).2.2); (case side6 => (have h_ := Kd.R_reads' Oe11_0.out; have h1_ := h_.1; have h2_ := h_.2.1; omega)); (case side7 => exact (Kd.S_reads' Oe11_1.out).2.2); (case side8 => (have h_ := Kd.S_reads' Oe11_1.out; have h1_ := h_.1; have h2_ := h_.2.1; omega)); rintro ex_ w61 ⟨rfl, hb⟩; refine ⟨_, rfl, ?_⟩; have hk := Kept.of_below hb (fun _ => False); replace Oe6_0 := Aside0.mk (Op.mvR Oe6_0.out hk (fun _ _ hs => hs)); replace Oe11_0 := Aside0.mk (Op.mvR Oe11_0.out hk (fun _ _ hs => hs)); replace Oe11_1 := Aside0.mk (Op.mvS Oe11_1.out hk (fun _ _ hs => hs)); replace Oe17_0 := Aside0.mk (Op.mvR Oe17_0.out hk (fun _ _ hs => hs)); replace Oe22_0 := Aside0.mk (Op.mvR Oe22_0.out hk (fun _ _ hs => hs)); replace Oe22_1 := Aside0.mk (Op.mvS Oe22_1.out hk (fun _ _ hs => hs)); replace Oe31_0 := Aside0.mk (Op.mvR Oe31_0.out hk (fun _ _ hs => hs)); replace Oe52_0 := Aside0.mk (Op.mvR Oe52_0.out hk (fun _ _ hs => hs)); replace Oe57_0 := Aside0.mk (Op.mvR Oe57_0.out hk (fun _ _ hs => hs)); replace Oe57_1 := Aside0.mk (Op.mvS Oe57_1.out hk (fun _ _ hs => hs)); replace BKg12 := Aside0.mk (Op.mvB BKg12.out hk (fun hs => hs)); replace BKg23 := Aside0.mk (Op.mvB BKg23.out hk (fun hs => hs)); replace BKg58 := Aside0.mk (Op.mvB BKg58.out hk (fun hs => hs)); have HSw61 := Aside0.mk (And.intro (hb.size) HSw60.out); replace HB := Aside0.mk (Op.a5 HB.out hb); clear hb hk; have hz_g12_0_w61 : w61.cell? ⟨g12, 0, none⟩ = some (.slice Ae11_0 r8.length cAe11_0) := (blk_cell BKg12.out 0).trans rfl; have hf_g12_0_w61 := blk_frozen BKg12.out 0; have hz_g12_1_w61 : w61.cell? ⟨g12, 1, none⟩ = some (.slice Ae11_1 r9.length cAe11_1) := (blk_cell BKg12.out 1).trans rfl; have hf_g12_1_w61 := blk_frozen BKg12.out 1; have hz_g23_0_w61 : w61.cell? ⟨g23, 0, none⟩ = some (.slice Ae22_0 r19.length cAe22_0) := (blk_cell BKg23.out 0).trans rfl; have hf_g23_0_w61 := blk_frozen BKg23.out 0; have hz_g23_1_w61 : w61.cell? ⟨g23, 1, none⟩ = some (.slice Ae22_1 r20.length cAe22_1) := (blk_cell BKg23.out 1).trans rfl; have hf_g23_1_w61 := blk_frozen BKg23.out 1; have hz_g58_0_w61 : w61.cell? ⟨g58, 0, none⟩ = some (.slice Ae57_0 r54.length cAe57_0) := (blk_cell BKg58.out 0).trans rfl; have hf_g58_0_w61 := blk_frozen BKg58.out 0; have hz_g58_1_w61 : w61.cell? ⟨g58, 1, none⟩ = some (.slice Ae57_1 r55.length cAe57_1) := (blk_cell BKg58.out 1).trans rfl; have hf_g58_1_w61 := blk_frozen BKg58.out 1) | ((with_reducible refine gate_callee (f := 48) rfl ?_); refine goesL_ (some 90) rfl rfl Try.func48 (by kernel_rfl) rfl #[.agg #[.slice Ae22_0 r19.length cAe22_0, .slice Ae22_1 r20.length cAe22_1], .int .i64 1] rfl (by (try simp only [List.map_toArray, List.map_cons, List.map_nil]); first | done | rfl | (simp only [List.length_drop, List.length_take]; rfl)) ?_; refine Op.args_eq (args := #[.agg #[.slice Ae22_0 r44.length cAe22_0, .slice Ae22_1 r45.length cAe22_1], .int .i64 1]) (by simp only [LOe22_0_r44.out, LOe22_1_r45.out]) ?_; (with_reducible refine (laws_heldRecipe.calls k _ _ r44 _ _ r45 1 r65 _ ?side1 ?side2 ?side3 ?side4 Ee66.out).mono ?_); (case side1 => exact (Kd.R_reads' Oe22_0.out).2.2); (case side2 => (have h_ := Kd.R_reads' Oe22_0.out; have h1_ := h_.1; have h2_ := h_.2.1; omega)); (case side3 => exact (Kd.S_reads' Oe22_1.out).2.2); (case side4 => (have h_ := Kd.S_reads' Oe22_1.out; have h1_ := h_.1; have h2_ := h_.2.1; omega)); rintro ex_ w64 ⟨rfl, hb⟩; refine ⟨_, rfl, ?_⟩; have hk := Kept.of_below hb (fun _ => False); replace Oe6_0 := Aside0.mk (Op.mvR Oe6_0.out hk (fun _ _ hs => hs)); replace Oe11_0 := Aside0.mk (Op.mvR Oe11_0.out hk (fun _ _ hs => hs)); replace Oe11_1 := Aside0.mk (Op.mvS Oe11_1.out hk (fun _ _ hs => hs)); replace Oe17_0 := Aside0.mk (Op.mvR Oe17_0.out hk (fun _ _ hs => hs)); replace Oe22_0 := Aside0.mk (Op.mvR Oe22_0.out hk (fun _ _ hs => hs)); replace Oe22_1 := Aside0.mk (Op.mvS Oe22_1.out hk (fun _ _ hs => hs)); replace Oe31_0 := Aside0.mk (Op.mvR Oe31_0.out hk (fun _ _ hs => hs)); replace Oe52_0 := Aside0.mk (Op.mvR Oe52_0.out hk (fun _ _ hs => hs)); replace Oe57_0 := Aside0.mk (Op.mvR Oe57_0.out hk (fun _ _ hs => hs)); replace Oe57_1 := Aside0.mk (Op.mvS Oe57_1.out hk (fun _ _ hs => hs)); replace BKg12 := Aside0.mk (Op.mvB BKg12.out hk (fun hs => hs)); replace BKg23 := Aside0.mk (Op.mvB BKg23.out hk (fun hs => hs)); replace BKg58 := Aside0.mk (Op.mvB BKg58.out hk (fun hs => hs)); have HSw64 := Aside0.mk (And.intro (hb.size) HSw61.out); replace HB := Aside0.mk (Op.a5 HB.out hb); clear hb hk; have hz_g12_0_w64 : w64.cell? ⟨g12, 0, none⟩ = some (.slice Ae11_0 r8.length cAe11_0) := (blk_cell BKg12.out 0).trans rfl; have hf_g12_0_w64 := blk_frozen BKg12.out 0; have hz_g12_1_w64 : w64.cell? ⟨g12, 1, none⟩ = some (.slice Ae11_1 r9.length cAe11_1) := (blk_cell BKg12.out 1).trans rfl; have hf_g12_1_w64 := blk_frozen BKg12.out 1; have hz_g23_0_w64 : w64.cell? ⟨g23, 0, none⟩ = some (.slice Ae22_0 r19.length cAe22_0) := (blk_cell BKg23.out 0).trans rfl; have hf_g23_0_w64 := blk_frozen BKg23.out 0; have hz_g23_1_w64 : w64.cell? ⟨g23, 1, none⟩ = some (.slice Ae22_1 r20.length cAe22_1) := (blk_cell BKg23.out 1).trans rfl; have hf_g23_1_w64 := blk_frozen BKg23.out 1; have hz_g58_0_w64 : w64.cell? ⟨g58, 0, none⟩ = some (.slice Ae57_0 r54.length cAe57_0) := (blk_cell BKg58.out 0).trans rfl; have hf_g58_0_w64 := blk_frozen BKg58.out 0; have hz_g58_1_w64 : w64.cell? ⟨g58, 1, none⟩ = some (.slice Ae57_1 r55.length cAe57_1) := (blk_cell BKg58.out 1).trans rfl; have hf_g58_1_w64 := blk_frozen BKg58.out 1))
 go_ret
 exact ⟨rfl, HB.out⟩

/-- THE ONE PURE STATEMENT of laws_FnExactDedupAll: yours. -/
def laws_FnExactDedupAll.Pure : Prop := ∀ (l0 : List ByteArray), (l0.length ≤ maxLen ∧ ∀ y_ ∈ l0, (fun z_ : ByteArray => z_.size ≤ maxLen) y_) → ∃ k, laws_FnExactDedupAll.f k l0 = some true
set_option maxHeartbeats 1000000 in
theorem laws_FnExactDedupAll.walk (P : laws_FnExactDedupAll.Pure) (A0 : Option Addr) (c0 : Nat) (l0 : List ByteArray) (w : World) (hr0 : Kd.C Kd.string w A0 l0.length l0) (hc0 : l0.length ≤ c0) (q0 : l0.length ≤ maxLen ∧ ∀ y_ ∈ l0, (fun z_ : ByteArray => z_.size ≤ maxLen) y_) :
  Calls Try.prog 11 #[.slice A0 l0.length c0] w fun e w' => e = .returned (.bool true) ∧ Below w.heap.size w w' := by
 obtain ⟨k, h⟩ := P l0 q0
 refine (laws_FnExactDedupAll.calls k _ _ l0 true w hr0 hc0 h).mono ?_
 rintro e w' ⟨rfl, hd⟩
 exact ⟨rfl, hd⟩

end Go.Proofs.Ytlmnlmcahhegkaa.PFnExactDedupAll
