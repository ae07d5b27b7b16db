/- Contracts of functions of the translation, written by a program of this repo (a changed copy of the printer). Not trusted: Lean checks it. -/
-- squeezed
import Derived.Test.YtnohankakmmnoaaPFnExactFindKeyx0
import Derived.Test.YtnohankakmmnoaaPFnExactFindKeyx2
import Derived.Test.YtnohankakmmnoaaPFnExactFindKeyx6
import Derived.Test.YtnohankakmmnoaaPFnExactFindKeyx8
namespace Go.Proofs.Ytnohankakmmnoaa.PFnExactFindKey
open Go.RowKit Go.Proofs.YtnohankakmmnoaaW.PrintWords Go.Proofs.YtnohankakmmnoaaW.PrintLast Go.Proofs.YtnohankakmmnoaaW.PrintMore
attribute [local go_sem] max2_int min2_int max_two min_two max_three min_three max_four min_four   -- for this text's walks alone
set_option linter.unusedVariables false
set_option linter.unusedSimpArgs false

/-! ### impl_Table_find: function 48 -/
/-- pointers, as elements of a row -/
def impl_Table_find.kp : Kd Addr := Kd.scalar (fun p => Value.pointer (some p)) (fun _ => rfl)
/-- is it the slot of a key -/
def impl_Table_find.hit (s : S60) (key : Int) : Bool := s.f0 && (s.f1 == key)
/-- where a slot lies -/
def impl_Table_find.adr (ad : Addr) (i : Int) : Addr := ad.add (i.toNat * 3)
def impl_Table_find.ret (ad1 ad2 : Addr) (L R : List S60) (a b key : Int) : Value := if impl_Table_find.hit (rd_T60 L a) key = true then .pointer (some (impl_Table_find.adr ad1 a)) else if impl_Table_find.hit (rd_T60 R b) key = true then .pointer (some (impl_Table_find.adr ad2 b)) else .pointer none
theorem impl_Table_find.C_two {w : World} {A : Option Addr} {p q : Addr} (h : Kd.C impl_Table_find.kp w A 2 [p, q]) (i : Int) (h0 : 0 ≤ i) (h1 : i < 2) : ∃ ad, A = some ad ∧ w.cell? (ad.add i.toNat) = some (.pointer (some (if i = 0 then p else q))) := by
 obtain ⟨ad, c, e, _, hK, hc⟩ := Kd.C_get h p i h0 h1
 have hK2 : c = [Value.pointer (some (([p, q] : List Addr).getD i.toNat p))] := hK
 subst hK2
 have h3 := hc 0 _ rfl
 refine ⟨ad, e, ?_⟩
 have e1 : i.toNat * impl_Table_find.kp.sz + 0 = i.toNat := by show i.toNat * 1 + 0 = i.toNat; omega
 rw [e1] at h3
 rw [h3]
 by_cases c0 : i = 0
 ·subst c0; rfl
 ·have : i = 1 := by omega
  subst this; rfl
theorem impl_Table_find.nxt1 {i key : Int} {sl x y : S60} (h : sl = if i = 0 then x else y) (n : impl_Table_find.hit sl key = false) (h1 : 0 < i → impl_Table_find.hit x key = false) (i0 : 0 ≤ i) : impl_Table_find.hit x key = false := by
 by_cases z : i = 0
 ·rw [if_pos z] at h; rw [← h]; exact n
 ·exact h1 (by omega)
theorem impl_Table_find.nxt2 {i key : Int} {sl x y : S60} (h : sl = if i = 0 then x else y) (n : impl_Table_find.hit sl key = false) (hi : i = 1) : impl_Table_find.hit y key = false := by
 rw [if_neg (by omega)] at h; rw [← h]; exact n
theorem impl_Table_find.res {i key : Int} {sl x y : S60} {p p1 p2 q1 q2 : Addr} (hp : p = if i = 0 then p1 else p2) (h : sl = if i = 0 then x else y) (n : impl_Table_find.hit sl key = true) (h1 : 0 < i → impl_Table_find.hit x key = false) (e1 : p1 = q1) (e2 : p2 = q2) (i0 : 0 ≤ i) :
  (if impl_Table_find.hit x key = true then Value.pointer (some q1) else if impl_Table_find.hit y key = true then Value.pointer (some q2) else Value.pointer none) = Value.pointer (some p) := by
 subst e1 e2
 by_cases z : i = 0
 ·rw [if_pos z] at h hp; rw [← h, if_pos n, hp]
 ·rw [if_neg z] at h hp; rw [h1 (by omega), ← h, if_neg (by simp), if_pos n, hp]
set_option maxHeartbeats 8000000 in
set_option maxRecDepth 100000 in
theorem impl_Table_find.calls (gp : Nat) (s m key : Int) (ad1 ad2 : Addr) (c1 c2 : Nat) (L R : List S60) (a b : Int) (w : World) (hb : w.heap[gp]? = some (.cells #[.int .i64 s, .slice (some ad1) L.length c1, .slice (some ad2) R.length c2, .int .i64 m] 27 (0, 0)))
  (hL : Kd.C k60 w (some ad1) L.length L) (hR : Kd.C k60 w (some ad2) R.length R) (hp : impl_placesOf.f s key = some (a, b)) (a0 : 0 ≤ a) (a1 : a < L.length) (b0 : 0 ≤ b) (b1 : b < R.length) :
  Calls Try.prog 48 #[.pointer (some ⟨gp, 0, none⟩), .int .i64 key] w fun e w' => e = .returned (impl_Table_find.ret ad1 ad2 L R a b key) ∧ Below w.heap.size w w' := by
 obtain ⟨x1, e1, l0, l1, l2⟩ := at_T60 hL a a0 a1
 obtain ⟨x2, e2, r0, r1, r2⟩ := at_T60 hR b b0 b1
 injection e1 with e1
 injection e2 with e2
 subst e1 e2
 obtain ⟨p1, hp1⟩ : ∃ p, p = impl_Table_find.adr ad1 a := ⟨_, rfl⟩
 obtain ⟨p2, hp2⟩ : ∃ p, p = impl_Table_find.adr ad2 b := ⟨_, rfl⟩
 have L0 := Aside0.mk l0
 have L1 := Aside0.mk l1
 have R0 := Aside0.mk r0
 have R1 := Aside0.mk r1
 have P := Aside0.mk hp
 have h0 : w.cell? ⟨gp, 0, none⟩ = some (.int .i64 s) := (blk_cell hb 0).trans rfl
 have HB := Aside0.mk (Below.refl w.heap.size w)
 have BK := Aside0.mk hb
 have E1 := Aside0.mk hp1
 have E2 := Aside0.mk hp2
 have A0 := eq_true a0
 have A1 := eq_true a1
 have B0 := eq_true b0
 have B1 := eq_true b1
 clear hb hL hR hp l0 l1 l2 r0 r1 r2 hp1 hp2 a0 a1 b0 b1
 go_enter Try.func48, Try.ntmps48
 go_upto_region 2 with (go_at_call 35; refine (impl_placesOf.calls _ _ _ _ _ P.out).mono ?_; rintro e wz ⟨rfl, hd⟩; have n1_ := Aside0.mk (Op.b4 BK.out hd.below); have n2_ := Aside0.mk (Op.a5 HB.out hd.below); clear BK HB hd; have BK := n1_; have HB := n2_; clear n1_ n2_)
 (try simp only [Act.put, List.setIfInBounds_toArray, List.set_cons_zero, List.set_cons_succ])
 have HB0 := Aside0.mk (Op.a3 HB.out)
 have BK0 := Aside0.mk (Op.b2 BK.out)
 clear HB BK
 have HB := HB0
 have BK := BK0
 clear HB0 BK0
 refine start_ (n := 15) (S := fun w' => w'.cell? ⟨gp, 1, none⟩ = some (.slice (some ad1) L.length c1) ∧ w'.cell? ⟨gp, 2, none⟩ = some (.slice (some ad2) R.length c2)) (ds := []) #[false, false, false, false, false, false, false, false, false, false, false, false, false, false, false] (by kernel_rfl) rfl rfl ⟨(blk_cell BK.out 1).trans rfl, (blk_cell BK.out 2).trans rfl⟩ (fun hHeld => ?_)
 generalize wz.drew = wy at HB BK hHeld ⊢
 refine pure_ (i := 0) (N := some 18) (v := ?_) (a' := ?_) #[true, false, false, false, false, false, false, false, false, false, false, false, false, false, false] rfl rfl (by kernel_rfl) (fun _ _ _ h => h) (Or.inl ⟨by rfl, ?_⟩) ?_ ?_
 rotate_left
 ·intro w'
  go_simp
  with_reducible rfl
 rotate_left
 ·simp only [Act.put, List.setIfInBounds_toArray, List.set_cons_zero, List.set_cons_succ, i64_w, i32_w]
  rfl
 refine pure_ (i := 4) (N := some 22) (v := ?_) (a' := ?_) #[true, false, false, false, true, false, false, false, false, false, false, false, false, false, false] rfl rfl (by kernel_rfl) (fun _ _ _ h => h) (Or.inl ⟨by rfl, ?_⟩) ?_ ?_
 rotate_left
 ·intro w'
  go_simp
  with_reducible rfl
 rotate_left
 ·simp only [Act.put, List.setIfInBounds_toArray, List.set_cons_zero, List.set_cons_succ, i64_w, i32_w]
  rfl
 refine pure_ (i := 6) (N := some 24) (v := ?_) (a' := ?_) #[true, false, false, false, true, false, true, false, false, false, false, false, false, false, false] rfl rfl (by kernel_rfl) (fun _ _ _ h => h) (Or.inl ⟨by rfl, ?_⟩) ?_ ?_
 rotate_left
 ·intro w'
  go_simp
  with_reducible rfl
 rotate_left
 ·simp only [Act.put, List.setIfInBounds_toArray, List.set_cons_zero, List.set_cons_succ, i64_w, i32_w]
  rfl
 refine pure_ (i := 10) (N := some 28) (v := ?_) (a' := ?_) #[true, false, false, false, true, false, true, false, false, false, true, false, false, false, false] rfl rfl (by kernel_rfl) (fun _ _ _ h => h) (Or.inl ⟨by rfl, ?_⟩) ?_ ?_
 rotate_left
 ·intro w'
  go_simp
  with_reducible rfl
 rotate_left
 ·simp only [Act.put, List.setIfInBounds_toArray, List.set_cons_zero, List.set_cons_succ, i64_w, i32_w]
  rfl
 refine pure_ (i := 14) (N := some 32) (v := ?_) (a' := ?_) #[true, false, false, false, true, false, true, false, false, false, true, false, false, false, true] rfl rfl (by kernel_rfl) (fun _ _ _ h => h) (Or.inl ⟨by rfl, ?_⟩) ?_ ?_
 rotate_left
 ·intro w'
  go_simp
  with_reducible rfl
 rotate_left
 ·simp only [Act.put, List.setIfInBounds_toArray, List.set_cons_zero, List.set_cons_succ, i64_w, i32_w]
  rfl
 refine pure_ (i := 1) (N := some 19) (v := ?_) (a' := ?_) #[true, true, false, false, true, false, true, false, false, false, true, false, false, false, true] rfl rfl (by kernel_rfl) (fun _ _ _ h => h) (Or.inl ⟨by rfl, ?_⟩) ?_ ?_
 rotate_left
 ·intro w'
  go_simp
  with_reducible rfl
 rotate_left
 ·simp only [Act.put, List.setIfInBounds_toArray, List.set_cons_zero, List.set_cons_succ, i64_w, i32_w]
  rfl
 refine pure_ (i := 2) (N := some 20) (v := ?_) (a' := ?_) #[true, true, true, false, true, false, true, false, false, false, true, false, false, false, true] rfl rfl (by kernel_rfl) (fun _ _ _ h => h) (Or.inl ⟨by rfl, ?_⟩) ?_ ?_
 rotate_left
 ·intro w'
  go_simp
  with_reducible rfl
 rotate_left
 ·simp only [Act.put, List.setIfInBounds_toArray, List.set_cons_zero, List.set_cons_succ, i64_w, i32_w]
  rfl
 refine take_ (i := 3) (N := some 21) (v := ?_) (a' := ?_) #[true, true, true, true, true, false, true, false, false, false, true, false, false, false, true] rfl rfl (by kernel_rfl) (fun _ _ _ h => h) (Or.inl ⟨by rfl, ?_⟩) hHeld ?_ ?_
 rotate_left
 ·rintro w' ⟨s0, s1⟩
  go_simp
  with_reducible rfl
 rotate_left
 ·simp only [Act.put, List.setIfInBounds_toArray, List.set_cons_zero, List.set_cons_succ, i64_w, i32_w]
  rfl
 refine pure_ (i := 5) (N := some 23) (v := ?_) (a' := ?_) #[true, true, true, true, true, true, true, false, false, false, true, false, false, false, true] rfl rfl (by kernel_rfl) (fun _ _ _ h => h) (Or.inl ⟨by rfl, ?_⟩) ?_ ?_
 rotate_left
 ·intro w'
  go_simp
  with_reducible rfl
 rotate_left
 ·simp only [Act.put, List.setIfInBounds_toArray, List.set_cons_zero, List.set_cons_succ, i64_w, i32_w]
  rfl
 refine pure_ (i := 7) (N := some 25) (v := ?_) (a' := ?_) #[true, true, true, true, true, true, true, true, false, false, true, false, false, false, true] rfl rfl (by kernel_rfl) (fun _ _ _ h => h) (Or.inl ⟨by rfl, ?_⟩) ?_ ?_
 rotate_left
 ·intro w'
  go_simp
  with_reducible rfl
 rotate_left
 ·simp only [Act.put, List.setIfInBounds_toArray, List.set_cons_zero, List.set_cons_succ, i64_w, i32_w]
  rfl
 refine pure_ (i := 8) (N := some 26) (v := ?_) (a' := ?_) #[true, true, true, true, true, true, true, true, true, false, true, false, false, false, true] rfl rfl (by kernel_rfl) (fun _ _ _ h => h) (Or.inl ⟨by rfl, ?_⟩) ?_ ?_
 rotate_left
 ·intro w'
  go_simp
  with_reducible rfl
 rotate_left
 ·simp only [Act.put, List.setIfInBounds_toArray, List.set_cons_zero, List.set_cons_succ, i64_w, i32_w]
  rfl
 refine take_ (i := 9) (N := some 27) (v := ?_) (a' := ?_) #[true, true, true, true, true, true, true, true, true, true, true, false, false, false, true] rfl rfl (by kernel_rfl) (fun _ _ _ h => h) (Or.inl ⟨by rfl, ?_⟩) hHeld ?_ ?_
 rotate_left
 ·rintro w' ⟨s0, s1⟩
  go_simp
  with_reducible rfl
 rotate_left
 ·simp only [Act.put, List.setIfInBounds_toArray, List.set_cons_zero, List.set_cons_succ, i64_w, i32_w]
  rfl
 refine pure_ (i := 11) (N := some 29) (v := ?_) (a' := ?_) #[true, true, true, true, true, true, true, true, true, true, true, true, false, false, true] rfl rfl (by kernel_rfl) (fun _ _ _ h => h) (Or.inl ⟨by rfl, ?_⟩) ?_ ?_
 rotate_left
 ·intro w'
  go_simp
  with_reducible rfl
 rotate_left
 ·simp only [Act.put, List.setIfInBounds_toArray, List.set_cons_zero, List.set_cons_succ, i64_w, i32_w]
  rfl
 refine one_ (i := 12) (N := some 30) #[true, true, true, true, true, true, true, true, true, true, true, true, true, false, true] rfl rfl (by kernel_rfl) (by decide) (fun K hK => ?_)
 refine Kd.R_lit_step impl_Table_find.kp _ 65 ?hg (N := 30) ?hd (xs := ([(ad1.add (a.toNat * 3)), (ad2.add (b.toNat * 3))] : List Addr)) (inner := [.pointer (some (ad1.add (a.toNat * 3))), .pointer (some (ad2.add (b.toNat * 3)))]) (ok := fun _ => True) (okp := fun _ => True) ?hr ?hp (fun _ hk => hk) trivial (Below.refl _ _) (Nat.le_refl _) (by simp) ?_
 case hd => rfl
 case hg => rfl
 case hr => first | (go_simp; done) | (go_simp; rfl)
 case hp => exact (Reps.one (show Kd.M impl_Table_find.kp _ _ _ (ad1.add (a.toNat * 3)) [.pointer (some (ad1.add (a.toNat * 3)))] from rfl) (Reps.one (show Kd.M impl_Table_find.kp _ _ _ (ad2.add (b.toNat * 3)) [.pointer (some (ad2.add (b.toNat * 3)))] from rfl) (Reps.none _ _)))
 intro v_ wx ho hb hg_ hnew_
 clear hg_ hnew_
 rw [show (ad1.add (a.toNat * 3)) = p1 from E1.out.symm, show (ad2.add (b.toNat * 3)) = p2 from E2.out.symm] at ho
 have HO := Aside0.mk (Kd.R_lower ho (Op.a6 HB.out))
 have n1_ := Aside0.mk (Op.b4 (g := gp) BK.out hb)
 have n2_ := Aside0.mk (Op.a5 HB.out hb)
 clear BK HB hb ho
 have BK := n1_
 have HB := n2_
 clear n1_ n2_
 obtain ⟨Ao, co, eo⟩ := Kd.R_slice HO.out
 subst eo
 refine hK.out _ _ ⟨(blk_cell BK.out 1).trans rfl, (blk_cell BK.out 2).trans rfl⟩ (fun hHeld => ?_)
 clear hK K
 refine norm_ (a' := ?_) ?_ ?_
 rotate_left
 ·show Act.put _ (some 30) _ = _
  simp only [Act.put, List.setIfInBounds_toArray, List.set_cons_zero, List.set_cons_succ, i64_w, i32_w]
  rfl
 refine pure_ (i := 13) (N := some 31) (v := ?_) (a' := ?_) #[true, true, true, true, true, true, true, true, true, true, true, true, true, true, true] rfl rfl (by kernel_rfl) (fun _ _ _ h => h) (Or.inl ⟨by rfl, ?_⟩) ?_ ?_
 rotate_left
 ·intro w'
  go_simp
  with_reducible rfl
 rotate_left
 ·simp only [Act.put, List.setIfInBounds_toArray, List.set_cons_zero, List.set_cons_succ, i64_w, i32_w]
  rfl
 refine done_ (by kernel_rfl) ?_
 try go_wp2
 go_loopg [32] 3 (fun kq v32 w' => ∃ (i : Int), v32 = .int .i64 i ∧ Aside0 (0 ≤ i ∧ i ≤ 2 ∧ (kq : Int) + i = 3) ∧ Aside0 (0 < i → impl_Table_find.hit (rd_T60 L a) key = false) ∧ Aside0 (i = 2 → impl_Table_find.hit (rd_T60 R b) key = false) ∧ Aside0 (Kd.R impl_Table_find.kp 65 w' w.heap.size (fun _ => True) (.slice Ao 2 co) [p1, p2]) ∧ Aside0 (Below w.heap.size w w'))
 case atStart => exact ⟨0, rfl, ⟨by omega⟩, ⟨fun h => absurd h (by omega)⟩, ⟨fun h => absurd h (by omega)⟩, ⟨by (with_reducible repeat (first | apply Kd.R_alloc | apply Kd.R_drewN | apply Kd.R_drew)); exact HO.out⟩, ⟨by repeat (first | (with_reducible first | exact HB.out | apply Op.a1 | apply Op.a2 | apply Op.a3) | exact HB.out)⟩⟩
 case round =>
  clear BK HB HO
  obtain ⟨i, rfl, HI, H1, H2, HO, HB⟩ := hrel
  obtain ⟨i0, i2, ik⟩ := HI.out
  by_cases c : i < 2
  ·have cb := decide_eq_true c
   obtain ⟨ad, eA, hcell⟩ := impl_Table_find.C_two (Kd.R_reads' HO.out).2.2 i i0 c
   subst eA
   obtain ⟨p, hp⟩ : ∃ p, p = if i = 0 then p1 else p2 := ⟨_, rfl⟩
   obtain ⟨sl, hsl⟩ : ∃ sl, sl = if i = 0 then rd_T60 L a else rd_T60 R b := ⟨_, rfl⟩
   have hx0 : wr.cell? p = some (.bool sl.f0) := by
    rw [hp, hsl]
    by_cases z : i = 0
    ·rw [if_pos z, if_pos z, E1.out]; exact (HB.out.cell (World.block_lt_of_cell? w _ L0.out)).trans L0.out
    ·rw [if_neg z, if_neg z, E2.out]; exact (HB.out.cell (World.block_lt_of_cell? w _ R0.out)).trans R0.out
   have hx1 : wr.cell? ⟨p.block, p.off + 1, none⟩ = some (.int .i64 sl.f1) := by
    rw [hp, hsl]
    by_cases z : i = 0
    ·rw [if_pos z, if_pos z, E1.out]; exact (HB.out.cell (World.block_lt_of_cell? w _ L1.out)).trans L1.out
    ·rw [if_neg z, if_neg z, E2.out]; exact (HB.out.cell (World.block_lt_of_cell? w _ R1.out)).trans R1.out
   rw [← hp] at hcell
   have i0e := eq_true i0
   have ce := eq_true c
   have HP := Aside0.mk hp
   have HSL := Aside0.mk hsl
   have II := Aside0.mk (And.intro i0 (And.intro c ik))
   clear hp hsl i0 i2 ik c
   obtain ⟨k1, rfl⟩ : ∃ k1, gk = k1 + 1 := ⟨gk - 1, by have := II.out; omega⟩
   by_cases hu : sl.f0 = true
   ·rw [hu] at hx0
    by_cases hk : sl.f1 = key
    ·have q1 : (sl.f1 == key) = true := by simpa using hk
     have q2 : decide (sl.f1 = key) = true := decide_eq_true hk
     have HH := Aside0.mk (show impl_Table_find.hit sl key = true by unfold impl_Table_find.hit; rw [hu, q1]; rfl)
     clear hu
     go_wp2
     go_ret
     exact ⟨by exact (congrArg Ending.returned (impl_Table_find.res HP.out HSL.out HH.out H1.out E1.out E2.out II.out.1)).symm, by repeat (first | (with_reducible first | exact HB.out | apply Op.a1 | apply Op.a2 | apply Op.a3) | exact HB.out)⟩
    ·have q1 : (sl.f1 == key) = false := by simpa using hk
     have q2 : decide (sl.f1 = key) = false := decide_eq_false hk
     have NH := Aside0.mk (show impl_Table_find.hit sl key = false by unfold impl_Table_find.hit; rw [hu, q1]; rfl)
     clear hu hk
     go_wp2
     go_roundg k1
     case measure => omega
     case rel =>
      have hw : wrap64 (i + 1) = i + 1 := by have := II.out; unfold wrap64; omega
      rw [hw]
      exact ⟨i + 1, rfl, ⟨by have := II.out; omega⟩, ⟨fun _ => impl_Table_find.nxt1 HSL.out NH.out H1.out II.out.1⟩, ⟨fun h => impl_Table_find.nxt2 HSL.out NH.out (by omega)⟩, ⟨by (with_reducible repeat (first | apply Kd.R_alloc | apply Kd.R_drewN | apply Kd.R_drew)); exact HO.out⟩, ⟨by repeat (first | (with_reducible first | exact HB.out | apply Op.a1 | apply Op.a2 | apply Op.a3) | exact HB.out)⟩⟩
   ·have hu2 : sl.f0 = false := by simpa using hu
    rw [hu2] at hx0
    have NH := Aside0.mk (show impl_Table_find.hit sl key = false by unfold impl_Table_find.hit; rw [hu2]; rfl)
    clear hu hu2
    go_wp2
    go_roundg k1
    case measure => omega
    case rel =>
     have hw : wrap64 (i + 1) = i + 1 := by have := II.out; unfold wrap64; omega
     rw [hw]
     exact ⟨i + 1, rfl, ⟨by have := II.out; omega⟩, ⟨fun _ => impl_Table_find.nxt1 HSL.out NH.out H1.out II.out.1⟩, ⟨fun h => impl_Table_find.nxt2 HSL.out NH.out (by omega)⟩, ⟨by (with_reducible repeat (first | apply Kd.R_alloc | apply Kd.R_drewN | apply Kd.R_drew)); exact HO.out⟩, ⟨by repeat (first | (with_reducible first | exact HB.out | apply Op.a1 | apply Op.a2 | apply Op.a3) | exact HB.out)⟩⟩
  ·have cb := decide_eq_false c
   have HH1 := Aside0.mk (H1.out (by omega))
   have HH2 := Aside0.mk (H2.out (by omega))
   clear c
   go_wp2
   go_ret
   exact ⟨by unfold impl_Table_find.ret; rw [HH1.out, HH2.out]; rfl, by repeat (first | (with_reducible first | exact HB.out | apply Op.a1 | apply Op.a2 | apply Op.a3) | exact HB.out)⟩


/-! ### impl_FindKey: function 21 -/
def impl_FindKey.f (k : Nat) (l0_0 : Int) (l0_1 l0_2 : List S60) (l0_3 key : Int) : Option (Int × Bool) :=
 (impl_GoodTable.f k l0_0 l0_1 l0_2 l0_3).bind fun g => if g = true then ((impl_isKey.f key).bind fun q => if q = true then ((impl_placesOf.f l0_0 key).bind fun p => if 0 ≤ p.1 then (if p.1 < (l0_1.length : Int) then (if 0 ≤ p.2 then (if p.2 < (l0_2.length : Int) then (if impl_Table_find.hit (rd_T60 l0_1 p.1) key = true then some ((rd_T60 l0_1 p.1).f2, true) else if impl_Table_find.hit (rd_T60 l0_2 p.2) key = true then some ((rd_T60 l0_2 p.2).f2, true) else some (0, false)) else none) else none) else none) else none) else some (0, false)) else some (0, false)
theorem impl_FindKey.mono : ∀ a0 a1 a2 a3 a4 k, LeO (impl_FindKey.f k a0 a1 a2 a3 a4) (impl_FindKey.f (k + 1) a0 a1 a2 a3 a4) := by
 intro a0 a1 a2 a3 a4 k
 unfold impl_FindKey.f
 refine LeO.bind ?_ (fun _ => LeO.refl _)
 exact impl_GoodTable.mono _ _ _ _ _
set_option maxHeartbeats 8000000 in
set_option maxRecDepth 100000 in
theorem impl_FindKey.calls (k : Nat) (a0_0 : Int) (A0_1 : Option Addr) (c0_1 : Nat) (l0_1 : List (S60)) (A0_2 : Option Addr) (c0_2 : Nat) (l0_2 : List (S60)) (a0_3 : Int) (a1 : Int) (r1 : Int) (r2 : Bool) (w : World) (hr0_1 : Kd.C k60 w A0_1 l0_1.length l0_1) (hc0_1 : l0_1.length ≤ c0_1) (hr0_2 : Kd.C k60 w A0_2 l0_2.length l0_2) (hc0_2 : l0_2.length ≤ c0_2) (h : impl_FindKey.f k a0_0 l0_1 l0_2 a0_3 a1 = some (r1, r2)) :
  Calls Try.prog 21 #[.agg #[.int .i64 a0_0, .slice A0_1 l0_1.length c0_1, .slice A0_2 l0_2.length c0_2, .int .i64 a0_3], .int .i64 a1] w fun e w' => e = .returned (.tuple #[.int .i64 r1, .bool r2]) ∧ Below w.heap.size w w' := by
 have hu27 := Try.underlying27
 unfold impl_FindKey.f at h
 obtain ⟨g, hg, h⟩ := Option.bind_eq_some_iff.1 h
 have HB0 := Aside0.mk ((Below.refl w.heap.size w).alloc (Nat.le_refl _) (.cells #[.int .i64 a0_0, .slice A0_1 l0_1.length c0_1, .slice A0_2 l0_2.length c0_2, .int .i64 a0_3] 27))
 have HG0 := Aside0.mk (heap_alloc_new w (.cells #[.int .i64 a0_0, .slice A0_1 l0_1.length c0_1, .slice A0_2 l0_2.length c0_2, .int .i64 a0_3] 27))
 have HC := Aside0.mk (impl_GoodTable.calls k a0_0 A0_1 c0_1 l0_1 A0_2 c0_2 l0_2 a0_3 g (w.alloc (.cells #[.int .i64 a0_0, .slice A0_1 l0_1.length c0_1, .slice A0_2 l0_2.length c0_2, .int .i64 a0_3] 27)) (Kd.C_below hr0_1 HB0.out) hc0_1 (Kd.C_below hr0_2 HB0.out) hc0_2 hg)
 have HR1 := Aside0.mk hr0_1
 have HR2 := Aside0.mk hr0_2
 clear hg hr0_1 hr0_2
 cases g with
 | false =>
  simp only [Bool.false_eq_true, if_false, Option.some.injEq, Prod.mk.injEq] at h
  obtain ⟨rfl, rfl⟩ := h
  go_enter Try.func21, Try.ntmps21
  go_wp2_with (go_at_call 19; refine HC.out.mono ?_; rintro e wz ⟨rfl, hb2⟩; have HB := Aside0.mk (Op.a5 HB0.out hb2); clear hb2)
  go_ret2
  exact ⟨rfl, by repeat (first | (with_reducible first | exact HB.out | apply Op.a1 | apply Op.a2 | apply Op.a3) | exact HB.out)⟩
 | true =>
  simp only [if_true] at h
  obtain ⟨q, hq, h⟩ := Option.bind_eq_some_iff.1 h
  have HQ := Aside0.mk hq
  clear hq
  cases q with
  | false =>
   simp only [Bool.false_eq_true, if_false, Option.some.injEq, Prod.mk.injEq] at h
   obtain ⟨rfl, rfl⟩ := h
   go_enter Try.func21, Try.ntmps21
   go_wp2_with (first | (go_at_call 19; refine HC.out.mono ?_; rintro e wz ⟨rfl, hb2⟩; have HB := Aside0.mk (Op.a5 HB0.out hb2); clear hb2) | (go_at_call 34; refine (impl_isKey.calls _ _ _ HQ.out).mono ?_; rintro e wy ⟨rfl, hd⟩; have HB2 := Aside0.mk (Op.a5 HB.out hd.below); clear HB hd; have HB := HB2; clear HB2))
   go_ret2
   exact ⟨rfl, by repeat (first | (with_reducible first | exact HB.out | apply Op.a1 | apply Op.a2 | apply Op.a3) | exact HB.out)⟩
  | true =>
   simp only [if_true] at h
   obtain ⟨⟨a, b⟩, hp, h⟩ := Option.bind_eq_some_iff.1 h
   simp only at h
   by_cases q0 : 0 ≤ a
   case neg => rw [if_neg q0] at h; exact absurd h (by simp)
   rw [if_pos q0] at h
   by_cases q1 : a < (l0_1.length : Int)
   case neg => rw [if_neg q1] at h; exact absurd h (by simp)
   rw [if_pos q1] at h
   by_cases q2 : 0 ≤ b
   case neg => rw [if_neg q2] at h; exact absurd h (by simp)
   rw [if_pos q2] at h
   by_cases q3 : b < (l0_2.length : Int)
   case neg => rw [if_neg q3] at h; exact absurd h (by simp)
   rw [if_pos q3] at h
   obtain ⟨ad1, rfl, _, _, l2⟩ := at_T60 HR1.out a q0 q1
   obtain ⟨ad2, rfl, _, _, m2⟩ := at_T60 HR2.out b q2 q3
   have L2 := Aside0.mk l2
   have M2 := Aside0.mk m2
   clear l2 m2
   have HF := Aside0.mk (fun (wq : World) (hbq : Below w.heap.size w wq) (hgq : wq.heap[w.heap.size]? = some (.cells #[.int .i64 a0_0, .slice (some ad1) l0_1.length c0_1, .slice (some ad2) l0_2.length c0_2, .int .i64 a0_3] 27 (0, 0))) => impl_Table_find.calls w.heap.size a0_0 a0_3 a1 ad1 ad2 c0_1 c0_2 l0_1 l0_2 a b wq hgq (Kd.C_below HR1.out hbq) (Kd.C_below HR2.out hbq) hp q0 q1 q2 q3)
   clear hp q0 q1 q2 q3
   have fin : ∀ (p : Addr) (x : Int), impl_Table_find.ret ad1 ad2 l0_1 l0_2 a b a1 = .pointer (some p) → w.cell? ⟨p.block, p.off + 2, none⟩ = some (.int .i64 x) → Calls Try.prog 21 #[.agg #[.int .i64 a0_0, .slice (some ad1) l0_1.length c0_1, .slice (some ad2) l0_2.length c0_2, .int .i64 a0_3], .int .i64 a1] w fun e w' => e = .returned (.tuple #[.int .i64 x, .bool true]) ∧ Below w.heap.size w w' := by
    intro p x hr hx
    have HX := Aside0.mk hx
    rw [hr] at HF
    clear hr hx h
    go_enter Try.func21, Try.ntmps21
    go_wp2_with (first | (go_at_call 19; refine HC.out.mono ?_; rintro e wz ⟨rfl, hb2⟩; have HB := Aside0.mk (Op.a5 HB0.out hb2); have HG := Aside0.mk (Op.b4 HG0.out hb2); clear hb2) | (go_at_call 34; refine (impl_isKey.calls _ _ _ HQ.out).mono ?_; rintro e wy ⟨rfl, hd⟩; have HG2 := Aside0.mk (Op.b4 HG.out hd.below); have HB2 := Aside0.mk (Op.a5 HB.out hd.below); clear HB hd HG; have HB := HB2; have HG := HG2; clear HB2 HG2) | (go_at_call 48; refine (HF.out _ HB.out HG.out).mono ?_; rintro e wx ⟨rfl, hb3⟩; have HB2 := Aside0.mk (Op.a5 HB.out hb3); clear HB hb3 HG; have HB := HB2; clear HB2; have hx := (HB.out.cell (World.block_lt_of_cell? w _ HX.out)).trans HX.out))
    go_ret2
    exact ⟨rfl, by repeat (first | (with_reducible first | exact HB.out | apply Op.a1 | apply Op.a2 | apply Op.a3) | exact HB.out)⟩
   by_cases e1 : impl_Table_find.hit (rd_T60 l0_1 a) a1 = true
   ·rw [if_pos e1] at h
    simp only [Option.some.injEq, Prod.mk.injEq] at h
    obtain ⟨rfl, rfl⟩ := h
    exact fin (impl_Table_find.adr ad1 a) _ (by unfold impl_Table_find.ret; rw [if_pos e1]) L2.out
   rw [if_neg e1] at h
   by_cases e2 : impl_Table_find.hit (rd_T60 l0_2 b) a1 = true
   ·rw [if_pos e2] at h
    simp only [Option.some.injEq, Prod.mk.injEq] at h
    obtain ⟨rfl, rfl⟩ := h
    exact fin (impl_Table_find.adr ad2 b) _ (by unfold impl_Table_find.ret; rw [if_neg e1, if_pos e2]) M2.out
   rw [if_neg e2] at h
   simp only [Option.some.injEq, Prod.mk.injEq] at h
   obtain ⟨rfl, rfl⟩ := h
   have hr : impl_Table_find.ret ad1 ad2 l0_1 l0_2 a b a1 = .pointer none := by unfold impl_Table_find.ret; rw [if_neg e1, if_neg e2]
   rw [hr] at HF
   clear hr e1 e2 fin
   go_enter Try.func21, Try.ntmps21
   go_wp2_with (first | (go_at_call 19; refine HC.out.mono ?_; rintro e wz ⟨rfl, hb2⟩; have HB := Aside0.mk (Op.a5 HB0.out hb2); have HG := Aside0.mk (Op.b4 HG0.out hb2); clear hb2) | (go_at_call 34; refine (impl_isKey.calls _ _ _ HQ.out).mono ?_; rintro e wy ⟨rfl, hd⟩; have HG2 := Aside0.mk (Op.b4 HG.out hd.below); have HB2 := Aside0.mk (Op.a5 HB.out hd.below); clear HB hd HG; have HB := HB2; have HG := HG2; clear HB2 HG2) | (go_at_call 48; refine (HF.out _ HB.out HG.out).mono ?_; rintro e wx ⟨rfl, hb3⟩; have HB2 := Aside0.mk (Op.a5 HB.out hb3); clear HB hb3 HG; have HB := HB2; clear HB2))
   go_ret2
   exact ⟨rfl, by repeat (first | (with_reducible first | exact HB.out | apply Op.a1 | apply Op.a2 | apply Op.a3) | exact HB.out)⟩


/-! ### laws_FnExactFindKey: function 6 -/
def laws_FnExactFindKey.j0 : Nat → Bool → Int → List (S71) → List (S71) → Int → Int → List (S60) → List (S60) → Int → Option (Bool)
 | 0, _, _, _, _, _, _, _, _, _ => none
 | k + 1, x38, x254000, x254001, x254002, x254003, x274000, x274001, x274002, x274003 => if x38 = true then (some false) else ((laws_toTable.f k x254000 x254001 x254002 x254003).bind fun bt276 => ((laws_eqTable.f k x274000 x274001 x274002 x274003 bt276.1 bt276.2.1 bt276.2.2.1 bt276.2.2.2).bind fun t284 => (if t284 = true then (some true) else (some false))))
def laws_FnExactFindKey.f (k : Nat) (a0_0 : Int) (l0_1 : List (S71)) (l0_2 : List (S71)) (a0_3 : Int) (a1 : Int) : Option (Bool) := (laws_szTable.f a0_0 l0_1 l0_2 a0_3 1048576).bind fun t254 => (if t254 < 0 then (some true) else ((laws_toTable.f k a0_0 l0_1 l0_2 a0_3).bind fun bt255 => ((spec_FindKey.f k bt255.1 bt255.2.1 bt255.2.2.1 bt255.2.2.2 a1).bind fun bt263 => ((laws_toTable.f k a0_0 l0_1 l0_2 a0_3).bind fun bt265 => ((impl_FindKey.f k bt265.1 bt265.2.1 bt265.2.2.1 bt265.2.2.2 a1).bind fun bt274 => (if bt274.1 = bt263.1 then (laws_FnExactFindKey.j0 k (bt274.2 != bt263.2) a0_0 l0_1 l0_2 a0_3 bt265.1 bt265.2.1 bt265.2.2.1 bt265.2.2.2) else (laws_FnExactFindKey.j0 k true a0_0 l0_1 l0_2 a0_3 bt265.1 bt265.2.1 bt265.2.2.1 bt265.2.2.2)))))))
theorem laws_FnExactFindKey.mono_l : ∀ k, (∀ y0 y1 y2 y3 y4 y5 y6 y7 y8, LeO (laws_FnExactFindKey.j0 k y0 y1 y2 y3 y4 y5 y6 y7 y8) (laws_FnExactFindKey.j0 (k + 1) y0 y1 y2 y3 y4 y5 y6 y7 y8))
 | 0 => fun _ _ _ _ _ _ _ _ _ r h => by simp [laws_FnExactFindKey.j0] at h
 | k + 1 => by
  have ih0 := laws_FnExactFindKey.mono_l k
  ·intro y0 y1 y2 y3 y4 y5 y6 y7 y8
   unfold laws_FnExactFindKey.j0
   repeat' first
   | (with_reducible exact ih0 _ _ _ _ _ _ _ _ _)
   | (with_reducible exact impl_FindKey.mono _ _ _ _ _ _)
   | (with_reducible exact laws_eqTable.mono _ _ _ _ _ _ _ _ _)
   | (with_reducible exact laws_toTable.mono _ _ _ _ _)
   | (with_reducible exact spec_FindKey.mono _ _ _ _ _ _)
   | (with_reducible exact LeO.refl _)
   | (with_reducible exact LeO.none _)
   | (with_reducible refine LeO.ite ?_ ?_)
   | (with_reducible refine LeO.bind ?_ (fun _ => ?_))
   | exact ih0 _ _ _ _ _ _ _ _ _
   | exact impl_FindKey.mono _ _ _ _ _ _
   | exact laws_eqTable.mono _ _ _ _ _ _ _ _ _
   | exact laws_toTable.mono _ _ _ _ _
   | exact spec_FindKey.mono _ _ _ _ _ _
   | exact LeO.none _
   | refine LeO.ite ?_ ?_
   | refine LeO.bind ?_ (fun _ => ?_)
theorem laws_FnExactFindKey.mono : ∀ a0 a1 a2 a3 a4 k, LeO (laws_FnExactFindKey.f k a0 a1 a2 a3 a4) (laws_FnExactFindKey.f (k + 1) a0 a1 a2 a3 a4) := by
 intro a0 a1 a2 a3 a4 k
 have ih0 := laws_FnExactFindKey.mono_l k
 unfold laws_FnExactFindKey.f
 repeat' first
   | (with_reducible exact ih0 _ _ _ _ _ _ _ _ _)
   | (with_reducible exact impl_FindKey.mono _ _ _ _ _ _)
   | (with_reducible exact laws_eqTable.mono _ _ _ _ _ _ _ _ _)
   | (with_reducible exact laws_toTable.mono _ _ _ _ _)
   | (with_reducible exact spec_FindKey.mono _ _ _ _ _ _)
   | (with_reducible exact LeO.refl _)
   | (with_reducible exact LeO.none _)
   | (with_reducible refine LeO.ite ?_ ?_)
   | (with_reducible refine LeO.bind ?_ (fun _ => ?_))
   | exact ih0 _ _ _ _ _ _ _ _ _
   | exact impl_FindKey.mono _ _ _ _ _ _
   | exact laws_eqTable.mono _ _ _ _ _ _ _ _ _
   | exact laws_toTable.mono _ _ _ _ _
   | exact spec_FindKey.mono _ _ _ _ _ _
   | exact LeO.none _
   | refine LeO.ite ?_ ?_
   | refine LeO.bind ?_ (fun _ => ?_)
set_option maxHeartbeats 8000000 in
set_option maxRecDepth 100000 in
theorem laws_FnExactFindKey.calls (k : Nat) (a0_0 : Int) (A0_1 : Option Addr) (c0_1 : Nat) (l0_1 : List (S71)) (A0_2 : Option Addr) (c0_2 : Nat) (l0_2 : List (S71)) (a0_3 : Int) (a1 : Int) (r : Bool) (w : World) (hr0_1 : Kd.C k71 w A0_1 l0_1.length l0_1) (hc0_1 : l0_1.length ≤ c0_1) (hr0_2 : Kd.C k71 w A0_2 l0_2.length l0_2) (hc0_2 : l0_2.length ≤ c0_2) (h : laws_FnExactFindKey.f k a0_0 l0_1 l0_2 a0_3 a1 = some r) :
  Calls Try.prog 6 #[.agg #[.int .i64 a0_0, .slice A0_1 l0_1.length c0_1, .slice A0_2 l0_2.length c0_2, .int .i64 a0_3], .int .i64 a1] w fun e w' => e = .returned (.bool r) ∧ Below w.heap.size w w' := by
 have hu35 := Try.underlying35
 have hu27 := Try.underlying27
 have HR0_1 := Aside0.mk hr0_1
 have HC0_1 := Aside0.mk hc0_1
 clear hr0_1 hc0_1
 have HR0_2 := Aside0.mk hr0_2
 have HC0_2 := Aside0.mk hc0_2
 clear hr0_2 hc0_2
 have HB := Aside0.mk (Below.refl w.heap.size w)
 have H : ((laws_szTable.f a0_0 l0_1 l0_2 a0_3 1048576).bind fun t254 => (if t254 < 0 then (some true) else ((laws_toTable.f k a0_0 l0_1 l0_2 a0_3).bind fun bt255 => ((spec_FindKey.f k bt255.1 bt255.2.1 bt255.2.2.1 bt255.2.2.2 a1).bind fun bt263 => ((laws_toTable.f k a0_0 l0_1 l0_2 a0_3).bind fun bt265 => ((impl_FindKey.f k bt265.1 bt265.2.1 bt265.2.2.1 bt265.2.2.2 a1).bind fun bt274 => (if bt274.1 = bt263.1 then (laws_FnExactFindKey.j0 k (bt274.2 != bt263.2) a0_0 l0_1 l0_2 a0_3 bt265.1 bt265.2.1 bt265.2.2.1 bt265.2.2.2) else (laws_FnExactFindKey.j0 k true a0_0 l0_1 l0_2 a0_3 bt265.1 bt265.2.1 bt265.2.2.1 bt265.2.2.2)))))))) = some r := h
 clear h
 replace H := Option.bind_eq_some_iff.mp H
 obtain ⟨t254, A30, H⟩ := H
 replace H : (if t254 < 0 then (some true) else ((laws_toTable.f k a0_0 l0_1 l0_2 a0_3).bind fun bt255 => ((spec_FindKey.f k bt255.1 bt255.2.1 bt255.2.2.1 bt255.2.2.2 a1).bind fun bt263 => ((laws_toTable.f k a0_0 l0_1 l0_2 a0_3).bind fun bt265 => ((impl_FindKey.f k bt265.1 bt265.2.1 bt265.2.2.1 bt265.2.2.2 a1).bind fun bt274 => (if bt274.1 = bt263.1 then (laws_FnExactFindKey.j0 k (bt274.2 != bt263.2) a0_0 l0_1 l0_2 a0_3 bt265.1 bt265.2.1 bt265.2.2.1 bt265.2.2.2) else (laws_FnExactFindKey.j0 k true a0_0 l0_1 l0_2 a0_3 bt265.1 bt265.2.1 bt265.2.2.1 bt265.2.2.2))))))) = some r := H
 have A3 := Aside0.mk A30
 clear A30
 by_cases c4 : t254 < 0
 ·rw [if_pos c4] at H
  have c4b0 : decide (t254 < 0) = true := decide_eq_true c4
  clear c4
  obtain rfl := Option.some.inj H
  go_enter Try.func6, Try.ntmps6
  go_wp2_with (first | ((with_reducible refine gate_dst (N := 2) rfl ?_); refine box_event ?hg (N := 2) ?hd (cs := #[.int .i64 a0_0, .slice A0_1 l0_1.length c0_1, .slice A0_2 l0_2.length c0_2, .int .i64 a0_3]) (t := 35) ?hr ?_; (case hd => rfl); (case hg => rfl); (case hr => first | (go_simp; done) | (go_simp; rfl)); intro gb253 hg w5 hbox hb; have n0_ := Aside0.mk (Op.a5 (by repeat (first | (with_reducible first | exact HB.out | apply Op.a1 | apply Op.a2 | apply Op.a3) | exact HB.out)) hb); have n1_ := Aside0.mk (hbox); have n2_ := Aside0.mk ((by rw [hg]; exact (Op.a6 (by repeat (first | (with_reducible first | exact HB.out | apply Op.a1 | apply Op.a2 | apply Op.a3) | exact HB.out))) : w.heap.size ≤ gb253)); have n3_ := Aside0.mk ((by rw [hg]; exact (Op.a6 (by repeat (first | (with_reducible first | exact HB.out | apply Op.a1 | apply Op.a2 | apply Op.a3) | exact HB.out))) : w.heap.size ≤ gb253)); clear HB; have HB := n0_; have BK253 := n1_; have GW253 := n2_; have GE253 := n3_; clear n0_ n1_ n2_ n3_; clear hb hbox hg; have hcz6_0 : w5.cell? ⟨gb253, 0, none⟩ = some (.int .i64 a0_0) := (blk_cell BK253.out 0).trans rfl; have hcz6_1 : w5.cell? ⟨gb253, 1, none⟩ = some (.slice A0_1 l0_1.length c0_1) := (blk_cell BK253.out 1).trans rfl; have hcz6_2 : w5.cell? ⟨gb253, 2, none⟩ = some (.slice A0_2 l0_2.length c0_2) := (blk_cell BK253.out 2).trans rfl; have hcz6_3 : w5.cell? ⟨gb253, 3, none⟩ = some (.int .i64 a0_3) := (blk_cell BK253.out 3).trans rfl; have hfz6_0 := blk_frozen BK253.out 0; have hfz6_1 := blk_frozen BK253.out 1; have hfz6_2 := blk_frozen BK253.out 2; have hfz6_3 := blk_frozen BK253.out 3) | ((with_reducible refine gate_callee (f := 16) rfl ?_); refine goesL_ (some 13) rfl rfl Try.func16 (by kernel_rfl) rfl #[.agg #[.int .i64 a0_0, .slice A0_1 l0_1.length c0_1, .slice A0_2 l0_2.length c0_2, .int .i64 a0_3], .int .i64 1048576] rfl (by (try simp only [List.map_toArray, List.map_cons, List.map_nil]); first | done | rfl | (simp only [List.length_drop, List.length_take]; rfl)) ?_; (with_reducible refine (laws_szTable.calls a0_0 _ _ l0_1 _ _ l0_2 a0_3 1048576 t254 _ ?side1 ?side2 ?side3 ?side4 A3.out).mono ?_); (case side1 => repeat (first | exact (Kd.C_below HR0_1.out HB.out) | (with_reducible refine Kd.C_alloc ?_ _) | (with_reducible refine Kd.C_drewN ?_ _) | (with_reducible refine Kd.C_drew ?_))); (case side2 => exact HC0_1.out); (case side3 => repeat (first | exact (Kd.C_below HR0_2.out HB.out) | (with_reducible refine Kd.C_alloc ?_ _) | (with_reducible refine Kd.C_drewN ?_ _) | (with_reducible refine Kd.C_drew ?_))); (case side4 => exact HC0_2.out); rintro e w7 ⟨rfl, hb⟩; refine ⟨_, rfl, ?_⟩; have n0_ := Aside0.mk (Op.b4 (g := gb253) (o := .cells #[.int .i64 a0_0, .slice A0_1 l0_1.length c0_1, .slice A0_2 l0_2.length c0_2, .int .i64 a0_3] 35 (0, 0)) (by (with_reducible repeat (first | refine Op.b1 ?_ _ | refine Op.b2 ?_ | refine Op.b3 ?_ _)); exact BK253.out) hb); have n1_ := Aside0.mk (Op.a5 (by repeat (first | (with_reducible first | exact HB.out | apply Op.a1 | apply Op.a2 | apply Op.a3 | refine Op.a4 ?_ GE253.out) | exact HB.out)) hb); clear BK253; clear HB; have BK253 := n0_; have HB := n1_; clear n0_ n1_; (try clear hb); (try clear hb2); (try clear hk); (try clear hi)))
  go_ret
  exact ⟨by first | rfl | (simp [errW_none, errW_some] <;> rfl) | (simp [*, errW_none, errW_some] <;> rfl), by repeat (first | (with_reducible first | exact HB.out | apply Op.a1 | apply Op.a2 | apply Op.a3 | refine Op.a4 ?_ GE253.out) | exact HB.out)⟩
 ·rw [if_neg c4] at H
  have c4b0 : decide (t254 < 0) = false := decide_eq_false c4
  clear c4
  replace H := Option.bind_eq_some_iff.mp H
  obtain ⟨⟨t255, t256, t259, t262⟩, A80, H⟩ := H
  replace H : ((spec_FindKey.f k t255 t256 t259 t262 a1).bind fun bt263 => ((laws_toTable.f k a0_0 l0_1 l0_2 a0_3).bind fun bt265 => ((impl_FindKey.f k bt265.1 bt265.2.1 bt265.2.2.1 bt265.2.2.2 a1).bind fun bt274 => (if bt274.1 = bt263.1 then (laws_FnExactFindKey.j0 k (bt274.2 != bt263.2) a0_0 l0_1 l0_2 a0_3 bt265.1 bt265.2.1 bt265.2.2.1 bt265.2.2.2) else (laws_FnExactFindKey.j0 k true a0_0 l0_1 l0_2 a0_3 bt265.1 bt265.2.1 bt265.2.2.1 bt265.2.2.2))))) = some r := H
  have A8 := Aside0.mk A80
  clear A80
  replace H := Option.bind_eq_some_iff.mp H
  obtain ⟨⟨t263, t264⟩, A90, H⟩ := H
  replace H : ((laws_toTable.f k a0_0 l0_1 l0_2 a0_3).bind fun bt265 => ((impl_FindKey.f k bt265.1 bt265.2.1 bt265.2.2.1 bt265.2.2.2 a1).bind fun bt274 => (if bt274.1 = t263 then (laws_FnExactFindKey.j0 k (bt274.2 != t264) a0_0 l0_1 l0_2 a0_3 bt265.1 bt265.2.1 bt265.2.2.1 bt265.2.2.2) else (laws_FnExactFindKey.j0 k true a0_0 l0_1 l0_2 a0_3 bt265.1 bt265.2.1 bt265.2.2.1 bt265.2.2.2)))) = some r := H
  have A9 := Aside0.mk A90
  clear A90
  replace H := Option.bind_eq_some_iff.mp H
  obtain ⟨⟨t265, t266, t269, t272⟩, A100, H⟩ := H
  replace H : ((impl_FindKey.f k t265 t266 t269 t272 a1).bind fun bt274 => (if bt274.1 = t263 then (laws_FnExactFindKey.j0 k (bt274.2 != t264) a0_0 l0_1 l0_2 a0_3 t265 t266 t269 t272) else (laws_FnExactFindKey.j0 k true a0_0 l0_1 l0_2 a0_3 t265 t266 t269 t272))) = some r := H
  have A10 := Aside0.mk A100
  clear A100
  replace H := Option.bind_eq_some_iff.mp H
  obtain ⟨⟨t274, t275⟩, A110, H⟩ := H
  replace H : (if t274 = t263 then (laws_FnExactFindKey.j0 k (t275 != t264) a0_0 l0_1 l0_2 a0_3 t265 t266 t269 t272) else (laws_FnExactFindKey.j0 k true a0_0 l0_1 l0_2 a0_3 t265 t266 t269 t272)) = some r := H
  have A11 := Aside0.mk A110
  clear A110
  have HC12 := Aside0.mk H
  clear H
  go_enter Try.func6, Try.ntmps6
  go_upto_region 8 with (first | ((with_reducible refine gate_dst (N := 2) rfl ?_); refine box_event ?hg (N := 2) ?hd (cs := #[.int .i64 a0_0, .slice A0_1 l0_1.length c0_1, .slice A0_2 l0_2.length c0_2, .int .i64 a0_3]) (t := 35) ?hr ?_; (case hd => rfl); (case hg => rfl); (case hr => first | (go_simp; done) | (go_simp; rfl)); intro gb253 hg w13 hbox hb; have n0_ := Aside0.mk (Op.a5 (by repeat (first | (with_reducible first | exact HB.out | apply Op.a1 | apply Op.a2 | apply Op.a3) | exact HB.out)) hb); have n1_ := Aside0.mk (hbox); have n2_ := Aside0.mk ((by rw [hg]; exact (Op.a6 (by repeat (first | (with_reducible first | exact HB.out | apply Op.a1 | apply Op.a2 | apply Op.a3) | exact HB.out))) : w.heap.size ≤ gb253)); have n3_ := Aside0.mk ((by rw [hg]; exact (Op.a6 (by repeat (first | (with_reducible first | exact HB.out | apply Op.a1 | apply Op.a2 | apply Op.a3) | exact HB.out))) : w.heap.size ≤ gb253)); clear HB; have HB := n0_; have BK253 := n1_; have GW253 := n2_; have GE253 := n3_; clear n0_ n1_ n2_ n3_; clear hb hbox hg; have hcz14_0 : w13.cell? ⟨gb253, 0, none⟩ = some (.int .i64 a0_0) := (blk_cell BK253.out 0).trans rfl; have hcz14_1 : w13.cell? ⟨gb253, 1, none⟩ = some (.slice A0_1 l0_1.length c0_1) := (blk_cell BK253.out 1).trans rfl; have hcz14_2 : w13.cell? ⟨gb253, 2, none⟩ = some (.slice A0_2 l0_2.length c0_2) := (blk_cell BK253.out 2).trans rfl; have hcz14_3 : w13.cell? ⟨gb253, 3, none⟩ = some (.int .i64 a0_3) := (blk_cell BK253.out 3).trans rfl; have hfz14_0 := blk_frozen BK253.out 0; have hfz14_1 := blk_frozen BK253.out 1; have hfz14_2 := blk_frozen BK253.out 2; have hfz14_3 := blk_frozen BK253.out 3) | ((with_reducible refine gate_callee (f := 16) rfl ?_); refine goesL_ (some 13) rfl rfl Try.func16 (by kernel_rfl) rfl #[.agg #[.int .i64 a0_0, .slice A0_1 l0_1.length c0_1, .slice A0_2 l0_2.length c0_2, .int .i64 a0_3], .int .i64 1048576] rfl (by (try simp only [List.map_toArray, List.map_cons, List.map_nil]); first | done | rfl | (simp only [List.length_drop, List.length_take]; rfl)) ?_; (with_reducible refine (laws_szTable.calls a0_0 _ _ l0_1 _ _ l0_2 a0_3 1048576 t254 _ ?side1 ?side2 ?side3 ?side4 A3.out).mono ?_); (case side1 => repeat (first | exact (Kd.C_below HR0_1.out HB.out) | (with_reducible refine Kd.C_alloc ?_ _) | (with_reducible refine Kd.C_drewN ?_ _) | (with_reducible refine Kd.C_drew ?_))); (case side2 => exact HC0_1.out); (case side3 => repeat (first | exact (Kd.C_below HR0_2.out HB.out) | (with_reducible refine Kd.C_alloc ?_ _) | (with_reducible refine Kd.C_drewN ?_ _) | (with_reducible refine Kd.C_drew ?_))); (case side4 => exact HC0_2.out); rintro e w15 ⟨rfl, hb⟩; refine ⟨_, rfl, ?_⟩; have n0_ := Aside0.mk (Op.b4 (g := gb253) (o := .cells #[.int .i64 a0_0, .slice A0_1 l0_1.length c0_1, .slice A0_2 l0_2.length c0_2, .int .i64 a0_3] 35 (0, 0)) (by (with_reducible repeat (first | refine Op.b1 ?_ _ | refine Op.b2 ?_ | refine Op.b3 ?_ _)); exact BK253.out) hb); have n1_ := Aside0.mk (Op.a5 (by repeat (first | (with_reducible first | exact HB.out | apply Op.a1 | apply Op.a2 | apply Op.a3 | refine Op.a4 ?_ GE253.out) | exact HB.out)) hb); clear BK253; clear HB; have BK253 := n0_; have HB := n1_; clear n0_ n1_; (try clear hb); (try clear hb2); (try clear hk); (try clear hi); have hcz16_0 : w15.cell? ⟨gb253, 0, none⟩ = some (.int .i64 a0_0) := (blk_cell BK253.out 0).trans rfl; have hcz16_1 : w15.cell? ⟨gb253, 1, none⟩ = some (.slice A0_1 l0_1.length c0_1) := (blk_cell BK253.out 1).trans rfl; have hcz16_2 : w15.cell? ⟨gb253, 2, none⟩ = some (.slice A0_2 l0_2.length c0_2) := (blk_cell BK253.out 2).trans rfl; have hcz16_3 : w15.cell? ⟨gb253, 3, none⟩ = some (.int .i64 a0_3) := (blk_cell BK253.out 3).trans rfl; have hfz16_0 := blk_frozen BK253.out 0; have hfz16_1 := blk_frozen BK253.out 1; have hfz16_2 := blk_frozen BK253.out 2; have hfz16_3 := blk_frozen BK253.out 3) | ((with_reducible refine gate_callee (f := 18) rfl ?_); refine goesL_ (some 18) rfl rfl Try.func18 (by kernel_rfl) rfl #[.agg #[.int .i64 a0_0, .slice A0_1 l0_1.length c0_1, .slice A0_2 l0_2.length c0_2, .int .i64 a0_3]] rfl (by (try simp only [List.map_toArray, List.map_cons, List.map_nil]); first | done | rfl | (simp only [List.length_drop, List.length_take]; rfl)) ?_; (with_reducible refine (laws_toTable.calls k a0_0 _ _ l0_1 _ _ l0_2 a0_3 t255 t256 t259 t262 _ ?side1 ?side2 ?side3 ?side4 A8.out).mono ?_); (case side1 => repeat (first | exact (Kd.C_below HR0_1.out HB.out) | (with_reducible refine Kd.C_alloc ?_ _) | (with_reducible refine Kd.C_drewN ?_ _) | (with_reducible refine Kd.C_drew ?_))); (case side2 => exact HC0_1.out); (case side3 => repeat (first | exact (Kd.C_below HR0_2.out HB.out) | (with_reducible refine Kd.C_alloc ?_ _) | (with_reducible refine Kd.C_drewN ?_ _) | (with_reducible refine Kd.C_drew ?_))); (case side4 => exact HC0_2.out); rintro e w17 ⟨v257, v260, rfl, ho0, ho1, hb⟩; refine ⟨_, rfl, ?_⟩; have n0_ := Aside0.mk (Kd.R_lower ho0 (Op.a6 (by repeat (first | (with_reducible first | exact HB.out | apply Op.a1 | apply Op.a2 | apply Op.a3 | refine Op.a4 ?_ GE253.out) | exact HB.out)))); have n1_ := Aside0.mk (Kd.R_lower ho1 (Op.a6 (by repeat (first | (with_reducible first | exact HB.out | apply Op.a1 | apply Op.a2 | apply Op.a3 | refine Op.a4 ?_ GE253.out) | exact HB.out)))); have n2_ := Aside0.mk (Op.b4 (g := gb253) (o := .cells #[.int .i64 a0_0, .slice A0_1 l0_1.length c0_1, .slice A0_2 l0_2.length c0_2, .int .i64 a0_3] 35 (0, 0)) (by (with_reducible repeat (first | refine Op.b1 ?_ _ | refine Op.b2 ?_ | refine Op.b3 ?_ _)); exact BK253.out) hb); have n3_ := Aside0.mk (Op.a5 (by repeat (first | (with_reducible first | exact HB.out | apply Op.a1 | apply Op.a2 | apply Op.a3 | refine Op.a4 ?_ GE253.out) | exact HB.out)) hb); clear BK253; clear HB; have HO258 := n0_; have HO261 := n1_; have BK253 := n2_; have HB := n3_; clear n0_ n1_ n2_ n3_; (try clear hb); (try clear hb2); (try clear hk); (try clear hi); (try clear ho0); (try clear ho1); obtain ⟨Ao18, co18, eo18⟩ := Kd.R_slice HO258.out; subst eo18; obtain ⟨Ao19, co19, eo19⟩ := Kd.R_slice HO261.out; subst eo19) | ((with_reducible refine gate_callee (f := 20) rfl ?_); refine goesL_ (some 20) rfl rfl Try.func20 (by kernel_rfl) rfl #[.agg #[.int .i64 t255, .slice Ao18 t256.length co18, .slice Ao19 t259.length co19, .int .i64 t262], .int .i64 a1] rfl (by (try simp only [List.map_toArray, List.map_cons, List.map_nil]); first | done | rfl | (simp only [List.length_drop, List.length_take]; rfl)) ?_; (with_reducible refine (spec_FindKey.calls k t255 _ _ t256 _ _ t259 t262 a1 t263 t264 _ ?side1 ?side2 ?side3 ?side4 A9.out).mono ?_); (case side1 => repeat (first | exact (Kd.R_reads' HO258.out).2.2 | (with_reducible refine Kd.C_alloc ?_ _) | (with_reducible refine Kd.C_drewN ?_ _) | (with_reducible refine Kd.C_drew ?_))); (case side2 => exact (Kd.R_reads' HO258.out).2.1); (case side3 => repeat (first | exact (Kd.R_reads' HO261.out).2.2 | (with_reducible refine Kd.C_alloc ?_ _) | (with_reducible refine Kd.C_drewN ?_ _) | (with_reducible refine Kd.C_drew ?_))); (case side4 => exact (Kd.R_reads' HO261.out).2.1); rintro e w20 ⟨rfl, hb⟩; refine ⟨_, rfl, ?_⟩; have n0_ := Aside0.mk (Kd.R_below (by (with_reducible repeat (first | apply Kd.R_alloc | apply Kd.R_drewN | apply Kd.R_drew)); exact HO258.out) hb); have n1_ := Aside0.mk (Kd.R_below (by (with_reducible repeat (first | apply Kd.R_alloc | apply Kd.R_drewN | apply Kd.R_drew)); exact HO261.out) hb); have n2_ := Aside0.mk (Op.b4 (g := gb253) (o := .cells #[.int .i64 a0_0, .slice A0_1 l0_1.length c0_1, .slice A0_2 l0_2.length c0_2, .int .i64 a0_3] 35 (0, 0)) (by (with_reducible repeat (first | refine Op.b1 ?_ _ | refine Op.b2 ?_ | refine Op.b3 ?_ _)); exact BK253.out) hb); have n3_ := Aside0.mk (Op.a5 (by repeat (first | (with_reducible first | exact HB.out | apply Op.a1 | apply Op.a2 | apply Op.a3 | refine Op.a4 ?_ GE253.out) | exact HB.out)) hb); clear HO258; clear HO261; clear BK253; clear HB; have HO258 := n0_; have HO261 := n1_; have BK253 := n2_; have HB := n3_; clear n0_ n1_ n2_ n3_; (try clear hb); (try clear hb2); (try clear hk); (try clear hi); have hcz21_0 : w20.cell? ⟨gb253, 0, none⟩ = some (.int .i64 a0_0) := (blk_cell BK253.out 0).trans rfl; have hcz21_1 : w20.cell? ⟨gb253, 1, none⟩ = some (.slice A0_1 l0_1.length c0_1) := (blk_cell BK253.out 1).trans rfl; have hcz21_2 : w20.cell? ⟨gb253, 2, none⟩ = some (.slice A0_2 l0_2.length c0_2) := (blk_cell BK253.out 2).trans rfl; have hcz21_3 : w20.cell? ⟨gb253, 3, none⟩ = some (.int .i64 a0_3) := (blk_cell BK253.out 3).trans rfl; have hfz21_0 := blk_frozen BK253.out 0; have hfz21_1 := blk_frozen BK253.out 1; have hfz21_2 := blk_frozen BK253.out 2; have hfz21_3 := blk_frozen BK253.out 3) | ((with_reducible refine gate_callee (f := 18) rfl ?_); refine goesL_ (some 24) rfl rfl Try.func18 (by kernel_rfl) rfl #[.agg #[.int .i64 a0_0, .slice A0_1 l0_1.length c0_1, .slice A0_2 l0_2.length c0_2, .int .i64 a0_3]] rfl (by (try simp only [List.map_toArray, List.map_cons, List.map_nil]); first | done | rfl | (simp only [List.length_drop, List.length_take]; rfl)) ?_; (with_reducible refine (laws_toTable.calls k a0_0 _ _ l0_1 _ _ l0_2 a0_3 t265 t266 t269 t272 _ ?side1 ?side2 ?side3 ?side4 A10.out).mono ?_); (case side1 => repeat (first | exact (Kd.C_below HR0_1.out HB.out) | (with_reducible refine Kd.C_alloc ?_ _) | (with_reducible refine Kd.C_drewN ?_ _) | (with_reducible refine Kd.C_drew ?_))); (case side2 => exact HC0_1.out); (case side3 => repeat (first | exact (Kd.C_below HR0_2.out HB.out) | (with_reducible refine Kd.C_alloc ?_ _) | (with_reducible refine Kd.C_drewN ?_ _) | (with_reducible refine Kd.C_drew ?_))); (case side4 => exact HC0_2.out); rintro e w22 ⟨v267, v270, rfl, ho0, ho1, hb⟩; refine ⟨_, rfl, ?_⟩; have n0_ := Aside0.mk (Kd.R_mono (Kd.R_told (Kd.R_told (Kd.R_old (by (with_reducible repeat (first | apply Kd.R_alloc | apply Kd.R_drewN | apply Kd.R_drew)); exact HO258.out) hb) (Kd.R_base ho0)) (Kd.R_base ho1)) (fun _ h_ => h_.1)); have n1_ := Aside0.mk (Kd.R_mono (Kd.R_told (Kd.R_told (Kd.R_old (by (with_reducible repeat (first | apply Kd.R_alloc | apply Kd.R_drewN | apply Kd.R_drew)); exact HO261.out) hb) (Kd.R_base ho0)) (Kd.R_base ho1)) (fun _ h_ => h_.1)); have n2_ := Aside0.mk (Kd.R_lower (Kd.R_new' (Kd.R_new' ho0 (Kd.R_lt (by (with_reducible repeat (first | apply Kd.R_alloc | apply Kd.R_drewN | apply Kd.R_drew)); exact HO258.out))) (Kd.R_lt (by (with_reducible repeat (first | apply Kd.R_alloc | apply Kd.R_drewN | apply Kd.R_drew)); exact HO261.out))) (Op.a6 (by repeat (first | (with_reducible first | exact HB.out | apply Op.a1 | apply Op.a2 | apply Op.a3 | refine Op.a4 ?_ GE253.out) | exact HB.out)))); have n3_ := Aside0.mk (Kd.R_lower (Kd.R_new' (Kd.R_new' ho1 (Kd.R_lt (by (with_reducible repeat (first | apply Kd.R_alloc | apply Kd.R_drewN | apply Kd.R_drew)); exact HO258.out))) (Kd.R_lt (by (with_reducible repeat (first | apply Kd.R_alloc | apply Kd.R_drewN | apply Kd.R_drew)); exact HO261.out))) (Op.a6 (by repeat (first | (with_reducible first | exact HB.out | apply Op.a1 | apply Op.a2 | apply Op.a3 | refine Op.a4 ?_ GE253.out) | exact HB.out)))); have n4_ := Aside0.mk (Op.b4 (g := gb253) (o := .cells #[.int .i64 a0_0, .slice A0_1 l0_1.length c0_1, .slice A0_2 l0_2.length c0_2, .int .i64 a0_3] 35 (0, 0)) (by (with_reducible repeat (first | refine Op.b1 ?_ _ | refine Op.b2 ?_ | refine Op.b3 ?_ _)); exact BK253.out) hb); have n5_ := Aside0.mk (Op.a5 (by repeat (first | (with_reducible first | exact HB.out | apply Op.a1 | apply Op.a2 | apply Op.a3 | refine Op.a4 ?_ GE253.out) | exact HB.out)) hb); clear HO258; clear HO261; clear BK253; clear HB; have HO258 := n0_; have HO261 := n1_; have HO268 := n2_; have HO271 := n3_; have BK253 := n4_; have HB := n5_; clear n0_ n1_ n2_ n3_ n4_ n5_; (try clear hb); (try clear hb2); (try clear hk); (try clear hi); (try clear ho0); (try clear ho1)) | ((with_reducible refine gate_dst (N := 8) rfl ?_); refine box_event ?hg (N := 8) ?hd (cs := #[.int .i64 0, .slice none 0 0, .slice none 0 0, .int .i64 0]) (t := 27) ?hr ?_; (case hd => rfl); (case hg => rfl); (case hr => first | (go_simp; done) | (go_simp; rfl)); intro gb273 hg w23 hbox hb; have n0_ := Aside0.mk (Kd.R_below (by (with_reducible repeat (first | apply Kd.R_alloc | apply Kd.R_drewN | apply Kd.R_drew)); exact HO258.out) hb); have n1_ := Aside0.mk (Kd.R_below (by (with_reducible repeat (first | apply Kd.R_alloc | apply Kd.R_drewN | apply Kd.R_drew)); exact HO261.out) hb); have n2_ := Aside0.mk (Kd.R_below (by (with_reducible repeat (first | apply Kd.R_alloc | apply Kd.R_drewN | apply Kd.R_drew)); exact HO268.out) hb); have n3_ := Aside0.mk (Kd.R_below (by (with_reducible repeat (first | apply Kd.R_alloc | apply Kd.R_drewN | apply Kd.R_drew)); exact HO271.out) hb); have n4_ := Aside0.mk (Op.b4 (g := gb253) (o := .cells #[.int .i64 a0_0, .slice A0_1 l0_1.length c0_1, .slice A0_2 l0_2.length c0_2, .int .i64 a0_3] 35 (0, 0)) (by (with_reducible repeat (first | refine Op.b1 ?_ _ | refine Op.b2 ?_ | refine Op.b3 ?_ _)); exact BK253.out) hb); have n5_ := Aside0.mk (Op.a5 (by repeat (first | (with_reducible first | exact HB.out | apply Op.a1 | apply Op.a2 | apply Op.a3 | refine Op.a4 ?_ GE253.out) | exact HB.out)) hb); have n6_ := Aside0.mk (hbox); have n7_ := Aside0.mk ((by rw [hg]; exact (Op.a6 (by repeat (first | (with_reducible first | exact HB.out | apply Op.a1 | apply Op.a2 | apply Op.a3 | refine Op.a4 ?_ GE253.out) | exact HB.out))) : w.heap.size ≤ gb273)); have n8_ := Aside0.mk ((by rw [hg]; exact (Op.a6 (by repeat (first | (with_reducible first | exact HB.out | apply Op.a1 | apply Op.a2 | apply Op.a3 | refine Op.a4 ?_ GE253.out) | exact HB.out))) : w.heap.size ≤ gb273)); have n9_ := Aside0.mk ((by rw [hg]; exact Nat.ne_of_lt (blk_lt (g := gb253) (o := .cells #[.int .i64 a0_0, .slice A0_1 l0_1.length c0_1, .slice A0_2 l0_2.length c0_2, .int .i64 a0_3] 35 (0, 0)) (by (with_reducible repeat (first | refine Op.b1 ?_ _ | refine Op.b2 ?_ | refine Op.b3 ?_ _)); exact BK253.out)) : gb253 ≠ gb273)); have n10_ := Aside0.mk ((by rw [hg]; exact Nat.ne_of_gt (blk_lt (g := gb253) (o := .cells #[.int .i64 a0_0, .slice A0_1 l0_1.length c0_1, .slice A0_2 l0_2.length c0_2, .int .i64 a0_3] 35 (0, 0)) (by (with_reducible repeat (first | refine Op.b1 ?_ _ | refine Op.b2 ?_ | refine Op.b3 ?_ _)); exact BK253.out)) : gb273 ≠ gb253)); clear HO258; clear HO261; clear HO268; clear HO271; clear BK253; clear HB; have HO258 := n0_; have HO261 := n1_; have HO268 := n2_; have HO271 := n3_; have BK253 := n4_; have HB := n5_; have BK273 := n6_; have GW273 := n7_; have GE273 := n8_; have NB253_273 := n9_; have NB273_253 := n10_; clear n0_ n1_ n2_ n3_ n4_ n5_ n6_ n7_ n8_ n9_ n10_; clear hb hbox hg; have hnb24 := NB273_253.out; have hnc24 := NB253_273.out; have hcz25_0 : w23.cell? ⟨gb273, 0, none⟩ = some (.int .i64 0) := (blk_cell BK273.out 0).trans rfl; have hcz25_1 : w23.cell? ⟨gb273, 1, none⟩ = some (.slice none 0 0) := (blk_cell BK273.out 1).trans rfl; have hcz25_2 : w23.cell? ⟨gb273, 2, none⟩ = some (.slice none 0 0) := (blk_cell BK273.out 2).trans rfl; have hcz25_3 : w23.cell? ⟨gb273, 3, none⟩ = some (.int .i64 0) := (blk_cell BK273.out 3).trans rfl; have hfz25_0 := blk_frozen BK273.out 0; have hfz25_1 := blk_frozen BK273.out 1; have hfz25_2 := blk_frozen BK273.out 2; have hfz25_3 := blk_frozen BK273.out 3; obtain ⟨Ao26, co26, eo26⟩ := Kd.R_slice HO268.out; subst eo26; obtain ⟨Ao27, co27, eo27⟩ := Kd.R_slice HO271.out; subst eo27) | ((with_reducible refine gate_callee (f := 21) rfl ?_); refine goesL_ (some 28) rfl rfl Try.func21 (by kernel_rfl) rfl #[.agg #[.int .i64 t265, .slice Ao26 t266.length co26, .slice Ao27 t269.length co27, .int .i64 t272], .int .i64 a1] rfl (by (try simp only [List.map_toArray, List.map_cons, List.map_nil]); first | done | rfl | (simp only [List.length_drop, List.length_take]; rfl)) ?_; (with_reducible refine (impl_FindKey.calls k t265 _ _ t266 _ _ t269 t272 a1 t274 t275 _ ?side1 ?side2 ?side3 ?side4 A11.out).mono ?_); (case side1 => refine (Kd.R_reads' (e := 60) (base := w.heap.size) (ok := fun k_ => ((some k_ ≠ (.slice Ao27 t269.length co27 : Value).ownBlock ∧ some k_ ≠ (.slice Ao18 t256.length co18 : Value).ownBlock) ∧ some k_ ≠ (.slice Ao19 t259.length co19 : Value).ownBlock)) (n := t266.length) (c := co26) ?_).2.2; exact (by (with_reducible repeat (first | apply Kd.R_alloc | apply Kd.R_drewN | apply Kd.R_drew)); exact (Kd.R_mono (Kd.R_far (p := ⟨gb273, 3, none⟩) (Kd.R_far (p := ⟨gb273, 2, none⟩) (Kd.R_far (p := ⟨gb273, 1, none⟩) (Kd.R_far (p := ⟨gb273, 0, none⟩) (Kd.R_types HO268.out BK273.out (by decide)) (fun _ hk => hk.2) (.int .i64 t265)) (fun _ hk => hk.2) (.slice Ao26 t266.length co26)) (fun _ hk => hk.2) (.slice Ao27 t269.length co27)) (fun _ hk => hk.2) (.int .i64 t272)) (fun _ h_ => h_.1)))); (case side2 => exact (Kd.R_reads' HO268.out).2.1); (case side3 => refine (Kd.R_reads' (e := 60) (base := w.heap.size) (ok := fun k_ => ((some k_ ≠ (.slice Ao26 t266.length co26 : Value).ownBlock ∧ some k_ ≠ (.slice Ao18 t256.length co18 : Value).ownBlock) ∧ some k_ ≠ (.slice Ao19 t259.length co19 : Value).ownBlock)) (n := t269.length) (c := co27) ?_).2.2; exact (by (with_reducible repeat (first | apply Kd.R_alloc | apply Kd.R_drewN | apply Kd.R_drew)); exact (Kd.R_mono (Kd.R_far (p := ⟨gb273, 3, none⟩) (Kd.R_far (p := ⟨gb273, 2, none⟩) (Kd.R_far (p := ⟨gb273, 1, none⟩) (Kd.R_far (p := ⟨gb273, 0, none⟩) (Kd.R_types HO271.out BK273.out (by decide)) (fun _ hk => hk.2) (.int .i64 t265)) (fun _ hk => hk.2) (.slice Ao26 t266.length co26)) (fun _ hk => hk.2) (.slice Ao27 t269.length co27)) (fun _ hk => hk.2) (.int .i64 t272)) (fun _ h_ => h_.1)))); (case side4 => exact (Kd.R_reads' HO271.out).2.1); rintro e w28 ⟨rfl, hb⟩; refine ⟨_, rfl, ?_⟩; have n0_ := Aside0.mk (Kd.R_below (by (with_reducible repeat (first | apply Kd.R_alloc | apply Kd.R_drewN | apply Kd.R_drew)); exact (Kd.R_mono (Kd.R_far (p := ⟨gb273, 3, none⟩) (Kd.R_far (p := ⟨gb273, 2, none⟩) (Kd.R_far (p := ⟨gb273, 1, none⟩) (Kd.R_far (p := ⟨gb273, 0, none⟩) (Kd.R_types HO258.out BK273.out (by decide)) (fun _ hk => hk.2) (.int .i64 t265)) (fun _ hk => hk.2) (.slice Ao26 t266.length co26)) (fun _ hk => hk.2) (.slice Ao27 t269.length co27)) (fun _ hk => hk.2) (.int .i64 t272)) (fun _ h_ => h_.1))) hb); have n1_ := Aside0.mk (Kd.R_below (by (with_reducible repeat (first | apply Kd.R_alloc | apply Kd.R_drewN | apply Kd.R_drew)); exact (Kd.R_mono (Kd.R_far (p := ⟨gb273, 3, none⟩) (Kd.R_far (p := ⟨gb273, 2, none⟩) (Kd.R_far (p := ⟨gb273, 1, none⟩) (Kd.R_far (p := ⟨gb273, 0, none⟩) (Kd.R_types HO261.out BK273.out (by decide)) (fun _ hk => hk.2) (.int .i64 t265)) (fun _ hk => hk.2) (.slice Ao26 t266.length co26)) (fun _ hk => hk.2) (.slice Ao27 t269.length co27)) (fun _ hk => hk.2) (.int .i64 t272)) (fun _ h_ => h_.1))) hb); have n2_ := Aside0.mk (Kd.R_below (by (with_reducible repeat (first | apply Kd.R_alloc | apply Kd.R_drewN | apply Kd.R_drew)); exact (Kd.R_mono (Kd.R_far (p := ⟨gb273, 3, none⟩) (Kd.R_far (p := ⟨gb273, 2, none⟩) (Kd.R_far (p := ⟨gb273, 1, none⟩) (Kd.R_far (p := ⟨gb273, 0, none⟩) (Kd.R_types HO268.out BK273.out (by decide)) (fun _ hk => hk.2) (.int .i64 t265)) (fun _ hk => hk.2) (.slice Ao26 t266.length co26)) (fun _ hk => hk.2) (.slice Ao27 t269.length co27)) (fun _ hk => hk.2) (.int .i64 t272)) (fun _ h_ => h_.1))) hb); have n3_ := Aside0.mk (Kd.R_below (by (with_reducible repeat (first | apply Kd.R_alloc | apply Kd.R_drewN | apply Kd.R_drew)); exact (Kd.R_mono (Kd.R_far (p := ⟨gb273, 3, none⟩) (Kd.R_far (p := ⟨gb273, 2, none⟩) (Kd.R_far (p := ⟨gb273, 1, none⟩) (Kd.R_far (p := ⟨gb273, 0, none⟩) (Kd.R_types HO271.out BK273.out (by decide)) (fun _ hk => hk.2) (.int .i64 t265)) (fun _ hk => hk.2) (.slice Ao26 t266.length co26)) (fun _ hk => hk.2) (.slice Ao27 t269.length co27)) (fun _ hk => hk.2) (.int .i64 t272)) (fun _ h_ => h_.1))) hb); have n4_ := Aside0.mk (Op.b4 (g := gb253) (o := .cells #[.int .i64 a0_0, .slice A0_1 l0_1.length c0_1, .slice A0_2 l0_2.length c0_2, .int .i64 a0_3] 35 (0, 0)) (by (with_reducible repeat (first | refine Op.b1 ?_ _ | refine Op.b2 ?_ | refine Op.b3 ?_ _)); refine blk_far ?_ NB253_273.out _; (with_reducible repeat (first | refine Op.b1 ?_ _ | refine Op.b2 ?_ | refine Op.b3 ?_ _)); refine blk_far ?_ NB253_273.out _; (with_reducible repeat (first | refine Op.b1 ?_ _ | refine Op.b2 ?_ | refine Op.b3 ?_ _)); refine blk_far ?_ NB253_273.out _; (with_reducible repeat (first | refine Op.b1 ?_ _ | refine Op.b2 ?_ | refine Op.b3 ?_ _)); refine blk_far ?_ NB253_273.out _; (with_reducible repeat (first | refine Op.b1 ?_ _ | refine Op.b2 ?_ | refine Op.b3 ?_ _)); exact BK253.out) hb); have n5_ := Aside0.mk (Op.b4 (g := gb273) (o := .cells #[.int .i64 t265, .slice Ao26 t266.length co26, .slice Ao27 t269.length co27, .int .i64 t272] 27 (0, 0)) (by (with_reducible repeat (first | refine Op.b1 ?_ _ | refine Op.b2 ?_ | refine Op.b3 ?_ _)); refine blk_put (cs := #[.int .i64 t265, .slice Ao26 t266.length co26, .slice Ao27 t269.length co27, .int .i64 0]) ?_ 3 _ rfl; (with_reducible repeat (first | refine Op.b1 ?_ _ | refine Op.b2 ?_ | refine Op.b3 ?_ _)); refine blk_put (cs := #[.int .i64 t265, .slice Ao26 t266.length co26, .slice none 0 0, .int .i64 0]) ?_ 2 _ rfl; (with_reducible repeat (first | refine Op.b1 ?_ _ | refine Op.b2 ?_ | refine Op.b3 ?_ _)); refine blk_put (cs := #[.int .i64 t265, .slice none 0 0, .slice none 0 0, .int .i64 0]) ?_ 1 _ rfl; (with_reducible repeat (first | refine Op.b1 ?_ _ | refine Op.b2 ?_ | refine Op.b3 ?_ _)); refine blk_put (cs := #[.int .i64 0, .slice none 0 0, .slice none 0 0, .int .i64 0]) ?_ 0 _ rfl; (with_reducible repeat (first | refine Op.b1 ?_ _ | refine Op.b2 ?_ | refine Op.b3 ?_ _)); exact BK273.out) hb); have n6_ := Aside0.mk (Op.a5 (by repeat (first | (with_reducible first | exact HB.out | apply Op.a1 | apply Op.a2 | apply Op.a3 | refine Op.a4 ?_ GE253.out | refine Op.a4 ?_ GE273.out) | exact HB.out)) hb); clear HO258; clear HO261; clear HO268; clear HO271; clear BK253; clear BK273; clear HB; have HO258 := n0_; have HO261 := n1_; have HO268 := n2_; have HO271 := n3_; have BK253 := n4_; have BK273 := n5_; have HB := n6_; clear n0_ n1_ n2_ n3_ n4_ n5_ n6_; (try clear hb); (try clear hb2); (try clear hk); (try clear hi)))
  (try simp only [Act.put, List.setIfInBounds_toArray, List.set_cons_zero, List.set_cons_succ])
  go_cut [38] (fun v38 wc => ∃ (kq : Nat) (x38_11 : Bool), v38 = .bool x38_11 ∧ Aside0 (laws_FnExactFindKey.j0 kq x38_11 a0_0 l0_1 l0_2 a0_3 t265 t266 t269 t272 = some r) ∧ Aside0 (kq ≤ k) ∧ Aside0 (Kd.R k60 60 wc w.heap.size (fun k_ => some k_ ≠ ((.slice Ao27 t269.length co27) : Value).ownBlock) (.slice Ao26 t266.length co26) t266) ∧ Aside0 (Kd.R k60 60 wc w.heap.size (fun k_ => some k_ ≠ ((.slice Ao26 t266.length co26) : Value).ownBlock) (.slice Ao27 t269.length co27) t269) ∧ Aside0 (wc.heap[gb253]? = some (.cells #[.int .i64 a0_0, (.slice A0_1 l0_1.length c0_1), (.slice A0_2 l0_2.length c0_2), .int .i64 a0_3] 35 (0, 0))) ∧ Aside0 (wc.heap[gb273]? = some (.cells #[.int .i64 t265, (.slice Ao26 t266.length co26), (.slice Ao27 t269.length co27), .int .i64 t272] 27 (0, 0))) ∧ Aside0 (Below w.heap.size w wc))
  case first =>
   have H := HC12.out
   clear HC12
   by_cases c29 : t274 = t263
   ·rw [if_pos c29] at H
    have c29b0 : (t274 == t263) = true := beq_iff_eq.mpr c29
    have c29b1 : (t274 != t263) = false := bne_eq_false_iff_eq.mpr c29
    clear c29
    (first | rw [c29b0] | (simp only [i64_w, i32_w]; rw [c29b0]) | skip)
    have H' := Aside0.mk H
    clear H
    go_wp2
    go_meet
    case rel => exact ⟨_, ((t275 != t264)), (by first | rfl | (simp; done) | (simp [*]; done)), H', ⟨by first | omega | exact Nat.le_refl _⟩, ⟨by (with_reducible repeat (first | apply Kd.R_alloc | apply Kd.R_drewN | apply Kd.R_drew)); exact Kd.R_mono HO268.out (fun _ hk => hk.1.1)⟩, ⟨by (with_reducible repeat (first | apply Kd.R_alloc | apply Kd.R_drewN | apply Kd.R_drew)); exact Kd.R_mono HO271.out (fun _ hk => hk.1.1)⟩, ⟨by (with_reducible repeat (first | refine Op.b1 ?_ _ | refine Op.b2 ?_ | refine Op.b3 ?_ _)); exact BK253.out⟩, ⟨by (with_reducible repeat (first | refine Op.b1 ?_ _ | refine Op.b2 ?_ | refine Op.b3 ?_ _)); exact BK273.out⟩, ⟨by repeat (first | (with_reducible first | exact HB.out | apply Op.a1 | apply Op.a2 | apply Op.a3 | refine Op.a4 ?_ GE253.out | refine Op.a4 ?_ GE273.out) | exact HB.out)⟩⟩
   ·rw [if_neg c29] at H
    have c29b0 : (t274 == t263) = false := beq_eq_false_iff_ne.mpr c29
    have c29b1 : (t274 != t263) = true := bne_iff_ne.mpr c29
    (first | rw [c29b0] | (simp only [i64_w, i32_w]; rw [c29b0]) | skip)
    have H' := Aside0.mk H
    clear H
    go_wp2
    go_meet
    case rel => exact ⟨_, (true), (by first | rfl | (simp; done) | (simp [*]; done)), H', ⟨by first | omega | exact Nat.le_refl _⟩, ⟨by (with_reducible repeat (first | apply Kd.R_alloc | apply Kd.R_drewN | apply Kd.R_drew)); exact Kd.R_mono HO268.out (fun _ hk => hk.1.1)⟩, ⟨by (with_reducible repeat (first | apply Kd.R_alloc | apply Kd.R_drewN | apply Kd.R_drew)); exact Kd.R_mono HO271.out (fun _ hk => hk.1.1)⟩, ⟨by (with_reducible repeat (first | refine Op.b1 ?_ _ | refine Op.b2 ?_ | refine Op.b3 ?_ _)); exact BK253.out⟩, ⟨by (with_reducible repeat (first | refine Op.b1 ?_ _ | refine Op.b2 ?_ | refine Op.b3 ?_ _)); exact BK273.out⟩, ⟨by repeat (first | (with_reducible first | exact HB.out | apply Op.a1 | apply Op.a2 | apply Op.a3 | refine Op.a4 ?_ GE253.out | refine Op.a4 ?_ GE273.out) | exact HB.out)⟩⟩
  case rest =>
   clear HC12
   try clear c1
   try clear c2
   try clear p2
   try clear c4
   try clear c4b0
   try clear c6
   try clear c16
   try clear c18
   try clear c20
   try clear c21
   try clear c24
   try clear c29
   try clear c29b0
   try clear c29b1
   try clear hcz14_0
   try clear hcz14_1
   try clear hcz14_2
   try clear hcz14_3
   try clear hcz16_0
   try clear hcz16_1
   try clear hcz16_2
   try clear hcz16_3
   try clear hcz21_0
   try clear hcz21_1
   try clear hcz21_2
   try clear hcz21_3
   try clear hcz25_0
   try clear hcz25_1
   try clear hcz25_2
   try clear hcz25_3
   try clear hcz6_0
   try clear hcz6_1
   try clear hcz6_2
   try clear hcz6_3
   try clear hfz14_0
   try clear hfz14_1
   try clear hfz14_2
   try clear hfz14_3
   try clear hfz16_0
   try clear hfz16_1
   try clear hfz16_2
   try clear hfz16_3
   try clear hfz21_0
   try clear hfz21_1
   try clear hfz21_2
   try clear hfz21_3
   try clear hfz25_0
   try clear hfz25_1
   try clear hfz25_2
   try clear hfz25_3
   try clear hfz6_0
   try clear hfz6_1
   try clear hfz6_2
   try clear hfz6_3
   obtain ⟨kq, x38_11, rfl, HA, HJ11, HO_274001, HO_274002, BK253, BK273, HB⟩ := hcut
   cases kq with
   | zero => exact absurd HA.out (by simp [laws_FnExactFindKey.j0])
   | succ kj11 =>
    have H := HA.out
    clear HA
    simp only [laws_FnExactFindKey.j0] at H
    by_cases c30 : x38_11 = true
    ·subst c30
     have H1 : (some false) = some r := by rw [if_pos rfl] at H; exact H
     clear H
     have H := H1
     clear H1
     obtain rfl := Option.some.inj H
     go_wp2
     go_ret
     exact ⟨by first | rfl | (simp [errW_none, errW_some] <;> rfl) | (simp [*, errW_none, errW_some] <;> rfl), by repeat (first | (with_reducible first | exact HB.out | apply Op.a1 | apply Op.a2 | apply Op.a3 | refine Op.a4 ?_ GE253.out | refine Op.a4 ?_ GE273.out) | exact HB.out)⟩
    ·replace c30 := Bool.eq_false_iff.mpr c30
     subst c30
     have H1 : ((laws_toTable.f kj11 a0_0 l0_1 l0_2 a0_3).bind fun bt276 => ((laws_eqTable.f kj11 t265 t266 t269 t272 bt276.1 bt276.2.1 bt276.2.2.1 bt276.2.2.2).bind fun t284 => (if t284 = true then (some true) else (some false)))) = some r := by rw [if_neg (show ¬ (false = true) by decide)] at H; exact H
     clear H
     have H := H1
     clear H1
     replace H := Option.bind_eq_some_iff.mp H
     obtain ⟨⟨t276, t277, t280, t283⟩, A310, H⟩ := H
     replace H : ((laws_eqTable.f kj11 t265 t266 t269 t272 t276 t277 t280 t283).bind fun t284 => (if t284 = true then (some true) else (some false))) = some r := H
     have A31 := Aside0.mk A310
     clear A310
     replace H := Option.bind_eq_some_iff.mp H
     obtain ⟨t284, A320, H⟩ := H
     replace H : (if t284 = true then (some true) else (some false)) = some r := H
     have A32 := Aside0.mk A320
     clear A320
     by_cases c33 : t284 = true
     ·subst c33
      have H1 : (some true) = some r := by rw [if_pos rfl] at H; exact H
      clear H
      have H := H1
      clear H1
      obtain rfl := Option.some.inj H
      try go_wp2
      have n0_ := Aside0.mk (Kd.R_drew HO_274001.out)
      have n1_ := Aside0.mk (Kd.R_drew HO_274002.out)
      have n2_ := Aside0.mk (Op.b2 BK253.out)
      have n3_ := Aside0.mk (Op.b2 BK273.out)
      have n4_ := Aside0.mk (Op.a3 HB.out)
      clear HO_274001
      clear HO_274002
      clear BK253
      clear BK273
      clear HB
      have HO_274001 := n0_
      have HO_274002 := n1_
      have BK253 := n2_
      have BK273 := n3_
      have HB := n4_
      clear n0_ n1_ n2_ n3_ n4_
      refine start_ (n := 5) (S := fun w' => w'.cell? ⟨gb273, 0, none⟩ = some (.int .i64 t265) ∧ w'.cell? ⟨gb273, 1, none⟩ = some (.slice Ao26 t266.length co26) ∧ w'.cell? ⟨gb273, 2, none⟩ = some (.slice Ao27 t269.length co27) ∧ w'.cell? ⟨gb273, 3, none⟩ = some (.int .i64 t272) ∧ w'.cell? ⟨gb253, 0, none⟩ = some (.int .i64 a0_0) ∧ w'.cell? ⟨gb253, 1, none⟩ = some (.slice A0_1 l0_1.length c0_1) ∧ w'.cell? ⟨gb253, 2, none⟩ = some (.slice A0_2 l0_2.length c0_2) ∧ w'.cell? ⟨gb253, 3, none⟩ = some (.int .i64 a0_3)) (ds := []) #[false, false, false, false, false] (by kernel_rfl) rfl rfl ⟨(blk_cell BK273.out 0).trans rfl, (blk_cell BK273.out 1).trans rfl, (blk_cell BK273.out 2).trans rfl, (blk_cell BK273.out 3).trans rfl, (blk_cell BK253.out 0).trans rfl, (blk_cell BK253.out 1).trans rfl, (blk_cell BK253.out 2).trans rfl, (blk_cell BK253.out 3).trans rfl⟩ (fun hHeld => ?_)
      generalize wc.drew = w34 at HO_274001 HO_274002 BK253 BK273 HB hHeld ⊢
      refine take_ (i := 0) (N := some 39) (v := ?_) (a' := ?_) #[true, false, false, false, false] rfl rfl (by kernel_rfl) (fun _ _ _ h => h) (Or.inl ⟨by rfl, ?_⟩) hHeld ?_ ?_
      rotate_left
      ·rintro w' ⟨s0, s1, s2, s3, s4, s5, s6, s7⟩
       go_simp
       with_reducible rfl
      rotate_left
      ·simp only [Act.put, List.setIfInBounds_toArray, List.set_cons_zero, List.set_cons_succ, i64_w, i32_w]
       rfl
      refine take_ (i := 1) (N := some 40) (v := ?_) (a' := ?_) #[true, true, false, false, false] rfl rfl (by kernel_rfl) (fun _ _ _ h => h) (Or.inl ⟨by rfl, ?_⟩) hHeld ?_ ?_
      rotate_left
      ·rintro w' ⟨s0, s1, s2, s3, s4, s5, s6, s7⟩
       go_simp
       with_reducible rfl
      rotate_left
      ·simp only [Act.put, List.setIfInBounds_toArray, List.set_cons_zero, List.set_cons_succ, i64_w, i32_w]
       rfl
      refine one_ (i := 2) (N := some 41) #[true, true, true, false, false] rfl rfl (by kernel_rfl) (by decide) (fun K hK => ?_)
      refine goes_ Try.func18 (by kernel_rfl) rfl #[.agg #[.int .i64 a0_0, .slice A0_1 l0_1.length c0_1, .slice A0_2 l0_2.length c0_2, .int .i64 a0_3]] (by rfl) rfl rfl (by (try simp only [List.map_toArray, List.map_cons, List.map_nil]); first | done | rfl | (simp only [List.length_drop, List.length_take]; rfl)) ?_
      with_reducible refine (laws_toTable.calls kj11 a0_0 _ _ l0_1 _ _ l0_2 a0_3 t276 t277 t280 t283 _ ?side1 ?side2 ?side3 ?side4 A31.out).mono ?_
      (case side1 => repeat (first | exact (Kd.C_below HR0_1.out HB.out) | (with_reducible refine Kd.C_alloc ?_ _) | (with_reducible refine Kd.C_drewN ?_ _) | (with_reducible refine Kd.C_drew ?_)))
      (case side2 => exact HC0_1.out)
      (case side3 => repeat (first | exact (Kd.C_below HR0_2.out HB.out) | (with_reducible refine Kd.C_alloc ?_ _) | (with_reducible refine Kd.C_drewN ?_ _) | (with_reducible refine Kd.C_drew ?_)))
      (case side4 => exact HC0_2.out)
      rintro e w35 ⟨v278, v281, rfl, ho0, ho1, hb⟩
      refine ⟨_, rfl, ?_⟩
      have n0_ := Aside0.mk (Kd.R_mono (Kd.R_told (Kd.R_told (Kd.R_old (by (with_reducible repeat (first | apply Kd.R_alloc | apply Kd.R_drewN | apply Kd.R_drew)); exact HO_274001.out) hb) (Kd.R_base ho0)) (Kd.R_base ho1)) (fun _ h_ => h_.1))
      have n1_ := Aside0.mk (Kd.R_mono (Kd.R_told (Kd.R_told (Kd.R_old (by (with_reducible repeat (first | apply Kd.R_alloc | apply Kd.R_drewN | apply Kd.R_drew)); exact HO_274002.out) hb) (Kd.R_base ho0)) (Kd.R_base ho1)) (fun _ h_ => h_.1))
      have n2_ := Aside0.mk (Kd.R_lower (Kd.R_new' (Kd.R_new' ho0 (Kd.R_lt (by (with_reducible repeat (first | apply Kd.R_alloc | apply Kd.R_drewN | apply Kd.R_drew)); exact HO_274001.out))) (Kd.R_lt (by (with_reducible repeat (first | apply Kd.R_alloc | apply Kd.R_drewN | apply Kd.R_drew)); exact HO_274002.out))) (Op.a6 (by repeat (first | (with_reducible first | exact HB.out | apply Op.a1 | apply Op.a2 | apply Op.a3 | refine Op.a4 ?_ GE253.out | refine Op.a4 ?_ GE273.out) | exact HB.out))))
      have n3_ := Aside0.mk (Kd.R_lower (Kd.R_new' (Kd.R_new' ho1 (Kd.R_lt (by (with_reducible repeat (first | apply Kd.R_alloc | apply Kd.R_drewN | apply Kd.R_drew)); exact HO_274001.out))) (Kd.R_lt (by (with_reducible repeat (first | apply Kd.R_alloc | apply Kd.R_drewN | apply Kd.R_drew)); exact HO_274002.out))) (Op.a6 (by repeat (first | (with_reducible first | exact HB.out | apply Op.a1 | apply Op.a2 | apply Op.a3 | refine Op.a4 ?_ GE253.out | refine Op.a4 ?_ GE273.out) | exact HB.out))))
      have n4_ := Aside0.mk (Op.b4 (g := gb253) (o := .cells #[.int .i64 a0_0, .slice A0_1 l0_1.length c0_1, .slice A0_2 l0_2.length c0_2, .int .i64 a0_3] 35 (0, 0)) (by (with_reducible repeat (first | refine Op.b1 ?_ _ | refine Op.b2 ?_ | refine Op.b3 ?_ _)); exact BK253.out) hb)
      have n5_ := Aside0.mk (Op.b4 (g := gb273) (o := .cells #[.int .i64 t265, .slice Ao26 t266.length co26, .slice Ao27 t269.length co27, .int .i64 t272] 27 (0, 0)) (by (with_reducible repeat (first | refine Op.b1 ?_ _ | refine Op.b2 ?_ | refine Op.b3 ?_ _)); exact BK273.out) hb)
      have n6_ := Aside0.mk (Op.a5 (by repeat (first | (with_reducible first | exact HB.out | apply Op.a1 | apply Op.a2 | apply Op.a3 | refine Op.a4 ?_ GE253.out | refine Op.a4 ?_ GE273.out) | exact HB.out)) hb)
      clear HO_274001
      clear HO_274002
      clear BK253
      clear BK273
      clear HB
      have HO_274001 := n0_
      have HO_274002 := n1_
      have HO279 := n2_
      have HO282 := n3_
      have BK253 := n4_
      have BK273 := n5_
      have HB := n6_
      clear n0_ n1_ n2_ n3_ n4_ n5_ n6_
      (try clear hb)
      (try clear hb2)
      (try clear hk)
      (try clear hi)
      (try clear ho0)
      (try clear ho1)
      obtain ⟨Ao36, co36, eo36⟩ := Kd.R_slice HO279.out
      (first | subst eo36 | (injection eo36 with f1_ f2_ f3_; have f4_ := f1_.symm; have f5_ := f3_.symm; clear f1_ f2_ f3_; subst f4_; subst f5_))
      obtain ⟨Ao37, co37, eo37⟩ := Kd.R_slice HO282.out
      (first | subst eo37 | (injection eo37 with f1_ f2_ f3_; have f4_ := f1_.symm; have f5_ := f3_.symm; clear f1_ f2_ f3_; subst f4_; subst f5_))
      refine hK.out _ _ ⟨(blk_cell BK273.out 0).trans rfl, (blk_cell BK273.out 1).trans rfl, (blk_cell BK273.out 2).trans rfl, (blk_cell BK273.out 3).trans rfl, (blk_cell BK253.out 0).trans rfl, (blk_cell BK253.out 1).trans rfl, (blk_cell BK253.out 2).trans rfl, (blk_cell BK253.out 3).trans rfl⟩ (fun hHeld => ?_)
      clear hK K
      refine norm_ (a' := ?_) ?_ ?_
      rotate_left
      ·show Act.put _ (some 41) _ = _
       simp only [Act.put, List.setIfInBounds_toArray, List.set_cons_zero, List.set_cons_succ, i64_w, i32_w]
       rfl
      refine one_ (i := 3) (N := some 42) #[true, true, true, true, false] rfl rfl (by kernel_rfl) (by decide) (fun K hK => ?_)
      refine goes_ Try.func13 (by kernel_rfl) rfl #[.agg #[.int .i64 t265, .slice Ao26 t266.length co26, .slice Ao27 t269.length co27, .int .i64 t272], .agg #[.int .i64 t276, .slice Ao36 t277.length co36, .slice Ao37 t280.length co37, .int .i64 t283]] (by rfl) rfl rfl (by (try simp only [List.map_toArray, List.map_cons, List.map_nil]); first | done | rfl | (simp only [List.length_drop, List.length_take]; rfl)) ?_
      with_reducible refine (laws_eqTable.calls kj11 t265 _ _ t266 _ _ t269 t272 t276 _ _ t277 _ _ t280 t283 true _ ?side1 ?side2 ?side3 ?side4 ?side5 ?side6 ?side7 ?side8 A32.out).mono ?_
      (case side1 => repeat (first | exact (Kd.R_reads' HO_274001.out).2.2 | (with_reducible refine Kd.C_alloc ?_ _) | (with_reducible refine Kd.C_drewN ?_ _) | (with_reducible refine Kd.C_drew ?_)))
      (case side2 => exact (Kd.R_reads' HO_274001.out).2.1)
      (case side3 => repeat (first | exact (Kd.R_reads' HO_274002.out).2.2 | (with_reducible refine Kd.C_alloc ?_ _) | (with_reducible refine Kd.C_drewN ?_ _) | (with_reducible refine Kd.C_drew ?_)))
      (case side4 => exact (Kd.R_reads' HO_274002.out).2.1)
      (case side5 => repeat (first | exact (Kd.R_reads' HO279.out).2.2 | (with_reducible refine Kd.C_alloc ?_ _) | (with_reducible refine Kd.C_drewN ?_ _) | (with_reducible refine Kd.C_drew ?_)))
      (case side6 => exact (Kd.R_reads' HO279.out).2.1)
      (case side7 => repeat (first | exact (Kd.R_reads' HO282.out).2.2 | (with_reducible refine Kd.C_alloc ?_ _) | (with_reducible refine Kd.C_drewN ?_ _) | (with_reducible refine Kd.C_drew ?_)))
      (case side8 => exact (Kd.R_reads' HO282.out).2.1)
      rintro e w38 ⟨rfl, hb⟩
      refine ⟨_, rfl, ?_⟩
      have n0_ := Aside0.mk (Kd.R_below (by (with_reducible repeat (first | apply Kd.R_alloc | apply Kd.R_drewN | apply Kd.R_drew)); exact HO_274001.out) hb)
      have n1_ := Aside0.mk (Kd.R_below (by (with_reducible repeat (first | apply Kd.R_alloc | apply Kd.R_drewN | apply Kd.R_drew)); exact HO_274002.out) hb)
      have n2_ := Aside0.mk (Kd.R_below (by (with_reducible repeat (first | apply Kd.R_alloc | apply Kd.R_drewN | apply Kd.R_drew)); exact HO279.out) hb)
      have n3_ := Aside0.mk (Kd.R_below (by (with_reducible repeat (first | apply Kd.R_alloc | apply Kd.R_drewN | apply Kd.R_drew)); exact HO282.out) hb)
      have n4_ := Aside0.mk (Op.b4 (g := gb253) (o := .cells #[.int .i64 a0_0, .slice A0_1 l0_1.length c0_1, .slice A0_2 l0_2.length c0_2, .int .i64 a0_3] 35 (0, 0)) (by (with_reducible repeat (first | refine Op.b1 ?_ _ | refine Op.b2 ?_ | refine Op.b3 ?_ _)); exact BK253.out) hb)
      have n5_ := Aside0.mk (Op.b4 (g := gb273) (o := .cells #[.int .i64 t265, .slice Ao26 t266.length co26, .slice Ao27 t269.length co27, .int .i64 t272] 27 (0, 0)) (by (with_reducible repeat (first | refine Op.b1 ?_ _ | refine Op.b2 ?_ | refine Op.b3 ?_ _)); exact BK273.out) hb)
      have n6_ := Aside0.mk (Op.a5 (by repeat (first | (with_reducible first | exact HB.out | apply Op.a1 | apply Op.a2 | apply Op.a3 | refine Op.a4 ?_ GE253.out | refine Op.a4 ?_ GE273.out) | exact HB.out)) hb)
      clear HO_274001
      clear HO_274002
      clear HO279
      clear HO282
      clear BK253
      clear BK273
      clear HB
      have HO_274001 := n0_
      have HO_274002 := n1_
      have HO279 := n2_
      have HO282 := n3_
      have BK253 := n4_
      have BK273 := n5_
      have HB := n6_
      clear n0_ n1_ n2_ n3_ n4_ n5_ n6_
      (try clear hb)
      (try clear hb2)
      (try clear hk)
      (try clear hi)
      refine hK.out _ _ ⟨(blk_cell BK273.out 0).trans rfl, (blk_cell BK273.out 1).trans rfl, (blk_cell BK273.out 2).trans rfl, (blk_cell BK273.out 3).trans rfl, (blk_cell BK253.out 0).trans rfl, (blk_cell BK253.out 1).trans rfl, (blk_cell BK253.out 2).trans rfl, (blk_cell BK253.out 3).trans rfl⟩ (fun hHeld => ?_)
      clear hK K
      refine norm_ (a' := ?_) ?_ ?_
      rotate_left
      ·show Act.put _ (some 42) _ = _
       simp only [Act.put, List.setIfInBounds_toArray, List.set_cons_zero, List.set_cons_succ, i64_w, i32_w]
       rfl
      refine pure_ (i := 4) (N := some 43) (v := ?_) (a' := ?_) #[true, true, true, true, true] rfl rfl (by kernel_rfl) (fun _ _ _ h => h) (Or.inl ⟨by rfl, ?_⟩) ?_ ?_
      rotate_left
      ·intro w'
       go_simp
       with_reducible rfl
      rotate_left
      ·simp only [Act.put, List.setIfInBounds_toArray, List.set_cons_zero, List.set_cons_succ, i64_w, i32_w]
       rfl
      refine done_ (by kernel_rfl) ?_
      try go_wp2
      go_ret
      exact ⟨by first | rfl | (simp [errW_none, errW_some] <;> rfl) | (simp [*, errW_none, errW_some] <;> rfl), by repeat (first | (with_reducible first | exact HB.out | apply Op.a1 | apply Op.a2 | apply Op.a3 | refine Op.a4 ?_ GE253.out | refine Op.a4 ?_ GE273.out) | exact HB.out)⟩
     ·replace c33 := Bool.eq_false_iff.mpr c33
      subst c33
      have H1 : (some false) = some r := by rw [if_neg (show ¬ (false = true) by decide)] at H; exact H
      clear H
      have H := H1
      clear H1
      obtain rfl := Option.some.inj H
      try go_wp2
      have n0_ := Aside0.mk (Kd.R_drew HO_274001.out)
      have n1_ := Aside0.mk (Kd.R_drew HO_274002.out)
      have n2_ := Aside0.mk (Op.b2 BK253.out)
      have n3_ := Aside0.mk (Op.b2 BK273.out)
      have n4_ := Aside0.mk (Op.a3 HB.out)
      clear HO_274001
      clear HO_274002
      clear BK253
      clear BK273
      clear HB
      have HO_274001 := n0_
      have HO_274002 := n1_
      have BK253 := n2_
      have BK273 := n3_
      have HB := n4_
      clear n0_ n1_ n2_ n3_ n4_
      refine start_ (n := 5) (S := fun w' => w'.cell? ⟨gb273, 0, none⟩ = some (.int .i64 t265) ∧ w'.cell? ⟨gb273, 1, none⟩ = some (.slice Ao26 t266.length co26) ∧ w'.cell? ⟨gb273, 2, none⟩ = some (.slice Ao27 t269.length co27) ∧ w'.cell? ⟨gb273, 3, none⟩ = some (.int .i64 t272) ∧ w'.cell? ⟨gb253, 0, none⟩ = some (.int .i64 a0_0) ∧ w'.cell? ⟨gb253, 1, none⟩ = some (.slice A0_1 l0_1.length c0_1) ∧ w'.cell? ⟨gb253, 2, none⟩ = some (.slice A0_2 l0_2.length c0_2) ∧ w'.cell? ⟨gb253, 3, none⟩ = some (.int .i64 a0_3)) (ds := []) #[false, false, false, false, false] (by kernel_rfl) rfl rfl ⟨(blk_cell BK273.out 0).trans rfl, (blk_cell BK273.out 1).trans rfl, (blk_cell BK273.out 2).trans rfl, (blk_cell BK273.out 3).trans rfl, (blk_cell BK253.out 0).trans rfl, (blk_cell BK253.out 1).trans rfl, (blk_cell BK253.out 2).trans rfl, (blk_cell BK253.out 3).trans rfl⟩ (fun hHeld => ?_)
      generalize wc.drew = w39 at HO_274001 HO_274002 BK253 BK273 HB hHeld ⊢
      refine take_ (i := 0) (N := some 39) (v := ?_) (a' := ?_) #[true, false, false, false, false] rfl rfl (by kernel_rfl) (fun _ _ _ h => h) (Or.inl ⟨by rfl, ?_⟩) hHeld ?_ ?_
      rotate_left
      ·rintro w' ⟨s0, s1, s2, s3, s4, s5, s6, s7⟩
       go_simp
       with_reducible rfl
      rotate_left
      ·simp only [Act.put, List.setIfInBounds_toArray, List.set_cons_zero, List.set_cons_succ, i64_w, i32_w]
       rfl
      refine take_ (i := 1) (N := some 40) (v := ?_) (a' := ?_) #[true, true, false, false, false] rfl rfl (by kernel_rfl) (fun _ _ _ h => h) (Or.inl ⟨by rfl, ?_⟩) hHeld ?_ ?_
      rotate_left
      ·rintro w' ⟨s0, s1, s2, s3, s4, s5, s6, s7⟩
       go_simp
       with_reducible rfl
      rotate_left
      ·simp only [Act.put, List.setIfInBounds_toArray, List.set_cons_zero, List.set_cons_succ, i64_w, i32_w]
       rfl
      refine one_ (i := 2) (N := some 41) #[true, true, true, false, false] rfl rfl (by kernel_rfl) (by decide) (fun K hK => ?_)
      refine goes_ Try.func18 (by kernel_rfl) rfl #[.agg #[.int .i64 a0_0, .slice A0_1 l0_1.length c0_1, .slice A0_2 l0_2.length c0_2, .int .i64 a0_3]] (by rfl) rfl rfl (by (try simp only [List.map_toArray, List.map_cons, List.map_nil]); first | done | rfl | (simp only [List.length_drop, List.length_take]; rfl)) ?_
      with_reducible refine (laws_toTable.calls kj11 a0_0 _ _ l0_1 _ _ l0_2 a0_3 t276 t277 t280 t283 _ ?side1 ?side2 ?side3 ?side4 A31.out).mono ?_
      (case side1 => repeat (first | exact (Kd.C_below HR0_1.out HB.out) | (with_reducible refine Kd.C_alloc ?_ _) | (with_reducible refine Kd.C_drewN ?_ _) | (with_reducible refine Kd.C_drew ?_)))
      (case side2 => exact HC0_1.out)
      (case side3 => repeat (first | exact (Kd.C_below HR0_2.out HB.out) | (with_reducible refine Kd.C_alloc ?_ _) | (with_reducible refine Kd.C_drewN ?_ _) | (with_reducible refine Kd.C_drew ?_)))
      (case side4 => exact HC0_2.out)
      rintro e w40 ⟨v278, v281, rfl, ho0, ho1, hb⟩
      refine ⟨_, rfl, ?_⟩
      have n0_ := Aside0.mk (Kd.R_mono (Kd.R_told (Kd.R_told (Kd.R_old (by (with_reducible repeat (first | apply Kd.R_alloc | apply Kd.R_drewN | apply Kd.R_drew)); exact HO_274001.out) hb) (Kd.R_base ho0)) (Kd.R_base ho1)) (fun _ h_ => h_.1))
      have n1_ := Aside0.mk (Kd.R_mono (Kd.R_told (Kd.R_told (Kd.R_old (by (with_reducible repeat (first | apply Kd.R_alloc | apply Kd.R_drewN | apply Kd.R_drew)); exact HO_274002.out) hb) (Kd.R_base ho0)) (Kd.R_base ho1)) (fun _ h_ => h_.1))
      have n2_ := Aside0.mk (Kd.R_lower (Kd.R_new' (Kd.R_new' ho0 (Kd.R_lt (by (with_reducible repeat (first | apply Kd.R_alloc | apply Kd.R_drewN | apply Kd.R_drew)); exact HO_274001.out))) (Kd.R_lt (by (with_reducible repeat (first | apply Kd.R_alloc | apply Kd.R_drewN | apply Kd.R_drew)); exact HO_274002.out))) (Op.a6 (by repeat (first | (with_reducible first | exact HB.out | apply Op.a1 | apply Op.a2 | apply Op.a3 | refine Op.a4 ?_ GE253.out | refine Op.a4 ?_ GE273.out) | exact HB.out))))
      have n3_ := Aside0.mk (Kd.R_lower (Kd.R_new' (Kd.R_new' ho1 (Kd.R_lt (by (with_reducible repeat (first | apply Kd.R_alloc | apply Kd.R_drewN | apply Kd.R_drew)); exact HO_274001.out))) (Kd.R_lt (by (with_reducible repeat (first | apply Kd.R_alloc | apply Kd.R_drewN | apply Kd.R_drew)); exact HO_274002.out))) (Op.a6 (by repeat (first | (with_reducible first | exact HB.out | apply Op.a1 | apply Op.a2 | apply Op.a3 | refine Op.a4 ?_ GE253.out | refine Op.a4 ?_ GE273.out) | exact HB.out))))
      have n4_ := Aside0.mk (Op.b4 (g := gb253) (o := .cells #[.int .i64 a0_0, .slice A0_1 l0_1.length c0_1, .slice A0_2 l0_2.length c0_2, .int .i64 a0_3] 35 (0, 0)) (by (with_reducible repeat (first | refine Op.b1 ?_ _ | refine Op.b2 ?_ | refine Op.b3 ?_ _)); exact BK253.out) hb)
      have n5_ := Aside0.mk (Op.b4 (g := gb273) (o := .cells #[.int .i64 t265, .slice Ao26 t266.length co26, .slice Ao27 t269.length co27, .int .i64 t272] 27 (0, 0)) (by (with_reducible repeat (first | refine Op.b1 ?_ _ | refine Op.b2 ?_ | refine Op.b3 ?_ _)); exact BK273.out) hb)
      have n6_ := Aside0.mk (Op.a5 (by repeat (first | (with_reducible first | exact HB.out | apply Op.a1 | apply Op.a2 | apply Op.a3 | refine Op.a4 ?_ GE253.out | refine Op.a4 ?_ GE273.out) | exact HB.out)) hb)
      clear HO_274001
      clear HO_274002
      clear BK253
      clear BK273
      clear HB
      have HO_274001 := n0_
      have HO_274002 := n1_
      have HO279 := n2_
      have HO282 := n3_
      have BK253 := n4_
      have BK273 := n5_
      have HB := n6_
      clear n0_ n1_ n2_ n3_ n4_ n5_ n6_
      (try clear hb)
      (try clear hb2)
      (try clear hk)
      (try clear hi)
      (try clear ho0)
      (try clear ho1)
      obtain ⟨Ao41, co41, eo41⟩ := Kd.R_slice HO279.out
      (first | subst eo41 | (injection eo41 with f1_ f2_ f3_; have f4_ := f1_.symm; have f5_ := f3_.symm; clear f1_ f2_ f3_; subst f4_; subst f5_))
      obtain ⟨Ao42, co42, eo42⟩ := Kd.R_slice HO282.out
      (first | subst eo42 | (injection eo42 with f1_ f2_ f3_; have f4_ := f1_.symm; have f5_ := f3_.symm; clear f1_ f2_ f3_; subst f4_; subst f5_))
      refine hK.out _ _ ⟨(blk_cell BK273.out 0).trans rfl, (blk_cell BK273.out 1).trans rfl, (blk_cell BK273.out 2).trans rfl, (blk_cell BK273.out 3).trans rfl, (blk_cell BK253.out 0).trans rfl, (blk_cell BK253.out 1).trans rfl, (blk_cell BK253.out 2).trans rfl, (blk_cell BK253.out 3).trans rfl⟩ (fun hHeld => ?_)
      clear hK K
      refine norm_ (a' := ?_) ?_ ?_
      rotate_left
      ·show Act.put _ (some 41) _ = _
       simp only [Act.put, List.setIfInBounds_toArray, List.set_cons_zero, List.set_cons_succ, i64_w, i32_w]
       rfl
      refine one_ (i := 3) (N := some 42) #[true, true, true, true, false] rfl rfl (by kernel_rfl) (by decide) (fun K hK => ?_)
      refine goes_ Try.func13 (by kernel_rfl) rfl #[.agg #[.int .i64 t265, .slice Ao26 t266.length co26, .slice Ao27 t269.length co27, .int .i64 t272], .agg #[.int .i64 t276, .slice Ao41 t277.length co41, .slice Ao42 t280.length co42, .int .i64 t283]] (by rfl) rfl rfl (by (try simp only [List.map_toArray, List.map_cons, List.map_nil]); first | done | rfl | (simp only [List.length_drop, List.length_take]; rfl)) ?_
      with_reducible refine (laws_eqTable.calls kj11 t265 _ _ t266 _ _ t269 t272 t276 _ _ t277 _ _ t280 t283 false _ ?side1 ?side2 ?side3 ?side4 ?side5 ?side6 ?side7 ?side8 A32.out).mono ?_
      (case side1 => repeat (first | exact (Kd.R_reads' HO_274001.out).2.2 | (with_reducible refine Kd.C_alloc ?_ _) | (with_reducible refine Kd.C_drewN ?_ _) | (with_reducible refine Kd.C_drew ?_)))
      (case side2 => exact (Kd.R_reads' HO_274001.out).2.1)
      (case side3 => repeat (first | exact (Kd.R_reads' HO_274002.out).2.2 | (with_reducible refine Kd.C_alloc ?_ _) | (with_reducible refine Kd.C_drewN ?_ _) | (with_reducible refine Kd.C_drew ?_)))
      (case side4 => exact (Kd.R_reads' HO_274002.out).2.1)
      (case side5 => repeat (first | exact (Kd.R_reads' HO279.out).2.2 | (with_reducible refine Kd.C_alloc ?_ _) | (with_reducible refine Kd.C_drewN ?_ _) | (with_reducible refine Kd.C_drew ?_)))
      (case side6 => exact (Kd.R_reads' HO279.out).2.1)
      (case side7 => repeat (first | exact (Kd.R_reads' HO282.out).2.2 | (with_reducible refine Kd.C_alloc ?_ _) | (with_reducible refine Kd.C_drewN ?_ _) | (with_reducible refine Kd.C_drew ?_)))
      (case side8 => exact (Kd.R_reads' HO282.out).2.1)
      rintro e w43 ⟨rfl, hb⟩
      refine ⟨_, rfl, ?_⟩
      have n0_ := Aside0.mk (Kd.R_below (by (with_reducible repeat (first | apply Kd.R_alloc | apply Kd.R_drewN | apply Kd.R_drew)); exact HO_274001.out) hb)
      have n1_ := Aside0.mk (Kd.R_below (by (with_reducible repeat (first | apply Kd.R_alloc | apply Kd.R_drewN | apply Kd.R_drew)); exact HO_274002.out) hb)
      have n2_ := Aside0.mk (Kd.R_below (by (with_reducible repeat (first | apply Kd.R_alloc | apply Kd.R_drewN | apply Kd.R_drew)); exact HO279.out) hb)
      have n3_ := Aside0.mk (Kd.R_below (by (with_reducible repeat (first | apply Kd.R_alloc | apply Kd.R_drewN | apply Kd.R_drew)); exact HO282.out) hb)
      have n4_ := Aside0.mk (Op.b4 (g := gb253) (o := .cells #[.int .i64 a0_0, .slice A0_1 l0_1.length c0_1, .slice A0_2 l0_2.length c0_2, .int .i64 a0_3] 35 (0, 0)) (by (with_reducible repeat (first | refine Op.b1 ?_ _ | refine Op.b2 ?_ | refine Op.b3 ?_ _)); exact BK253.out) hb)
      have n5_ := Aside0.mk (Op.b4 (g := gb273) (o := .cells #[.int .i64 t265, .slice Ao26 t266.length co26, .slice Ao27 t269.length co27, .int .i64 t272] 27 (0, 0)) (by (with_reducible repeat (first | refine Op.b1 ?_ _ | refine Op.b2 ?_ | refine Op.b3 ?_ _)); exact BK273.out) hb)
      have n6_ := Aside0.mk (Op.a5 (by repeat (first | (with_reducible first | exact HB.out | apply Op.a1 | apply Op.a2 | apply Op.a3 | refine Op.a4 ?_ GE253.out | refine Op.a4 ?_ GE273.out) | exact HB.out)) hb)
      clear HO_274001
      clear HO_274002
      clear HO279
      clear HO282
      clear BK253
      clear BK273
      clear HB
      have HO_274001 := n0_
      have HO_274002 := n1_
      have HO279 := n2_
      have HO282 := n3_
      have BK253 := n4_
      have BK273 := n5_
      have HB := n6_
      clear n0_ n1_ n2_ n3_ n4_ n5_ n6_
      (try clear hb)
      (try clear hb2)
      (try clear hk)
      (try clear hi)
      refine hK.out _ _ ⟨(blk_cell BK273.out 0).trans rfl, (blk_cell BK273.out 1).trans rfl, (blk_cell BK273.out 2).trans rfl, (blk_cell BK273.out 3).trans rfl, (blk_cell BK253.out 0).trans rfl, (blk_cell BK253.out 1).trans rfl, (blk_cell BK253.out 2).trans rfl, (blk_cell BK253.out 3).trans rfl⟩ (fun hHeld => ?_)
      clear hK K
      refine norm_ (a' := ?_) ?_ ?_
      rotate_left
      ·show Act.put _ (some 42) _ = _
       simp only [Act.put, List.setIfInBounds_toArray, List.set_cons_zero, List.set_cons_succ, i64_w, i32_w]
       rfl
      refine pure_ (i := 4) (N := some 43) (v := ?_) (a' := ?_) #[true, true, true, true, true] rfl rfl (by kernel_rfl) (fun _ _ _ h => h) (Or.inl ⟨by rfl, ?_⟩) ?_ ?_
      rotate_left
      ·intro w'
       go_simp
       with_reducible rfl
      rotate_left
      ·simp only [Act.put, List.setIfInBounds_toArray, List.set_cons_zero, List.set_cons_succ, i64_w, i32_w]
       rfl
      refine done_ (by kernel_rfl) ?_
      try go_wp2
      go_ret
      exact ⟨by first | rfl | (simp [errW_none, errW_some] <;> rfl) | (simp [*, errW_none, errW_some] <;> rfl), by repeat (first | (with_reducible first | exact HB.out | apply Op.a1 | apply Op.a2 | apply Op.a3 | refine Op.a4 ?_ GE253.out | refine Op.a4 ?_ GE273.out) | exact HB.out)⟩

/-- THE ONE PURE STATEMENT of laws_FnExactFindKey: yours. -/
def laws_FnExactFindKey.Pure : Prop := ∀ (a0_0 : Int) (l0_1 : List (S71)) (l0_2 : List (S71)) (a0_3 : Int) (a1 : Int), ((Lit.int .i64 a0_0).wf = true) → (l0_1.length ≤ maxLen ∧ ∀ y_ ∈ l0_1, (fun z_ : S71 => (True) ∧ ((Lit.int .i64 (z_).f1).wf = true) ∧ ((Lit.int .i64 (z_).f2).wf = true)) y_) → (l0_2.length ≤ maxLen ∧ ∀ y_ ∈ l0_2, (fun z_ : S71 => (True) ∧ ((Lit.int .i64 (z_).f1).wf = true) ∧ ((Lit.int .i64 (z_).f2).wf = true)) y_) → ((Lit.int .i64 a0_3).wf = true) → ((Lit.int .i64 a1).wf = true) → ∃ k, laws_FnExactFindKey.f k a0_0 l0_1 l0_2 a0_3 a1 = some true
set_option maxHeartbeats 1000000 in
theorem laws_FnExactFindKey.walk (P : laws_FnExactFindKey.Pure) (a0_0 : Int) (A0_1 : Option Addr) (c0_1 : Nat) (l0_1 : List (S71)) (A0_2 : Option Addr) (c0_2 : Nat) (l0_2 : List (S71)) (a0_3 : Int) (a1 : Int) (w : World) (hr0_1 : Kd.C k71 w A0_1 l0_1.length l0_1) (hc0_1 : l0_1.length ≤ c0_1) (hr0_2 : Kd.C k71 w A0_2 l0_2.length l0_2) (hc0_2 : l0_2.length ≤ c0_2) (q0_0 : (Lit.int .i64 a0_0).wf = true) (q0_1 : l0_1.length ≤ maxLen ∧ ∀ y_ ∈ l0_1, (fun z_ : S71 => (True) ∧ ((Lit.int .i64 (z_).f1).wf = true) ∧ ((Lit.int .i64 (z_).f2).wf = true)) y_) (q0_2 : l0_2.length ≤ maxLen ∧ ∀ y_ ∈ l0_2, (fun z_ : S71 => (True) ∧ ((Lit.int .i64 (z_).f1).wf = true) ∧ ((Lit.int .i64 (z_).f2).wf = true)) y_) (q0_3 : (Lit.int .i64 a0_3).wf = true) (q1 : (Lit.int .i64 a1).wf = true) :
  Calls Try.prog 6 #[.agg #[.int .i64 a0_0, .slice A0_1 l0_1.length c0_1, .slice A0_2 l0_2.length c0_2, .int .i64 a0_3], .int .i64 a1] w fun e w' => e = .returned (.bool true) ∧ Below w.heap.size w w' := by
 obtain ⟨k, h⟩ := P a0_0 l0_1 l0_2 a0_3 a1 q0_0 q0_1 q0_2 q0_3 q1
 refine (laws_FnExactFindKey.calls k a0_0 _ _ l0_1 _ _ l0_2 a0_3 a1 true w hr0_1 hc0_1 hr0_2 hc0_2 h).mono ?_
 rintro e w' ⟨rfl, hd⟩
 exact ⟨rfl, hd⟩

end Go.Proofs.Ytnohankakmmnoaa.PFnExactFindKey
