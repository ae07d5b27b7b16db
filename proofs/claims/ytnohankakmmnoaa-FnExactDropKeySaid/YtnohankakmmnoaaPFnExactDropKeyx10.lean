/- Contracts of functions of the translation, written by a program of this repo (a changed copy of the printer). Not trusted: Lean checks it. -/
-- squeezed
import Derived.Test.YtnohankakmmnoaaPFnExactDropKeyx0
import Derived.Test.YtnohankakmmnoaaPFnExactDropKeyx7
import Derived.Test.YtnohankakmmnoaaPFnExactDropKeyx9
namespace Go.Proofs.Ytnohankakmmnoaa.PFnExactDropKey
open Go.RowKit Go.Proofs.YtnohankakmmnoaaW.PrintWords Go.Proofs.YtnohankakmmnoaaW.PrintLast Go.Proofs.YtnohankakmmnoaaW.PrintMore
attribute [local go_sem] max2_int min2_int max_two min_two max_three min_three max_four min_four   -- for this text's walks alone
set_option linter.unusedVariables false
set_option linter.unusedSimpArgs false

/-! ### impl_Table_find: function 48 -/
/-- pointers, as elements of a row -/
def impl_Table_find.kp : Kd Addr := Kd.scalar (fun p => Value.pointer (some p)) (fun _ => rfl)
/-- is it the slot of a key -/
def impl_Table_find.hit (s : S60) (key : Int) : Bool := s.f0 && (s.f1 == key)
/-- where a slot lies -/
def impl_Table_find.adr (ad : Addr) (i : Int) : Addr := ad.add (i.toNat * 3)
def impl_Table_find.ret (ad1 ad2 : Addr) (L R : List S60) (a b key : Int) : Value := if impl_Table_find.hit (rd_T60 L a) key = true then .pointer (some (impl_Table_find.adr ad1 a)) else if impl_Table_find.hit (rd_T60 R b) key = true then .pointer (some (impl_Table_find.adr ad2 b)) else .pointer none
theorem impl_Table_find.C_two {w : World} {A : Option Addr} {p q : Addr} (h : Kd.C impl_Table_find.kp w A 2 [p, q]) (i : Int) (h0 : 0 ≤ i) (h1 : i < 2) : ∃ ad, A = some ad ∧ w.cell? (ad.add i.toNat) = some (.pointer (some (if i = 0 then p else q))) := by
 obtain ⟨ad, c, e, _, hK, hc⟩ := Kd.C_get h p i h0 h1
 have hK2 : c = [Value.pointer (some (([p, q] : List Addr).getD i.toNat p))] := hK
 subst hK2
 have h3 := hc 0 _ rfl
 refine ⟨ad, e, ?_⟩
 have e1 : i.toNat * impl_Table_find.kp.sz + 0 = i.toNat := by show i.toNat * 1 + 0 = i.toNat; omega
 rw [e1] at h3
 rw [h3]
 by_cases c0 : i = 0
 ·subst c0; rfl
 ·have : i = 1 := by omega
  subst this; rfl
theorem impl_Table_find.nxt1 {i key : Int} {sl x y : S60} (h : sl = if i = 0 then x else y) (n : impl_Table_find.hit sl key = false) (h1 : 0 < i → impl_Table_find.hit x key = false) (i0 : 0 ≤ i) : impl_Table_find.hit x key = false := by
 by_cases z : i = 0
 ·rw [if_pos z] at h; rw [← h]; exact n
 ·exact h1 (by omega)
theorem impl_Table_find.nxt2 {i key : Int} {sl x y : S60} (h : sl = if i = 0 then x else y) (n : impl_Table_find.hit sl key = false) (hi : i = 1) : impl_Table_find.hit y key = false := by
 rw [if_neg (by omega)] at h; rw [← h]; exact n
theorem impl_Table_find.res {i key : Int} {sl x y : S60} {p p1 p2 q1 q2 : Addr} (hp : p = if i = 0 then p1 else p2) (h : sl = if i = 0 then x else y) (n : impl_Table_find.hit sl key = true) (h1 : 0 < i → impl_Table_find.hit x key = false) (e1 : p1 = q1) (e2 : p2 = q2) (i0 : 0 ≤ i) :
  (if impl_Table_find.hit x key = true then Value.pointer (some q1) else if impl_Table_find.hit y key = true then Value.pointer (some q2) else Value.pointer none) = Value.pointer (some p) := by
 subst e1 e2
 by_cases z : i = 0
 ·rw [if_pos z] at h hp; rw [← h, if_pos n, hp]
 ·rw [if_neg z] at h hp; rw [h1 (by omega), ← h, if_neg (by simp), if_pos n, hp]
theorem impl_Table_find.adr0 (g : Nat) (i : Int) : impl_Table_find.adr ⟨g, 0, none⟩ i = ⟨g, i.toNat * 3, none⟩ := by unfold impl_Table_find.adr; rw [add_at, Nat.zero_add]
theorem impl_Table_find.retL {g : Nat} {ad2 : Addr} {L R : List S60} {a b key : Int} (h : impl_Table_find.hit (rd_T60 L a) key = true) : impl_Table_find.ret ⟨g, 0, none⟩ ad2 L R a b key = .pointer (some ⟨g, a.toNat * 3, none⟩) := by unfold impl_Table_find.ret; rw [if_pos h, impl_Table_find.adr0]
theorem impl_Table_find.retR {g : Nat} {ad1 : Addr} {L R : List S60} {a b key : Int} (h : ¬ impl_Table_find.hit (rd_T60 L a) key = true) (h2 : impl_Table_find.hit (rd_T60 R b) key = true) : impl_Table_find.ret ad1 ⟨g, 0, none⟩ L R a b key = .pointer (some ⟨g, b.toNat * 3, none⟩) := by unfold impl_Table_find.ret; rw [if_neg h, if_pos h2, impl_Table_find.adr0]
theorem impl_Table_find.retN {ad1 ad2 : Addr} {L R : List S60} {a b key : Int} (h : ¬ impl_Table_find.hit (rd_T60 L a) key = true) (h2 : ¬ impl_Table_find.hit (rd_T60 R b) key = true) : impl_Table_find.ret ad1 ad2 L R a b key = .pointer none := by unfold impl_Table_find.ret; rw [if_neg h, if_neg h2]
theorem impl_Table_find.put {w : World} {base g n cap : Nat} {ok : Nat → Prop} {xs : List S60} {i : Int} (h : Kd.R k60 60 w base ok (.slice (some ⟨g, 0, none⟩) n cap) xs) (h0 : 0 ≤ i) (h1 : i < (n : Int)) :
  Kd.R k60 60 (((w.setCell ⟨g, i.toNat * 3, none⟩ (.bool false)).setCell ⟨g, i.toNat * 3 + 1, none⟩ (.int .i64 0)).setCell ⟨g, i.toNat * 3 + 2, none⟩ (.int .i64 0)) base (fun k => some k = (Value.slice (some ⟨g, 0, none⟩) n cap).ownBlock ∧ ok k) (.slice (some ⟨g, 0, none⟩) n cap) (xs.set i.toNat ⟨false, 0, 0⟩) ∧
   Kept w (((w.setCell ⟨g, i.toNat * 3, none⟩ (.bool false)).setCell ⟨g, i.toNat * 3 + 1, none⟩ (.int .i64 0)).setCell ⟨g, i.toNat * 3 + 2, none⟩ (.int .i64 0)) (fun k => some k = (Value.slice (some ⟨g, 0, none⟩) n cap).ownBlock ∧ ok k) := by
 have hok : some g = (Value.slice (some ⟨g, 0, none⟩) n cap).ownBlock ∧ ok g := ⟨rfl, h.1 g rfl⟩
 obtain ⟨ad, e, c0, c1, c2⟩ := at_T60 (Kd.R_reads' h).2.2 i h0 (by have h_ := (Kd.R_reads' h).1; omega)
 injection e with e
 subst e
 have z0 : (⟨g, 0, none⟩ : Addr).add (i.toNat * 3) = ⟨g, i.toNat * 3, none⟩ := by rw [add_at, Nat.zero_add]
 rw [z0] at c0 c1 c2
 have hs := Kd.R_seg (okp := fun _ => False) h i h0 h1 (c := [.bool (rd_T60 xs i).f0, .int .i64 (rd_T60 xs i).f1, .int .i64 (rd_T60 xs i).f2]) (seg := [.bool false, .int .i64 0, .int .i64 0]) (j := 0) rfl (fun j u hj => by
  match j, hj with
  | 0, hj => have := Option.some.inj hj; subst this; exact c0
  | 1, hj => have := Option.some.inj hj; subst this; exact c1
  | 2, hj => have := Option.some.inj hj; subst this; exact c2) (by exact Nat.le_refl 3) (x' := ⟨false, 0, 0⟩) (k60_mkM _ _ _ ⟨false, 0, 0⟩) (fun _ h => h.elim)
 refine ⟨Kd.R_reok rfl hs.1 (fun k hk => by have hk2 : g = k := Option.some.inj hk; subst hk2; exact hok), ?_⟩
 exact Kept.setCell (p := ⟨g, i.toNat * 3 + 2, none⟩) (Kept.setCell (p := ⟨g, i.toNat * 3 + 1, none⟩) (Kept.setCell (p := ⟨g, i.toNat * 3, none⟩) (Kept.refl _ _) (Or.inl hok) _) (Or.inl hok) _) (Or.inl hok) _
theorem impl_Table_find.slot {w : World} {base g n cap : Nat} {ok : Nat → Prop} {xs : List S60} {i : Int} (h : Kd.R k60 60 w base ok (.slice (some ⟨g, 0, none⟩) n cap) xs) (h0 : 0 ≤ i) (h1 : i < (n : Int)) :
  (w.cell? ⟨g, i.toNat * 3, none⟩ = some (.bool (rd_T60 xs i).f0) ∧ w.cell? ⟨g, i.toNat * 3 + 1, none⟩ = some (.int .i64 (rd_T60 xs i).f1) ∧ w.cell? ⟨g, i.toNat * 3 + 2, none⟩ = some (.int .i64 (rd_T60 xs i).f2)) ∧ w.frozen? ⟨g, i.toNat * 3, none⟩ = false ∧ w.frozen? ⟨g, i.toNat * 3 + 1, none⟩ = false ∧ w.frozen? ⟨g, i.toNat * 3 + 2, none⟩ = false := by
 obtain ⟨ad, e, c0, c1, c2⟩ := at_T60 (Kd.R_reads' h).2.2 i h0 (by have h_ := (Kd.R_reads' h).1; omega)
 injection e with e
 subst e
 have z0 : (⟨g, 0, none⟩ : Addr).add (i.toNat * 3) = ⟨g, i.toNat * 3, none⟩ := by rw [add_at, Nat.zero_add]
 rw [z0] at c0 c1 c2
 obtain ⟨cc, hc⟩ := Kd.R_typed h g rfl
 exact ⟨⟨c0, c1, c2⟩, blk_frozen hc _, blk_frozen hc _, blk_frozen hc _⟩
set_option maxHeartbeats 8000000 in
set_option maxRecDepth 100000 in
theorem impl_Table_find.calls (gp : Nat) (s m key : Int) (ad1 ad2 : Addr) (c1 c2 : Nat) (L R : List S60) (a b : Int) (w : World) (hb : w.heap[gp]? = some (.cells #[.int .i64 s, .slice (some ad1) L.length c1, .slice (some ad2) R.length c2, .int .i64 m] 27 (0, 0)))
  (hL : Kd.C k60 w (some ad1) L.length L) (hR : Kd.C k60 w (some ad2) R.length R) (hp : impl_placesOf.f s key = some (a, b)) (a0 : 0 ≤ a) (a1 : a < L.length) (b0 : 0 ≤ b) (b1 : b < R.length) :
  Calls Try.prog 48 #[.pointer (some ⟨gp, 0, none⟩), .int .i64 key] w fun e w' => e = .returned (impl_Table_find.ret ad1 ad2 L R a b key) ∧ Below w.heap.size w w' := by
 obtain ⟨x1, e1, l0, l1, l2⟩ := at_T60 hL a a0 a1
 obtain ⟨x2, e2, r0, r1, r2⟩ := at_T60 hR b b0 b1
 injection e1 with e1
 injection e2 with e2
 subst e1 e2
 obtain ⟨p1, hp1⟩ : ∃ p, p = impl_Table_find.adr ad1 a := ⟨_, rfl⟩
 obtain ⟨p2, hp2⟩ : ∃ p, p = impl_Table_find.adr ad2 b := ⟨_, rfl⟩
 have L0 := Aside0.mk l0
 have L1 := Aside0.mk l1
 have R0 := Aside0.mk r0
 have R1 := Aside0.mk r1
 have P := Aside0.mk hp
 have h0 : w.cell? ⟨gp, 0, none⟩ = some (.int .i64 s) := (blk_cell hb 0).trans rfl
 have HB := Aside0.mk (Below.refl w.heap.size w)
 have BK := Aside0.mk hb
 have E1 := Aside0.mk hp1
 have E2 := Aside0.mk hp2
 have A0 := eq_true a0
 have A1 := eq_true a1
 have B0 := eq_true b0
 have B1 := eq_true b1
 clear hb hL hR hp l0 l1 l2 r0 r1 r2 hp1 hp2 a0 a1 b0 b1
 go_enter Try.func48, Try.ntmps48
 go_upto_region 2 with (go_at_call 35; refine (impl_placesOf.calls _ _ _ _ _ P.out).mono ?_; rintro e wz ⟨rfl, hd⟩; have n1_ := Aside0.mk (Op.b4 BK.out hd.below); have n2_ := Aside0.mk (Op.a5 HB.out hd.below); clear BK HB hd; have BK := n1_; have HB := n2_; clear n1_ n2_)
 (try simp only [Act.put, List.setIfInBounds_toArray, List.set_cons_zero, List.set_cons_succ])
 have HB0 := Aside0.mk (Op.a3 HB.out)
 have BK0 := Aside0.mk (Op.b2 BK.out)
 clear HB BK
 have HB := HB0
 have BK := BK0
 clear HB0 BK0
 refine start_ (n := 15) (S := fun w' => w'.cell? ⟨gp, 1, none⟩ = some (.slice (some ad1) L.length c1) ∧ w'.cell? ⟨gp, 2, none⟩ = some (.slice (some ad2) R.length c2)) (ds := []) #[false, false, false, false, false, false, false, false, false, false, false, false, false, false, false] (by kernel_rfl) rfl rfl ⟨(blk_cell BK.out 1).trans rfl, (blk_cell BK.out 2).trans rfl⟩ (fun hHeld => ?_)
 generalize wz.drew = wy at HB BK hHeld ⊢
 refine pure_ (i := 0) (N := some 18) (v := ?_) (a' := ?_) #[true, false, false, false, false, false, false, false, false, false, false, false, false, false, false] rfl rfl (by kernel_rfl) (fun _ _ _ h => h) (Or.inl ⟨by rfl, ?_⟩) ?_ ?_
 rotate_left
 ·intro w'
  go_simp
  with_reducible rfl
 rotate_left
 ·simp only [Act.put, List.setIfInBounds_toArray, List.set_cons_zero, List.set_cons_succ, i64_w, i32_w]
  rfl
 refine pure_ (i := 4) (N := some 22) (v := ?_) (a' := ?_) #[true, false, false, false, true, false, false, false, false, false, false, false, false, false, false] rfl rfl (by kernel_rfl) (fun _ _ _ h => h) (Or.inl ⟨by rfl, ?_⟩) ?_ ?_
 rotate_left
 ·intro w'
  go_simp
  with_reducible rfl
 rotate_left
 ·simp only [Act.put, List.setIfInBounds_toArray, List.set_cons_zero, List.set_cons_succ, i64_w, i32_w]
  rfl
 refine pure_ (i := 6) (N := some 24) (v := ?_) (a' := ?_) #[true, false, false, false, true, false, true, false, false, false, false, false, false, false, false] rfl rfl (by kernel_rfl) (fun _ _ _ h => h) (Or.inl ⟨by rfl, ?_⟩) ?_ ?_
 rotate_left
 ·intro w'
  go_simp
  with_reducible rfl
 rotate_left
 ·simp only [Act.put, List.setIfInBounds_toArray, List.set_cons_zero, List.set_cons_succ, i64_w, i32_w]
  rfl
 refine pure_ (i := 10) (N := some 28) (v := ?_) (a' := ?_) #[true, false, false, false, true, false, true, false, false, false, true, false, false, false, false] rfl rfl (by kernel_rfl) (fun _ _ _ h => h) (Or.inl ⟨by rfl, ?_⟩) ?_ ?_
 rotate_left
 ·intro w'
  go_simp
  with_reducible rfl
 rotate_left
 ·simp only [Act.put, List.setIfInBounds_toArray, List.set_cons_zero, List.set_cons_succ, i64_w, i32_w]
  rfl
 refine pure_ (i := 14) (N := some 32) (v := ?_) (a' := ?_) #[true, false, false, false, true, false, true, false, false, false, true, false, false, false, true] rfl rfl (by kernel_rfl) (fun _ _ _ h => h) (Or.inl ⟨by rfl, ?_⟩) ?_ ?_
 rotate_left
 ·intro w'
  go_simp
  with_reducible rfl
 rotate_left
 ·simp only [Act.put, List.setIfInBounds_toArray, List.set_cons_zero, List.set_cons_succ, i64_w, i32_w]
  rfl
 refine pure_ (i := 1) (N := some 19) (v := ?_) (a' := ?_) #[true, true, false, false, true, false, true, false, false, false, true, false, false, false, true] rfl rfl (by kernel_rfl) (fun _ _ _ h => h) (Or.inl ⟨by rfl, ?_⟩) ?_ ?_
 rotate_left
 ·intro w'
  go_simp
  with_reducible rfl
 rotate_left
 ·simp only [Act.put, List.setIfInBounds_toArray, List.set_cons_zero, List.set_cons_succ, i64_w, i32_w]
  rfl
 refine pure_ (i := 2) (N := some 20) (v := ?_) (a' := ?_) #[true, true, true, false, true, false, true, false, false, false, true, false, false, false, true] rfl rfl (by kernel_rfl) (fun _ _ _ h => h) (Or.inl ⟨by rfl, ?_⟩) ?_ ?_
 rotate_left
 ·intro w'
  go_simp
  with_reducible rfl
 rotate_left
 ·simp only [Act.put, List.setIfInBounds_toArray, List.set_cons_zero, List.set_cons_succ, i64_w, i32_w]
  rfl
 refine take_ (i := 3) (N := some 21) (v := ?_) (a' := ?_) #[true, true, true, true, true, false, true, false, false, false, true, false, false, false, true] rfl rfl (by kernel_rfl) (fun _ _ _ h => h) (Or.inl ⟨by rfl, ?_⟩) hHeld ?_ ?_
 rotate_left
 ·rintro w' ⟨s0, s1⟩
  go_simp
  with_reducible rfl
 rotate_left
 ·simp only [Act.put, List.setIfInBounds_toArray, List.set_cons_zero, List.set_cons_succ, i64_w, i32_w]
  rfl
 refine pure_ (i := 5) (N := some 23) (v := ?_) (a' := ?_) #[true, true, true, true, true, true, true, false, false, false, true, false, false, false, true] rfl rfl (by kernel_rfl) (fun _ _ _ h => h) (Or.inl ⟨by rfl, ?_⟩) ?_ ?_
 rotate_left
 ·intro w'
  go_simp
  with_reducible rfl
 rotate_left
 ·simp only [Act.put, List.setIfInBounds_toArray, List.set_cons_zero, List.set_cons_succ, i64_w, i32_w]
  rfl
 refine pure_ (i := 7) (N := some 25) (v := ?_) (a' := ?_) #[true, true, true, true, true, true, true, true, false, false, true, false, false, false, true] rfl rfl (by kernel_rfl) (fun _ _ _ h => h) (Or.inl ⟨by rfl, ?_⟩) ?_ ?_
 rotate_left
 ·intro w'
  go_simp
  with_reducible rfl
 rotate_left
 ·simp only [Act.put, List.setIfInBounds_toArray, List.set_cons_zero, List.set_cons_succ, i64_w, i32_w]
  rfl
 refine pure_ (i := 8) (N := some 26) (v := ?_) (a' := ?_) #[true, true, true, true, true, true, true, true, true, false, true, false, false, false, true] rfl rfl (by kernel_rfl) (fun _ _ _ h => h) (Or.inl ⟨by rfl, ?_⟩) ?_ ?_
 rotate_left
 ·intro w'
  go_simp
  with_reducible rfl
 rotate_left
 ·simp only [Act.put, List.setIfInBounds_toArray, List.set_cons_zero, List.set_cons_succ, i64_w, i32_w]
  rfl
 refine take_ (i := 9) (N := some 27) (v := ?_) (a' := ?_) #[true, true, true, true, true, true, true, true, true, true, true, false, false, false, true] rfl rfl (by kernel_rfl) (fun _ _ _ h => h) (Or.inl ⟨by rfl, ?_⟩) hHeld ?_ ?_
 rotate_left
 ·rintro w' ⟨s0, s1⟩
  go_simp
  with_reducible rfl
 rotate_left
 ·simp only [Act.put, List.setIfInBounds_toArray, List.set_cons_zero, List.set_cons_succ, i64_w, i32_w]
  rfl
 refine pure_ (i := 11) (N := some 29) (v := ?_) (a' := ?_) #[true, true, true, true, true, true, true, true, true, true, true, true, false, false, true] rfl rfl (by kernel_rfl) (fun _ _ _ h => h) (Or.inl ⟨by rfl, ?_⟩) ?_ ?_
 rotate_left
 ·intro w'
  go_simp
  with_reducible rfl
 rotate_left
 ·simp only [Act.put, List.setIfInBounds_toArray, List.set_cons_zero, List.set_cons_succ, i64_w, i32_w]
  rfl
 refine one_ (i := 12) (N := some 30) #[true, true, true, true, true, true, true, true, true, true, true, true, true, false, true] rfl rfl (by kernel_rfl) (by decide) (fun K hK => ?_)
 refine Kd.R_lit_step impl_Table_find.kp _ 65 ?hg (N := 30) ?hd (xs := ([(ad1.add (a.toNat * 3)), (ad2.add (b.toNat * 3))] : List Addr)) (inner := [.pointer (some (ad1.add (a.toNat * 3))), .pointer (some (ad2.add (b.toNat * 3)))]) (ok := fun _ => True) (okp := fun _ => True) ?hr ?hp (fun _ hk => hk) trivial (Below.refl _ _) (Nat.le_refl _) (by simp) ?_
 case hd => rfl
 case hg => rfl
 case hr => first | (go_simp; done) | (go_simp; rfl)
 case hp => exact (Reps.one (show Kd.M impl_Table_find.kp _ _ _ (ad1.add (a.toNat * 3)) [.pointer (some (ad1.add (a.toNat * 3)))] from rfl) (Reps.one (show Kd.M impl_Table_find.kp _ _ _ (ad2.add (b.toNat * 3)) [.pointer (some (ad2.add (b.toNat * 3)))] from rfl) (Reps.none _ _)))
 intro v_ wx ho hb hg_ hnew_
 clear hg_ hnew_
 rw [show (ad1.add (a.toNat * 3)) = p1 from E1.out.symm, show (ad2.add (b.toNat * 3)) = p2 from E2.out.symm] at ho
 have HO := Aside0.mk (Kd.R_lower ho (Op.a6 HB.out))
 have n1_ := Aside0.mk (Op.b4 (g := gp) BK.out hb)
 have n2_ := Aside0.mk (Op.a5 HB.out hb)
 clear BK HB hb ho
 have BK := n1_
 have HB := n2_
 clear n1_ n2_
 obtain ⟨Ao, co, eo⟩ := Kd.R_slice HO.out
 subst eo
 refine hK.out _ _ ⟨(blk_cell BK.out 1).trans rfl, (blk_cell BK.out 2).trans rfl⟩ (fun hHeld => ?_)
 clear hK K
 refine norm_ (a' := ?_) ?_ ?_
 rotate_left
 ·show Act.put _ (some 30) _ = _
  simp only [Act.put, List.setIfInBounds_toArray, List.set_cons_zero, List.set_cons_succ, i64_w, i32_w]
  rfl
 refine pure_ (i := 13) (N := some 31) (v := ?_) (a' := ?_) #[true, true, true, true, true, true, true, true, true, true, true, true, true, true, true] rfl rfl (by kernel_rfl) (fun _ _ _ h => h) (Or.inl ⟨by rfl, ?_⟩) ?_ ?_
 rotate_left
 ·intro w'
  go_simp
  with_reducible rfl
 rotate_left
 ·simp only [Act.put, List.setIfInBounds_toArray, List.set_cons_zero, List.set_cons_succ, i64_w, i32_w]
  rfl
 refine done_ (by kernel_rfl) ?_
 try go_wp2
 go_loopg [32] 3 (fun kq v32 w' => ∃ (i : Int), v32 = .int .i64 i ∧ Aside0 (0 ≤ i ∧ i ≤ 2 ∧ (kq : Int) + i = 3) ∧ Aside0 (0 < i → impl_Table_find.hit (rd_T60 L a) key = false) ∧ Aside0 (i = 2 → impl_Table_find.hit (rd_T60 R b) key = false) ∧ Aside0 (Kd.R impl_Table_find.kp 65 w' w.heap.size (fun _ => True) (.slice Ao 2 co) [p1, p2]) ∧ Aside0 (Below w.heap.size w w'))
 case atStart => exact ⟨0, rfl, ⟨by omega⟩, ⟨fun h => absurd h (by omega)⟩, ⟨fun h => absurd h (by omega)⟩, ⟨by (with_reducible repeat (first | apply Kd.R_alloc | apply Kd.R_drewN | apply Kd.R_drew)); exact HO.out⟩, ⟨by repeat (first | (with_reducible first | exact HB.out | apply Op.a1 | apply Op.a2 | apply Op.a3) | exact HB.out)⟩⟩
 case round =>
  clear BK HB HO
  obtain ⟨i, rfl, HI, H1, H2, HO, HB⟩ := hrel
  obtain ⟨i0, i2, ik⟩ := HI.out
  by_cases c : i < 2
  ·have cb := decide_eq_true c
   obtain ⟨ad, eA, hcell⟩ := impl_Table_find.C_two (Kd.R_reads' HO.out).2.2 i i0 c
   subst eA
   obtain ⟨p, hp⟩ : ∃ p, p = if i = 0 then p1 else p2 := ⟨_, rfl⟩
   obtain ⟨sl, hsl⟩ : ∃ sl, sl = if i = 0 then rd_T60 L a else rd_T60 R b := ⟨_, rfl⟩
   have hx0 : wr.cell? p = some (.bool sl.f0) := by
    rw [hp, hsl]
    by_cases z : i = 0
    ·rw [if_pos z, if_pos z, E1.out]; exact (HB.out.cell (World.block_lt_of_cell? w _ L0.out)).trans L0.out
    ·rw [if_neg z, if_neg z, E2.out]; exact (HB.out.cell (World.block_lt_of_cell? w _ R0.out)).trans R0.out
   have hx1 : wr.cell? ⟨p.block, p.off + 1, none⟩ = some (.int .i64 sl.f1) := by
    rw [hp, hsl]
    by_cases z : i = 0
    ·rw [if_pos z, if_pos z, E1.out]; exact (HB.out.cell (World.block_lt_of_cell? w _ L1.out)).trans L1.out
    ·rw [if_neg z, if_neg z, E2.out]; exact (HB.out.cell (World.block_lt_of_cell? w _ R1.out)).trans R1.out
   rw [← hp] at hcell
   have i0e := eq_true i0
   have ce := eq_true c
   have HP := Aside0.mk hp
   have HSL := Aside0.mk hsl
   have II := Aside0.mk (And.intro i0 (And.intro c ik))
   clear hp hsl i0 i2 ik c
   obtain ⟨k1, rfl⟩ : ∃ k1, gk = k1 + 1 := ⟨gk - 1, by have := II.out; omega⟩
   by_cases hu : sl.f0 = true
   ·rw [hu] at hx0
    by_cases hk : sl.f1 = key
    ·have q1 : (sl.f1 == key) = true := by simpa using hk
     have q2 : decide (sl.f1 = key) = true := decide_eq_true hk
     have HH := Aside0.mk (show impl_Table_find.hit sl key = true by unfold impl_Table_find.hit; rw [hu, q1]; rfl)
     clear hu
     go_wp2
     go_ret
     exact ⟨by exact (congrArg Ending.returned (impl_Table_find.res HP.out HSL.out HH.out H1.out E1.out E2.out II.out.1)).symm, by repeat (first | (with_reducible first | exact HB.out | apply Op.a1 | apply Op.a2 | apply Op.a3) | exact HB.out)⟩
    ·have q1 : (sl.f1 == key) = false := by simpa using hk
     have q2 : decide (sl.f1 = key) = false := decide_eq_false hk
     have NH := Aside0.mk (show impl_Table_find.hit sl key = false by unfold impl_Table_find.hit; rw [hu, q1]; rfl)
     clear hu hk
     go_wp2
     go_roundg k1
     case measure => omega
     case rel =>
      have hw : wrap64 (i + 1) = i + 1 := by have := II.out; unfold wrap64; omega
      rw [hw]
      exact ⟨i + 1, rfl, ⟨by have := II.out; omega⟩, ⟨fun _ => impl_Table_find.nxt1 HSL.out NH.out H1.out II.out.1⟩, ⟨fun h => impl_Table_find.nxt2 HSL.out NH.out (by omega)⟩, ⟨by (with_reducible repeat (first | apply Kd.R_alloc | apply Kd.R_drewN | apply Kd.R_drew)); exact HO.out⟩, ⟨by repeat (first | (with_reducible first | exact HB.out | apply Op.a1 | apply Op.a2 | apply Op.a3) | exact HB.out)⟩⟩
   ·have hu2 : sl.f0 = false := by simpa using hu
    rw [hu2] at hx0
    have NH := Aside0.mk (show impl_Table_find.hit sl key = false by unfold impl_Table_find.hit; rw [hu2]; rfl)
    clear hu hu2
    go_wp2
    go_roundg k1
    case measure => omega
    case rel =>
     have hw : wrap64 (i + 1) = i + 1 := by have := II.out; unfold wrap64; omega
     rw [hw]
     exact ⟨i + 1, rfl, ⟨by have := II.out; omega⟩, ⟨fun _ => impl_Table_find.nxt1 HSL.out NH.out H1.out II.out.1⟩, ⟨fun h => impl_Table_find.nxt2 HSL.out NH.out (by omega)⟩, ⟨by (with_reducible repeat (first | apply Kd.R_alloc | apply Kd.R_drewN | apply Kd.R_drew)); exact HO.out⟩, ⟨by repeat (first | (with_reducible first | exact HB.out | apply Op.a1 | apply Op.a2 | apply Op.a3) | exact HB.out)⟩⟩
  ·have cb := decide_eq_false c
   have HH1 := Aside0.mk (H1.out (by omega))
   have HH2 := Aside0.mk (H2.out (by omega))
   clear c
   go_wp2
   go_ret
   exact ⟨by unfold impl_Table_find.ret; rw [HH1.out, HH2.out]; rfl, by repeat (first | (with_reducible first | exact HB.out | apply Op.a1 | apply Op.a2 | apply Op.a3) | exact HB.out)⟩


/-! ### impl_Slot: function 60 -/
/-- a copy, where it has room -/
def impl_Slot.f (l0 : List S60) : Option (List S60) := if 0 < l0.length then (if l0.length ≤ 5864062014805 then some l0 else none) else none
def impl_Slot.flat (l : List S60) : List Value := l.flatMap fun x => [.bool x.f0, .int .i64 x.f1, .int .i64 x.f2]
theorem impl_Slot.flat_len (l : List S60) : (impl_Slot.flat l).length = l.length * 3 := by
 induction l with
 | nil => rfl
 | cons a t ih => unfold impl_Slot.flat at ih ⊢; rw [List.flatMap_cons, List.length_append, ih, List.length_cons]; simp; omega
theorem impl_Slot.flat_one (l : List S60) : ∀ u ∈ impl_Slot.flat l, u.oneCell' = true := by
 intro u hu
 unfold impl_Slot.flat at hu
 obtain ⟨x, _, hx⟩ := List.mem_flatMap.1 hu
 simp only [List.mem_cons, List.not_mem_nil, or_false] at hx
 rcases hx with rfl | rfl | rfl <;> rfl
theorem impl_Slot.flat_reps (w : World) (base : Nat) (ok : Nat → Prop) (l : List S60) : Reps (k60.M w base ok) 3 l (impl_Slot.flat l) := by
 induction l with
 | nil => exact Reps.none _ _
 | cons a t ih => exact Reps.c3 (k60_mkM w base ok a) ih
theorem impl_Slot.flat_at (w : World) (b : Nat) (l : List S60) : ∀ o : Nat, (∀ i x, l[i]? = some x → w.cell? ⟨b, o + i * 3, none⟩ = some (.bool x.f0) ∧ w.cell? ⟨b, o + i * 3 + 1, none⟩ = some (.int .i64 x.f1) ∧ w.cell? ⟨b, o + i * 3 + 2, none⟩ = some (.int .i64 x.f2)) →
  ∀ j u, (impl_Slot.flat l)[j]? = some u → w.cell? ⟨b, o + j, none⟩ = some u := by
 induction l with
 | nil => intro o _ j u h; simp [impl_Slot.flat] at h
 | cons a t ih =>
  intro o h j u hj
  obtain ⟨h0, h1, h2⟩ := h 0 a rfl
  have hj2 : ([Value.bool a.f0, .int .i64 a.f1, .int .i64 a.f2] ++ impl_Slot.flat t)[j]? = some u := hj
  match j, hj2 with
  | 0, hj2 => have := Option.some.inj hj2; subst this; simpa using h0
  | 1, hj2 => have := Option.some.inj hj2; subst this; simpa using h1
  | 2, hj2 => have := Option.some.inj hj2; subst this; simpa using h2
  | j + 3, hj2 =>
   have e := ih (o + 3) (fun i x hx => by
    have q := h (i + 1) x hx
    have e1 : o + (i + 1) * 3 = o + 3 + i * 3 := by omega
    rw [e1] at q; exact q) j u (by simpa using hj2)
   have e1 : o + (j + 3) = o + 3 + j := by omega
   rw [e1]; exact e
theorem impl_Slot.calls (A0 : Option Addr) (c0 : Nat) (l0 : List S60) (r : List S60) (w : World) (hr0 : Kd.C k60 w A0 l0.length l0) (hc0 : l0.length ≤ c0) (h : impl_Slot.f l0 = some r) :
  Calls Try.prog 60 #[.slice A0 l0.length c0] w fun e w' => ∃ v0_ : Value, e = .returned (v0_) ∧ Kd.R k60 60 w' w.heap.size (fun _ => True) v0_ r ∧ Below w.heap.size w w' := by
 unfold impl_Slot.f at h
 by_cases hz : 0 < l0.length
 case neg => rw [if_neg hz] at h; exact absurd h (by simp)
 rw [if_pos hz] at h
 by_cases hl : l0.length ≤ 5864062014805
 case neg => rw [if_neg hl] at h; exact absurd h (by simp)
 rw [if_pos hl] at h
 obtain rfl := Option.some.inj h
 obtain ⟨i0, hi, hz0, hz1, hz2⟩ := info_parts info60
 have z : ∀ w, (Go.sizeOf 60).run Try.prog w = .ok 3 w := by intro w; kernel_rfl
 obtain ⟨ad, rfl, l1, _, _⟩ := at_T60 hr0 0 (by omega) (by omega)
 obtain ⟨b, off, spot⟩ := ad
 have hs : spot = none := by
  cases spot with
  | none => rfl
  | some q =>
   exfalso
   unfold World.cell? at l1
   split at l1 <;> simp [Addr.add] at *
 subst hs
 clear l1
 refine (Try.slices_Clone i0 _ 3 24 hi hz0 hz1 hz2 rfl (by omega) z b off l0.length c0 (impl_Slot.flat l0) w (impl_Slot.flat_len l0) (by unfold maxLen; omega) (by omega) ?_ (impl_Slot.flat_one l0)).mono ?_
 ·refine impl_Slot.flat_at w b l0 off (fun i x hx => ?_)
  have hlt : i < l0.length := (List.getElem?_eq_some_iff.1 hx).1
  obtain ⟨x1, e1, m1, m2, m3⟩ := at_T60 hr0 (i : Int) (by omega) (by omega)
  injection e1 with e1
  subst e1
  have hrd : rd_T60 l0 (i : Int) = x := by simp [rd_T60, List.getD_eq_getElem?_getD, hx]
  have z0 : (⟨b, off, none⟩ : Addr).add ((i : Int).toNat * 3) = ⟨b, off + i * 3, none⟩ := by rw [add_at, Int.toNat_natCast]
  rw [hrd] at m1 m2 m3
  rw [z0] at m1 m2 m3
  exact ⟨m1, m2, m3⟩
 ·rintro e w' ⟨v, rfl, ho, _, hb⟩
  exact ⟨v, rfl, ⟨fun _ _ => trivial, impl_Slot.flat l0, ho, impl_Slot.flat_reps _ _ _ l0⟩, hb⟩


/-! ### impl_ownTable: function 57 -/
def impl_ownTable.f (a0_0 : Int) (l0_1 : List (S60)) (l0_2 : List (S60)) (a0_3 : Int) : Option (Int × (List (S60)) × (List (S60)) × Int) := (impl_Slot.f l0_1).bind fun t304 => ((impl_Slot.f l0_2).bind fun t307 => (some (a0_0, t304, t307, a0_3)))
def impl_ownTable.T1 : Bool × List (List Nat × List Nat) := (true, [([], []), ([0], [0]), ([], []), ([2], [2]), ([3], [3]), ([], []), ([5], [5]), ([6, 4], [6]), ([], []), ([8], [8]), ([1, 4, 7, 9], [1, 4, 7, 9]), ([10, 7, 0, 1, 2, 3, 4, 5, 6, 7, 8, 9, 10], [10])])
def impl_ownTable.B1 : List Nat := [0, 1, 0, 4, 12, 0, 32, 124, 0, 256, 1023, 2047]
theorem impl_ownTable.tab1 : rtab .any (opsOf Try.f57 1) = impl_ownTable.T1 := by kernel_rfl
theorem impl_ownTable.bits1 : waitsOk impl_ownTable.T1.2 impl_ownTable.B1 = true := by kernel_rfl
set_option maxHeartbeats 8000000 in
set_option maxRecDepth 100000 in
theorem impl_ownTable.calls (a0_0 : Int) (A0_1 : Option Addr) (c0_1 : Nat) (l0_1 : List (S60)) (A0_2 : Option Addr) (c0_2 : Nat) (l0_2 : List (S60)) (a0_3 : Int) (r1 : Int) (r2 : List (S60)) (r3 : List (S60)) (r4 : Int) (w : World) (hr0_1 : Kd.C k60 w A0_1 l0_1.length l0_1) (hc0_1 : l0_1.length ≤ c0_1) (hr0_2 : Kd.C k60 w A0_2 l0_2.length l0_2) (hc0_2 : l0_2.length ≤ c0_2) (h : impl_ownTable.f a0_0 l0_1 l0_2 a0_3 = some (r1, r2, r3, r4)) :
  Calls Try.prog 57 #[.agg #[.int .i64 a0_0, .slice A0_1 l0_1.length c0_1, .slice A0_2 l0_2.length c0_2, .int .i64 a0_3]] w fun e w' => ∃ v1_ v2_ : Value, e = .returned (.agg #[.int .i64 r1, v1_, v2_, .int .i64 r4]) ∧ Kd.R k60 60 w' w.heap.size (fun k_ => some k_ ≠ (v2_ : Value).ownBlock) v1_ r2 ∧ Kd.R k60 60 w' w.heap.size (fun k_ => some k_ ≠ (v1_ : Value).ownBlock) v2_ r3 ∧ Below w.heap.size w w' := by
 have hu27 := Try.underlying27
 have HR0_1 := Aside0.mk hr0_1
 have HC0_1 := Aside0.mk hc0_1
 clear hr0_1 hc0_1
 have HR0_2 := Aside0.mk hr0_2
 have HC0_2 := Aside0.mk hc0_2
 clear hr0_2 hc0_2
 have HB := Aside0.mk (Below.refl w.heap.size w)
 have H : ((impl_Slot.f l0_1).bind fun t304 => ((impl_Slot.f l0_2).bind fun t307 => (some (a0_0, t304, t307, a0_3)))) = some (r1, r2, r3, r4) := h
 clear h
 replace H := Option.bind_eq_some_iff.mp H
 obtain ⟨t304, A20, H⟩ := H
 replace H : ((impl_Slot.f l0_2).bind fun t307 => (some (a0_0, t304, t307, a0_3))) = some (r1, r2, r3, r4) := H
 have A2 := Aside0.mk A20
 clear A20
 replace H := Option.bind_eq_some_iff.mp H
 obtain ⟨t307, A30, H⟩ := H
 replace H : (some (a0_0, t304, t307, a0_3)) = some (r1, r2, r3, r4) := H
 have A3 := Aside0.mk A30
 clear A30
 simp only [Option.some.injEq, Prod.mk.injEq] at H
 obtain ⟨rfl, rfl, rfl, rfl⟩ := H
 go_enter Try.func57, Try.ntmps57
 try go_wp2_with (first | ((with_reducible refine gate_dst (N := 1) rfl ?_); refine box_event ?hg (N := 1) ?hd (cs := #[.int .i64 a0_0, .slice A0_1 l0_1.length c0_1, .slice A0_2 l0_2.length c0_2, .int .i64 a0_3]) (t := 27) ?hr ?_; (case hd => rfl); (case hg => rfl); (case hr => first | (go_simp; done) | (go_simp; rfl)); intro gb302 hg w4 hbox hb; have n0_ := Aside0.mk (Op.a5 (by repeat (first | (with_reducible first | exact HB.out | apply Op.a1 | apply Op.a2 | apply Op.a3) | exact HB.out)) hb); have n1_ := Aside0.mk (hbox); have n2_ := Aside0.mk ((by rw [hg]; exact (Op.a6 (by repeat (first | (with_reducible first | exact HB.out | apply Op.a1 | apply Op.a2 | apply Op.a3) | exact HB.out))) : w.heap.size ≤ gb302)); have n3_ := Aside0.mk ((by rw [hg]; exact (Op.a6 (by repeat (first | (with_reducible first | exact HB.out | apply Op.a1 | apply Op.a2 | apply Op.a3) | exact HB.out))) : w.heap.size ≤ gb302)); clear HB; have HB := n0_; have BK302 := n1_; have GW302 := n2_; have GE302 := n3_; clear n0_ n1_ n2_ n3_; clear hb hbox hg) | ((with_reducible refine gate_dst (N := 2) rfl ?_); refine box_event ?hg (N := 2) ?hd (cs := #[.int .i64 0, .slice none 0 0, .slice none 0 0, .int .i64 0]) (t := 27) ?hr ?_; (case hd => rfl); (case hg => rfl); (case hr => first | (go_simp; done) | (go_simp; rfl)); intro gb303 hg w5 hbox hb; have n0_ := Aside0.mk (Op.b4 (g := gb302) (o := .cells #[.int .i64 a0_0, .slice A0_1 l0_1.length c0_1, .slice A0_2 l0_2.length c0_2, .int .i64 a0_3] 27 (0, 0)) (by (with_reducible repeat (first | refine Op.b1 ?_ _ | refine Op.b2 ?_ | refine Op.b3 ?_ _)); exact BK302.out) hb); have n1_ := Aside0.mk (Op.a5 (by repeat (first | (with_reducible first | exact HB.out | apply Op.a1 | apply Op.a2 | apply Op.a3 | refine Op.a4 ?_ GE302.out) | exact HB.out)) hb); have n2_ := Aside0.mk (hbox); have n3_ := Aside0.mk ((by rw [hg]; exact (Op.a6 (by repeat (first | (with_reducible first | exact HB.out | apply Op.a1 | apply Op.a2 | apply Op.a3 | refine Op.a4 ?_ GE302.out) | exact HB.out))) : w.heap.size ≤ gb303)); have n4_ := Aside0.mk ((by rw [hg]; exact (Op.a6 (by repeat (first | (with_reducible first | exact HB.out | apply Op.a1 | apply Op.a2 | apply Op.a3 | refine Op.a4 ?_ GE302.out) | exact HB.out))) : w.heap.size ≤ gb303)); have n5_ := Aside0.mk ((by rw [hg]; exact Nat.ne_of_lt (blk_lt (g := gb302) (o := .cells #[.int .i64 a0_0, .slice A0_1 l0_1.length c0_1, .slice A0_2 l0_2.length c0_2, .int .i64 a0_3] 27 (0, 0)) (by (with_reducible repeat (first | refine Op.b1 ?_ _ | refine Op.b2 ?_ | refine Op.b3 ?_ _)); exact BK302.out)) : gb302 ≠ gb303)); have n6_ := Aside0.mk ((by rw [hg]; exact Nat.ne_of_gt (blk_lt (g := gb302) (o := .cells #[.int .i64 a0_0, .slice A0_1 l0_1.length c0_1, .slice A0_2 l0_2.length c0_2, .int .i64 a0_3] 27 (0, 0)) (by (with_reducible repeat (first | refine Op.b1 ?_ _ | refine Op.b2 ?_ | refine Op.b3 ?_ _)); exact BK302.out)) : gb303 ≠ gb302)); clear BK302; clear HB; have BK302 := n0_; have HB := n1_; have BK303 := n2_; have GW303 := n3_; have GE303 := n4_; have NB302_303 := n5_; have NB303_302 := n6_; clear n0_ n1_ n2_ n3_ n4_ n5_ n6_; clear hb hbox hg))
 have n0_ := Aside0.mk (Op.b2 BK302.out)
 have n1_ := Aside0.mk (Op.b2 BK303.out)
 have n2_ := Aside0.mk (Op.a3 HB.out)
 clear BK302
 clear BK303
 clear HB
 have BK302 := n0_
 have BK303 := n1_
 have HB := n2_
 clear n0_ n1_ n2_
 refine start_ (n := 12) (S := fun w' => w'.cell? ⟨gb302, 0, none⟩ = some (.int .i64 a0_0) ∧ w'.cell? ⟨gb302, 1, none⟩ = some (.slice A0_1 l0_1.length c0_1) ∧ w'.cell? ⟨gb302, 2, none⟩ = some (.slice A0_2 l0_2.length c0_2) ∧ w'.cell? ⟨gb302, 3, none⟩ = some (.int .i64 a0_3)) (ds := []) #[false, false, false, false, false, false, false, false, false, false, false, false] (by kernel_rfl) rfl rfl ⟨(blk_cell BK302.out 0).trans rfl, (blk_cell BK302.out 1).trans rfl, (blk_cell BK302.out 2).trans rfl, (blk_cell BK302.out 3).trans rfl⟩ (fun hHeld => ?_); refine with_tabW impl_ownTable.tab1 impl_ownTable.bits1 (fun HT_ HW_ => ?_)
 generalize w5.drew = w6 at BK302 BK303 HB hHeld ⊢
 refine pure_ (i := 0) (N := some 3) (v := ?_) (a' := ?_) #[true, false, false, false, false, false, false, false, false, false, false, false] rfl rfl (any_of HT_.out (by kernel_rfl)) (fun _ _ _ h => h) (Or.inl ⟨by rfl, ?_⟩) ?_ ?_
 rotate_left
 ·intro w'
  go_simp
  with_reducible rfl
 rotate_left
 ·simp only [Act.put, List.setIfInBounds_toArray, List.set_cons_zero, List.set_cons_succ, i64_w, i32_w]
  rfl
 refine pure_ (i := 2) (N := some 5) (v := ?_) (a' := ?_) #[true, false, true, false, false, false, false, false, false, false, false, false] rfl rfl (any_of HT_.out (by kernel_rfl)) (fun _ _ _ h => h) (Or.inl ⟨by rfl, ?_⟩) ?_ ?_
 rotate_left
 ·intro w'
  go_simp
  with_reducible rfl
 rotate_left
 ·simp only [Act.put, List.setIfInBounds_toArray, List.set_cons_zero, List.set_cons_succ, i64_w, i32_w]
  rfl
 refine pure_ (i := 5) (N := some 8) (v := ?_) (a' := ?_) #[true, false, true, false, false, true, false, false, false, false, false, false] rfl rfl (any_of HT_.out (by kernel_rfl)) (fun _ _ _ h => h) (Or.inl ⟨by rfl, ?_⟩) ?_ ?_
 rotate_left
 ·intro w'
  go_simp
  with_reducible rfl
 rotate_left
 ·simp only [Act.put, List.setIfInBounds_toArray, List.set_cons_zero, List.set_cons_succ, i64_w, i32_w]
  rfl
 refine pure_ (i := 8) (N := some 11) (v := ?_) (a' := ?_) #[true, false, true, false, false, true, false, false, true, false, false, false] rfl rfl (any_of HT_.out (by kernel_rfl)) (fun _ _ _ h => h) (Or.inl ⟨by rfl, ?_⟩) ?_ ?_
 rotate_left
 ·intro w'
  go_simp
  with_reducible rfl
 rotate_left
 ·simp only [Act.put, List.setIfInBounds_toArray, List.set_cons_zero, List.set_cons_succ, i64_w, i32_w]
  rfl
 refine take_ (i := 1) (N := some 4) (v := ?_) (a' := ?_) #[true, true, true, false, false, true, false, false, true, false, false, false] rfl rfl (take_ofW HT_.out HW_.out (by kernel_rfl)) (fun _ _ _ h => h) (Or.inl ⟨by rfl, ?_⟩) hHeld ?_ ?_
 rotate_left
 ·rintro w' ⟨s0, s1, s2, s3⟩
  go_simp
  with_reducible rfl
 rotate_left
 ·simp only [Act.put, List.setIfInBounds_toArray, List.set_cons_zero, List.set_cons_succ, i64_w, i32_w]
  rfl
 refine take_ (i := 3) (N := some 6) (v := ?_) (a' := ?_) #[true, true, true, true, false, true, false, false, true, false, false, false] rfl rfl (take_ofW HT_.out HW_.out (by kernel_rfl)) (fun _ _ _ h => h) (Or.inl ⟨by rfl, ?_⟩) hHeld ?_ ?_
 rotate_left
 ·rintro w' ⟨s0, s1, s2, s3⟩
  go_simp
  with_reducible rfl
 rotate_left
 ·simp only [Act.put, List.setIfInBounds_toArray, List.set_cons_zero, List.set_cons_succ, i64_w, i32_w]
  rfl
 refine take_ (i := 6) (N := some 9) (v := ?_) (a' := ?_) #[true, true, true, true, false, true, true, false, true, false, false, false] rfl rfl (take_ofW HT_.out HW_.out (by kernel_rfl)) (fun _ _ _ h => h) (Or.inl ⟨by rfl, ?_⟩) hHeld ?_ ?_
 rotate_left
 ·rintro w' ⟨s0, s1, s2, s3⟩
  go_simp
  with_reducible rfl
 rotate_left
 ·simp only [Act.put, List.setIfInBounds_toArray, List.set_cons_zero, List.set_cons_succ, i64_w, i32_w]
  rfl
 refine take_ (i := 9) (N := some 12) (v := ?_) (a' := ?_) #[true, true, true, true, false, true, true, false, true, true, false, false] rfl rfl (take_ofW HT_.out HW_.out (by kernel_rfl)) (fun _ _ _ h => h) (Or.inl ⟨by rfl, ?_⟩) hHeld ?_ ?_
 rotate_left
 ·rintro w' ⟨s0, s1, s2, s3⟩
  go_simp
  with_reducible rfl
 rotate_left
 ·simp only [Act.put, List.setIfInBounds_toArray, List.set_cons_zero, List.set_cons_succ, i64_w, i32_w]
  rfl
 refine one_ (i := 4) (N := some 7) #[true, true, true, true, true, true, true, false, true, true, false, false] rfl rfl (one_of HT_.out (by kernel_rfl)) (by decide) (fun K hK => ?_)
 refine goes_ Try.func60 (by kernel_rfl) rfl #[.slice A0_1 l0_1.length c0_1] (by rfl) rfl rfl (by (try simp only [List.map_toArray, List.map_cons, List.map_nil]); first | done | rfl | (simp only [List.length_drop, List.length_take]; rfl)) ?_
 with_reducible refine (impl_Slot.calls _ _ l0_1 t304 _ ?side1 ?side2 A2.out).mono ?_
 (case side1 => repeat (first | exact (Kd.C_below HR0_1.out HB.out) | (with_reducible refine Kd.C_alloc ?_ _) | (with_reducible refine Kd.C_drewN ?_ _) | (with_reducible refine Kd.C_drew ?_)))
 (case side2 => exact HC0_1.out)
 rintro e w7 ⟨v305, rfl, ho0, hb⟩
 refine ⟨_, rfl, ?_⟩
 have n0_ := Aside0.mk (Kd.R_lower ho0 (Op.a6 (by repeat (first | (with_reducible first | exact HB.out | apply Op.a1 | apply Op.a2 | apply Op.a3 | refine Op.a4 ?_ GE302.out | refine Op.a4 ?_ GE303.out) | exact HB.out))))
 have n1_ := Aside0.mk (Op.b4 (g := gb302) (o := .cells #[.int .i64 a0_0, .slice A0_1 l0_1.length c0_1, .slice A0_2 l0_2.length c0_2, .int .i64 a0_3] 27 (0, 0)) (by (with_reducible repeat (first | refine Op.b1 ?_ _ | refine Op.b2 ?_ | refine Op.b3 ?_ _)); exact BK302.out) hb)
 have n2_ := Aside0.mk (Op.b4 (g := gb303) (o := .cells #[.int .i64 0, .slice none 0 0, .slice none 0 0, .int .i64 0] 27 (0, 0)) (by (with_reducible repeat (first | refine Op.b1 ?_ _ | refine Op.b2 ?_ | refine Op.b3 ?_ _)); exact BK303.out) hb)
 have n3_ := Aside0.mk (Op.a5 (by repeat (first | (with_reducible first | exact HB.out | apply Op.a1 | apply Op.a2 | apply Op.a3 | refine Op.a4 ?_ GE302.out | refine Op.a4 ?_ GE303.out) | exact HB.out)) hb)
 clear BK302
 clear BK303
 clear HB
 have HO306 := n0_
 have BK302 := n1_
 have BK303 := n2_
 have HB := n3_
 clear n0_ n1_ n2_ n3_
 (try clear hb)
 (try clear hb2)
 (try clear hk)
 (try clear hi)
 (try clear ho0)
 refine hK.out _ _ ⟨(blk_cell BK302.out 0).trans rfl, (blk_cell BK302.out 1).trans rfl, (blk_cell BK302.out 2).trans rfl, (blk_cell BK302.out 3).trans rfl⟩ (fun hHeld => ?_)
 clear hK K
 refine norm_ (a' := ?_) ?_ ?_
 rotate_left
 ·show Act.put _ (some 7) _ = _
  simp only [Act.put, List.setIfInBounds_toArray, List.set_cons_zero, List.set_cons_succ, i64_w, i32_w]
  rfl
 refine one_ (i := 7) (N := some 10) #[true, true, true, true, true, true, true, true, true, true, false, false] rfl rfl (one_of HT_.out (by kernel_rfl)) (by decide) (fun K hK => ?_)
 refine goes_ Try.func60 (by kernel_rfl) rfl #[.slice A0_2 l0_2.length c0_2] (by rfl) rfl rfl (by (try simp only [List.map_toArray, List.map_cons, List.map_nil]); first | done | rfl | (simp only [List.length_drop, List.length_take]; rfl)) ?_
 with_reducible refine (impl_Slot.calls _ _ l0_2 t307 _ ?side1 ?side2 A3.out).mono ?_
 (case side1 => repeat (first | exact (Kd.C_below HR0_2.out HB.out) | (with_reducible refine Kd.C_alloc ?_ _) | (with_reducible refine Kd.C_drewN ?_ _) | (with_reducible refine Kd.C_drew ?_)))
 (case side2 => exact HC0_2.out)
 rintro e w8 ⟨v308, rfl, ho0, hb⟩
 refine ⟨_, rfl, ?_⟩
 have n0_ := Aside0.mk (Kd.R_elder' (by (with_reducible repeat (first | apply Kd.R_alloc | apply Kd.R_drewN | apply Kd.R_drew)); exact HO306.out) (Kd.R_base ho0) hb)
 have n1_ := Aside0.mk (Kd.R_lower (Kd.R_new' ho0 (Kd.R_lt (by (with_reducible repeat (first | apply Kd.R_alloc | apply Kd.R_drewN | apply Kd.R_drew)); exact HO306.out))) (Op.a6 (by repeat (first | (with_reducible first | exact HB.out | apply Op.a1 | apply Op.a2 | apply Op.a3 | refine Op.a4 ?_ GE302.out | refine Op.a4 ?_ GE303.out) | exact HB.out))))
 have n2_ := Aside0.mk (Op.b4 (g := gb302) (o := .cells #[.int .i64 a0_0, .slice A0_1 l0_1.length c0_1, .slice A0_2 l0_2.length c0_2, .int .i64 a0_3] 27 (0, 0)) (by (with_reducible repeat (first | refine Op.b1 ?_ _ | refine Op.b2 ?_ | refine Op.b3 ?_ _)); exact BK302.out) hb)
 have n3_ := Aside0.mk (Op.b4 (g := gb303) (o := .cells #[.int .i64 0, .slice none 0 0, .slice none 0 0, .int .i64 0] 27 (0, 0)) (by (with_reducible repeat (first | refine Op.b1 ?_ _ | refine Op.b2 ?_ | refine Op.b3 ?_ _)); exact BK303.out) hb)
 have n4_ := Aside0.mk (Op.a5 (by repeat (first | (with_reducible first | exact HB.out | apply Op.a1 | apply Op.a2 | apply Op.a3 | refine Op.a4 ?_ GE302.out | refine Op.a4 ?_ GE303.out) | exact HB.out)) hb)
 clear HO306
 clear BK302
 clear BK303
 clear HB
 have HO306 := n0_
 have HO309 := n1_
 have BK302 := n2_
 have BK303 := n3_
 have HB := n4_
 clear n0_ n1_ n2_ n3_ n4_
 (try clear hb)
 (try clear hb2)
 (try clear hk)
 (try clear hi)
 (try clear ho0)
 obtain ⟨Ao9, co9, eo9⟩ := Kd.R_slice HO309.out
 (first | subst eo9 | (injection eo9 with f1_ f2_ f3_; have f4_ := f1_.symm; have f5_ := f3_.symm; clear f1_ f2_ f3_; subst f4_; subst f5_))
 obtain ⟨Ao10, co10, eo10⟩ := Kd.R_slice HO306.out
 (first | subst eo10 | (injection eo10 with f1_ f2_ f3_; have f4_ := f1_.symm; have f5_ := f3_.symm; clear f1_ f2_ f3_; subst f4_; subst f5_))
 refine hK.out _ _ ⟨(blk_cell BK302.out 0).trans rfl, (blk_cell BK302.out 1).trans rfl, (blk_cell BK302.out 2).trans rfl, (blk_cell BK302.out 3).trans rfl⟩ (fun hHeld => ?_)
 clear hK K
 refine norm_ (a' := ?_) ?_ ?_
 rotate_left
 ·show Act.put _ (some 10) _ = _
  simp only [Act.put, List.setIfInBounds_toArray, List.set_cons_zero, List.set_cons_succ, i64_w, i32_w]
  rfl
 refine pure_ (i := 10) (N := some 13) (v := ?_) (a' := ?_) #[true, true, true, true, true, true, true, true, true, true, true, false] rfl rfl (any_of HT_.out (by kernel_rfl)) (fun _ _ _ h => h) (Or.inl ⟨by rfl, ?_⟩) ?_ ?_
 rotate_left
 ·intro w'
  go_simp
  with_reducible rfl
 rotate_left
 ·simp only [Act.put, List.setIfInBounds_toArray, List.set_cons_zero, List.set_cons_succ, i64_w, i32_w]
  rfl
 refine one_ (i := 11) (N := none) #[true, true, true, true, true, true, true, true, true, true, true, true] rfl rfl (one_of HT_.out (by kernel_rfl)) (by decide) (fun K hK => ?_)
 have hs11 : w8.cell? ⟨gb303, 0, none⟩ = some (.int .i64 0) := (blk_cell BK303.out 0).trans rfl
 have hfs11 := blk_frozen BK303.out 0
 have hns11_0 := NB302_303.out
 have hms11_0 := NB303_302.out
 have hs12 : w8.cell? ⟨gb303, 1, none⟩ = some (.slice none 0 0) := (blk_cell BK303.out 1).trans rfl
 have hfs12 := blk_frozen BK303.out 1
 have hns12_0 := NB302_303.out
 have hms12_0 := NB303_302.out
 have hs13 : w8.cell? ⟨gb303, 2, none⟩ = some (.slice none 0 0) := (blk_cell BK303.out 2).trans rfl
 have hfs13 := blk_frozen BK303.out 2
 have hns13_0 := NB302_303.out
 have hms13_0 := NB303_302.out
 have hs14 : w8.cell? ⟨gb303, 3, none⟩ = some (.int .i64 0) := (blk_cell BK303.out 3).trans rfl
 have hfs14 := blk_frozen BK303.out 3
 have hns14_0 := NB302_303.out
 have hms14_0 := NB303_302.out
 refine skip_ (w1 := ?_) (by rfl) rfl ?_ ?_
 rotate_left
 ·go_simp
  rfl
 refine hK.out _ _ ⟨((cell_far (p := ⟨gb303, _, none⟩) NB302_303.out _).trans (((cell_far (p := ⟨gb303, _, none⟩) NB302_303.out _).trans (((cell_far (p := ⟨gb303, _, none⟩) NB302_303.out _).trans (((cell_far (p := ⟨gb303, _, none⟩) NB302_303.out _).trans (hHeld.1)))))))), ((cell_far (p := ⟨gb303, _, none⟩) NB302_303.out _).trans (((cell_far (p := ⟨gb303, _, none⟩) NB302_303.out _).trans (((cell_far (p := ⟨gb303, _, none⟩) NB302_303.out _).trans (((cell_far (p := ⟨gb303, _, none⟩) NB302_303.out _).trans (hHeld.2.1)))))))), ((cell_far (p := ⟨gb303, _, none⟩) NB302_303.out _).trans (((cell_far (p := ⟨gb303, _, none⟩) NB302_303.out _).trans (((cell_far (p := ⟨gb303, _, none⟩) NB302_303.out _).trans (((cell_far (p := ⟨gb303, _, none⟩) NB302_303.out _).trans (hHeld.2.2.1)))))))), ((cell_far (p := ⟨gb303, _, none⟩) NB302_303.out _).trans (((cell_far (p := ⟨gb303, _, none⟩) NB302_303.out _).trans (((cell_far (p := ⟨gb303, _, none⟩) NB302_303.out _).trans (((cell_far (p := ⟨gb303, _, none⟩) NB302_303.out _).trans (hHeld.2.2.2))))))))⟩ (fun hHeld => ?_)
 clear hK K
 refine done_ (done_of HT_.out (by kernel_rfl)) ?_
 try go_wp2
 refine bodyPost_ret (results_cell_row rfl _ _ gb303 27 #[.int .i64 a0_0, .slice Ao10 t304.length co10, .slice Ao9 t307.length co9, .int .i64 a0_3] (0, 0) _ rfl (by (with_reducible repeat (first | refine Op.b1 ?_ _ | refine Op.b2 ?_ | refine Op.b3 ?_ _)); refine blk_put (cs := #[.int .i64 a0_0, .slice Ao10 t304.length co10, .slice Ao9 t307.length co9, .int .i64 0]) ?_ 3 _ rfl; (with_reducible repeat (first | refine Op.b1 ?_ _ | refine Op.b2 ?_ | refine Op.b3 ?_ _)); refine blk_put (cs := #[.int .i64 a0_0, .slice Ao10 t304.length co10, .slice none 0 0, .int .i64 0]) ?_ 2 _ rfl; (with_reducible repeat (first | refine Op.b1 ?_ _ | refine Op.b2 ?_ | refine Op.b3 ?_ _)); refine blk_put (cs := #[.int .i64 a0_0, .slice none 0 0, .slice none 0 0, .int .i64 0]) ?_ 1 _ rfl; (with_reducible repeat (first | refine Op.b1 ?_ _ | refine Op.b2 ?_ | refine Op.b3 ?_ _)); refine blk_put (cs := #[.int .i64 0, .slice none 0 0, .slice none 0 0, .int .i64 0]) ?_ 0 _ rfl; (with_reducible repeat (first | refine Op.b1 ?_ _ | refine Op.b2 ?_ | refine Op.b3 ?_ _)); exact BK303.out) Try.underlying27 rfl (by kernel_rfl)) rfl ?_
 exact ⟨_, _, by first | rfl | (simp [errW_none, errW_some] <;> rfl) | (simp [*, errW_none, errW_some] <;> rfl), by (with_reducible repeat (first | apply Kd.R_alloc | apply Kd.R_drewN | apply Kd.R_drew)); exact Kd.R_mono (Kd.R_far (p := ⟨gb303, 3, none⟩) (Kd.R_far (p := ⟨gb303, 2, none⟩) (Kd.R_far (p := ⟨gb303, 1, none⟩) (Kd.R_far (p := ⟨gb303, 0, none⟩) (Kd.R_types HO306.out BK303.out (by decide)) (fun _ hk => hk.2) (.int .i64 a0_0)) (fun _ hk => hk.2) (.slice Ao10 t304.length co10)) (fun _ hk => hk.2) (.slice Ao9 t307.length co9)) (fun _ hk => hk.2) (.int .i64 a0_3)) (fun _ hk => hk.1.2), by (with_reducible repeat (first | apply Kd.R_alloc | apply Kd.R_drewN | apply Kd.R_drew)); exact Kd.R_mono (Kd.R_far (p := ⟨gb303, 3, none⟩) (Kd.R_far (p := ⟨gb303, 2, none⟩) (Kd.R_far (p := ⟨gb303, 1, none⟩) (Kd.R_far (p := ⟨gb303, 0, none⟩) (Kd.R_types HO309.out BK303.out (by decide)) (fun _ hk => hk.2) (.int .i64 a0_0)) (fun _ hk => hk.2) (.slice Ao10 t304.length co10)) (fun _ hk => hk.2) (.slice Ao9 t307.length co9)) (fun _ hk => hk.2) (.int .i64 a0_3)) (fun _ hk => hk.1.2), by repeat (first | (with_reducible first | exact HB.out | apply Op.a1 | apply Op.a2 | apply Op.a3 | refine Op.a4 ?_ GE302.out | refine Op.a4 ?_ GE303.out) | exact HB.out)⟩

/-! ### impl_drop_L: function 51 -/
/-- what it does, one after the other -/
def impl_drop_L.f (k : Nat) (a0_0 : Int) (l0_1 : List (S60)) (l0_2 : List (S60)) (a0_3 : Int) (a1 : Int) : Option (Int × List (S60) × List (S60) × Int × Bool) :=
 (impl_ownTable.f a0_0 l0_1 l0_2 a0_3).bind fun be10 => (impl_placesOf.f be10.1 a1).bind fun be16 => if 0 ≤ be16.1 then (if be16.1 < (be10.2.1.length : Int) then (if 0 ≤ be16.2 then (if be16.2 < (be10.2.2.1.length : Int) then (if impl_Table_find.hit (rd_T60 be10.2.1 be16.1) a1 = true then (some (be10.1, (be10.2.1.set be16.1.toNat (⟨false, 0, 0⟩ : S60)), be10.2.2.1, (wrap64 (be10.2.2.2 - 1)), true)) else none) else none) else none) else none) else none
set_option maxRecDepth 100000 in
set_option maxHeartbeats 8000000 in
theorem impl_drop_L.calls (k : Nat) (a0_0 : Int) (A0_1 : Option Addr) (c0_1 : Nat) (l0_1 : List (S60)) (A0_2 : Option Addr) (c0_2 : Nat) (l0_2 : List (S60)) (a0_3 : Int) (a1 : Int) (r9001 : Int) (r9002 : List (S60)) (r9003 : List (S60)) (r9004 : Int) (r9005 : Bool) (w : World) (hr0_1 : Kd.C k60 w A0_1 l0_1.length l0_1) (hc0_1 : l0_1.length ≤ c0_1) (hr0_2 : Kd.C k60 w A0_2 l0_2.length l0_2) (hc0_2 : l0_2.length ≤ c0_2) (h : impl_drop_L.f k a0_0 l0_1 l0_2 a0_3 a1 = some (r9001, r9002, r9003, r9004, r9005)) :
  Calls Try.prog 51 #[.agg #[.int .i64 a0_0, .slice A0_1 l0_1.length c0_1, .slice A0_2 l0_2.length c0_2, .int .i64 a0_3], .int .i64 a1] w fun e w' => ∃ v0_ v1_ : Value, e = .returned (.tuple #[.agg #[.int .i64 r9001, v0_, v1_, .int .i64 r9004], .bool r9005]) ∧ Kd.R k60 60 w' w.heap.size (fun k_ => some k_ ≠ (v1_ : Value).ownBlock) v0_ r9002 ∧ Kd.R k60 60 w' w.heap.size (fun k_ => some k_ ≠ (v0_ : Value).ownBlock) v1_ r9003 ∧ Below w.heap.size w w' := by
 have hu27 := Try.underlying27
 have HR0_1 := Aside0.mk hr0_1
 have HC0_1 := Aside0.mk hc0_1
 have HR0_2 := Aside0.mk hr0_2
 have HC0_2 := Aside0.mk hc0_2
 clear hr0_1 hc0_1 hr0_2 hc0_2
 have HB := Aside0.mk (Below.refl w.heap.size w)
 have HS0 : Aside0 (0 ≤ w.heap.size) := ⟨Nat.zero_le _⟩
 unfold impl_drop_L.f at h
 replace h := Option.bind_eq_some_iff.1 h
 obtain ⟨⟨r6, r7, r8, r9⟩, e10, h⟩ := h
 try dsimp only at h
 have Ee10 := Aside0.mk e10
 clear e10
 replace h := Option.bind_eq_some_iff.1 h
 obtain ⟨⟨r14, r15⟩, e16, h⟩ := h
 try dsimp only at h
 have Ee16 := Aside0.mk e16
 clear e16
 by_cases q18a_ : 0 ≤ r14
 case neg => rw [if_neg q18a_] at h; exact absurd h (by simp)
 replace h := (if_pos q18a_).symm.trans h
 replace q18a_ := eq_true q18a_
 by_cases q18b_ : r14 < (r7.length : Int)
 case neg => rw [if_neg q18b_] at h; exact absurd h (by simp)
 replace h := (if_pos q18b_).symm.trans h
 replace q18b_ := eq_true q18b_
 by_cases q19a_ : 0 ≤ r15
 case neg => rw [if_neg q19a_] at h; exact absurd h (by simp)
 replace h := (if_pos q19a_).symm.trans h
 replace q19a_ := eq_true q19a_
 by_cases q19b_ : r15 < (r8.length : Int)
 case neg => rw [if_neg q19b_] at h; exact absurd h (by simp)
 replace h := (if_pos q19b_).symm.trans h
 replace q19b_ := eq_true q19b_
 by_cases q20_ : impl_Table_find.hit (rd_T60 r7 r14) a1 = true
 case neg => rw [if_neg q20_] at h; exact absurd h (by simp)
 replace h := (if_pos q20_).symm.trans h
 replace q20_ := eq_true q20_
 simp only [Option.some.injEq, Prod.mk.injEq] at h
 obtain ⟨rfl, rfl, rfl, rfl, rfl⟩ := h
 go_enter Try.func51, Try.ntmps51
 go_wp2_with (first | ((with_reducible refine gate_dst (N := 2) rfl ?_); refine box_event ?hg (N := 2) ?hd (cs := #[.int .i64 a0_0, .slice A0_1 l0_1.length c0_1, .slice A0_2 l0_2.length c0_2, .int .i64 a0_3]) (t := 27) ?hr ?_; (case hd => rfl); (case hg => rfl); (case hr => first | (go_simp; done) | (go_simp; rfl)); intro g1 hg w2 hbox hb; have hk := Kept.of_below hb (fun _ => False); have BKg1 := Aside0.mk hbox; have GEg1 := Aside0.mk (show w.heap.size ≤ g1 from by rw [hg]; exact HB.out.size); have HSw2 := Aside0.mk (And.intro (And.intro (show w.heap.size ≤ g1 from Nat.le_of_eq hg.symm) (And.intro (blk_lt hbox) hb.size)) HS0.out); replace HB := Aside0.mk (Op.a5 HB.out hb); clear hg hbox hb hk; have hz_g1_0_w2 : w2.cell? ⟨g1, 0, none⟩ = some (.int .i64 a0_0) := (blk_cell BKg1.out 0).trans rfl; have hf_g1_0_w2 := blk_frozen BKg1.out 0; have hz_g1_1_w2 : w2.cell? ⟨g1, 1, none⟩ = some (.slice A0_1 l0_1.length c0_1) := (blk_cell BKg1.out 1).trans rfl; have hf_g1_1_w2 := blk_frozen BKg1.out 1; have hz_g1_2_w2 : w2.cell? ⟨g1, 2, none⟩ = some (.slice A0_2 l0_2.length c0_2) := (blk_cell BKg1.out 2).trans rfl; have hf_g1_2_w2 := blk_frozen BKg1.out 2; have hz_g1_3_w2 : w2.cell? ⟨g1, 3, none⟩ = some (.int .i64 a0_3) := (blk_cell BKg1.out 3).trans rfl; have hf_g1_3_w2 := blk_frozen BKg1.out 3) | ((with_reducible refine gate_dst (N := 4) rfl ?_); refine box_event ?hg (N := 4) ?hd (cs := #[.int .i64 0, .slice none 0 0, .slice none 0 0, .int .i64 0]) (t := 27) ?hr ?_; (case hd => rfl); (case hg => rfl); (case hr => first | (go_simp; done) | (go_simp; rfl)); intro g3 hg w4 hbox hb; have hk := Kept.of_below hb (fun _ => False); replace BKg1 := Aside0.mk (Op.mvB BKg1.out hk (fun hs => hs)); have BKg3 := Aside0.mk hbox; have GEg3 := Aside0.mk (show w.heap.size ≤ g3 from by rw [hg]; exact HB.out.size); have HSw4 := Aside0.mk (And.intro (And.intro (show w2.heap.size ≤ g3 from Nat.le_of_eq hg.symm) (And.intro (blk_lt hbox) hb.size)) HSw2.out); replace HB := Aside0.mk (Op.a5 HB.out hb); clear hg hbox hb hk; have hz_g1_0_w4 : w4.cell? ⟨g1, 0, none⟩ = some (.int .i64 a0_0) := (blk_cell BKg1.out 0).trans rfl; have hf_g1_0_w4 := blk_frozen BKg1.out 0; have hz_g1_1_w4 : w4.cell? ⟨g1, 1, none⟩ = some (.slice A0_1 l0_1.length c0_1) := (blk_cell BKg1.out 1).trans rfl; have hf_g1_1_w4 := blk_frozen BKg1.out 1; have hz_g1_2_w4 : w4.cell? ⟨g1, 2, none⟩ = some (.slice A0_2 l0_2.length c0_2) := (blk_cell BKg1.out 2).trans rfl; have hf_g1_2_w4 := blk_frozen BKg1.out 2; have hz_g1_3_w4 : w4.cell? ⟨g1, 3, none⟩ = some (.int .i64 a0_3) := (blk_cell BKg1.out 3).trans rfl; have hf_g1_3_w4 := blk_frozen BKg1.out 3; have hz_g3_0_w4 : w4.cell? ⟨g3, 0, none⟩ = some (.int .i64 0) := (blk_cell BKg3.out 0).trans rfl; have hf_g3_0_w4 := blk_frozen BKg3.out 0; have hz_g3_1_w4 : w4.cell? ⟨g3, 1, none⟩ = some (.slice none 0 0) := (blk_cell BKg3.out 1).trans rfl; have hf_g3_1_w4 := blk_frozen BKg3.out 1; have hz_g3_2_w4 : w4.cell? ⟨g3, 2, none⟩ = some (.slice none 0 0) := (blk_cell BKg3.out 2).trans rfl; have hf_g3_2_w4 := blk_frozen BKg3.out 2; have hz_g3_3_w4 : w4.cell? ⟨g3, 3, none⟩ = some (.int .i64 0) := (blk_cell BKg3.out 3).trans rfl; have hf_g3_3_w4 := blk_frozen BKg3.out 3) | ((with_reducible refine gate_callee (f := 57) rfl ?_); refine goesL_ (some 9) rfl rfl Try.func57 (by kernel_rfl) rfl #[.agg #[.int .i64 a0_0, .slice A0_1 l0_1.length c0_1, .slice A0_2 l0_2.length c0_2, .int .i64 a0_3]] rfl (by (try simp only [List.map_toArray, List.map_cons, List.map_nil]); first | done | rfl | (simp only [List.length_drop, List.length_take]; rfl)) ?_; (with_reducible refine (impl_ownTable.calls a0_0 _ _ l0_1 _ _ l0_2 a0_3 r6 r7 r8 r9 _ ?side1 ?side2 ?side3 ?side4 Ee10.out).mono ?_); (case side1 => exact (Kd.C_below HR0_1.out HB.out)); (case side2 => exact HC0_1.out); (case side3 => exact (Kd.C_below HR0_2.out HB.out)); (case side4 => exact HC0_2.out); rintro ex_ w5 ⟨ve10_0, ve10_1, rfl, ho0, ho1, hb⟩; refine ⟨_, rfl, ?_⟩; have hk := Kept.of_below hb (fun _ => False); replace BKg1 := Aside0.mk (Op.mvB BKg1.out hk (fun hs => hs)); replace BKg3 := Aside0.mk (Op.mvB BKg3.out hk (fun hs => hs)); have HSw5 := Aside0.mk (And.intro (hb.size) HSw4.out); have Oe10_0 := Aside0.mk (Op.inR ho0 (a := w4.heap.size) (b := w.heap.size) HB.out.size (Nat.le_refl _)); have Oe10_1 := Aside0.mk (Op.inR ho1 (a := w4.heap.size) (b := w.heap.size) HB.out.size (Nat.le_refl _)); replace HB := Aside0.mk (Op.a5 HB.out hb); obtain ⟨Ae10_0, cAe10_0, ev_⟩ := Kd.R_slice Oe10_0.out; subst ev_; obtain ⟨Ae10_1, cAe10_1, ev_⟩ := Kd.R_slice Oe10_1.out; subst ev_; clear hb hk ho0 ho1; have hz_g1_0_w5 : w5.cell? ⟨g1, 0, none⟩ = some (.int .i64 a0_0) := (blk_cell BKg1.out 0).trans rfl; have hf_g1_0_w5 := blk_frozen BKg1.out 0; have hz_g1_1_w5 : w5.cell? ⟨g1, 1, none⟩ = some (.slice A0_1 l0_1.length c0_1) := (blk_cell BKg1.out 1).trans rfl; have hf_g1_1_w5 := blk_frozen BKg1.out 1; have hz_g1_2_w5 : w5.cell? ⟨g1, 2, none⟩ = some (.slice A0_2 l0_2.length c0_2) := (blk_cell BKg1.out 2).trans rfl; have hf_g1_2_w5 := blk_frozen BKg1.out 2; have hz_g1_3_w5 : w5.cell? ⟨g1, 3, none⟩ = some (.int .i64 a0_3) := (blk_cell BKg1.out 3).trans rfl; have hf_g1_3_w5 := blk_frozen BKg1.out 3; have hz_g3_0_w5 : w5.cell? ⟨g3, 0, none⟩ = some (.int .i64 0) := (blk_cell BKg3.out 0).trans rfl; have hf_g3_0_w5 := blk_frozen BKg3.out 0; have hz_g3_1_w5 : w5.cell? ⟨g3, 1, none⟩ = some (.slice none 0 0) := (blk_cell BKg3.out 1).trans rfl; have hf_g3_1_w5 := blk_frozen BKg3.out 1; have hz_g3_2_w5 : w5.cell? ⟨g3, 2, none⟩ = some (.slice none 0 0) := (blk_cell BKg3.out 2).trans rfl; have hf_g3_2_w5 := blk_frozen BKg3.out 2; have hz_g3_3_w5 : w5.cell? ⟨g3, 3, none⟩ = some (.int .i64 0) := (blk_cell BKg3.out 3).trans rfl; have hf_g3_3_w5 := blk_frozen BKg3.out 3) | ((with_reducible refine gate_dst (N := 6) rfl ?_); refine box_event ?hg (N := 6) ?hd (cs := #[.int .i64 0, .slice none 0 0, .slice none 0 0, .int .i64 0]) (t := 27) ?hr ?_; (case hd => rfl); (case hg => rfl); (case hr => first | (go_simp; done) | (go_simp; rfl)); intro g11 hg w12 hbox hb; have hk := Kept.of_below hb (fun _ => False); replace Oe10_0 := Aside0.mk (Op.mvR Oe10_0.out hk (fun _ _ hs => hs)); replace Oe10_1 := Aside0.mk (Op.mvR Oe10_1.out hk (fun _ _ hs => hs)); replace BKg1 := Aside0.mk (Op.mvB BKg1.out hk (fun hs => hs)); replace BKg3 := Aside0.mk (Op.mvB BKg3.out hk (fun hs => hs)); have BKg11 := Aside0.mk hbox; have GEg11 := Aside0.mk (show w.heap.size ≤ g11 from by rw [hg]; exact HB.out.size); have HSw12 := Aside0.mk (And.intro (And.intro (show w5.heap.size ≤ g11 from Nat.le_of_eq hg.symm) (And.intro (blk_lt hbox) hb.size)) HSw5.out); replace HB := Aside0.mk (Op.a5 HB.out hb); clear hg hbox hb hk; have hz_g1_0_w12 : w12.cell? ⟨g1, 0, none⟩ = some (.int .i64 a0_0) := (blk_cell BKg1.out 0).trans rfl; have hf_g1_0_w12 := blk_frozen BKg1.out 0; have hz_g1_1_w12 : w12.cell? ⟨g1, 1, none⟩ = some (.slice A0_1 l0_1.length c0_1) := (blk_cell BKg1.out 1).trans rfl; have hf_g1_1_w12 := blk_frozen BKg1.out 1; have hz_g1_2_w12 : w12.cell? ⟨g1, 2, none⟩ = some (.slice A0_2 l0_2.length c0_2) := (blk_cell BKg1.out 2).trans rfl; have hf_g1_2_w12 := blk_frozen BKg1.out 2; have hz_g1_3_w12 : w12.cell? ⟨g1, 3, none⟩ = some (.int .i64 a0_3) := (blk_cell BKg1.out 3).trans rfl; have hf_g1_3_w12 := blk_frozen BKg1.out 3; have hz_g3_0_w12 : w12.cell? ⟨g3, 0, none⟩ = some (.int .i64 0) := (blk_cell BKg3.out 0).trans rfl; have hf_g3_0_w12 := blk_frozen BKg3.out 0; have hz_g3_1_w12 : w12.cell? ⟨g3, 1, none⟩ = some (.slice none 0 0) := (blk_cell BKg3.out 1).trans rfl; have hf_g3_1_w12 := blk_frozen BKg3.out 1; have hz_g3_2_w12 : w12.cell? ⟨g3, 2, none⟩ = some (.slice none 0 0) := (blk_cell BKg3.out 2).trans rfl; have hf_g3_2_w12 := blk_frozen BKg3.out 2; have hz_g3_3_w12 : w12.cell? ⟨g3, 3, none⟩ = some (.int .i64 0) := (blk_cell BKg3.out 3).trans rfl; have hf_g3_3_w12 := blk_frozen BKg3.out 3; have hz_g11_0_w12 : w12.cell? ⟨g11, 0, none⟩ = some (.int .i64 0) := (blk_cell BKg11.out 0).trans rfl; have hf_g11_0_w12 := blk_frozen BKg11.out 0; have hz_g11_1_w12 : w12.cell? ⟨g11, 1, none⟩ = some (.slice none 0 0) := (blk_cell BKg11.out 1).trans rfl; have hf_g11_1_w12 := blk_frozen BKg11.out 1; have hz_g11_2_w12 : w12.cell? ⟨g11, 2, none⟩ = some (.slice none 0 0) := (blk_cell BKg11.out 2).trans rfl; have hf_g11_2_w12 := blk_frozen BKg11.out 2; have hz_g11_3_w12 : w12.cell? ⟨g11, 3, none⟩ = some (.int .i64 0) := (blk_cell BKg11.out 3).trans rfl; have hf_g11_3_w12 := blk_frozen BKg11.out 3) | ((with_reducible refine gate_store (t := 27) (p := 6) rfl ?_); refine store_event (t := 27) (p := 6) (v := ?vo_w13) (w1 := ((((w12.setCell ⟨g11, 0, none⟩ (.int .i64 r6)).setCell ⟨g11, 1, none⟩ (.slice Ae10_0 r7.length cAe10_0)).setCell ⟨g11, 2, none⟩ (.slice Ae10_1 r8.length cAe10_1)).setCell ⟨g11, 3, none⟩ (.int .i64 r9))) ?hg ?ho ?hn ?hr ?_; (case ho => rfl); (case hg => rfl); (case hn => rfl); (case hr => first | (go_simp; done) | (go_simp; rfl)); intro w13 hw; have hk : Kept w12 w13 (fun j => j = g11) := (by rw [hw]; exact Op.kept_put (Op.kept_put (Op.kept_put (Op.kept_put (Kept.refl _ _) 0 _) 1 _) 2 _) 3 _); replace Oe10_0 := Aside0.mk (Op.mvR Oe10_0.out hk (fun j hj hs => by (have hj2 := hj.2; have q := HSw12.out; have hs2 : j = g11 := hs; omega))); replace Oe10_1 := Aside0.mk (Op.mvR Oe10_1.out hk (fun j hj hs => by (have hj2 := hj.2; have q := HSw12.out; have hs2 : j = g11 := hs; omega))); replace BKg1 := Aside0.mk (Op.mvB BKg1.out hk (fun hs => by (have q := HSw12.out; have hs2 : g1 = g11 := hs; omega))); replace BKg3 := Aside0.mk (Op.mvB BKg3.out hk (fun hs => by (have q := HSw12.out; have hs2 : g3 = g11 := hs; omega))); replace BKg11 : Aside0 (w13.heap[g11]? = some (.cells #[.int .i64 r6, .slice Ae10_0 r7.length cAe10_0, .slice Ae10_1 r8.length cAe10_1, .int .i64 r9] 27 (0, 0))) := ⟨by rw [hw]; exact (blk_put (cs' := #[.int .i64 r6, .slice Ae10_0 r7.length cAe10_0, .slice Ae10_1 r8.length cAe10_1, .int .i64 r9]) (blk_put (cs' := #[.int .i64 r6, .slice Ae10_0 r7.length cAe10_0, .slice Ae10_1 r8.length cAe10_1, .int .i64 0]) (blk_put (cs' := #[.int .i64 r6, .slice Ae10_0 r7.length cAe10_0, .slice none 0 0, .int .i64 0]) (blk_put (cs' := #[.int .i64 r6, .slice none 0 0, .slice none 0 0, .int .i64 0]) BKg11.out 0 _ rfl) 1 _ rfl) 2 _ rfl) 3 _ rfl)⟩; replace HB : Aside0 (Below w.heap.size w w13) := ⟨by rw [hw]; exact below_set (Op.a4 (Op.a4 (Op.a4 (HB.out) GEg11.out) GEg11.out) GEg11.out) GEg11.out⟩; have HSw13 := Aside0.mk (And.intro (hk.1) HSw12.out); clear hw hk; have hz_g1_0_w13 : w13.cell? ⟨g1, 0, none⟩ = some (.int .i64 a0_0) := (blk_cell BKg1.out 0).trans rfl; have hf_g1_0_w13 := blk_frozen BKg1.out 0; have hz_g1_1_w13 : w13.cell? ⟨g1, 1, none⟩ = some (.slice A0_1 l0_1.length c0_1) := (blk_cell BKg1.out 1).trans rfl; have hf_g1_1_w13 := blk_frozen BKg1.out 1; have hz_g1_2_w13 : w13.cell? ⟨g1, 2, none⟩ = some (.slice A0_2 l0_2.length c0_2) := (blk_cell BKg1.out 2).trans rfl; have hf_g1_2_w13 := blk_frozen BKg1.out 2; have hz_g1_3_w13 : w13.cell? ⟨g1, 3, none⟩ = some (.int .i64 a0_3) := (blk_cell BKg1.out 3).trans rfl; have hf_g1_3_w13 := blk_frozen BKg1.out 3; have hz_g3_0_w13 : w13.cell? ⟨g3, 0, none⟩ = some (.int .i64 0) := (blk_cell BKg3.out 0).trans rfl; have hf_g3_0_w13 := blk_frozen BKg3.out 0; have hz_g3_1_w13 : w13.cell? ⟨g3, 1, none⟩ = some (.slice none 0 0) := (blk_cell BKg3.out 1).trans rfl; have hf_g3_1_w13 := blk_frozen BKg3.out 1; have hz_g3_2_w13 : w13.cell? ⟨g3, 2, none⟩ = some (.slice none 0 0) := (blk_cell BKg3.out 2).trans rfl; have hf_g3_2_w13 := blk_frozen BKg3.out 2; have hz_g3_3_w13 : w13.cell? ⟨g3, 3, none⟩ = some (.int .i64 0) := (blk_cell BKg3.out 3).trans rfl; have hf_g3_3_w13 := blk_frozen BKg3.out 3; have hz_g11_0_w13 : w13.cell? ⟨g11, 0, none⟩ = some (.int .i64 r6) := (blk_cell BKg11.out 0).trans rfl; have hf_g11_0_w13 := blk_frozen BKg11.out 0; have hz_g11_1_w13 : w13.cell? ⟨g11, 1, none⟩ = some (.slice Ae10_0 r7.length cAe10_0) := (blk_cell BKg11.out 1).trans rfl; have hf_g11_1_w13 := blk_frozen BKg11.out 1; have hz_g11_2_w13 : w13.cell? ⟨g11, 2, none⟩ = some (.slice Ae10_1 r8.length cAe10_1) := (blk_cell BKg11.out 2).trans rfl; have hf_g11_2_w13 := blk_frozen BKg11.out 2; have hz_g11_3_w13 : w13.cell? ⟨g11, 3, none⟩ = some (.int .i64 r9) := (blk_cell BKg11.out 3).trans rfl; have hf_g11_3_w13 := blk_frozen BKg11.out 3; obtain ⟨gr21, cxgr21, evgr21, hgegr21, _⟩ := Kd.R_form Oe10_0.out (by have h_ := of_eq_true q18a_; have h2_ := of_eq_true q18b_; omega); injection evgr21 with f1_ f2_ f3_; subst f1_; subst f3_; have GRgr21 := Aside0.mk hgegr21; clear hgegr21 f2_; obtain ⟨gr22, cxgr22, evgr22, hgegr22, _⟩ := Kd.R_form Oe10_1.out (by have h_ := of_eq_true q19a_; have h2_ := of_eq_true q19b_; omega); injection evgr22 with f1_ f2_ f3_; subst f1_; subst f3_; have GRgr22 := Aside0.mk hgegr22; clear hgegr22 f2_) | ((with_reducible refine gate_callee (f := 48) rfl ?_); refine goesL_ (some 11) rfl rfl Try.func48 (by kernel_rfl) rfl #[.pointer (some ⟨g11, 0, none⟩), .int .i64 a1] rfl (by (try simp only [List.map_toArray, List.map_cons, List.map_nil]); first | done | rfl) ?_; refine (impl_Table_find.calls g11 r6 r9 a1 ⟨gr21, 0, none⟩ ⟨gr22, 0, none⟩ cAe10_0 cAe10_1 r7 r8 r14 r15 w13 BKg11.out (Kd.R_reads' Oe10_0.out).2.2 (Kd.R_reads' Oe10_1.out).2.2 Ee16.out (of_eq_true q18a_) (of_eq_true q18b_) (of_eq_true q19a_) (of_eq_true q19b_)).mono ?_; rintro ex_ w17 ⟨rfl, hb⟩; refine ⟨.pointer (some ⟨gr21, r14.toNat * 3, none⟩), (congrArg Ending.returned (impl_Table_find.retL (of_eq_true q20_))), ?_⟩; have hk := Kept.of_below hb (fun _ => False); replace Oe10_0 := Aside0.mk (Op.mvR Oe10_0.out hk (fun _ _ hs => hs)); replace Oe10_1 := Aside0.mk (Op.mvR Oe10_1.out hk (fun _ _ hs => hs)); replace BKg1 := Aside0.mk (Op.mvB BKg1.out hk (fun hs => hs)); replace BKg3 := Aside0.mk (Op.mvB BKg3.out hk (fun hs => hs)); replace BKg11 := Aside0.mk (Op.mvB BKg11.out hk (fun hs => hs)); have HSw17 := Aside0.mk (And.intro (hb.size) HSw13.out); replace HB := Aside0.mk (Op.a5 HB.out hb); clear hb hk; have hz_g1_0_w17 : w17.cell? ⟨g1, 0, none⟩ = some (.int .i64 a0_0) := (blk_cell BKg1.out 0).trans rfl; have hf_g1_0_w17 := blk_frozen BKg1.out 0; have hz_g1_1_w17 : w17.cell? ⟨g1, 1, none⟩ = some (.slice A0_1 l0_1.length c0_1) := (blk_cell BKg1.out 1).trans rfl; have hf_g1_1_w17 := blk_frozen BKg1.out 1; have hz_g1_2_w17 : w17.cell? ⟨g1, 2, none⟩ = some (.slice A0_2 l0_2.length c0_2) := (blk_cell BKg1.out 2).trans rfl; have hf_g1_2_w17 := blk_frozen BKg1.out 2; have hz_g1_3_w17 : w17.cell? ⟨g1, 3, none⟩ = some (.int .i64 a0_3) := (blk_cell BKg1.out 3).trans rfl; have hf_g1_3_w17 := blk_frozen BKg1.out 3; have hz_g3_0_w17 : w17.cell? ⟨g3, 0, none⟩ = some (.int .i64 0) := (blk_cell BKg3.out 0).trans rfl; have hf_g3_0_w17 := blk_frozen BKg3.out 0; have hz_g3_1_w17 : w17.cell? ⟨g3, 1, none⟩ = some (.slice none 0 0) := (blk_cell BKg3.out 1).trans rfl; have hf_g3_1_w17 := blk_frozen BKg3.out 1; have hz_g3_2_w17 : w17.cell? ⟨g3, 2, none⟩ = some (.slice none 0 0) := (blk_cell BKg3.out 2).trans rfl; have hf_g3_2_w17 := blk_frozen BKg3.out 2; have hz_g3_3_w17 : w17.cell? ⟨g3, 3, none⟩ = some (.int .i64 0) := (blk_cell BKg3.out 3).trans rfl; have hf_g3_3_w17 := blk_frozen BKg3.out 3; have hz_g11_0_w17 : w17.cell? ⟨g11, 0, none⟩ = some (.int .i64 r6) := (blk_cell BKg11.out 0).trans rfl; have hf_g11_0_w17 := blk_frozen BKg11.out 0; have hz_g11_1_w17 : w17.cell? ⟨g11, 1, none⟩ = some (.slice (some ⟨gr21, 0, none⟩) r7.length cAe10_0) := (blk_cell BKg11.out 1).trans rfl; have hf_g11_1_w17 := blk_frozen BKg11.out 1; have hz_g11_2_w17 : w17.cell? ⟨g11, 2, none⟩ = some (.slice (some ⟨gr22, 0, none⟩) r8.length cAe10_1) := (blk_cell BKg11.out 2).trans rfl; have hf_g11_2_w17 := blk_frozen BKg11.out 2; have hz_g11_3_w17 : w17.cell? ⟨g11, 3, none⟩ = some (.int .i64 r9) := (blk_cell BKg11.out 3).trans rfl; have hf_g11_3_w17 := blk_frozen BKg11.out 3; have hsl_ := impl_Table_find.slot Oe10_0.out (of_eq_true q18a_) (of_eq_true q18b_); obtain ⟨⟨hsx0, hsx1, hsx2⟩, hsf0, hsf1, hsf2⟩ := hsl_) | ((with_reducible refine gate_store (t := 60) (p := 17) rfl ?_); refine store_event (t := 60) (p := 17) (v := ?vo_w23) (w1 := (((w17.setCell ⟨gr21, r14.toNat * 3, none⟩ (.bool false)).setCell ⟨gr21, r14.toNat * 3 + 1, none⟩ (.int .i64 0)).setCell ⟨gr21, r14.toNat * 3 + 2, none⟩ (.int .i64 0))) ?hg ?ho ?hn ?hr ?_; (case ho => rfl); (case hg => rfl); (case hn => rfl); (case hr => first | (go_simp; done) | (go_simp; rfl)); intro w23 hw; have hP := impl_Table_find.put Oe10_0.out (of_eq_true q18a_) (by have h_ := of_eq_true q18b_; exact h_); rw [← hw] at hP; obtain ⟨ho0, hk⟩ := hP; replace Oe10_1 := Aside0.mk (Kd.R_reok rfl (Op.mvR (Op.tiR rfl Oe10_1.out) hk (fun j hj hs => by (first | exact hj.2.1 hs.1 | exact hj.2.1.1 hs.1 | exact hj.2.1.2 hs.1 | exact hj.2.1.2.1 hs.1 | exact hj.2.1.2.2 hs.1 | exact hj.2.1.2.2.1 hs.1 | exact hj.2.1.2.2.2 hs.1 | exact hs.2.1 hj.1 | exact hs.2.1.1 hj.1 | exact hs.2.1.2 hj.1 | exact hs.2.1.2.1 hj.1 | exact hs.2.1.2.2 hj.1 | exact hs.2.1.2.2.1 hj.1 | exact hs.2.1.2.2.2 hj.1))) Oe10_1.out.1); replace BKg1 := Aside0.mk (Op.mvB BKg1.out hk (fun hs => by (have q := HSw17.out; have hs2 := hs.2.2; omega))); replace BKg3 := Aside0.mk (Op.mvB BKg3.out hk (fun hs => by (have q := HSw17.out; have hs2 := hs.2.2; omega))); replace BKg11 := Aside0.mk (Op.mvB BKg11.out hk (fun hs => by (have q := HSw17.out; have hs2 := hs.2.2; omega))); replace HB : Aside0 (Below w.heap.size w w23) := ⟨by rw [hw]; exact below_set (Op.a4 (Op.a4 (HB.out) GRgr21.out) GRgr21.out) GRgr21.out⟩; have HSw23 := Aside0.mk (And.intro (hk.1) HSw17.out); replace Oe10_0 := Aside0.mk (Kd.R_reok rfl ho0 (fun k_ hk_ => (Oe10_0.out.1 k_ hk_))); clear ho0 hw hk; have hz_g1_0_w23 : w23.cell? ⟨g1, 0, none⟩ = some (.int .i64 a0_0) := (blk_cell BKg1.out 0).trans rfl; have hf_g1_0_w23 := blk_frozen BKg1.out 0; have hz_g1_1_w23 : w23.cell? ⟨g1, 1, none⟩ = some (.slice A0_1 l0_1.length c0_1) := (blk_cell BKg1.out 1).trans rfl; have hf_g1_1_w23 := blk_frozen BKg1.out 1; have hz_g1_2_w23 : w23.cell? ⟨g1, 2, none⟩ = some (.slice A0_2 l0_2.length c0_2) := (blk_cell BKg1.out 2).trans rfl; have hf_g1_2_w23 := blk_frozen BKg1.out 2; have hz_g1_3_w23 : w23.cell? ⟨g1, 3, none⟩ = some (.int .i64 a0_3) := (blk_cell BKg1.out 3).trans rfl; have hf_g1_3_w23 := blk_frozen BKg1.out 3; have hz_g3_0_w23 : w23.cell? ⟨g3, 0, none⟩ = some (.int .i64 0) := (blk_cell BKg3.out 0).trans rfl; have hf_g3_0_w23 := blk_frozen BKg3.out 0; have hz_g3_1_w23 : w23.cell? ⟨g3, 1, none⟩ = some (.slice none 0 0) := (blk_cell BKg3.out 1).trans rfl; have hf_g3_1_w23 := blk_frozen BKg3.out 1; have hz_g3_2_w23 : w23.cell? ⟨g3, 2, none⟩ = some (.slice none 0 0) := (blk_cell BKg3.out 2).trans rfl; have hf_g3_2_w23 := blk_frozen BKg3.out 2; have hz_g3_3_w23 : w23.cell? ⟨g3, 3, none⟩ = some (.int .i64 0) := (blk_cell BKg3.out 3).trans rfl; have hf_g3_3_w23 := blk_frozen BKg3.out 3; have hz_g11_0_w23 : w23.cell? ⟨g11, 0, none⟩ = some (.int .i64 r6) := (blk_cell BKg11.out 0).trans rfl; have hf_g11_0_w23 := blk_frozen BKg11.out 0; have hz_g11_1_w23 : w23.cell? ⟨g11, 1, none⟩ = some (.slice (some ⟨gr21, 0, none⟩) r7.length cAe10_0) := (blk_cell BKg11.out 1).trans rfl; have hf_g11_1_w23 := blk_frozen BKg11.out 1; have hz_g11_2_w23 : w23.cell? ⟨g11, 2, none⟩ = some (.slice (some ⟨gr22, 0, none⟩) r8.length cAe10_1) := (blk_cell BKg11.out 2).trans rfl; have hf_g11_2_w23 := blk_frozen BKg11.out 2; have hz_g11_3_w23 : w23.cell? ⟨g11, 3, none⟩ = some (.int .i64 r9) := (blk_cell BKg11.out 3).trans rfl; have hf_g11_3_w23 := blk_frozen BKg11.out 3) | ((with_reducible refine gate_store (t := 3) (p := 21) rfl ?_); refine store_event (t := 3) (p := 21) (v := ?vo_w24) (w1 := (w23.setCell ⟨g11, 3, none⟩ (.int .i64 (wrap64 (r9 - 1))))) ?hg ?ho ?hn ?hr ?_; (case ho => rfl); (case hg => rfl); (case hn => rfl); (case hr => first | (go_simp; done) | (go_simp; rfl)); intro w24 hw; have hk : Kept w23 w24 (fun j => j = g11) := (by rw [hw]; exact Op.kept_put (Kept.refl _ _) 3 _); replace Oe10_0 := Aside0.mk (Op.mvR Oe10_0.out hk (fun j hj hs => by (have hj2 := hj.2; have q := HSw23.out; have hs2 : j = g11 := hs; omega))); replace Oe10_1 := Aside0.mk (Op.mvR Oe10_1.out hk (fun j hj hs => by (have hj2 := hj.2; have q := HSw23.out; have hs2 : j = g11 := hs; omega))); replace BKg1 := Aside0.mk (Op.mvB BKg1.out hk (fun hs => by (have q := HSw23.out; have hs2 : g1 = g11 := hs; omega))); replace BKg3 := Aside0.mk (Op.mvB BKg3.out hk (fun hs => by (have q := HSw23.out; have hs2 : g3 = g11 := hs; omega))); replace BKg11 : Aside0 (w24.heap[g11]? = some (.cells #[.int .i64 r6, .slice (some ⟨gr21, 0, none⟩) r7.length cAe10_0, .slice (some ⟨gr22, 0, none⟩) r8.length cAe10_1, .int .i64 (wrap64 (r9 - 1))] 27 (0, 0))) := ⟨by rw [hw]; exact (blk_put (cs' := #[.int .i64 r6, .slice (some ⟨gr21, 0, none⟩) r7.length cAe10_0, .slice (some ⟨gr22, 0, none⟩) r8.length cAe10_1, .int .i64 (wrap64 (r9 - 1))]) BKg11.out 3 _ rfl)⟩; replace HB : Aside0 (Below w.heap.size w w24) := ⟨by rw [hw]; exact below_set HB.out GEg11.out⟩; have HSw24 := Aside0.mk (And.intro (hk.1) HSw23.out); clear hw hk; have hz_g1_0_w24 : w24.cell? ⟨g1, 0, none⟩ = some (.int .i64 a0_0) := (blk_cell BKg1.out 0).trans rfl; have hf_g1_0_w24 := blk_frozen BKg1.out 0; have hz_g1_1_w24 : w24.cell? ⟨g1, 1, none⟩ = some (.slice A0_1 l0_1.length c0_1) := (blk_cell BKg1.out 1).trans rfl; have hf_g1_1_w24 := blk_frozen BKg1.out 1; have hz_g1_2_w24 : w24.cell? ⟨g1, 2, none⟩ = some (.slice A0_2 l0_2.length c0_2) := (blk_cell BKg1.out 2).trans rfl; have hf_g1_2_w24 := blk_frozen BKg1.out 2; have hz_g1_3_w24 : w24.cell? ⟨g1, 3, none⟩ = some (.int .i64 a0_3) := (blk_cell BKg1.out 3).trans rfl; have hf_g1_3_w24 := blk_frozen BKg1.out 3; have hz_g3_0_w24 : w24.cell? ⟨g3, 0, none⟩ = some (.int .i64 0) := (blk_cell BKg3.out 0).trans rfl; have hf_g3_0_w24 := blk_frozen BKg3.out 0; have hz_g3_1_w24 : w24.cell? ⟨g3, 1, none⟩ = some (.slice none 0 0) := (blk_cell BKg3.out 1).trans rfl; have hf_g3_1_w24 := blk_frozen BKg3.out 1; have hz_g3_2_w24 : w24.cell? ⟨g3, 2, none⟩ = some (.slice none 0 0) := (blk_cell BKg3.out 2).trans rfl; have hf_g3_2_w24 := blk_frozen BKg3.out 2; have hz_g3_3_w24 : w24.cell? ⟨g3, 3, none⟩ = some (.int .i64 0) := (blk_cell BKg3.out 3).trans rfl; have hf_g3_3_w24 := blk_frozen BKg3.out 3; have hz_g11_0_w24 : w24.cell? ⟨g11, 0, none⟩ = some (.int .i64 r6) := (blk_cell BKg11.out 0).trans rfl; have hf_g11_0_w24 := blk_frozen BKg11.out 0; have hz_g11_1_w24 : w24.cell? ⟨g11, 1, none⟩ = some (.slice (some ⟨gr21, 0, none⟩) r7.length cAe10_0) := (blk_cell BKg11.out 1).trans rfl; have hf_g11_1_w24 := blk_frozen BKg11.out 1; have hz_g11_2_w24 : w24.cell? ⟨g11, 2, none⟩ = some (.slice (some ⟨gr22, 0, none⟩) r8.length cAe10_1) := (blk_cell BKg11.out 2).trans rfl; have hf_g11_2_w24 := blk_frozen BKg11.out 2; have hz_g11_3_w24 : w24.cell? ⟨g11, 3, none⟩ = some (.int .i64 (wrap64 (r9 - 1))) := (blk_cell BKg11.out 3).trans rfl; have hf_g11_3_w24 := blk_frozen BKg11.out 3) | ((with_reducible refine gate_store (t := 27) (p := 4) rfl ?_); refine store_event (t := 27) (p := 4) (v := ?vo_w25) (w1 := ((((w24.setCell ⟨g3, 0, none⟩ (.int .i64 r6)).setCell ⟨g3, 1, none⟩ (.slice (some ⟨gr21, 0, none⟩) r7.length cAe10_0)).setCell ⟨g3, 2, none⟩ (.slice (some ⟨gr22, 0, none⟩) r8.length cAe10_1)).setCell ⟨g3, 3, none⟩ (.int .i64 (wrap64 (r9 - 1))))) ?hg ?ho ?hn ?hr ?_; (case ho => rfl); (case hg => rfl); (case hn => rfl); (case hr => first | (go_simp; done) | (go_simp; rfl)); intro w25 hw; have hk : Kept w24 w25 (fun j => j = g3) := (by rw [hw]; exact Op.kept_put (Op.kept_put (Op.kept_put (Op.kept_put (Kept.refl _ _) 0 _) 1 _) 2 _) 3 _); replace Oe10_0 := Aside0.mk (Op.mvR Oe10_0.out hk (fun j hj hs => by (have hj2 := hj.2; have q := HSw24.out; have hs2 : j = g3 := hs; omega))); replace Oe10_1 := Aside0.mk (Op.mvR Oe10_1.out hk (fun j hj hs => by (have hj2 := hj.2; have q := HSw24.out; have hs2 : j = g3 := hs; omega))); replace BKg1 := Aside0.mk (Op.mvB BKg1.out hk (fun hs => by (have q := HSw24.out; have hs2 : g1 = g3 := hs; omega))); replace BKg11 := Aside0.mk (Op.mvB BKg11.out hk (fun hs => by (have q := HSw24.out; have hs2 : g11 = g3 := hs; omega))); replace BKg3 : Aside0 (w25.heap[g3]? = some (.cells #[.int .i64 r6, .slice (some ⟨gr21, 0, none⟩) r7.length cAe10_0, .slice (some ⟨gr22, 0, none⟩) r8.length cAe10_1, .int .i64 (wrap64 (r9 - 1))] 27 (0, 0))) := ⟨by rw [hw]; exact (blk_put (cs' := #[.int .i64 r6, .slice (some ⟨gr21, 0, none⟩) r7.length cAe10_0, .slice (some ⟨gr22, 0, none⟩) r8.length cAe10_1, .int .i64 (wrap64 (r9 - 1))]) (blk_put (cs' := #[.int .i64 r6, .slice (some ⟨gr21, 0, none⟩) r7.length cAe10_0, .slice (some ⟨gr22, 0, none⟩) r8.length cAe10_1, .int .i64 0]) (blk_put (cs' := #[.int .i64 r6, .slice (some ⟨gr21, 0, none⟩) r7.length cAe10_0, .slice none 0 0, .int .i64 0]) (blk_put (cs' := #[.int .i64 r6, .slice none 0 0, .slice none 0 0, .int .i64 0]) BKg3.out 0 _ rfl) 1 _ rfl) 2 _ rfl) 3 _ rfl)⟩; replace HB : Aside0 (Below w.heap.size w w25) := ⟨by rw [hw]; exact below_set (Op.a4 (Op.a4 (Op.a4 (HB.out) GEg3.out) GEg3.out) GEg3.out) GEg3.out⟩; have HSw25 := Aside0.mk (And.intro (hk.1) HSw24.out); clear hw hk; have hz_g1_0_w25 : w25.cell? ⟨g1, 0, none⟩ = some (.int .i64 a0_0) := (blk_cell BKg1.out 0).trans rfl; have hf_g1_0_w25 := blk_frozen BKg1.out 0; have hz_g1_1_w25 : w25.cell? ⟨g1, 1, none⟩ = some (.slice A0_1 l0_1.length c0_1) := (blk_cell BKg1.out 1).trans rfl; have hf_g1_1_w25 := blk_frozen BKg1.out 1; have hz_g1_2_w25 : w25.cell? ⟨g1, 2, none⟩ = some (.slice A0_2 l0_2.length c0_2) := (blk_cell BKg1.out 2).trans rfl; have hf_g1_2_w25 := blk_frozen BKg1.out 2; have hz_g1_3_w25 : w25.cell? ⟨g1, 3, none⟩ = some (.int .i64 a0_3) := (blk_cell BKg1.out 3).trans rfl; have hf_g1_3_w25 := blk_frozen BKg1.out 3; have hz_g3_0_w25 : w25.cell? ⟨g3, 0, none⟩ = some (.int .i64 r6) := (blk_cell BKg3.out 0).trans rfl; have hf_g3_0_w25 := blk_frozen BKg3.out 0; have hz_g3_1_w25 : w25.cell? ⟨g3, 1, none⟩ = some (.slice (some ⟨gr21, 0, none⟩) r7.length cAe10_0) := (blk_cell BKg3.out 1).trans rfl; have hf_g3_1_w25 := blk_frozen BKg3.out 1; have hz_g3_2_w25 : w25.cell? ⟨g3, 2, none⟩ = some (.slice (some ⟨gr22, 0, none⟩) r8.length cAe10_1) := (blk_cell BKg3.out 2).trans rfl; have hf_g3_2_w25 := blk_frozen BKg3.out 2; have hz_g3_3_w25 : w25.cell? ⟨g3, 3, none⟩ = some (.int .i64 (wrap64 (r9 - 1))) := (blk_cell BKg3.out 3).trans rfl; have hf_g3_3_w25 := blk_frozen BKg3.out 3; have hz_g11_0_w25 : w25.cell? ⟨g11, 0, none⟩ = some (.int .i64 r6) := (blk_cell BKg11.out 0).trans rfl; have hf_g11_0_w25 := blk_frozen BKg11.out 0; have hz_g11_1_w25 : w25.cell? ⟨g11, 1, none⟩ = some (.slice (some ⟨gr21, 0, none⟩) r7.length cAe10_0) := (blk_cell BKg11.out 1).trans rfl; have hf_g11_1_w25 := blk_frozen BKg11.out 1; have hz_g11_2_w25 : w25.cell? ⟨g11, 2, none⟩ = some (.slice (some ⟨gr22, 0, none⟩) r8.length cAe10_1) := (blk_cell BKg11.out 2).trans rfl; have hf_g11_2_w25 := blk_frozen BKg11.out 2; have hz_g11_3_w25 : w25.cell? ⟨g11, 3, none⟩ = some (.int .i64 (wrap64 (r9 - 1))) := (blk_cell BKg11.out 3).trans rfl; have hf_g11_3_w25 := blk_frozen BKg11.out 3))
 refine bodyPost_ret (results_ct rfl _ _ g3 27 #[.int .i64 r6, .slice (some ⟨gr21, 0, none⟩) r7.length cAe10_0, .slice (some ⟨gr22, 0, none⟩) r8.length cAe10_1, .int .i64 (wrap64 (r9 - 1))] (0, 0) _ rfl BKg3.out Try.underlying27 rfl (by kernel_rfl)) rfl ?_
 exact ⟨_, _, rfl, Kd.R_mono Oe10_0.out (fun k_ hk_ => (by first | exact hk_.1 | exact hk_.1.1 | exact hk_.1.2 | exact hk_.1.2.1 | exact hk_.1.2.2 | exact fun e_ => hk_.1 (e_.trans (Op.own_len _ _ _ _)) | exact fun e_ => hk_.1.1 (e_.trans (Op.own_len _ _ _ _)) | exact fun e_ => hk_.1.2 (e_.trans (Op.own_len _ _ _ _)) | (intro e_; have z1_ := hk_.2; have z2_ := (Oe10_1.out.1 k_ e_.symm).2; have q := HSw25.out; omega))), Kd.R_mono Oe10_1.out (fun k_ hk_ => (by first | exact hk_.1 | exact hk_.1.1 | exact hk_.1.2 | exact hk_.1.2.1 | exact hk_.1.2.2 | exact fun e_ => hk_.1 (e_.trans (Op.own_len _ _ _ _)) | exact fun e_ => hk_.1.1 (e_.trans (Op.own_len _ _ _ _)) | exact fun e_ => hk_.1.2 (e_.trans (Op.own_len _ _ _ _)) | (intro e_; have z1_ := hk_.2; have z2_ := (Oe10_0.out.1 k_ e_.symm).2; have q := HSw25.out; omega))), HB.out⟩

/-! ### impl_drop_R: function 51 -/
/-- what it does, one after the other -/
def impl_drop_R.f (k : Nat) (a0_0 : Int) (l0_1 : List (S60)) (l0_2 : List (S60)) (a0_3 : Int) (a1 : Int) : Option (Int × List (S60) × List (S60) × Int × Bool) :=
 (impl_ownTable.f a0_0 l0_1 l0_2 a0_3).bind fun be10 => (impl_placesOf.f be10.1 a1).bind fun be16 => if 0 ≤ be16.1 then (if be16.1 < (be10.2.1.length : Int) then (if 0 ≤ be16.2 then (if be16.2 < (be10.2.2.1.length : Int) then (if ¬ (impl_Table_find.hit (rd_T60 be10.2.1 be16.1) a1 = true) then (if impl_Table_find.hit (rd_T60 be10.2.2.1 be16.2) a1 = true then (some (be10.1, be10.2.1, (be10.2.2.1.set be16.2.toNat (⟨false, 0, 0⟩ : S60)), (wrap64 (be10.2.2.2 - 1)), true)) else none) else none) else none) else none) else none) else none
set_option maxRecDepth 100000 in
set_option maxHeartbeats 8000000 in
theorem impl_drop_R.calls (k : Nat) (a0_0 : Int) (A0_1 : Option Addr) (c0_1 : Nat) (l0_1 : List (S60)) (A0_2 : Option Addr) (c0_2 : Nat) (l0_2 : List (S60)) (a0_3 : Int) (a1 : Int) (r9001 : Int) (r9002 : List (S60)) (r9003 : List (S60)) (r9004 : Int) (r9005 : Bool) (w : World) (hr0_1 : Kd.C k60 w A0_1 l0_1.length l0_1) (hc0_1 : l0_1.length ≤ c0_1) (hr0_2 : Kd.C k60 w A0_2 l0_2.length l0_2) (hc0_2 : l0_2.length ≤ c0_2) (h : impl_drop_R.f k a0_0 l0_1 l0_2 a0_3 a1 = some (r9001, r9002, r9003, r9004, r9005)) :
  Calls Try.prog 51 #[.agg #[.int .i64 a0_0, .slice A0_1 l0_1.length c0_1, .slice A0_2 l0_2.length c0_2, .int .i64 a0_3], .int .i64 a1] w fun e w' => ∃ v0_ v1_ : Value, e = .returned (.tuple #[.agg #[.int .i64 r9001, v0_, v1_, .int .i64 r9004], .bool r9005]) ∧ Kd.R k60 60 w' w.heap.size (fun k_ => some k_ ≠ (v1_ : Value).ownBlock) v0_ r9002 ∧ Kd.R k60 60 w' w.heap.size (fun k_ => some k_ ≠ (v0_ : Value).ownBlock) v1_ r9003 ∧ Below w.heap.size w w' := by
 have hu27 := Try.underlying27
 have HR0_1 := Aside0.mk hr0_1
 have HC0_1 := Aside0.mk hc0_1
 have HR0_2 := Aside0.mk hr0_2
 have HC0_2 := Aside0.mk hc0_2
 clear hr0_1 hc0_1 hr0_2 hc0_2
 have HB := Aside0.mk (Below.refl w.heap.size w)
 have HS0 : Aside0 (0 ≤ w.heap.size) := ⟨Nat.zero_le _⟩
 unfold impl_drop_R.f at h
 replace h := Option.bind_eq_some_iff.1 h
 obtain ⟨⟨r6, r7, r8, r9⟩, e10, h⟩ := h
 try dsimp only at h
 have Ee10 := Aside0.mk e10
 clear e10
 replace h := Option.bind_eq_some_iff.1 h
 obtain ⟨⟨r14, r15⟩, e16, h⟩ := h
 try dsimp only at h
 have Ee16 := Aside0.mk e16
 clear e16
 by_cases q18a_ : 0 ≤ r14
 case neg => rw [if_neg q18a_] at h; exact absurd h (by simp)
 replace h := (if_pos q18a_).symm.trans h
 replace q18a_ := eq_true q18a_
 by_cases q18b_ : r14 < (r7.length : Int)
 case neg => rw [if_neg q18b_] at h; exact absurd h (by simp)
 replace h := (if_pos q18b_).symm.trans h
 replace q18b_ := eq_true q18b_
 by_cases q19a_ : 0 ≤ r15
 case neg => rw [if_neg q19a_] at h; exact absurd h (by simp)
 replace h := (if_pos q19a_).symm.trans h
 replace q19a_ := eq_true q19a_
 by_cases q19b_ : r15 < (r8.length : Int)
 case neg => rw [if_neg q19b_] at h; exact absurd h (by simp)
 replace h := (if_pos q19b_).symm.trans h
 replace q19b_ := eq_true q19b_
 by_cases q20_ : ¬ (impl_Table_find.hit (rd_T60 r7 r14) a1 = true)
 case neg => rw [if_neg q20_] at h; exact absurd h (by simp)
 replace h := (if_pos q20_).symm.trans h
 replace q20_ := eq_true q20_
 by_cases q21_ : impl_Table_find.hit (rd_T60 r8 r15) a1 = true
 case neg => rw [if_neg q21_] at h; exact absurd h (by simp)
 replace h := (if_pos q21_).symm.trans h
 replace q21_ := eq_true q21_
 simp only [Option.some.injEq, Prod.mk.injEq] at h
 obtain ⟨rfl, rfl, rfl, rfl, rfl⟩ := h
 go_enter Try.func51, Try.ntmps51
 go_wp2_with (first | ((with_reducible refine gate_dst (N := 2) rfl ?_); refine box_event ?hg (N := 2) ?hd (cs := #[.int .i64 a0_0, .slice A0_1 l0_1.length c0_1, .slice A0_2 l0_2.length c0_2, .int .i64 a0_3]) (t := 27) ?hr ?_; (case hd => rfl); (case hg => rfl); (case hr => first | (go_simp; done) | (go_simp; rfl)); intro g1 hg w2 hbox hb; have hk := Kept.of_below hb (fun _ => False); have BKg1 := Aside0.mk hbox; have GEg1 := Aside0.mk (show w.heap.size ≤ g1 from by rw [hg]; exact HB.out.size); have HSw2 := Aside0.mk (And.intro (And.intro (show w.heap.size ≤ g1 from Nat.le_of_eq hg.symm) (And.intro (blk_lt hbox) hb.size)) HS0.out); replace HB := Aside0.mk (Op.a5 HB.out hb); clear hg hbox hb hk; have hz_g1_0_w2 : w2.cell? ⟨g1, 0, none⟩ = some (.int .i64 a0_0) := (blk_cell BKg1.out 0).trans rfl; have hf_g1_0_w2 := blk_frozen BKg1.out 0; have hz_g1_1_w2 : w2.cell? ⟨g1, 1, none⟩ = some (.slice A0_1 l0_1.length c0_1) := (blk_cell BKg1.out 1).trans rfl; have hf_g1_1_w2 := blk_frozen BKg1.out 1; have hz_g1_2_w2 : w2.cell? ⟨g1, 2, none⟩ = some (.slice A0_2 l0_2.length c0_2) := (blk_cell BKg1.out 2).trans rfl; have hf_g1_2_w2 := blk_frozen BKg1.out 2; have hz_g1_3_w2 : w2.cell? ⟨g1, 3, none⟩ = some (.int .i64 a0_3) := (blk_cell BKg1.out 3).trans rfl; have hf_g1_3_w2 := blk_frozen BKg1.out 3) | ((with_reducible refine gate_dst (N := 4) rfl ?_); refine box_event ?hg (N := 4) ?hd (cs := #[.int .i64 0, .slice none 0 0, .slice none 0 0, .int .i64 0]) (t := 27) ?hr ?_; (case hd => rfl); (case hg => rfl); (case hr => first | (go_simp; done) | (go_simp; rfl)); intro g3 hg w4 hbox hb; have hk := Kept.of_below hb (fun _ => False); replace BKg1 := Aside0.mk (Op.mvB BKg1.out hk (fun hs => hs)); have BKg3 := Aside0.mk hbox; have GEg3 := Aside0.mk (show w.heap.size ≤ g3 from by rw [hg]; exact HB.out.size); have HSw4 := Aside0.mk (And.intro (And.intro (show w2.heap.size ≤ g3 from Nat.le_of_eq hg.symm) (And.intro (blk_lt hbox) hb.size)) HSw2.out); replace HB := Aside0.mk (Op.a5 HB.out hb); clear hg hbox hb hk; have hz_g1_0_w4 : w4.cell? ⟨g1, 0, none⟩ = some (.int .i64 a0_0) := (blk_cell BKg1.out 0).trans rfl; have hf_g1_0_w4 := blk_frozen BKg1.out 0; have hz_g1_1_w4 : w4.cell? ⟨g1, 1, none⟩ = some (.slice A0_1 l0_1.length c0_1) := (blk_cell BKg1.out 1).trans rfl; have hf_g1_1_w4 := blk_frozen BKg1.out 1; have hz_g1_2_w4 : w4.cell? ⟨g1, 2, none⟩ = some (.slice A0_2 l0_2.length c0_2) := (blk_cell BKg1.out 2).trans rfl; have hf_g1_2_w4 := blk_frozen BKg1.out 2; have hz_g1_3_w4 : w4.cell? ⟨g1, 3, none⟩ = some (.int .i64 a0_3) := (blk_cell BKg1.out 3).trans rfl; have hf_g1_3_w4 := blk_frozen BKg1.out 3; have hz_g3_0_w4 : w4.cell? ⟨g3, 0, none⟩ = some (.int .i64 0) := (blk_cell BKg3.out 0).trans rfl; have hf_g3_0_w4 := blk_frozen BKg3.out 0; have hz_g3_1_w4 : w4.cell? ⟨g3, 1, none⟩ = some (.slice none 0 0) := (blk_cell BKg3.out 1).trans rfl; have hf_g3_1_w4 := blk_frozen BKg3.out 1; have hz_g3_2_w4 : w4.cell? ⟨g3, 2, none⟩ = some (.slice none 0 0) := (blk_cell BKg3.out 2).trans rfl; have hf_g3_2_w4 := blk_frozen BKg3.out 2; have hz_g3_3_w4 : w4.cell? ⟨g3, 3, none⟩ = some (.int .i64 0) := (blk_cell BKg3.out 3).trans rfl; have hf_g3_3_w4 := blk_frozen BKg3.out 3) | ((with_reducible refine gate_callee (f := 57) rfl ?_); refine goesL_ (some 9) rfl rfl Try.func57 (by kernel_rfl) rfl #[.agg #[.int .i64 a0_0, .slice A0_1 l0_1.length c0_1, .slice A0_2 l0_2.length c0_2, .int .i64 a0_3]] rfl (by (try simp only [List.map_toArray, List.map_cons, List.map_nil]); first | done | rfl | (simp only [List.length_drop, List.length_take]; rfl)) ?_; (with_reducible refine (impl_ownTable.calls a0_0 _ _ l0_1 _ _ l0_2 a0_3 r6 r7 r8 r9 _ ?side1 ?side2 ?side3 ?side4 Ee10.out).mono ?_); (case side1 => exact (Kd.C_below HR0_1.out HB.out)); (case side2 => exact HC0_1.out); (case side3 => exact (Kd.C_below HR0_2.out HB.out)); (case side4 => exact HC0_2.out); rintro ex_ w5 ⟨ve10_0, ve10_1, rfl, ho0, ho1, hb⟩; refine ⟨_, rfl, ?_⟩; have hk := Kept.of_below hb (fun _ => False); replace BKg1 := Aside0.mk (Op.mvB BKg1.out hk (fun hs => hs)); replace BKg3 := Aside0.mk (Op.mvB BKg3.out hk (fun hs => hs)); have HSw5 := Aside0.mk (And.intro (hb.size) HSw4.out); have Oe10_0 := Aside0.mk (Op.inR ho0 (a := w4.heap.size) (b := w.heap.size) HB.out.size (Nat.le_refl _)); have Oe10_1 := Aside0.mk (Op.inR ho1 (a := w4.heap.size) (b := w.heap.size) HB.out.size (Nat.le_refl _)); replace HB := Aside0.mk (Op.a5 HB.out hb); obtain ⟨Ae10_0, cAe10_0, ev_⟩ := Kd.R_slice Oe10_0.out; subst ev_; obtain ⟨Ae10_1, cAe10_1, ev_⟩ := Kd.R_slice Oe10_1.out; subst ev_; clear hb hk ho0 ho1; have hz_g1_0_w5 : w5.cell? ⟨g1, 0, none⟩ = some (.int .i64 a0_0) := (blk_cell BKg1.out 0).trans rfl; have hf_g1_0_w5 := blk_frozen BKg1.out 0; have hz_g1_1_w5 : w5.cell? ⟨g1, 1, none⟩ = some (.slice A0_1 l0_1.length c0_1) := (blk_cell BKg1.out 1).trans rfl; have hf_g1_1_w5 := blk_frozen BKg1.out 1; have hz_g1_2_w5 : w5.cell? ⟨g1, 2, none⟩ = some (.slice A0_2 l0_2.length c0_2) := (blk_cell BKg1.out 2).trans rfl; have hf_g1_2_w5 := blk_frozen BKg1.out 2; have hz_g1_3_w5 : w5.cell? ⟨g1, 3, none⟩ = some (.int .i64 a0_3) := (blk_cell BKg1.out 3).trans rfl; have hf_g1_3_w5 := blk_frozen BKg1.out 3; have hz_g3_0_w5 : w5.cell? ⟨g3, 0, none⟩ = some (.int .i64 0) := (blk_cell BKg3.out 0).trans rfl; have hf_g3_0_w5 := blk_frozen BKg3.out 0; have hz_g3_1_w5 : w5.cell? ⟨g3, 1, none⟩ = some (.slice none 0 0) := (blk_cell BKg3.out 1).trans rfl; have hf_g3_1_w5 := blk_frozen BKg3.out 1; have hz_g3_2_w5 : w5.cell? ⟨g3, 2, none⟩ = some (.slice none 0 0) := (blk_cell BKg3.out 2).trans rfl; have hf_g3_2_w5 := blk_frozen BKg3.out 2; have hz_g3_3_w5 : w5.cell? ⟨g3, 3, none⟩ = some (.int .i64 0) := (blk_cell BKg3.out 3).trans rfl; have hf_g3_3_w5 := blk_frozen BKg3.out 3) | ((with_reducible refine gate_dst (N := 6) rfl ?_); refine box_event ?hg (N := 6) ?hd (cs := #[.int .i64 0, .slice none 0 0, .slice none 0 0, .int .i64 0]) (t := 27) ?hr ?_; (case hd => rfl); (case hg => rfl); (case hr => first | (go_simp; done) | (go_simp; rfl)); intro g11 hg w12 hbox hb; have hk := Kept.of_below hb (fun _ => False); replace Oe10_0 := Aside0.mk (Op.mvR Oe10_0.out hk (fun _ _ hs => hs)); replace Oe10_1 := Aside0.mk (Op.mvR Oe10_1.out hk (fun _ _ hs => hs)); replace BKg1 := Aside0.mk (Op.mvB BKg1.out hk (fun hs => hs)); replace BKg3 := Aside0.mk (Op.mvB BKg3.out hk (fun hs => hs)); have BKg11 := Aside0.mk hbox; have GEg11 := Aside0.mk (show w.heap.size ≤ g11 from by rw [hg]; exact HB.out.size); have HSw12 := Aside0.mk (And.intro (And.intro (show w5.heap.size ≤ g11 from Nat.le_of_eq hg.symm) (And.intro (blk_lt hbox) hb.size)) HSw5.out); replace HB := Aside0.mk (Op.a5 HB.out hb); clear hg hbox hb hk; have hz_g1_0_w12 : w12.cell? ⟨g1, 0, none⟩ = some (.int .i64 a0_0) := (blk_cell BKg1.out 0).trans rfl; have hf_g1_0_w12 := blk_frozen BKg1.out 0; have hz_g1_1_w12 : w12.cell? ⟨g1, 1, none⟩ = some (.slice A0_1 l0_1.length c0_1) := (blk_cell BKg1.out 1).trans rfl; have hf_g1_1_w12 := blk_frozen BKg1.out 1; have hz_g1_2_w12 : w12.cell? ⟨g1, 2, none⟩ = some (.slice A0_2 l0_2.length c0_2) := (blk_cell BKg1.out 2).trans rfl; have hf_g1_2_w12 := blk_frozen BKg1.out 2; have hz_g1_3_w12 : w12.cell? ⟨g1, 3, none⟩ = some (.int .i64 a0_3) := (blk_cell BKg1.out 3).trans rfl; have hf_g1_3_w12 := blk_frozen BKg1.out 3; have hz_g3_0_w12 : w12.cell? ⟨g3, 0, none⟩ = some (.int .i64 0) := (blk_cell BKg3.out 0).trans rfl; have hf_g3_0_w12 := blk_frozen BKg3.out 0; have hz_g3_1_w12 : w12.cell? ⟨g3, 1, none⟩ = some (.slice none 0 0) := (blk_cell BKg3.out 1).trans rfl; have hf_g3_1_w12 := blk_frozen BKg3.out 1; have hz_g3_2_w12 : w12.cell? ⟨g3, 2, none⟩ = some (.slice none 0 0) := (blk_cell BKg3.out 2).trans rfl; have hf_g3_2_w12 := blk_frozen BKg3.out 2; have hz_g3_3_w12 : w12.cell? ⟨g3, 3, none⟩ = some (.int .i64 0) := (blk_cell BKg3.out 3).trans rfl; have hf_g3_3_w12 := blk_frozen BKg3.out 3; have hz_g11_0_w12 : w12.cell? ⟨g11, 0, none⟩ = some (.int .i64 0) := (blk_cell BKg11.out 0).trans rfl; have hf_g11_0_w12 := blk_frozen BKg11.out 0; have hz_g11_1_w12 : w12.cell? ⟨g11, 1, none⟩ = some (.slice none 0 0) := (blk_cell BKg11.out 1).trans rfl; have hf_g11_1_w12 := blk_frozen BKg11.out 1; have hz_g11_2_w12 : w12.cell? ⟨g11, 2, none⟩ = some (.slice none 0 0) := (blk_cell BKg11.out 2).trans rfl; have hf_g11_2_w12 := blk_frozen BKg11.out 2; have hz_g11_3_w12 : w12.cell? ⟨g11, 3, none⟩ = some (.int .i64 0) := (blk_cell BKg11.out 3).trans rfl; have hf_g11_3_w12 := blk_frozen BKg11.out 3) | ((with_reducible refine gate_store (t := 27) (p := 6) rfl ?_); refine store_event (t := 27) (p := 6) (v := ?vo_w13) (w1 := ((((w12.setCell ⟨g11, 0, none⟩ (.int .i64 r6)).setCell ⟨g11, 1, none⟩ (.slice Ae10_0 r7.length cAe10_0)).setCell ⟨g11, 2, none⟩ (.slice Ae10_1 r8.length cAe10_1)).setCell ⟨g11, 3, none⟩ (.int .i64 r9))) ?hg ?ho ?hn ?hr ?_; (case ho => rfl); (case hg => rfl); (case hn => rfl); (case hr => first | (go_simp; done) | (go_simp; rfl)); intro w13 hw; have hk : Kept w12 w13 (fun j => j = g11) := (by rw [hw]; exact Op.kept_put (Op.kept_put (Op.kept_put (Op.kept_put (Kept.refl _ _) 0 _) 1 _) 2 _) 3 _); replace Oe10_0 := Aside0.mk (Op.mvR Oe10_0.out hk (fun j hj hs => by (have hj2 := hj.2; have q := HSw12.out; have hs2 : j = g11 := hs; omega))); replace Oe10_1 := Aside0.mk (Op.mvR Oe10_1.out hk (fun j hj hs => by (have hj2 := hj.2; have q := HSw12.out; have hs2 : j = g11 := hs; omega))); replace BKg1 := Aside0.mk (Op.mvB BKg1.out hk (fun hs => by (have q := HSw12.out; have hs2 : g1 = g11 := hs; omega))); replace BKg3 := Aside0.mk (Op.mvB BKg3.out hk (fun hs => by (have q := HSw12.out; have hs2 : g3 = g11 := hs; omega))); replace BKg11 : Aside0 (w13.heap[g11]? = some (.cells #[.int .i64 r6, .slice Ae10_0 r7.length cAe10_0, .slice Ae10_1 r8.length cAe10_1, .int .i64 r9] 27 (0, 0))) := ⟨by rw [hw]; exact (blk_put (cs' := #[.int .i64 r6, .slice Ae10_0 r7.length cAe10_0, .slice Ae10_1 r8.length cAe10_1, .int .i64 r9]) (blk_put (cs' := #[.int .i64 r6, .slice Ae10_0 r7.length cAe10_0, .slice Ae10_1 r8.length cAe10_1, .int .i64 0]) (blk_put (cs' := #[.int .i64 r6, .slice Ae10_0 r7.length cAe10_0, .slice none 0 0, .int .i64 0]) (blk_put (cs' := #[.int .i64 r6, .slice none 0 0, .slice none 0 0, .int .i64 0]) BKg11.out 0 _ rfl) 1 _ rfl) 2 _ rfl) 3 _ rfl)⟩; replace HB : Aside0 (Below w.heap.size w w13) := ⟨by rw [hw]; exact below_set (Op.a4 (Op.a4 (Op.a4 (HB.out) GEg11.out) GEg11.out) GEg11.out) GEg11.out⟩; have HSw13 := Aside0.mk (And.intro (hk.1) HSw12.out); clear hw hk; have hz_g1_0_w13 : w13.cell? ⟨g1, 0, none⟩ = some (.int .i64 a0_0) := (blk_cell BKg1.out 0).trans rfl; have hf_g1_0_w13 := blk_frozen BKg1.out 0; have hz_g1_1_w13 : w13.cell? ⟨g1, 1, none⟩ = some (.slice A0_1 l0_1.length c0_1) := (blk_cell BKg1.out 1).trans rfl; have hf_g1_1_w13 := blk_frozen BKg1.out 1; have hz_g1_2_w13 : w13.cell? ⟨g1, 2, none⟩ = some (.slice A0_2 l0_2.length c0_2) := (blk_cell BKg1.out 2).trans rfl; have hf_g1_2_w13 := blk_frozen BKg1.out 2; have hz_g1_3_w13 : w13.cell? ⟨g1, 3, none⟩ = some (.int .i64 a0_3) := (blk_cell BKg1.out 3).trans rfl; have hf_g1_3_w13 := blk_frozen BKg1.out 3; have hz_g3_0_w13 : w13.cell? ⟨g3, 0, none⟩ = some (.int .i64 0) := (blk_cell BKg3.out 0).trans rfl; have hf_g3_0_w13 := blk_frozen BKg3.out 0; have hz_g3_1_w13 : w13.cell? ⟨g3, 1, none⟩ = some (.slice none 0 0) := (blk_cell BKg3.out 1).trans rfl; have hf_g3_1_w13 := blk_frozen BKg3.out 1; have hz_g3_2_w13 : w13.cell? ⟨g3, 2, none⟩ = some (.slice none 0 0) := (blk_cell BKg3.out 2).trans rfl; have hf_g3_2_w13 := blk_frozen BKg3.out 2; have hz_g3_3_w13 : w13.cell? ⟨g3, 3, none⟩ = some (.int .i64 0) := (blk_cell BKg3.out 3).trans rfl; have hf_g3_3_w13 := blk_frozen BKg3.out 3; have hz_g11_0_w13 : w13.cell? ⟨g11, 0, none⟩ = some (.int .i64 r6) := (blk_cell BKg11.out 0).trans rfl; have hf_g11_0_w13 := blk_frozen BKg11.out 0; have hz_g11_1_w13 : w13.cell? ⟨g11, 1, none⟩ = some (.slice Ae10_0 r7.length cAe10_0) := (blk_cell BKg11.out 1).trans rfl; have hf_g11_1_w13 := blk_frozen BKg11.out 1; have hz_g11_2_w13 : w13.cell? ⟨g11, 2, none⟩ = some (.slice Ae10_1 r8.length cAe10_1) := (blk_cell BKg11.out 2).trans rfl; have hf_g11_2_w13 := blk_frozen BKg11.out 2; have hz_g11_3_w13 : w13.cell? ⟨g11, 3, none⟩ = some (.int .i64 r9) := (blk_cell BKg11.out 3).trans rfl; have hf_g11_3_w13 := blk_frozen BKg11.out 3; obtain ⟨gr22, cxgr22, evgr22, hgegr22, _⟩ := Kd.R_form Oe10_0.out (by have h_ := of_eq_true q18a_; have h2_ := of_eq_true q18b_; omega); injection evgr22 with f1_ f2_ f3_; subst f1_; subst f3_; have GRgr22 := Aside0.mk hgegr22; clear hgegr22 f2_; obtain ⟨gr23, cxgr23, evgr23, hgegr23, _⟩ := Kd.R_form Oe10_1.out (by have h_ := of_eq_true q19a_; have h2_ := of_eq_true q19b_; omega); injection evgr23 with f1_ f2_ f3_; subst f1_; subst f3_; have GRgr23 := Aside0.mk hgegr23; clear hgegr23 f2_) | ((with_reducible refine gate_callee (f := 48) rfl ?_); refine goesL_ (some 11) rfl rfl Try.func48 (by kernel_rfl) rfl #[.pointer (some ⟨g11, 0, none⟩), .int .i64 a1] rfl (by (try simp only [List.map_toArray, List.map_cons, List.map_nil]); first | done | rfl) ?_; refine (impl_Table_find.calls g11 r6 r9 a1 ⟨gr22, 0, none⟩ ⟨gr23, 0, none⟩ cAe10_0 cAe10_1 r7 r8 r14 r15 w13 BKg11.out (Kd.R_reads' Oe10_0.out).2.2 (Kd.R_reads' Oe10_1.out).2.2 Ee16.out (of_eq_true q18a_) (of_eq_true q18b_) (of_eq_true q19a_) (of_eq_true q19b_)).mono ?_; rintro ex_ w17 ⟨rfl, hb⟩; refine ⟨.pointer (some ⟨gr23, r15.toNat * 3, none⟩), (congrArg Ending.returned (impl_Table_find.retR (of_eq_true q20_) (of_eq_true q21_))), ?_⟩; have hk := Kept.of_below hb (fun _ => False); replace Oe10_0 := Aside0.mk (Op.mvR Oe10_0.out hk (fun _ _ hs => hs)); replace Oe10_1 := Aside0.mk (Op.mvR Oe10_1.out hk (fun _ _ hs => hs)); replace BKg1 := Aside0.mk (Op.mvB BKg1.out hk (fun hs => hs)); replace BKg3 := Aside0.mk (Op.mvB BKg3.out hk (fun hs => hs)); replace BKg11 := Aside0.mk (Op.mvB BKg11.out hk (fun hs => hs)); have HSw17 := Aside0.mk (And.intro (hb.size) HSw13.out); replace HB := Aside0.mk (Op.a5 HB.out hb); clear hb hk; have hz_g1_0_w17 : w17.cell? ⟨g1, 0, none⟩ = some (.int .i64 a0_0) := (blk_cell BKg1.out 0).trans rfl; have hf_g1_0_w17 := blk_frozen BKg1.out 0; have hz_g1_1_w17 : w17.cell? ⟨g1, 1, none⟩ = some (.slice A0_1 l0_1.length c0_1) := (blk_cell BKg1.out 1).trans rfl; have hf_g1_1_w17 := blk_frozen BKg1.out 1; have hz_g1_2_w17 : w17.cell? ⟨g1, 2, none⟩ = some (.slice A0_2 l0_2.length c0_2) := (blk_cell BKg1.out 2).trans rfl; have hf_g1_2_w17 := blk_frozen BKg1.out 2; have hz_g1_3_w17 : w17.cell? ⟨g1, 3, none⟩ = some (.int .i64 a0_3) := (blk_cell BKg1.out 3).trans rfl; have hf_g1_3_w17 := blk_frozen BKg1.out 3; have hz_g3_0_w17 : w17.cell? ⟨g3, 0, none⟩ = some (.int .i64 0) := (blk_cell BKg3.out 0).trans rfl; have hf_g3_0_w17 := blk_frozen BKg3.out 0; have hz_g3_1_w17 : w17.cell? ⟨g3, 1, none⟩ = some (.slice none 0 0) := (blk_cell BKg3.out 1).trans rfl; have hf_g3_1_w17 := blk_frozen BKg3.out 1; have hz_g3_2_w17 : w17.cell? ⟨g3, 2, none⟩ = some (.slice none 0 0) := (blk_cell BKg3.out 2).trans rfl; have hf_g3_2_w17 := blk_frozen BKg3.out 2; have hz_g3_3_w17 : w17.cell? ⟨g3, 3, none⟩ = some (.int .i64 0) := (blk_cell BKg3.out 3).trans rfl; have hf_g3_3_w17 := blk_frozen BKg3.out 3; have hz_g11_0_w17 : w17.cell? ⟨g11, 0, none⟩ = some (.int .i64 r6) := (blk_cell BKg11.out 0).trans rfl; have hf_g11_0_w17 := blk_frozen BKg11.out 0; have hz_g11_1_w17 : w17.cell? ⟨g11, 1, none⟩ = some (.slice (some ⟨gr22, 0, none⟩) r7.length cAe10_0) := (blk_cell BKg11.out 1).trans rfl; have hf_g11_1_w17 := blk_frozen BKg11.out 1; have hz_g11_2_w17 : w17.cell? ⟨g11, 2, none⟩ = some (.slice (some ⟨gr23, 0, none⟩) r8.length cAe10_1) := (blk_cell BKg11.out 2).trans rfl; have hf_g11_2_w17 := blk_frozen BKg11.out 2; have hz_g11_3_w17 : w17.cell? ⟨g11, 3, none⟩ = some (.int .i64 r9) := (blk_cell BKg11.out 3).trans rfl; have hf_g11_3_w17 := blk_frozen BKg11.out 3; have hsl_ := impl_Table_find.slot Oe10_1.out (of_eq_true q19a_) (of_eq_true q19b_); obtain ⟨⟨hsx0, hsx1, hsx2⟩, hsf0, hsf1, hsf2⟩ := hsl_) | ((with_reducible refine gate_store (t := 60) (p := 17) rfl ?_); refine store_event (t := 60) (p := 17) (v := ?vo_w24) (w1 := (((w17.setCell ⟨gr23, r15.toNat * 3, none⟩ (.bool false)).setCell ⟨gr23, r15.toNat * 3 + 1, none⟩ (.int .i64 0)).setCell ⟨gr23, r15.toNat * 3 + 2, none⟩ (.int .i64 0))) ?hg ?ho ?hn ?hr ?_; (case ho => rfl); (case hg => rfl); (case hn => rfl); (case hr => first | (go_simp; done) | (go_simp; rfl)); intro w24 hw; have hP := impl_Table_find.put Oe10_1.out (of_eq_true q19a_) (by have h_ := of_eq_true q19b_; exact h_); rw [← hw] at hP; obtain ⟨ho0, hk⟩ := hP; replace Oe10_0 := Aside0.mk (Kd.R_reok rfl (Op.mvR (Op.tiR rfl Oe10_0.out) hk (fun j hj hs => by (first | exact hj.2.1 hs.1 | exact hj.2.1.1 hs.1 | exact hj.2.1.2 hs.1 | exact hj.2.1.2.1 hs.1 | exact hj.2.1.2.2 hs.1 | exact hj.2.1.2.2.1 hs.1 | exact hj.2.1.2.2.2 hs.1 | exact hs.2.1 hj.1 | exact hs.2.1.1 hj.1 | exact hs.2.1.2 hj.1 | exact hs.2.1.2.1 hj.1 | exact hs.2.1.2.2 hj.1 | exact hs.2.1.2.2.1 hj.1 | exact hs.2.1.2.2.2 hj.1))) Oe10_0.out.1); replace BKg1 := Aside0.mk (Op.mvB BKg1.out hk (fun hs => by (have q := HSw17.out; have hs2 := hs.2.2; omega))); replace BKg3 := Aside0.mk (Op.mvB BKg3.out hk (fun hs => by (have q := HSw17.out; have hs2 := hs.2.2; omega))); replace BKg11 := Aside0.mk (Op.mvB BKg11.out hk (fun hs => by (have q := HSw17.out; have hs2 := hs.2.2; omega))); replace HB : Aside0 (Below w.heap.size w w24) := ⟨by rw [hw]; exact below_set (Op.a4 (Op.a4 (HB.out) GRgr23.out) GRgr23.out) GRgr23.out⟩; have HSw24 := Aside0.mk (And.intro (hk.1) HSw17.out); replace Oe10_1 := Aside0.mk (Kd.R_reok rfl ho0 (fun k_ hk_ => (Oe10_1.out.1 k_ hk_))); clear ho0 hw hk; have hz_g1_0_w24 : w24.cell? ⟨g1, 0, none⟩ = some (.int .i64 a0_0) := (blk_cell BKg1.out 0).trans rfl; have hf_g1_0_w24 := blk_frozen BKg1.out 0; have hz_g1_1_w24 : w24.cell? ⟨g1, 1, none⟩ = some (.slice A0_1 l0_1.length c0_1) := (blk_cell BKg1.out 1).trans rfl; have hf_g1_1_w24 := blk_frozen BKg1.out 1; have hz_g1_2_w24 : w24.cell? ⟨g1, 2, none⟩ = some (.slice A0_2 l0_2.length c0_2) := (blk_cell BKg1.out 2).trans rfl; have hf_g1_2_w24 := blk_frozen BKg1.out 2; have hz_g1_3_w24 : w24.cell? ⟨g1, 3, none⟩ = some (.int .i64 a0_3) := (blk_cell BKg1.out 3).trans rfl; have hf_g1_3_w24 := blk_frozen BKg1.out 3; have hz_g3_0_w24 : w24.cell? ⟨g3, 0, none⟩ = some (.int .i64 0) := (blk_cell BKg3.out 0).trans rfl; have hf_g3_0_w24 := blk_frozen BKg3.out 0; have hz_g3_1_w24 : w24.cell? ⟨g3, 1, none⟩ = some (.slice none 0 0) := (blk_cell BKg3.out 1).trans rfl; have hf_g3_1_w24 := blk_frozen BKg3.out 1; have hz_g3_2_w24 : w24.cell? ⟨g3, 2, none⟩ = some (.slice none 0 0) := (blk_cell BKg3.out 2).trans rfl; have hf_g3_2_w24 := blk_frozen BKg3.out 2; have hz_g3_3_w24 : w24.cell? ⟨g3, 3, none⟩ = some (.int .i64 0) := (blk_cell BKg3.out 3).trans rfl; have hf_g3_3_w24 := blk_frozen BKg3.out 3; have hz_g11_0_w24 : w24.cell? ⟨g11, 0, none⟩ = some (.int .i64 r6) := (blk_cell BKg11.out 0).trans rfl; have hf_g11_0_w24 := blk_frozen BKg11.out 0; have hz_g11_1_w24 : w24.cell? ⟨g11, 1, none⟩ = some (.slice (some ⟨gr22, 0, none⟩) r7.length cAe10_0) := (blk_cell BKg11.out 1).trans rfl; have hf_g11_1_w24 := blk_frozen BKg11.out 1; have hz_g11_2_w24 : w24.cell? ⟨g11, 2, none⟩ = some (.slice (some ⟨gr23, 0, none⟩) r8.length cAe10_1) := (blk_cell BKg11.out 2).trans rfl; have hf_g11_2_w24 := blk_frozen BKg11.out 2; have hz_g11_3_w24 : w24.cell? ⟨g11, 3, none⟩ = some (.int .i64 r9) := (blk_cell BKg11.out 3).trans rfl; have hf_g11_3_w24 := blk_frozen BKg11.out 3) | ((with_reducible refine gate_store (t := 3) (p := 21) rfl ?_); refine store_event (t := 3) (p := 21) (v := ?vo_w25) (w1 := (w24.setCell ⟨g11, 3, none⟩ (.int .i64 (wrap64 (r9 - 1))))) ?hg ?ho ?hn ?hr ?_; (case ho => rfl); (case hg => rfl); (case hn => rfl); (case hr => first | (go_simp; done) | (go_simp; rfl)); intro w25 hw; have hk : Kept w24 w25 (fun j => j = g11) := (by rw [hw]; exact Op.kept_put (Kept.refl _ _) 3 _); replace Oe10_0 := Aside0.mk (Op.mvR Oe10_0.out hk (fun j hj hs => by (have hj2 := hj.2; have q := HSw24.out; have hs2 : j = g11 := hs; omega))); replace Oe10_1 := Aside0.mk (Op.mvR Oe10_1.out hk (fun j hj hs => by (have hj2 := hj.2; have q := HSw24.out; have hs2 : j = g11 := hs; omega))); replace BKg1 := Aside0.mk (Op.mvB BKg1.out hk (fun hs => by (have q := HSw24.out; have hs2 : g1 = g11 := hs; omega))); replace BKg3 := Aside0.mk (Op.mvB BKg3.out hk (fun hs => by (have q := HSw24.out; have hs2 : g3 = g11 := hs; omega))); replace BKg11 : Aside0 (w25.heap[g11]? = some (.cells #[.int .i64 r6, .slice (some ⟨gr22, 0, none⟩) r7.length cAe10_0, .slice (some ⟨gr23, 0, none⟩) r8.length cAe10_1, .int .i64 (wrap64 (r9 - 1))] 27 (0, 0))) := ⟨by rw [hw]; exact (blk_put (cs' := #[.int .i64 r6, .slice (some ⟨gr22, 0, none⟩) r7.length cAe10_0, .slice (some ⟨gr23, 0, none⟩) r8.length cAe10_1, .int .i64 (wrap64 (r9 - 1))]) BKg11.out 3 _ rfl)⟩; replace HB : Aside0 (Below w.heap.size w w25) := ⟨by rw [hw]; exact below_set HB.out GEg11.out⟩; have HSw25 := Aside0.mk (And.intro (hk.1) HSw24.out); clear hw hk; have hz_g1_0_w25 : w25.cell? ⟨g1, 0, none⟩ = some (.int .i64 a0_0) := (blk_cell BKg1.out 0).trans rfl; have hf_g1_0_w25 := blk_frozen BKg1.out 0; have hz_g1_1_w25 : w25.cell? ⟨g1, 1, none⟩ = some (.slice A0_1 l0_1.length c0_1) := (blk_cell BKg1.out 1).trans rfl; have hf_g1_1_w25 := blk_frozen BKg1.out 1; have hz_g1_2_w25 : w25.cell? ⟨g1, 2, none⟩ = some (.slice A0_2 l0_2.length c0_2) := (blk_cell BKg1.out 2).trans rfl; have hf_g1_2_w25 := blk_frozen BKg1.out 2; have hz_g1_3_w25 : w25.cell? ⟨g1, 3, none⟩ = some (.int .i64 a0_3) := (blk_cell BKg1.out 3).trans rfl; have hf_g1_3_w25 := blk_frozen BKg1.out 3; have hz_g3_0_w25 : w25.cell? ⟨g3, 0, none⟩ = some (.int .i64 0) := (blk_cell BKg3.out 0).trans rfl; have hf_g3_0_w25 := blk_frozen BKg3.out 0; have hz_g3_1_w25 : w25.cell? ⟨g3, 1, none⟩ = some (.slice none 0 0) := (blk_cell BKg3.out 1).trans rfl; have hf_g3_1_w25 := blk_frozen BKg3.out 1; have hz_g3_2_w25 : w25.cell? ⟨g3, 2, none⟩ = some (.slice none 0 0) := (blk_cell BKg3.out 2).trans rfl; have hf_g3_2_w25 := blk_frozen BKg3.out 2; have hz_g3_3_w25 : w25.cell? ⟨g3, 3, none⟩ = some (.int .i64 0) := (blk_cell BKg3.out 3).trans rfl; have hf_g3_3_w25 := blk_frozen BKg3.out 3; have hz_g11_0_w25 : w25.cell? ⟨g11, 0, none⟩ = some (.int .i64 r6) := (blk_cell BKg11.out 0).trans rfl; have hf_g11_0_w25 := blk_frozen BKg11.out 0; have hz_g11_1_w25 : w25.cell? ⟨g11, 1, none⟩ = some (.slice (some ⟨gr22, 0, none⟩) r7.length cAe10_0) := (blk_cell BKg11.out 1).trans rfl; have hf_g11_1_w25 := blk_frozen BKg11.out 1; have hz_g11_2_w25 : w25.cell? ⟨g11, 2, none⟩ = some (.slice (some ⟨gr23, 0, none⟩) r8.length cAe10_1) := (blk_cell BKg11.out 2).trans rfl; have hf_g11_2_w25 := blk_frozen BKg11.out 2; have hz_g11_3_w25 : w25.cell? ⟨g11, 3, none⟩ = some (.int .i64 (wrap64 (r9 - 1))) := (blk_cell BKg11.out 3).trans rfl; have hf_g11_3_w25 := blk_frozen BKg11.out 3) | ((with_reducible refine gate_store (t := 27) (p := 4) rfl ?_); refine store_event (t := 27) (p := 4) (v := ?vo_w26) (w1 := ((((w25.setCell ⟨g3, 0, none⟩ (.int .i64 r6)).setCell ⟨g3, 1, none⟩ (.slice (some ⟨gr22, 0, none⟩) r7.length cAe10_0)).setCell ⟨g3, 2, none⟩ (.slice (some ⟨gr23, 0, none⟩) r8.length cAe10_1)).setCell ⟨g3, 3, none⟩ (.int .i64 (wrap64 (r9 - 1))))) ?hg ?ho ?hn ?hr ?_; (case ho => rfl); (case hg => rfl); (case hn => rfl); (case hr => first | (go_simp; done) | (go_simp; rfl)); intro w26 hw; have hk : Kept w25 w26 (fun j => j = g3) := (by rw [hw]; exact Op.kept_put (Op.kept_put (Op.kept_put (Op.kept_put (Kept.refl _ _) 0 _) 1 _) 2 _) 3 _); replace Oe10_0 := Aside0.mk (Op.mvR Oe10_0.out hk (fun j hj hs => by (have hj2 := hj.2; have q := HSw25.out; have hs2 : j = g3 := hs; omega))); replace Oe10_1 := Aside0.mk (Op.mvR Oe10_1.out hk (fun j hj hs => by (have hj2 := hj.2; have q := HSw25.out; have hs2 : j = g3 := hs; omega))); replace BKg1 := Aside0.mk (Op.mvB BKg1.out hk (fun hs => by (have q := HSw25.out; have hs2 : g1 = g3 := hs; omega))); replace BKg11 := Aside0.mk (Op.mvB BKg11.out hk (fun hs => by (have q := HSw25.out; have hs2 : g11 = g3 := hs; omega))); replace BKg3 : Aside0 (w26.heap[g3]? = some (.cells #[.int .i64 r6, .slice (some ⟨gr22, 0, none⟩) r7.length cAe10_0, .slice (some ⟨gr23, 0, none⟩) r8.length cAe10_1, .int .i64 (wrap64 (r9 - 1))] 27 (0, 0))) := ⟨by rw [hw]; exact (blk_put (cs' := #[.int .i64 r6, .slice (some ⟨gr22, 0, none⟩) r7.length cAe10_0, .slice (some ⟨gr23, 0, none⟩) r8.length cAe10_1, .int .i64 (wrap64 (r9 - 1))]) (blk_put (cs' := #[.int .i64 r6, .slice (some ⟨gr22, 0, none⟩) r7.length cAe10_0, .slice (some ⟨gr23, 0, none⟩) r8.length cAe10_1, .int .i64 0]) (blk_put (cs' := #[.int .i64 r6, .slice (some ⟨gr22, 0, none⟩) r7.length cAe10_0, .slice none 0 0, .int .i64 0]) (blk_put (cs' := #[.int .i64 r6, .slice none 0 0, .slice none 0 0, .int .i64 0]) BKg3.out 0 _ rfl) 1 _ rfl) 2 _ rfl) 3 _ rfl)⟩; replace HB : Aside0 (Below w.heap.size w w26) := ⟨by rw [hw]; exact below_set (Op.a4 (Op.a4 (Op.a4 (HB.out) GEg3.out) GEg3.out) GEg3.out) GEg3.out⟩; have HSw26 := Aside0.mk (And.intro (hk.1) HSw25.out); clear hw hk; have hz_g1_0_w26 : w26.cell? ⟨g1, 0, none⟩ = some (.int .i64 a0_0) := (blk_cell BKg1.out 0).trans rfl; have hf_g1_0_w26 := blk_frozen BKg1.out 0; have hz_g1_1_w26 : w26.cell? ⟨g1, 1, none⟩ = some (.slice A0_1 l0_1.length c0_1) := (blk_cell BKg1.out 1).trans rfl; have hf_g1_1_w26 := blk_frozen BKg1.out 1; have hz_g1_2_w26 : w26.cell? ⟨g1, 2, none⟩ = some (.slice A0_2 l0_2.length c0_2) := (blk_cell BKg1.out 2).trans rfl; have hf_g1_2_w26 := blk_frozen BKg1.out 2; have hz_g1_3_w26 : w26.cell? ⟨g1, 3, none⟩ = some (.int .i64 a0_3) := (blk_cell BKg1.out 3).trans rfl; have hf_g1_3_w26 := blk_frozen BKg1.out 3; have hz_g3_0_w26 : w26.cell? ⟨g3, 0, none⟩ = some (.int .i64 r6) := (blk_cell BKg3.out 0).trans rfl; have hf_g3_0_w26 := blk_frozen BKg3.out 0; have hz_g3_1_w26 : w26.cell? ⟨g3, 1, none⟩ = some (.slice (some ⟨gr22, 0, none⟩) r7.length cAe10_0) := (blk_cell BKg3.out 1).trans rfl; have hf_g3_1_w26 := blk_frozen BKg3.out 1; have hz_g3_2_w26 : w26.cell? ⟨g3, 2, none⟩ = some (.slice (some ⟨gr23, 0, none⟩) r8.length cAe10_1) := (blk_cell BKg3.out 2).trans rfl; have hf_g3_2_w26 := blk_frozen BKg3.out 2; have hz_g3_3_w26 : w26.cell? ⟨g3, 3, none⟩ = some (.int .i64 (wrap64 (r9 - 1))) := (blk_cell BKg3.out 3).trans rfl; have hf_g3_3_w26 := blk_frozen BKg3.out 3; have hz_g11_0_w26 : w26.cell? ⟨g11, 0, none⟩ = some (.int .i64 r6) := (blk_cell BKg11.out 0).trans rfl; have hf_g11_0_w26 := blk_frozen BKg11.out 0; have hz_g11_1_w26 : w26.cell? ⟨g11, 1, none⟩ = some (.slice (some ⟨gr22, 0, none⟩) r7.length cAe10_0) := (blk_cell BKg11.out 1).trans rfl; have hf_g11_1_w26 := blk_frozen BKg11.out 1; have hz_g11_2_w26 : w26.cell? ⟨g11, 2, none⟩ = some (.slice (some ⟨gr23, 0, none⟩) r8.length cAe10_1) := (blk_cell BKg11.out 2).trans rfl; have hf_g11_2_w26 := blk_frozen BKg11.out 2; have hz_g11_3_w26 : w26.cell? ⟨g11, 3, none⟩ = some (.int .i64 (wrap64 (r9 - 1))) := (blk_cell BKg11.out 3).trans rfl; have hf_g11_3_w26 := blk_frozen BKg11.out 3))
 refine bodyPost_ret (results_ct rfl _ _ g3 27 #[.int .i64 r6, .slice (some ⟨gr22, 0, none⟩) r7.length cAe10_0, .slice (some ⟨gr23, 0, none⟩) r8.length cAe10_1, .int .i64 (wrap64 (r9 - 1))] (0, 0) _ rfl BKg3.out Try.underlying27 rfl (by kernel_rfl)) rfl ?_
 exact ⟨_, _, rfl, Kd.R_mono Oe10_0.out (fun k_ hk_ => (by first | exact hk_.1 | exact hk_.1.1 | exact hk_.1.2 | exact hk_.1.2.1 | exact hk_.1.2.2 | exact fun e_ => hk_.1 (e_.trans (Op.own_len _ _ _ _)) | exact fun e_ => hk_.1.1 (e_.trans (Op.own_len _ _ _ _)) | exact fun e_ => hk_.1.2 (e_.trans (Op.own_len _ _ _ _)) | (intro e_; have z1_ := hk_.2; have z2_ := (Oe10_1.out.1 k_ e_.symm).2; have q := HSw26.out; omega))), Kd.R_mono Oe10_1.out (fun k_ hk_ => (by first | exact hk_.1 | exact hk_.1.1 | exact hk_.1.2 | exact hk_.1.2.1 | exact hk_.1.2.2 | exact fun e_ => hk_.1 (e_.trans (Op.own_len _ _ _ _)) | exact fun e_ => hk_.1.1 (e_.trans (Op.own_len _ _ _ _)) | exact fun e_ => hk_.1.2 (e_.trans (Op.own_len _ _ _ _)) | (intro e_; have z1_ := hk_.2; have z2_ := (Oe10_0.out.1 k_ e_.symm).2; have q := HSw26.out; omega))), HB.out⟩

/-! ### impl_drop_N: function 51 -/
/-- what it does, one after the other -/
def impl_drop_N.f (k : Nat) (a0_0 : Int) (l0_1 : List (S60)) (l0_2 : List (S60)) (a0_3 : Int) (a1 : Int) : Option (Int × List (S60) × List (S60) × Int × Bool) :=
 (impl_ownTable.f a0_0 l0_1 l0_2 a0_3).bind fun be10 => (impl_placesOf.f be10.1 a1).bind fun be16 => if 0 ≤ be16.1 then (if be16.1 < (be10.2.1.length : Int) then (if 0 ≤ be16.2 then (if be16.2 < (be10.2.2.1.length : Int) then (if ¬ (impl_Table_find.hit (rd_T60 be10.2.1 be16.1) a1 = true) then (if ¬ (impl_Table_find.hit (rd_T60 be10.2.2.1 be16.2) a1 = true) then (some (0, ([] : List (S60)), ([] : List (S60)), 0, false)) else none) else none) else none) else none) else none) else none
set_option maxRecDepth 100000 in
set_option maxHeartbeats 8000000 in
theorem impl_drop_N.calls (k : Nat) (a0_0 : Int) (A0_1 : Option Addr) (c0_1 : Nat) (l0_1 : List (S60)) (A0_2 : Option Addr) (c0_2 : Nat) (l0_2 : List (S60)) (a0_3 : Int) (a1 : Int) (r9001 : Int) (r9002 : List (S60)) (r9003 : List (S60)) (r9004 : Int) (r9005 : Bool) (w : World) (hr0_1 : Kd.C k60 w A0_1 l0_1.length l0_1) (hc0_1 : l0_1.length ≤ c0_1) (hr0_2 : Kd.C k60 w A0_2 l0_2.length l0_2) (hc0_2 : l0_2.length ≤ c0_2) (h : impl_drop_N.f k a0_0 l0_1 l0_2 a0_3 a1 = some (r9001, r9002, r9003, r9004, r9005)) :
  Calls Try.prog 51 #[.agg #[.int .i64 a0_0, .slice A0_1 l0_1.length c0_1, .slice A0_2 l0_2.length c0_2, .int .i64 a0_3], .int .i64 a1] w fun e w' => ∃ v0_ v1_ : Value, e = .returned (.tuple #[.agg #[.int .i64 r9001, v0_, v1_, .int .i64 r9004], .bool r9005]) ∧ Kd.R k60 60 w' w.heap.size (fun k_ => some k_ ≠ (v1_ : Value).ownBlock) v0_ r9002 ∧ Kd.R k60 60 w' w.heap.size (fun k_ => some k_ ≠ (v0_ : Value).ownBlock) v1_ r9003 ∧ Below w.heap.size w w' := by
 have hu27 := Try.underlying27
 have HR0_1 := Aside0.mk hr0_1
 have HC0_1 := Aside0.mk hc0_1
 have HR0_2 := Aside0.mk hr0_2
 have HC0_2 := Aside0.mk hc0_2
 clear hr0_1 hc0_1 hr0_2 hc0_2
 have HB := Aside0.mk (Below.refl w.heap.size w)
 have HS0 : Aside0 (0 ≤ w.heap.size) := ⟨Nat.zero_le _⟩
 unfold impl_drop_N.f at h
 replace h := Option.bind_eq_some_iff.1 h
 obtain ⟨⟨r6, r7, r8, r9⟩, e10, h⟩ := h
 try dsimp only at h
 have Ee10 := Aside0.mk e10
 clear e10
 replace h := Option.bind_eq_some_iff.1 h
 obtain ⟨⟨r14, r15⟩, e16, h⟩ := h
 try dsimp only at h
 have Ee16 := Aside0.mk e16
 clear e16
 by_cases q18a_ : 0 ≤ r14
 case neg => rw [if_neg q18a_] at h; exact absurd h (by simp)
 replace h := (if_pos q18a_).symm.trans h
 replace q18a_ := eq_true q18a_
 by_cases q18b_ : r14 < (r7.length : Int)
 case neg => rw [if_neg q18b_] at h; exact absurd h (by simp)
 replace h := (if_pos q18b_).symm.trans h
 replace q18b_ := eq_true q18b_
 by_cases q19a_ : 0 ≤ r15
 case neg => rw [if_neg q19a_] at h; exact absurd h (by simp)
 replace h := (if_pos q19a_).symm.trans h
 replace q19a_ := eq_true q19a_
 by_cases q19b_ : r15 < (r8.length : Int)
 case neg => rw [if_neg q19b_] at h; exact absurd h (by simp)
 replace h := (if_pos q19b_).symm.trans h
 replace q19b_ := eq_true q19b_
 by_cases q20_ : ¬ (impl_Table_find.hit (rd_T60 r7 r14) a1 = true)
 case neg => rw [if_neg q20_] at h; exact absurd h (by simp)
 replace h := (if_pos q20_).symm.trans h
 replace q20_ := eq_true q20_
 by_cases q21_ : ¬ (impl_Table_find.hit (rd_T60 r8 r15) a1 = true)
 case neg => rw [if_neg q21_] at h; exact absurd h (by simp)
 replace h := (if_pos q21_).symm.trans h
 replace q21_ := eq_true q21_
 simp only [Option.some.injEq, Prod.mk.injEq] at h
 obtain ⟨rfl, rfl, rfl, rfl, rfl⟩ := h
 go_enter Try.func51, Try.ntmps51
 go_wp2_with (first | ((with_reducible refine gate_dst (N := 2) rfl ?_); refine box_event ?hg (N := 2) ?hd (cs := #[.int .i64 a0_0, .slice A0_1 l0_1.length c0_1, .slice A0_2 l0_2.length c0_2, .int .i64 a0_3]) (t := 27) ?hr ?_; (case hd => rfl); (case hg => rfl); (case hr => first | (go_simp; done) | (go_simp; rfl)); intro g1 hg w2 hbox hb; have hk := Kept.of_below hb (fun _ => False); have BKg1 := Aside0.mk hbox; have GEg1 := Aside0.mk (show w.heap.size ≤ g1 from by rw [hg]; exact HB.out.size); have HSw2 := Aside0.mk (And.intro (And.intro (show w.heap.size ≤ g1 from Nat.le_of_eq hg.symm) (And.intro (blk_lt hbox) hb.size)) HS0.out); replace HB := Aside0.mk (Op.a5 HB.out hb); clear hg hbox hb hk; have hz_g1_0_w2 : w2.cell? ⟨g1, 0, none⟩ = some (.int .i64 a0_0) := (blk_cell BKg1.out 0).trans rfl; have hf_g1_0_w2 := blk_frozen BKg1.out 0; have hz_g1_1_w2 : w2.cell? ⟨g1, 1, none⟩ = some (.slice A0_1 l0_1.length c0_1) := (blk_cell BKg1.out 1).trans rfl; have hf_g1_1_w2 := blk_frozen BKg1.out 1; have hz_g1_2_w2 : w2.cell? ⟨g1, 2, none⟩ = some (.slice A0_2 l0_2.length c0_2) := (blk_cell BKg1.out 2).trans rfl; have hf_g1_2_w2 := blk_frozen BKg1.out 2; have hz_g1_3_w2 : w2.cell? ⟨g1, 3, none⟩ = some (.int .i64 a0_3) := (blk_cell BKg1.out 3).trans rfl; have hf_g1_3_w2 := blk_frozen BKg1.out 3) | ((with_reducible refine gate_dst (N := 4) rfl ?_); refine box_event ?hg (N := 4) ?hd (cs := #[.int .i64 0, .slice none 0 0, .slice none 0 0, .int .i64 0]) (t := 27) ?hr ?_; (case hd => rfl); (case hg => rfl); (case hr => first | (go_simp; done) | (go_simp; rfl)); intro g3 hg w4 hbox hb; have hk := Kept.of_below hb (fun _ => False); replace BKg1 := Aside0.mk (Op.mvB BKg1.out hk (fun hs => hs)); have BKg3 := Aside0.mk hbox; have GEg3 := Aside0.mk (show w.heap.size ≤ g3 from by rw [hg]; exact HB.out.size); have HSw4 := Aside0.mk (And.intro (And.intro (show w2.heap.size ≤ g3 from Nat.le_of_eq hg.symm) (And.intro (blk_lt hbox) hb.size)) HSw2.out); replace HB := Aside0.mk (Op.a5 HB.out hb); clear hg hbox hb hk; have hz_g1_0_w4 : w4.cell? ⟨g1, 0, none⟩ = some (.int .i64 a0_0) := (blk_cell BKg1.out 0).trans rfl; have hf_g1_0_w4 := blk_frozen BKg1.out 0; have hz_g1_1_w4 : w4.cell? ⟨g1, 1, none⟩ = some (.slice A0_1 l0_1.length c0_1) := (blk_cell BKg1.out 1).trans rfl; have hf_g1_1_w4 := blk_frozen BKg1.out 1; have hz_g1_2_w4 : w4.cell? ⟨g1, 2, none⟩ = some (.slice A0_2 l0_2.length c0_2) := (blk_cell BKg1.out 2).trans rfl; have hf_g1_2_w4 := blk_frozen BKg1.out 2; have hz_g1_3_w4 : w4.cell? ⟨g1, 3, none⟩ = some (.int .i64 a0_3) := (blk_cell BKg1.out 3).trans rfl; have hf_g1_3_w4 := blk_frozen BKg1.out 3; have hz_g3_0_w4 : w4.cell? ⟨g3, 0, none⟩ = some (.int .i64 0) := (blk_cell BKg3.out 0).trans rfl; have hf_g3_0_w4 := blk_frozen BKg3.out 0; have hz_g3_1_w4 : w4.cell? ⟨g3, 1, none⟩ = some (.slice none 0 0) := (blk_cell BKg3.out 1).trans rfl; have hf_g3_1_w4 := blk_frozen BKg3.out 1; have hz_g3_2_w4 : w4.cell? ⟨g3, 2, none⟩ = some (.slice none 0 0) := (blk_cell BKg3.out 2).trans rfl; have hf_g3_2_w4 := blk_frozen BKg3.out 2; have hz_g3_3_w4 : w4.cell? ⟨g3, 3, none⟩ = some (.int .i64 0) := (blk_cell BKg3.out 3).trans rfl; have hf_g3_3_w4 := blk_frozen BKg3.out 3) | ((with_reducible refine gate_callee (f := 57) rfl ?_); refine goesL_ (some 9) rfl rfl Try.func57 (by kernel_rfl) rfl #[.agg #[.int .i64 a0_0, .slice A0_1 l0_1.length c0_1, .slice A0_2 l0_2.length c0_2, .int .i64 a0_3]] rfl (by (try simp only [List.map_toArray, List.map_cons, List.map_nil]); first | done | rfl | (simp only [List.length_drop, List.length_take]; rfl)) ?_; (with_reducible refine (impl_ownTable.calls a0_0 _ _ l0_1 _ _ l0_2 a0_3 r6 r7 r8 r9 _ ?side1 ?side2 ?side3 ?side4 Ee10.out).mono ?_); (case side1 => exact (Kd.C_below HR0_1.out HB.out)); (case side2 => exact HC0_1.out); (case side3 => exact (Kd.C_below HR0_2.out HB.out)); (case side4 => exact HC0_2.out); rintro ex_ w5 ⟨ve10_0, ve10_1, rfl, ho0, ho1, hb⟩; refine ⟨_, rfl, ?_⟩; have hk := Kept.of_below hb (fun _ => False); replace BKg1 := Aside0.mk (Op.mvB BKg1.out hk (fun hs => hs)); replace BKg3 := Aside0.mk (Op.mvB BKg3.out hk (fun hs => hs)); have HSw5 := Aside0.mk (And.intro (hb.size) HSw4.out); have Oe10_0 := Aside0.mk (Op.inR ho0 (a := w4.heap.size) (b := w.heap.size) HB.out.size (Nat.le_refl _)); have Oe10_1 := Aside0.mk (Op.inR ho1 (a := w4.heap.size) (b := w.heap.size) HB.out.size (Nat.le_refl _)); replace HB := Aside0.mk (Op.a5 HB.out hb); obtain ⟨Ae10_0, cAe10_0, ev_⟩ := Kd.R_slice Oe10_0.out; subst ev_; obtain ⟨Ae10_1, cAe10_1, ev_⟩ := Kd.R_slice Oe10_1.out; subst ev_; clear hb hk ho0 ho1; have hz_g1_0_w5 : w5.cell? ⟨g1, 0, none⟩ = some (.int .i64 a0_0) := (blk_cell BKg1.out 0).trans rfl; have hf_g1_0_w5 := blk_frozen BKg1.out 0; have hz_g1_1_w5 : w5.cell? ⟨g1, 1, none⟩ = some (.slice A0_1 l0_1.length c0_1) := (blk_cell BKg1.out 1).trans rfl; have hf_g1_1_w5 := blk_frozen BKg1.out 1; have hz_g1_2_w5 : w5.cell? ⟨g1, 2, none⟩ = some (.slice A0_2 l0_2.length c0_2) := (blk_cell BKg1.out 2).trans rfl; have hf_g1_2_w5 := blk_frozen BKg1.out 2; have hz_g1_3_w5 : w5.cell? ⟨g1, 3, none⟩ = some (.int .i64 a0_3) := (blk_cell BKg1.out 3).trans rfl; have hf_g1_3_w5 := blk_frozen BKg1.out 3; have hz_g3_0_w5 : w5.cell? ⟨g3, 0, none⟩ = some (.int .i64 0) := (blk_cell BKg3.out 0).trans rfl; have hf_g3_0_w5 := blk_frozen BKg3.out 0; have hz_g3_1_w5 : w5.cell? ⟨g3, 1, none⟩ = some (.slice none 0 0) := (blk_cell BKg3.out 1).trans rfl; have hf_g3_1_w5 := blk_frozen BKg3.out 1; have hz_g3_2_w5 : w5.cell? ⟨g3, 2, none⟩ = some (.slice none 0 0) := (blk_cell BKg3.out 2).trans rfl; have hf_g3_2_w5 := blk_frozen BKg3.out 2; have hz_g3_3_w5 : w5.cell? ⟨g3, 3, none⟩ = some (.int .i64 0) := (blk_cell BKg3.out 3).trans rfl; have hf_g3_3_w5 := blk_frozen BKg3.out 3) | ((with_reducible refine gate_dst (N := 6) rfl ?_); refine box_event ?hg (N := 6) ?hd (cs := #[.int .i64 0, .slice none 0 0, .slice none 0 0, .int .i64 0]) (t := 27) ?hr ?_; (case hd => rfl); (case hg => rfl); (case hr => first | (go_simp; done) | (go_simp; rfl)); intro g11 hg w12 hbox hb; have hk := Kept.of_below hb (fun _ => False); replace Oe10_0 := Aside0.mk (Op.mvR Oe10_0.out hk (fun _ _ hs => hs)); replace Oe10_1 := Aside0.mk (Op.mvR Oe10_1.out hk (fun _ _ hs => hs)); replace BKg1 := Aside0.mk (Op.mvB BKg1.out hk (fun hs => hs)); replace BKg3 := Aside0.mk (Op.mvB BKg3.out hk (fun hs => hs)); have BKg11 := Aside0.mk hbox; have GEg11 := Aside0.mk (show w.heap.size ≤ g11 from by rw [hg]; exact HB.out.size); have HSw12 := Aside0.mk (And.intro (And.intro (show w5.heap.size ≤ g11 from Nat.le_of_eq hg.symm) (And.intro (blk_lt hbox) hb.size)) HSw5.out); replace HB := Aside0.mk (Op.a5 HB.out hb); clear hg hbox hb hk; have hz_g1_0_w12 : w12.cell? ⟨g1, 0, none⟩ = some (.int .i64 a0_0) := (blk_cell BKg1.out 0).trans rfl; have hf_g1_0_w12 := blk_frozen BKg1.out 0; have hz_g1_1_w12 : w12.cell? ⟨g1, 1, none⟩ = some (.slice A0_1 l0_1.length c0_1) := (blk_cell BKg1.out 1).trans rfl; have hf_g1_1_w12 := blk_frozen BKg1.out 1; have hz_g1_2_w12 : w12.cell? ⟨g1, 2, none⟩ = some (.slice A0_2 l0_2.length c0_2) := (blk_cell BKg1.out 2).trans rfl; have hf_g1_2_w12 := blk_frozen BKg1.out 2; have hz_g1_3_w12 : w12.cell? ⟨g1, 3, none⟩ = some (.int .i64 a0_3) := (blk_cell BKg1.out 3).trans rfl; have hf_g1_3_w12 := blk_frozen BKg1.out 3; have hz_g3_0_w12 : w12.cell? ⟨g3, 0, none⟩ = some (.int .i64 0) := (blk_cell BKg3.out 0).trans rfl; have hf_g3_0_w12 := blk_frozen BKg3.out 0; have hz_g3_1_w12 : w12.cell? ⟨g3, 1, none⟩ = some (.slice none 0 0) := (blk_cell BKg3.out 1).trans rfl; have hf_g3_1_w12 := blk_frozen BKg3.out 1; have hz_g3_2_w12 : w12.cell? ⟨g3, 2, none⟩ = some (.slice none 0 0) := (blk_cell BKg3.out 2).trans rfl; have hf_g3_2_w12 := blk_frozen BKg3.out 2; have hz_g3_3_w12 : w12.cell? ⟨g3, 3, none⟩ = some (.int .i64 0) := (blk_cell BKg3.out 3).trans rfl; have hf_g3_3_w12 := blk_frozen BKg3.out 3; have hz_g11_0_w12 : w12.cell? ⟨g11, 0, none⟩ = some (.int .i64 0) := (blk_cell BKg11.out 0).trans rfl; have hf_g11_0_w12 := blk_frozen BKg11.out 0; have hz_g11_1_w12 : w12.cell? ⟨g11, 1, none⟩ = some (.slice none 0 0) := (blk_cell BKg11.out 1).trans rfl; have hf_g11_1_w12 := blk_frozen BKg11.out 1; have hz_g11_2_w12 : w12.cell? ⟨g11, 2, none⟩ = some (.slice none 0 0) := (blk_cell BKg11.out 2).trans rfl; have hf_g11_2_w12 := blk_frozen BKg11.out 2; have hz_g11_3_w12 : w12.cell? ⟨g11, 3, none⟩ = some (.int .i64 0) := (blk_cell BKg11.out 3).trans rfl; have hf_g11_3_w12 := blk_frozen BKg11.out 3) | ((with_reducible refine gate_store (t := 27) (p := 6) rfl ?_); refine store_event (t := 27) (p := 6) (v := ?vo_w13) (w1 := ((((w12.setCell ⟨g11, 0, none⟩ (.int .i64 r6)).setCell ⟨g11, 1, none⟩ (.slice Ae10_0 r7.length cAe10_0)).setCell ⟨g11, 2, none⟩ (.slice Ae10_1 r8.length cAe10_1)).setCell ⟨g11, 3, none⟩ (.int .i64 r9))) ?hg ?ho ?hn ?hr ?_; (case ho => rfl); (case hg => rfl); (case hn => rfl); (case hr => first | (go_simp; done) | (go_simp; rfl)); intro w13 hw; have hk : Kept w12 w13 (fun j => j = g11) := (by rw [hw]; exact Op.kept_put (Op.kept_put (Op.kept_put (Op.kept_put (Kept.refl _ _) 0 _) 1 _) 2 _) 3 _); replace Oe10_0 := Aside0.mk (Op.mvR Oe10_0.out hk (fun j hj hs => by (have hj2 := hj.2; have q := HSw12.out; have hs2 : j = g11 := hs; omega))); replace Oe10_1 := Aside0.mk (Op.mvR Oe10_1.out hk (fun j hj hs => by (have hj2 := hj.2; have q := HSw12.out; have hs2 : j = g11 := hs; omega))); replace BKg1 := Aside0.mk (Op.mvB BKg1.out hk (fun hs => by (have q := HSw12.out; have hs2 : g1 = g11 := hs; omega))); replace BKg3 := Aside0.mk (Op.mvB BKg3.out hk (fun hs => by (have q := HSw12.out; have hs2 : g3 = g11 := hs; omega))); replace BKg11 : Aside0 (w13.heap[g11]? = some (.cells #[.int .i64 r6, .slice Ae10_0 r7.length cAe10_0, .slice Ae10_1 r8.length cAe10_1, .int .i64 r9] 27 (0, 0))) := ⟨by rw [hw]; exact (blk_put (cs' := #[.int .i64 r6, .slice Ae10_0 r7.length cAe10_0, .slice Ae10_1 r8.length cAe10_1, .int .i64 r9]) (blk_put (cs' := #[.int .i64 r6, .slice Ae10_0 r7.length cAe10_0, .slice Ae10_1 r8.length cAe10_1, .int .i64 0]) (blk_put (cs' := #[.int .i64 r6, .slice Ae10_0 r7.length cAe10_0, .slice none 0 0, .int .i64 0]) (blk_put (cs' := #[.int .i64 r6, .slice none 0 0, .slice none 0 0, .int .i64 0]) BKg11.out 0 _ rfl) 1 _ rfl) 2 _ rfl) 3 _ rfl)⟩; replace HB : Aside0 (Below w.heap.size w w13) := ⟨by rw [hw]; exact below_set (Op.a4 (Op.a4 (Op.a4 (HB.out) GEg11.out) GEg11.out) GEg11.out) GEg11.out⟩; have HSw13 := Aside0.mk (And.intro (hk.1) HSw12.out); clear hw hk; have hz_g1_0_w13 : w13.cell? ⟨g1, 0, none⟩ = some (.int .i64 a0_0) := (blk_cell BKg1.out 0).trans rfl; have hf_g1_0_w13 := blk_frozen BKg1.out 0; have hz_g1_1_w13 : w13.cell? ⟨g1, 1, none⟩ = some (.slice A0_1 l0_1.length c0_1) := (blk_cell BKg1.out 1).trans rfl; have hf_g1_1_w13 := blk_frozen BKg1.out 1; have hz_g1_2_w13 : w13.cell? ⟨g1, 2, none⟩ = some (.slice A0_2 l0_2.length c0_2) := (blk_cell BKg1.out 2).trans rfl; have hf_g1_2_w13 := blk_frozen BKg1.out 2; have hz_g1_3_w13 : w13.cell? ⟨g1, 3, none⟩ = some (.int .i64 a0_3) := (blk_cell BKg1.out 3).trans rfl; have hf_g1_3_w13 := blk_frozen BKg1.out 3; have hz_g3_0_w13 : w13.cell? ⟨g3, 0, none⟩ = some (.int .i64 0) := (blk_cell BKg3.out 0).trans rfl; have hf_g3_0_w13 := blk_frozen BKg3.out 0; have hz_g3_1_w13 : w13.cell? ⟨g3, 1, none⟩ = some (.slice none 0 0) := (blk_cell BKg3.out 1).trans rfl; have hf_g3_1_w13 := blk_frozen BKg3.out 1; have hz_g3_2_w13 : w13.cell? ⟨g3, 2, none⟩ = some (.slice none 0 0) := (blk_cell BKg3.out 2).trans rfl; have hf_g3_2_w13 := blk_frozen BKg3.out 2; have hz_g3_3_w13 : w13.cell? ⟨g3, 3, none⟩ = some (.int .i64 0) := (blk_cell BKg3.out 3).trans rfl; have hf_g3_3_w13 := blk_frozen BKg3.out 3; have hz_g11_0_w13 : w13.cell? ⟨g11, 0, none⟩ = some (.int .i64 r6) := (blk_cell BKg11.out 0).trans rfl; have hf_g11_0_w13 := blk_frozen BKg11.out 0; have hz_g11_1_w13 : w13.cell? ⟨g11, 1, none⟩ = some (.slice Ae10_0 r7.length cAe10_0) := (blk_cell BKg11.out 1).trans rfl; have hf_g11_1_w13 := blk_frozen BKg11.out 1; have hz_g11_2_w13 : w13.cell? ⟨g11, 2, none⟩ = some (.slice Ae10_1 r8.length cAe10_1) := (blk_cell BKg11.out 2).trans rfl; have hf_g11_2_w13 := blk_frozen BKg11.out 2; have hz_g11_3_w13 : w13.cell? ⟨g11, 3, none⟩ = some (.int .i64 r9) := (blk_cell BKg11.out 3).trans rfl; have hf_g11_3_w13 := blk_frozen BKg11.out 3; obtain ⟨gr22, cxgr22, evgr22, hgegr22, _⟩ := Kd.R_form Oe10_0.out (by have h_ := of_eq_true q18a_; have h2_ := of_eq_true q18b_; omega); injection evgr22 with f1_ f2_ f3_; subst f1_; subst f3_; have GRgr22 := Aside0.mk hgegr22; clear hgegr22 f2_; obtain ⟨gr23, cxgr23, evgr23, hgegr23, _⟩ := Kd.R_form Oe10_1.out (by have h_ := of_eq_true q19a_; have h2_ := of_eq_true q19b_; omega); injection evgr23 with f1_ f2_ f3_; subst f1_; subst f3_; have GRgr23 := Aside0.mk hgegr23; clear hgegr23 f2_) | ((with_reducible refine gate_callee (f := 48) rfl ?_); refine goesL_ (some 11) rfl rfl Try.func48 (by kernel_rfl) rfl #[.pointer (some ⟨g11, 0, none⟩), .int .i64 a1] rfl (by (try simp only [List.map_toArray, List.map_cons, List.map_nil]); first | done | rfl) ?_; refine (impl_Table_find.calls g11 r6 r9 a1 ⟨gr22, 0, none⟩ ⟨gr23, 0, none⟩ cAe10_0 cAe10_1 r7 r8 r14 r15 w13 BKg11.out (Kd.R_reads' Oe10_0.out).2.2 (Kd.R_reads' Oe10_1.out).2.2 Ee16.out (of_eq_true q18a_) (of_eq_true q18b_) (of_eq_true q19a_) (of_eq_true q19b_)).mono ?_; rintro ex_ w17 ⟨rfl, hb⟩; refine ⟨.pointer none, (congrArg Ending.returned (impl_Table_find.retN (of_eq_true q20_) (of_eq_true q21_))), ?_⟩; have hk := Kept.of_below hb (fun _ => False); replace Oe10_0 := Aside0.mk (Op.mvR Oe10_0.out hk (fun _ _ hs => hs)); replace Oe10_1 := Aside0.mk (Op.mvR Oe10_1.out hk (fun _ _ hs => hs)); replace BKg1 := Aside0.mk (Op.mvB BKg1.out hk (fun hs => hs)); replace BKg3 := Aside0.mk (Op.mvB BKg3.out hk (fun hs => hs)); replace BKg11 := Aside0.mk (Op.mvB BKg11.out hk (fun hs => hs)); have HSw17 := Aside0.mk (And.intro (hb.size) HSw13.out); replace HB := Aside0.mk (Op.a5 HB.out hb); clear hb hk; have hz_g1_0_w17 : w17.cell? ⟨g1, 0, none⟩ = some (.int .i64 a0_0) := (blk_cell BKg1.out 0).trans rfl; have hf_g1_0_w17 := blk_frozen BKg1.out 0; have hz_g1_1_w17 : w17.cell? ⟨g1, 1, none⟩ = some (.slice A0_1 l0_1.length c0_1) := (blk_cell BKg1.out 1).trans rfl; have hf_g1_1_w17 := blk_frozen BKg1.out 1; have hz_g1_2_w17 : w17.cell? ⟨g1, 2, none⟩ = some (.slice A0_2 l0_2.length c0_2) := (blk_cell BKg1.out 2).trans rfl; have hf_g1_2_w17 := blk_frozen BKg1.out 2; have hz_g1_3_w17 : w17.cell? ⟨g1, 3, none⟩ = some (.int .i64 a0_3) := (blk_cell BKg1.out 3).trans rfl; have hf_g1_3_w17 := blk_frozen BKg1.out 3; have hz_g3_0_w17 : w17.cell? ⟨g3, 0, none⟩ = some (.int .i64 0) := (blk_cell BKg3.out 0).trans rfl; have hf_g3_0_w17 := blk_frozen BKg3.out 0; have hz_g3_1_w17 : w17.cell? ⟨g3, 1, none⟩ = some (.slice none 0 0) := (blk_cell BKg3.out 1).trans rfl; have hf_g3_1_w17 := blk_frozen BKg3.out 1; have hz_g3_2_w17 : w17.cell? ⟨g3, 2, none⟩ = some (.slice none 0 0) := (blk_cell BKg3.out 2).trans rfl; have hf_g3_2_w17 := blk_frozen BKg3.out 2; have hz_g3_3_w17 : w17.cell? ⟨g3, 3, none⟩ = some (.int .i64 0) := (blk_cell BKg3.out 3).trans rfl; have hf_g3_3_w17 := blk_frozen BKg3.out 3; have hz_g11_0_w17 : w17.cell? ⟨g11, 0, none⟩ = some (.int .i64 r6) := (blk_cell BKg11.out 0).trans rfl; have hf_g11_0_w17 := blk_frozen BKg11.out 0; have hz_g11_1_w17 : w17.cell? ⟨g11, 1, none⟩ = some (.slice (some ⟨gr22, 0, none⟩) r7.length cAe10_0) := (blk_cell BKg11.out 1).trans rfl; have hf_g11_1_w17 := blk_frozen BKg11.out 1; have hz_g11_2_w17 : w17.cell? ⟨g11, 2, none⟩ = some (.slice (some ⟨gr23, 0, none⟩) r8.length cAe10_1) := (blk_cell BKg11.out 2).trans rfl; have hf_g11_2_w17 := blk_frozen BKg11.out 2; have hz_g11_3_w17 : w17.cell? ⟨g11, 3, none⟩ = some (.int .i64 r9) := (blk_cell BKg11.out 3).trans rfl; have hf_g11_3_w17 := blk_frozen BKg11.out 3) | ((with_reducible refine gate_store (t := 27) (p := 4) rfl ?_); refine store_event (t := 27) (p := 4) (v := ?vo_w24) (w1 := ((((w17.setCell ⟨g3, 0, none⟩ (.int .i64 0)).setCell ⟨g3, 1, none⟩ (.slice none 0 0)).setCell ⟨g3, 2, none⟩ (.slice none 0 0)).setCell ⟨g3, 3, none⟩ (.int .i64 0))) ?hg ?ho ?hn ?hr ?_; (case ho => rfl); (case hg => rfl); (case hn => rfl); (case hr => first | (go_simp; done) | (go_simp; rfl)); intro w24 hw; have hk : Kept w17 w24 (fun j => j = g3) := (by rw [hw]; exact Op.kept_put (Op.kept_put (Op.kept_put (Op.kept_put (Kept.refl _ _) 0 _) 1 _) 2 _) 3 _); replace Oe10_0 := Aside0.mk (Op.mvR Oe10_0.out hk (fun j hj hs => by (have hj2 := hj.2; have q := HSw17.out; have hs2 : j = g3 := hs; omega))); replace Oe10_1 := Aside0.mk (Op.mvR Oe10_1.out hk (fun j hj hs => by (have hj2 := hj.2; have q := HSw17.out; have hs2 : j = g3 := hs; omega))); replace BKg1 := Aside0.mk (Op.mvB BKg1.out hk (fun hs => by (have q := HSw17.out; have hs2 : g1 = g3 := hs; omega))); replace BKg11 := Aside0.mk (Op.mvB BKg11.out hk (fun hs => by (have q := HSw17.out; have hs2 : g11 = g3 := hs; omega))); replace BKg3 : Aside0 (w24.heap[g3]? = some (.cells #[.int .i64 0, .slice none 0 0, .slice none 0 0, .int .i64 0] 27 (0, 0))) := ⟨by rw [hw]; exact (blk_put (cs' := #[.int .i64 0, .slice none 0 0, .slice none 0 0, .int .i64 0]) (blk_put (cs' := #[.int .i64 0, .slice none 0 0, .slice none 0 0, .int .i64 0]) (blk_put (cs' := #[.int .i64 0, .slice none 0 0, .slice none 0 0, .int .i64 0]) (blk_put (cs' := #[.int .i64 0, .slice none 0 0, .slice none 0 0, .int .i64 0]) BKg3.out 0 _ rfl) 1 _ rfl) 2 _ rfl) 3 _ rfl)⟩; replace HB : Aside0 (Below w.heap.size w w24) := ⟨by rw [hw]; exact below_set (Op.a4 (Op.a4 (Op.a4 (HB.out) GEg3.out) GEg3.out) GEg3.out) GEg3.out⟩; have HSw24 := Aside0.mk (And.intro (hk.1) HSw17.out); clear hw hk; have hz_g1_0_w24 : w24.cell? ⟨g1, 0, none⟩ = some (.int .i64 a0_0) := (blk_cell BKg1.out 0).trans rfl; have hf_g1_0_w24 := blk_frozen BKg1.out 0; have hz_g1_1_w24 : w24.cell? ⟨g1, 1, none⟩ = some (.slice A0_1 l0_1.length c0_1) := (blk_cell BKg1.out 1).trans rfl; have hf_g1_1_w24 := blk_frozen BKg1.out 1; have hz_g1_2_w24 : w24.cell? ⟨g1, 2, none⟩ = some (.slice A0_2 l0_2.length c0_2) := (blk_cell BKg1.out 2).trans rfl; have hf_g1_2_w24 := blk_frozen BKg1.out 2; have hz_g1_3_w24 : w24.cell? ⟨g1, 3, none⟩ = some (.int .i64 a0_3) := (blk_cell BKg1.out 3).trans rfl; have hf_g1_3_w24 := blk_frozen BKg1.out 3; have hz_g3_0_w24 : w24.cell? ⟨g3, 0, none⟩ = some (.int .i64 0) := (blk_cell BKg3.out 0).trans rfl; have hf_g3_0_w24 := blk_frozen BKg3.out 0; have hz_g3_1_w24 : w24.cell? ⟨g3, 1, none⟩ = some (.slice none 0 0) := (blk_cell BKg3.out 1).trans rfl; have hf_g3_1_w24 := blk_frozen BKg3.out 1; have hz_g3_2_w24 : w24.cell? ⟨g3, 2, none⟩ = some (.slice none 0 0) := (blk_cell BKg3.out 2).trans rfl; have hf_g3_2_w24 := blk_frozen BKg3.out 2; have hz_g3_3_w24 : w24.cell? ⟨g3, 3, none⟩ = some (.int .i64 0) := (blk_cell BKg3.out 3).trans rfl; have hf_g3_3_w24 := blk_frozen BKg3.out 3; have hz_g11_0_w24 : w24.cell? ⟨g11, 0, none⟩ = some (.int .i64 r6) := (blk_cell BKg11.out 0).trans rfl; have hf_g11_0_w24 := blk_frozen BKg11.out 0; have hz_g11_1_w24 : w24.cell? ⟨g11, 1, none⟩ = some (.slice (some ⟨gr22, 0, none⟩) r7.length cAe10_0) := (blk_cell BKg11.out 1).trans rfl; have hf_g11_1_w24 := blk_frozen BKg11.out 1; have hz_g11_2_w24 : w24.cell? ⟨g11, 2, none⟩ = some (.slice (some ⟨gr23, 0, none⟩) r8.length cAe10_1) := (blk_cell BKg11.out 2).trans rfl; have hf_g11_2_w24 := blk_frozen BKg11.out 2; have hz_g11_3_w24 : w24.cell? ⟨g11, 3, none⟩ = some (.int .i64 r9) := (blk_cell BKg11.out 3).trans rfl; have hf_g11_3_w24 := blk_frozen BKg11.out 3))
 refine bodyPost_ret (results_ct rfl _ _ g3 27 #[.int .i64 0, .slice none 0 0, .slice none 0 0, .int .i64 0] (0, 0) _ rfl BKg3.out Try.underlying27 rfl (by kernel_rfl)) rfl ?_
 exact ⟨_, _, rfl, Kd.R_nil _ _ _ _ _, Kd.R_nil _ _ _ _ _, HB.out⟩

/-- its three ways -/
def impl_drop.f (a0_0 : Int) (l0_1 : List (S60)) (l0_2 : List (S60)) (a0_3 : Int) (a1 : Int) : Option (Int × List (S60) × List (S60) × Int × Bool) := match impl_drop_L.f 0 a0_0 l0_1 l0_2 a0_3 a1 with
 | some r => some r
 | none => match impl_drop_R.f 0 a0_0 l0_1 l0_2 a0_3 a1 with
  | some r => some r
  | none => impl_drop_N.f 0 a0_0 l0_1 l0_2 a0_3 a1
theorem impl_drop.calls (a0_0 : Int) (A0_1 : Option Addr) (c0_1 : Nat) (l0_1 : List (S60)) (A0_2 : Option Addr) (c0_2 : Nat) (l0_2 : List (S60)) (a0_3 : Int) (a1 : Int) (r9001 : Int) (r9002 : List (S60)) (r9003 : List (S60)) (r9004 : Int) (r9005 : Bool) (w : World) (hr0_1 : Kd.C k60 w A0_1 l0_1.length l0_1) (hc0_1 : l0_1.length ≤ c0_1) (hr0_2 : Kd.C k60 w A0_2 l0_2.length l0_2) (hc0_2 : l0_2.length ≤ c0_2) (h : impl_drop.f a0_0 l0_1 l0_2 a0_3 a1 = some (r9001, r9002, r9003, r9004, r9005)) :
  Calls Try.prog 51 #[.agg #[.int .i64 a0_0, .slice A0_1 l0_1.length c0_1, .slice A0_2 l0_2.length c0_2, .int .i64 a0_3], .int .i64 a1] w fun e w' => ∃ v0_ v1_ : Value, e = .returned (.tuple #[.agg #[.int .i64 r9001, v0_, v1_, .int .i64 r9004], .bool r9005]) ∧ Kd.R k60 60 w' w.heap.size (fun k_ => some k_ ≠ (v1_ : Value).ownBlock) v0_ r9002 ∧ Kd.R k60 60 w' w.heap.size (fun k_ => some k_ ≠ (v0_ : Value).ownBlock) v1_ r9003 ∧ Below w.heap.size w w' := by
 unfold impl_drop.f at h
 cases hL : impl_drop_L.f 0 a0_0 l0_1 l0_2 a0_3 a1 with
 | some r => rw [hL] at h; exact impl_drop_L.calls 0 a0_0 A0_1 c0_1 l0_1 A0_2 c0_2 l0_2 a0_3 a1 r9001 r9002 r9003 r9004 r9005 w hr0_1 hc0_1 hr0_2 hc0_2 (hL.trans h)
 | none =>
  rw [hL] at h
  simp only at h
  cases hR : impl_drop_R.f 0 a0_0 l0_1 l0_2 a0_3 a1 with
  | some r => rw [hR] at h; exact impl_drop_R.calls 0 a0_0 A0_1 c0_1 l0_1 A0_2 c0_2 l0_2 a0_3 a1 r9001 r9002 r9003 r9004 r9005 w hr0_1 hc0_1 hr0_2 hc0_2 (hR.trans h)
  | none =>
   rw [hR] at h
   simp only at h
   exact impl_drop_N.calls 0 a0_0 A0_1 c0_1 l0_1 A0_2 c0_2 l0_2 a0_3 a1 r9001 r9002 r9003 r9004 r9005 w hr0_1 hc0_1 hr0_2 hc0_2 (h)

/-! ### impl_DropKey: function 28 -/
def impl_DropKey.f (k : Nat) (a0_0 : Int) (l0_1 : List (S60)) (l0_2 : List (S60)) (a0_3 : Int) (a1 : Int) : Option (Int × (List (S60)) × (List (S60)) × Int × Bool) := (impl_GoodTable.f k a0_0 l0_1 l0_2 a0_3).bind fun t312 => (if t312 = true then ((impl_isKey.f a1).bind fun t313 => (if t313 = true then ((impl_drop.f a0_0 l0_1 l0_2 a0_3 a1).bind fun bt314 => (some (bt314.1, bt314.2.1, bt314.2.2.1, bt314.2.2.2.1, bt314.2.2.2.2))) else (some (0, ([] : List (S60)), ([] : List (S60)), 0, false)))) else (some (0, ([] : List (S60)), ([] : List (S60)), 0, false)))
theorem impl_DropKey.mono : ∀ a0 a1 a2 a3 a4 k, LeO (impl_DropKey.f k a0 a1 a2 a3 a4) (impl_DropKey.f (k + 1) a0 a1 a2 a3 a4) := by
 intro a0 a1 a2 a3 a4 k
 unfold impl_DropKey.f
 repeat' first
   | (with_reducible exact impl_GoodTable.mono _ _ _ _ _)
   | (with_reducible exact LeO.refl _)
   | (with_reducible exact LeO.none _)
   | (with_reducible refine LeO.ite ?_ ?_)
   | (with_reducible refine LeO.bind ?_ (fun _ => ?_))
   | exact impl_GoodTable.mono _ _ _ _ _
   | exact LeO.none _
   | refine LeO.ite ?_ ?_
   | refine LeO.bind ?_ (fun _ => ?_)
set_option maxHeartbeats 8000000 in
set_option maxRecDepth 100000 in
theorem impl_DropKey.calls (k : Nat) (a0_0 : Int) (A0_1 : Option Addr) (c0_1 : Nat) (l0_1 : List (S60)) (A0_2 : Option Addr) (c0_2 : Nat) (l0_2 : List (S60)) (a0_3 : Int) (a1 : Int) (r1 : Int) (r2 : List (S60)) (r3 : List (S60)) (r4 : Int) (r5 : Bool) (w : World) (hr0_1 : Kd.C k60 w A0_1 l0_1.length l0_1) (hc0_1 : l0_1.length ≤ c0_1) (hr0_2 : Kd.C k60 w A0_2 l0_2.length l0_2) (hc0_2 : l0_2.length ≤ c0_2) (h : impl_DropKey.f k a0_0 l0_1 l0_2 a0_3 a1 = some (r1, r2, r3, r4, r5)) :
  Calls Try.prog 28 #[.agg #[.int .i64 a0_0, .slice A0_1 l0_1.length c0_1, .slice A0_2 l0_2.length c0_2, .int .i64 a0_3], .int .i64 a1] w fun e w' => ∃ v1_ v2_ : Value, e = .returned (.tuple #[.agg #[.int .i64 r1, v1_, v2_, .int .i64 r4], .bool r5]) ∧ Kd.R k60 60 w' w.heap.size (fun k_ => some k_ ≠ (v2_ : Value).ownBlock) v1_ r2 ∧ Kd.R k60 60 w' w.heap.size (fun k_ => some k_ ≠ (v1_ : Value).ownBlock) v2_ r3 ∧ Below w.heap.size w w' := by
 have hu27 := Try.underlying27
 have HR0_1 := Aside0.mk hr0_1
 have HC0_1 := Aside0.mk hc0_1
 clear hr0_1 hc0_1
 have HR0_2 := Aside0.mk hr0_2
 have HC0_2 := Aside0.mk hc0_2
 clear hr0_2 hc0_2
 have HB := Aside0.mk (Below.refl w.heap.size w)
 have H : ((impl_GoodTable.f k a0_0 l0_1 l0_2 a0_3).bind fun t312 => (if t312 = true then ((impl_isKey.f a1).bind fun t313 => (if t313 = true then ((impl_drop.f a0_0 l0_1 l0_2 a0_3 a1).bind fun bt314 => (some (bt314.1, bt314.2.1, bt314.2.2.1, bt314.2.2.2.1, bt314.2.2.2.2))) else (some (0, ([] : List (S60)), ([] : List (S60)), 0, false)))) else (some (0, ([] : List (S60)), ([] : List (S60)), 0, false)))) = some (r1, r2, r3, r4, r5) := h
 clear h
 replace H := Option.bind_eq_some_iff.mp H
 obtain ⟨t312, A30, H⟩ := H
 replace H : (if t312 = true then ((impl_isKey.f a1).bind fun t313 => (if t313 = true then ((impl_drop.f a0_0 l0_1 l0_2 a0_3 a1).bind fun bt314 => (some (bt314.1, bt314.2.1, bt314.2.2.1, bt314.2.2.2.1, bt314.2.2.2.2))) else (some (0, ([] : List (S60)), ([] : List (S60)), 0, false)))) else (some (0, ([] : List (S60)), ([] : List (S60)), 0, false))) = some (r1, r2, r3, r4, r5) := H
 have A3 := Aside0.mk A30
 clear A30
 by_cases c4 : t312 = true
 ·subst c4
  have H1 : ((impl_isKey.f a1).bind fun t313 => (if t313 = true then ((impl_drop.f a0_0 l0_1 l0_2 a0_3 a1).bind fun bt314 => (some (bt314.1, bt314.2.1, bt314.2.2.1, bt314.2.2.2.1, bt314.2.2.2.2))) else (some (0, ([] : List (S60)), ([] : List (S60)), 0, false)))) = some (r1, r2, r3, r4, r5) := by rw [if_pos rfl] at H; exact H
  clear H
  have H := H1
  clear H1
  replace H := Option.bind_eq_some_iff.mp H
  obtain ⟨t313, A50, H⟩ := H
  replace H : (if t313 = true then ((impl_drop.f a0_0 l0_1 l0_2 a0_3 a1).bind fun bt314 => (some (bt314.1, bt314.2.1, bt314.2.2.1, bt314.2.2.2.1, bt314.2.2.2.2))) else (some (0, ([] : List (S60)), ([] : List (S60)), 0, false))) = some (r1, r2, r3, r4, r5) := H
  have A5 := Aside0.mk A50
  clear A50
  by_cases c6 : t313 = true
  ·subst c6
   have H1 : ((impl_drop.f a0_0 l0_1 l0_2 a0_3 a1).bind fun bt314 => (some (bt314.1, bt314.2.1, bt314.2.2.1, bt314.2.2.2.1, bt314.2.2.2.2))) = some (r1, r2, r3, r4, r5) := by rw [if_pos rfl] at H; exact H
   clear H
   have H := H1
   clear H1
   replace H := Option.bind_eq_some_iff.mp H
   obtain ⟨⟨t314, t315, t318, t321, t322⟩, A70, H⟩ := H
   replace H : (some (t314, t315, t318, t321, t322)) = some (r1, r2, r3, r4, r5) := H
   have A7 := Aside0.mk A70
   clear A70
   simp only [Option.some.injEq, Prod.mk.injEq] at H
   obtain ⟨rfl, rfl, rfl, rfl, rfl⟩ := H
   go_enter Try.func28, Try.ntmps28
   go_wp2_with (first | ((with_reducible refine gate_dst (N := 2) rfl ?_); refine box_event ?hg (N := 2) ?hd (cs := #[.int .i64 a0_0, .slice A0_1 l0_1.length c0_1, .slice A0_2 l0_2.length c0_2, .int .i64 a0_3]) (t := 27) ?hr ?_; (case hd => rfl); (case hg => rfl); (case hr => first | (go_simp; done) | (go_simp; rfl)); intro gb310 hg w8 hbox hb; have n0_ := Aside0.mk (Op.a5 (by repeat (first | (with_reducible first | exact HB.out | apply Op.a1 | apply Op.a2 | apply Op.a3) | exact HB.out)) hb); have n1_ := Aside0.mk (hbox); have n2_ := Aside0.mk ((by rw [hg]; exact (Op.a6 (by repeat (first | (with_reducible first | exact HB.out | apply Op.a1 | apply Op.a2 | apply Op.a3) | exact HB.out))) : w.heap.size ≤ gb310)); have n3_ := Aside0.mk ((by rw [hg]; exact (Op.a6 (by repeat (first | (with_reducible first | exact HB.out | apply Op.a1 | apply Op.a2 | apply Op.a3) | exact HB.out))) : w.heap.size ≤ gb310)); clear HB; have HB := n0_; have BK310 := n1_; have GW310 := n2_; have GE310 := n3_; clear n0_ n1_ n2_ n3_; clear hb hbox hg) | ((with_reducible refine gate_dst (N := 4) rfl ?_); refine box_event ?hg (N := 4) ?hd (cs := #[.int .i64 0, .slice none 0 0, .slice none 0 0, .int .i64 0]) (t := 27) ?hr ?_; (case hd => rfl); (case hg => rfl); (case hr => first | (go_simp; done) | (go_simp; rfl)); intro gb311 hg w9 hbox hb; have n0_ := Aside0.mk (Op.b4 (g := gb310) (o := .cells #[.int .i64 a0_0, .slice A0_1 l0_1.length c0_1, .slice A0_2 l0_2.length c0_2, .int .i64 a0_3] 27 (0, 0)) (by (with_reducible repeat (first | refine Op.b1 ?_ _ | refine Op.b2 ?_ | refine Op.b3 ?_ _)); exact BK310.out) hb); have n1_ := Aside0.mk (Op.a5 (by repeat (first | (with_reducible first | exact HB.out | apply Op.a1 | apply Op.a2 | apply Op.a3 | refine Op.a4 ?_ GE310.out) | exact HB.out)) hb); have n2_ := Aside0.mk (hbox); have n3_ := Aside0.mk ((by rw [hg]; exact (Op.a6 (by repeat (first | (with_reducible first | exact HB.out | apply Op.a1 | apply Op.a2 | apply Op.a3 | refine Op.a4 ?_ GE310.out) | exact HB.out))) : w.heap.size ≤ gb311)); have n4_ := Aside0.mk ((by rw [hg]; exact (Op.a6 (by repeat (first | (with_reducible first | exact HB.out | apply Op.a1 | apply Op.a2 | apply Op.a3 | refine Op.a4 ?_ GE310.out) | exact HB.out))) : w.heap.size ≤ gb311)); have n5_ := Aside0.mk ((by rw [hg]; exact Nat.ne_of_lt (blk_lt (g := gb310) (o := .cells #[.int .i64 a0_0, .slice A0_1 l0_1.length c0_1, .slice A0_2 l0_2.length c0_2, .int .i64 a0_3] 27 (0, 0)) (by (with_reducible repeat (first | refine Op.b1 ?_ _ | refine Op.b2 ?_ | refine Op.b3 ?_ _)); exact BK310.out)) : gb310 ≠ gb311)); have n6_ := Aside0.mk ((by rw [hg]; exact Nat.ne_of_gt (blk_lt (g := gb310) (o := .cells #[.int .i64 a0_0, .slice A0_1 l0_1.length c0_1, .slice A0_2 l0_2.length c0_2, .int .i64 a0_3] 27 (0, 0)) (by (with_reducible repeat (first | refine Op.b1 ?_ _ | refine Op.b2 ?_ | refine Op.b3 ?_ _)); exact BK310.out)) : gb311 ≠ gb310)); clear BK310; clear HB; have BK310 := n0_; have HB := n1_; have BK311 := n2_; have GW311 := n3_; have GE311 := n4_; have NB310_311 := n5_; have NB311_310 := n6_; clear n0_ n1_ n2_ n3_ n4_ n5_ n6_; clear hb hbox hg; have hnb10 := NB310_311.out; have hnc10 := NB311_310.out; have hcz11_0 : w9.cell? ⟨gb310, 0, none⟩ = some (.int .i64 a0_0) := (blk_cell BK310.out 0).trans rfl; have hcz11_1 : w9.cell? ⟨gb310, 1, none⟩ = some (.slice A0_1 l0_1.length c0_1) := (blk_cell BK310.out 1).trans rfl; have hcz11_2 : w9.cell? ⟨gb310, 2, none⟩ = some (.slice A0_2 l0_2.length c0_2) := (blk_cell BK310.out 2).trans rfl; have hcz11_3 : w9.cell? ⟨gb310, 3, none⟩ = some (.int .i64 a0_3) := (blk_cell BK310.out 3).trans rfl; have hfz11_0 := blk_frozen BK310.out 0; have hfz11_1 := blk_frozen BK310.out 1; have hfz11_2 := blk_frozen BK310.out 2; have hfz11_3 := blk_frozen BK310.out 3) | ((with_reducible refine gate_callee (f := 19) rfl ?_); refine goesL_ (some 7) rfl rfl Try.func19 (by kernel_rfl) rfl #[.agg #[.int .i64 a0_0, .slice A0_1 l0_1.length c0_1, .slice A0_2 l0_2.length c0_2, .int .i64 a0_3]] rfl (by (try simp only [List.map_toArray, List.map_cons, List.map_nil]); first | done | rfl | (simp only [List.length_drop, List.length_take]; rfl)) ?_; (with_reducible refine (impl_GoodTable.calls k a0_0 _ _ l0_1 _ _ l0_2 a0_3 true _ ?side1 ?side2 ?side3 ?side4 A3.out).mono ?_); (case side1 => repeat (first | exact (Kd.C_below HR0_1.out HB.out) | (with_reducible refine Kd.C_alloc ?_ _) | (with_reducible refine Kd.C_drewN ?_ _) | (with_reducible refine Kd.C_drew ?_))); (case side2 => exact HC0_1.out); (case side3 => repeat (first | exact (Kd.C_below HR0_2.out HB.out) | (with_reducible refine Kd.C_alloc ?_ _) | (with_reducible refine Kd.C_drewN ?_ _) | (with_reducible refine Kd.C_drew ?_))); (case side4 => exact HC0_2.out); rintro e w12 ⟨rfl, hb⟩; refine ⟨_, rfl, ?_⟩; have n0_ := Aside0.mk (Op.b4 (g := gb310) (o := .cells #[.int .i64 a0_0, .slice A0_1 l0_1.length c0_1, .slice A0_2 l0_2.length c0_2, .int .i64 a0_3] 27 (0, 0)) (by (with_reducible repeat (first | refine Op.b1 ?_ _ | refine Op.b2 ?_ | refine Op.b3 ?_ _)); exact BK310.out) hb); have n1_ := Aside0.mk (Op.b4 (g := gb311) (o := .cells #[.int .i64 0, .slice none 0 0, .slice none 0 0, .int .i64 0] 27 (0, 0)) (by (with_reducible repeat (first | refine Op.b1 ?_ _ | refine Op.b2 ?_ | refine Op.b3 ?_ _)); exact BK311.out) hb); have n2_ := Aside0.mk (Op.a5 (by repeat (first | (with_reducible first | exact HB.out | apply Op.a1 | apply Op.a2 | apply Op.a3 | refine Op.a4 ?_ GE310.out | refine Op.a4 ?_ GE311.out) | exact HB.out)) hb); clear BK310; clear BK311; clear HB; have BK310 := n0_; have BK311 := n1_; have HB := n2_; clear n0_ n1_ n2_; (try clear hb); (try clear hb2); (try clear hk); (try clear hi)) | (go_at_call 34; (with_reducible refine (impl_isKey.calls a1 true _ A5.out).mono ?_); rintro e w' ⟨rfl, ⟨nd, rfl⟩⟩; (try (rw [drewN_self w12]; generalize hq_ : World.drewN w12 _ = w12; have n0_ : Aside0 (w12.heap[gb310]? = some (.cells #[.int .i64 a0_0, .slice A0_1 l0_1.length c0_1, .slice A0_2 l0_2.length c0_2, .int .i64 a0_3] 27 (0, 0))) := ⟨by rw [← hq_]; exact (by (with_reducible repeat (first | refine Op.b1 ?_ _ | refine Op.b2 ?_ | refine Op.b3 ?_ _)); exact BK310.out)⟩; have n1_ : Aside0 (w12.heap[gb311]? = some (.cells #[.int .i64 0, .slice none 0 0, .slice none 0 0, .int .i64 0] 27 (0, 0))) := ⟨by rw [← hq_]; exact (by (with_reducible repeat (first | refine Op.b1 ?_ _ | refine Op.b2 ?_ | refine Op.b3 ?_ _)); exact BK311.out)⟩; have n2_ : Aside0 (Below w.heap.size w w12) := ⟨by rw [← hq_]; exact (by repeat (first | (with_reducible first | exact HB.out | apply Op.a1 | apply Op.a2 | apply Op.a3 | refine Op.a4 ?_ GE310.out | refine Op.a4 ?_ GE311.out) | exact HB.out))⟩; clear BK310 BK311 HB hq_; have BK310 := n0_; have BK311 := n1_; have HB := n2_; clear n0_ n1_ n2_)); have hcz13_0 : w12.cell? ⟨gb310, 0, none⟩ = some (.int .i64 a0_0) := (blk_cell BK310.out 0).trans rfl; have hcz13_1 : w12.cell? ⟨gb310, 1, none⟩ = some (.slice A0_1 l0_1.length c0_1) := (blk_cell BK310.out 1).trans rfl; have hcz13_2 : w12.cell? ⟨gb310, 2, none⟩ = some (.slice A0_2 l0_2.length c0_2) := (blk_cell BK310.out 2).trans rfl; have hcz13_3 : w12.cell? ⟨gb310, 3, none⟩ = some (.int .i64 a0_3) := (blk_cell BK310.out 3).trans rfl; have hfz13_0 := blk_frozen BK310.out 0; have hfz13_1 := blk_frozen BK310.out 1; have hfz13_2 := blk_frozen BK310.out 2; have hfz13_3 := blk_frozen BK310.out 3) | ((with_reducible refine gate_callee (f := 51) rfl ?_); refine goesL_ (some 17) rfl rfl Try.func51 (by kernel_rfl) rfl #[.agg #[.int .i64 a0_0, .slice A0_1 l0_1.length c0_1, .slice A0_2 l0_2.length c0_2, .int .i64 a0_3], .int .i64 a1] rfl (by (try simp only [List.map_toArray, List.map_cons, List.map_nil]); first | done | rfl | (simp only [List.length_drop, List.length_take]; rfl)) ?_; (with_reducible refine (impl_drop.calls a0_0 _ _ l0_1 _ _ l0_2 a0_3 a1 t314 t315 t318 t321 t322 _ ?side1 ?side2 ?side3 ?side4 A7.out).mono ?_); (case side1 => repeat (first | exact (Kd.C_below HR0_1.out HB.out) | (with_reducible refine Kd.C_alloc ?_ _) | (with_reducible refine Kd.C_drewN ?_ _) | (with_reducible refine Kd.C_drew ?_))); (case side2 => exact HC0_1.out); (case side3 => repeat (first | exact (Kd.C_below HR0_2.out HB.out) | (with_reducible refine Kd.C_alloc ?_ _) | (with_reducible refine Kd.C_drewN ?_ _) | (with_reducible refine Kd.C_drew ?_))); (case side4 => exact HC0_2.out); rintro e w14 ⟨v316, v319, rfl, ho0, ho1, hb⟩; refine ⟨_, rfl, ?_⟩; have n0_ := Aside0.mk (Kd.R_lower ho0 (Op.a6 (by repeat (first | (with_reducible first | exact HB.out | apply Op.a1 | apply Op.a2 | apply Op.a3 | refine Op.a4 ?_ GE310.out | refine Op.a4 ?_ GE311.out) | exact HB.out)))); have n1_ := Aside0.mk (Kd.R_lower ho1 (Op.a6 (by repeat (first | (with_reducible first | exact HB.out | apply Op.a1 | apply Op.a2 | apply Op.a3 | refine Op.a4 ?_ GE310.out | refine Op.a4 ?_ GE311.out) | exact HB.out)))); have n2_ := Aside0.mk (Op.b4 (g := gb310) (o := .cells #[.int .i64 a0_0, .slice A0_1 l0_1.length c0_1, .slice A0_2 l0_2.length c0_2, .int .i64 a0_3] 27 (0, 0)) (by (with_reducible repeat (first | refine Op.b1 ?_ _ | refine Op.b2 ?_ | refine Op.b3 ?_ _)); exact BK310.out) hb); have n3_ := Aside0.mk (Op.b4 (g := gb311) (o := .cells #[.int .i64 0, .slice none 0 0, .slice none 0 0, .int .i64 0] 27 (0, 0)) (by (with_reducible repeat (first | refine Op.b1 ?_ _ | refine Op.b2 ?_ | refine Op.b3 ?_ _)); exact BK311.out) hb); have n4_ := Aside0.mk (Op.a5 (by repeat (first | (with_reducible first | exact HB.out | apply Op.a1 | apply Op.a2 | apply Op.a3 | refine Op.a4 ?_ GE310.out | refine Op.a4 ?_ GE311.out) | exact HB.out)) hb); clear BK310; clear BK311; clear HB; have HO317 := n0_; have HO320 := n1_; have BK310 := n2_; have BK311 := n3_; have HB := n4_; clear n0_ n1_ n2_ n3_ n4_; (try clear hb); (try clear hb2); (try clear hk); (try clear hi); (try clear ho0); (try clear ho1); have hcz15_0 : w14.cell? ⟨gb311, 0, none⟩ = some (.int .i64 0) := (blk_cell BK311.out 0).trans rfl; have hcz15_1 : w14.cell? ⟨gb311, 1, none⟩ = some (.slice none 0 0) := (blk_cell BK311.out 1).trans rfl; have hcz15_2 : w14.cell? ⟨gb311, 2, none⟩ = some (.slice none 0 0) := (blk_cell BK311.out 2).trans rfl; have hcz15_3 : w14.cell? ⟨gb311, 3, none⟩ = some (.int .i64 0) := (blk_cell BK311.out 3).trans rfl; have hfz15_0 := blk_frozen BK311.out 0; have hfz15_1 := blk_frozen BK311.out 1; have hfz15_2 := blk_frozen BK311.out 2; have hfz15_3 := blk_frozen BK311.out 3; obtain ⟨Ao16, co16, eo16⟩ := Kd.R_slice HO317.out; subst eo16; obtain ⟨Ao17, co17, eo17⟩ := Kd.R_slice HO320.out; subst eo17))
   refine bodyPost_ret (results_ct rfl _ _ gb311 27 #[.int .i64 t314, .slice Ao16 t315.length co16, .slice Ao17 t318.length co17, .int .i64 t321] (0, 0) _ rfl (by (with_reducible repeat (first | refine Op.b1 ?_ _ | refine Op.b2 ?_ | refine Op.b3 ?_ _)); refine blk_put (cs := #[.int .i64 t314, .slice Ao16 t315.length co16, .slice Ao17 t318.length co17, .int .i64 0]) ?_ 3 _ rfl; (with_reducible repeat (first | refine Op.b1 ?_ _ | refine Op.b2 ?_ | refine Op.b3 ?_ _)); refine blk_put (cs := #[.int .i64 t314, .slice Ao16 t315.length co16, .slice none 0 0, .int .i64 0]) ?_ 2 _ rfl; (with_reducible repeat (first | refine Op.b1 ?_ _ | refine Op.b2 ?_ | refine Op.b3 ?_ _)); refine blk_put (cs := #[.int .i64 t314, .slice none 0 0, .slice none 0 0, .int .i64 0]) ?_ 1 _ rfl; (with_reducible repeat (first | refine Op.b1 ?_ _ | refine Op.b2 ?_ | refine Op.b3 ?_ _)); refine blk_put (cs := #[.int .i64 0, .slice none 0 0, .slice none 0 0, .int .i64 0]) ?_ 0 _ rfl; (with_reducible repeat (first | refine Op.b1 ?_ _ | refine Op.b2 ?_ | refine Op.b3 ?_ _)); exact BK311.out) Try.underlying27 rfl (by kernel_rfl)) rfl ?_
   exact ⟨_, _, by first | rfl | (simp [errW_none, errW_some] <;> rfl) | (simp [*, errW_none, errW_some] <;> rfl), by (with_reducible repeat (first | apply Kd.R_alloc | apply Kd.R_drewN | apply Kd.R_drew)); exact Kd.R_mono (Kd.R_far (p := ⟨gb311, 3, none⟩) (Kd.R_far (p := ⟨gb311, 2, none⟩) (Kd.R_far (p := ⟨gb311, 1, none⟩) (Kd.R_far (p := ⟨gb311, 0, none⟩) (Kd.R_types HO317.out BK311.out (by decide)) (fun _ hk => hk.2) (.int .i64 t314)) (fun _ hk => hk.2) (.slice Ao16 t315.length co16)) (fun _ hk => hk.2) (.slice Ao17 t318.length co17)) (fun _ hk => hk.2) (.int .i64 t321)) (fun _ hk => hk.1), by (with_reducible repeat (first | apply Kd.R_alloc | apply Kd.R_drewN | apply Kd.R_drew)); exact Kd.R_mono (Kd.R_far (p := ⟨gb311, 3, none⟩) (Kd.R_far (p := ⟨gb311, 2, none⟩) (Kd.R_far (p := ⟨gb311, 1, none⟩) (Kd.R_far (p := ⟨gb311, 0, none⟩) (Kd.R_types HO320.out BK311.out (by decide)) (fun _ hk => hk.2) (.int .i64 t314)) (fun _ hk => hk.2) (.slice Ao16 t315.length co16)) (fun _ hk => hk.2) (.slice Ao17 t318.length co17)) (fun _ hk => hk.2) (.int .i64 t321)) (fun _ hk => hk.1), by repeat (first | (with_reducible first | exact HB.out | apply Op.a1 | apply Op.a2 | apply Op.a3 | refine Op.a4 ?_ GE310.out | refine Op.a4 ?_ GE311.out) | exact HB.out)⟩
  ·replace c6 := Bool.eq_false_iff.mpr c6
   subst c6
   have H1 : (some (0, ([] : List (S60)), ([] : List (S60)), 0, false)) = some (r1, r2, r3, r4, r5) := by rw [if_neg (show ¬ (false = true) by decide)] at H; exact H
   clear H
   have H := H1
   clear H1
   simp only [Option.some.injEq, Prod.mk.injEq] at H
   obtain ⟨rfl, rfl, rfl, rfl, rfl⟩ := H
   go_enter Try.func28, Try.ntmps28
   go_wp2_with (first | ((with_reducible refine gate_dst (N := 2) rfl ?_); refine box_event ?hg (N := 2) ?hd (cs := #[.int .i64 a0_0, .slice A0_1 l0_1.length c0_1, .slice A0_2 l0_2.length c0_2, .int .i64 a0_3]) (t := 27) ?hr ?_; (case hd => rfl); (case hg => rfl); (case hr => first | (go_simp; done) | (go_simp; rfl)); intro gb310 hg w18 hbox hb; have n0_ := Aside0.mk (Op.a5 (by repeat (first | (with_reducible first | exact HB.out | apply Op.a1 | apply Op.a2 | apply Op.a3) | exact HB.out)) hb); have n1_ := Aside0.mk (hbox); have n2_ := Aside0.mk ((by rw [hg]; exact (Op.a6 (by repeat (first | (with_reducible first | exact HB.out | apply Op.a1 | apply Op.a2 | apply Op.a3) | exact HB.out))) : w.heap.size ≤ gb310)); have n3_ := Aside0.mk ((by rw [hg]; exact (Op.a6 (by repeat (first | (with_reducible first | exact HB.out | apply Op.a1 | apply Op.a2 | apply Op.a3) | exact HB.out))) : w.heap.size ≤ gb310)); clear HB; have HB := n0_; have BK310 := n1_; have GW310 := n2_; have GE310 := n3_; clear n0_ n1_ n2_ n3_; clear hb hbox hg) | ((with_reducible refine gate_dst (N := 4) rfl ?_); refine box_event ?hg (N := 4) ?hd (cs := #[.int .i64 0, .slice none 0 0, .slice none 0 0, .int .i64 0]) (t := 27) ?hr ?_; (case hd => rfl); (case hg => rfl); (case hr => first | (go_simp; done) | (go_simp; rfl)); intro gb311 hg w19 hbox hb; have n0_ := Aside0.mk (Op.b4 (g := gb310) (o := .cells #[.int .i64 a0_0, .slice A0_1 l0_1.length c0_1, .slice A0_2 l0_2.length c0_2, .int .i64 a0_3] 27 (0, 0)) (by (with_reducible repeat (first | refine Op.b1 ?_ _ | refine Op.b2 ?_ | refine Op.b3 ?_ _)); exact BK310.out) hb); have n1_ := Aside0.mk (Op.a5 (by repeat (first | (with_reducible first | exact HB.out | apply Op.a1 | apply Op.a2 | apply Op.a3 | refine Op.a4 ?_ GE310.out) | exact HB.out)) hb); have n2_ := Aside0.mk (hbox); have n3_ := Aside0.mk ((by rw [hg]; exact (Op.a6 (by repeat (first | (with_reducible first | exact HB.out | apply Op.a1 | apply Op.a2 | apply Op.a3 | refine Op.a4 ?_ GE310.out) | exact HB.out))) : w.heap.size ≤ gb311)); have n4_ := Aside0.mk ((by rw [hg]; exact (Op.a6 (by repeat (first | (with_reducible first | exact HB.out | apply Op.a1 | apply Op.a2 | apply Op.a3 | refine Op.a4 ?_ GE310.out) | exact HB.out))) : w.heap.size ≤ gb311)); have n5_ := Aside0.mk ((by rw [hg]; exact Nat.ne_of_lt (blk_lt (g := gb310) (o := .cells #[.int .i64 a0_0, .slice A0_1 l0_1.length c0_1, .slice A0_2 l0_2.length c0_2, .int .i64 a0_3] 27 (0, 0)) (by (with_reducible repeat (first | refine Op.b1 ?_ _ | refine Op.b2 ?_ | refine Op.b3 ?_ _)); exact BK310.out)) : gb310 ≠ gb311)); have n6_ := Aside0.mk ((by rw [hg]; exact Nat.ne_of_gt (blk_lt (g := gb310) (o := .cells #[.int .i64 a0_0, .slice A0_1 l0_1.length c0_1, .slice A0_2 l0_2.length c0_2, .int .i64 a0_3] 27 (0, 0)) (by (with_reducible repeat (first | refine Op.b1 ?_ _ | refine Op.b2 ?_ | refine Op.b3 ?_ _)); exact BK310.out)) : gb311 ≠ gb310)); clear BK310; clear HB; have BK310 := n0_; have HB := n1_; have BK311 := n2_; have GW311 := n3_; have GE311 := n4_; have NB310_311 := n5_; have NB311_310 := n6_; clear n0_ n1_ n2_ n3_ n4_ n5_ n6_; clear hb hbox hg; have hnb20 := NB310_311.out; have hnc20 := NB311_310.out; have hcz21_0 : w19.cell? ⟨gb310, 0, none⟩ = some (.int .i64 a0_0) := (blk_cell BK310.out 0).trans rfl; have hcz21_1 : w19.cell? ⟨gb310, 1, none⟩ = some (.slice A0_1 l0_1.length c0_1) := (blk_cell BK310.out 1).trans rfl; have hcz21_2 : w19.cell? ⟨gb310, 2, none⟩ = some (.slice A0_2 l0_2.length c0_2) := (blk_cell BK310.out 2).trans rfl; have hcz21_3 : w19.cell? ⟨gb310, 3, none⟩ = some (.int .i64 a0_3) := (blk_cell BK310.out 3).trans rfl; have hfz21_0 := blk_frozen BK310.out 0; have hfz21_1 := blk_frozen BK310.out 1; have hfz21_2 := blk_frozen BK310.out 2; have hfz21_3 := blk_frozen BK310.out 3) | ((with_reducible refine gate_callee (f := 19) rfl ?_); refine goesL_ (some 7) rfl rfl Try.func19 (by kernel_rfl) rfl #[.agg #[.int .i64 a0_0, .slice A0_1 l0_1.length c0_1, .slice A0_2 l0_2.length c0_2, .int .i64 a0_3]] rfl (by (try simp only [List.map_toArray, List.map_cons, List.map_nil]); first | done | rfl | (simp only [List.length_drop, List.length_take]; rfl)) ?_; (with_reducible refine (impl_GoodTable.calls k a0_0 _ _ l0_1 _ _ l0_2 a0_3 true _ ?side1 ?side2 ?side3 ?side4 A3.out).mono ?_); (case side1 => repeat (first | exact (Kd.C_below HR0_1.out HB.out) | (with_reducible refine Kd.C_alloc ?_ _) | (with_reducible refine Kd.C_drewN ?_ _) | (with_reducible refine Kd.C_drew ?_))); (case side2 => exact HC0_1.out); (case side3 => repeat (first | exact (Kd.C_below HR0_2.out HB.out) | (with_reducible refine Kd.C_alloc ?_ _) | (with_reducible refine Kd.C_drewN ?_ _) | (with_reducible refine Kd.C_drew ?_))); (case side4 => exact HC0_2.out); rintro e w22 ⟨rfl, hb⟩; refine ⟨_, rfl, ?_⟩; have n0_ := Aside0.mk (Op.b4 (g := gb310) (o := .cells #[.int .i64 a0_0, .slice A0_1 l0_1.length c0_1, .slice A0_2 l0_2.length c0_2, .int .i64 a0_3] 27 (0, 0)) (by (with_reducible repeat (first | refine Op.b1 ?_ _ | refine Op.b2 ?_ | refine Op.b3 ?_ _)); exact BK310.out) hb); have n1_ := Aside0.mk (Op.b4 (g := gb311) (o := .cells #[.int .i64 0, .slice none 0 0, .slice none 0 0, .int .i64 0] 27 (0, 0)) (by (with_reducible repeat (first | refine Op.b1 ?_ _ | refine Op.b2 ?_ | refine Op.b3 ?_ _)); exact BK311.out) hb); have n2_ := Aside0.mk (Op.a5 (by repeat (first | (with_reducible first | exact HB.out | apply Op.a1 | apply Op.a2 | apply Op.a3 | refine Op.a4 ?_ GE310.out | refine Op.a4 ?_ GE311.out) | exact HB.out)) hb); clear BK310; clear BK311; clear HB; have BK310 := n0_; have BK311 := n1_; have HB := n2_; clear n0_ n1_ n2_; (try clear hb); (try clear hb2); (try clear hk); (try clear hi)) | (go_at_call 34; (with_reducible refine (impl_isKey.calls a1 false _ A5.out).mono ?_); rintro e w' ⟨rfl, ⟨nd, rfl⟩⟩; (try (rw [drewN_self w22]; generalize hq_ : World.drewN w22 _ = w22; have n0_ : Aside0 (w22.heap[gb310]? = some (.cells #[.int .i64 a0_0, .slice A0_1 l0_1.length c0_1, .slice A0_2 l0_2.length c0_2, .int .i64 a0_3] 27 (0, 0))) := ⟨by rw [← hq_]; exact (by (with_reducible repeat (first | refine Op.b1 ?_ _ | refine Op.b2 ?_ | refine Op.b3 ?_ _)); exact BK310.out)⟩; have n1_ : Aside0 (w22.heap[gb311]? = some (.cells #[.int .i64 0, .slice none 0 0, .slice none 0 0, .int .i64 0] 27 (0, 0))) := ⟨by rw [← hq_]; exact (by (with_reducible repeat (first | refine Op.b1 ?_ _ | refine Op.b2 ?_ | refine Op.b3 ?_ _)); exact BK311.out)⟩; have n2_ : Aside0 (Below w.heap.size w w22) := ⟨by rw [← hq_]; exact (by repeat (first | (with_reducible first | exact HB.out | apply Op.a1 | apply Op.a2 | apply Op.a3 | refine Op.a4 ?_ GE310.out | refine Op.a4 ?_ GE311.out) | exact HB.out))⟩; clear BK310 BK311 HB hq_; have BK310 := n0_; have BK311 := n1_; have HB := n2_; clear n0_ n1_ n2_)); have hcz23_0 : w22.cell? ⟨gb311, 0, none⟩ = some (.int .i64 0) := (blk_cell BK311.out 0).trans rfl; have hcz23_1 : w22.cell? ⟨gb311, 1, none⟩ = some (.slice none 0 0) := (blk_cell BK311.out 1).trans rfl; have hcz23_2 : w22.cell? ⟨gb311, 2, none⟩ = some (.slice none 0 0) := (blk_cell BK311.out 2).trans rfl; have hcz23_3 : w22.cell? ⟨gb311, 3, none⟩ = some (.int .i64 0) := (blk_cell BK311.out 3).trans rfl; have hfz23_0 := blk_frozen BK311.out 0; have hfz23_1 := blk_frozen BK311.out 1; have hfz23_2 := blk_frozen BK311.out 2; have hfz23_3 := blk_frozen BK311.out 3))
   refine bodyPost_ret (results_ct rfl _ _ gb311 27 #[.int .i64 0, .slice none 0 0, .slice none 0 0, .int .i64 0] (0, 0) _ rfl (by (with_reducible repeat (first | refine Op.b1 ?_ _ | refine Op.b2 ?_ | refine Op.b3 ?_ _)); refine blk_put (cs := #[.int .i64 0, .slice none 0 0, .slice none 0 0, .int .i64 0]) ?_ 3 _ rfl; (with_reducible repeat (first | refine Op.b1 ?_ _ | refine Op.b2 ?_ | refine Op.b3 ?_ _)); refine blk_put (cs := #[.int .i64 0, .slice none 0 0, .slice none 0 0, .int .i64 0]) ?_ 2 _ rfl; (with_reducible repeat (first | refine Op.b1 ?_ _ | refine Op.b2 ?_ | refine Op.b3 ?_ _)); refine blk_put (cs := #[.int .i64 0, .slice none 0 0, .slice none 0 0, .int .i64 0]) ?_ 1 _ rfl; (with_reducible repeat (first | refine Op.b1 ?_ _ | refine Op.b2 ?_ | refine Op.b3 ?_ _)); refine blk_put (cs := #[.int .i64 0, .slice none 0 0, .slice none 0 0, .int .i64 0]) ?_ 0 _ rfl; (with_reducible repeat (first | refine Op.b1 ?_ _ | refine Op.b2 ?_ | refine Op.b3 ?_ _)); exact BK311.out) Try.underlying27 rfl (by kernel_rfl)) rfl ?_
   exact ⟨_, _, by first | rfl | (simp [errW_none, errW_some] <;> rfl) | (simp [*, errW_none, errW_some] <;> rfl), by first | exact Kd.R_nil _ _ _ _ _ | exact Kd.N_nil _ _ _ _ _ | exact Kd.V_nil _ _ _ _ _ | exact Kd.Q_nil _ _ _ _ _ | exact Kd.S_nil _ _ _ _ _, by first | exact Kd.R_nil _ _ _ _ _ | exact Kd.N_nil _ _ _ _ _ | exact Kd.V_nil _ _ _ _ _ | exact Kd.Q_nil _ _ _ _ _ | exact Kd.S_nil _ _ _ _ _, by repeat (first | (with_reducible first | exact HB.out | apply Op.a1 | apply Op.a2 | apply Op.a3 | refine Op.a4 ?_ GE310.out | refine Op.a4 ?_ GE311.out) | exact HB.out)⟩
 ·replace c4 := Bool.eq_false_iff.mpr c4
  subst c4
  have H1 : (some (0, ([] : List (S60)), ([] : List (S60)), 0, false)) = some (r1, r2, r3, r4, r5) := by rw [if_neg (show ¬ (false = true) by decide)] at H; exact H
  clear H
  have H := H1
  clear H1
  simp only [Option.some.injEq, Prod.mk.injEq] at H
  obtain ⟨rfl, rfl, rfl, rfl, rfl⟩ := H
  go_enter Try.func28, Try.ntmps28
  go_wp2_with (first | ((with_reducible refine gate_dst (N := 2) rfl ?_); refine box_event ?hg (N := 2) ?hd (cs := #[.int .i64 a0_0, .slice A0_1 l0_1.length c0_1, .slice A0_2 l0_2.length c0_2, .int .i64 a0_3]) (t := 27) ?hr ?_; (case hd => rfl); (case hg => rfl); (case hr => first | (go_simp; done) | (go_simp; rfl)); intro gb310 hg w24 hbox hb; have n0_ := Aside0.mk (Op.a5 (by repeat (first | (with_reducible first | exact HB.out | apply Op.a1 | apply Op.a2 | apply Op.a3) | exact HB.out)) hb); have n1_ := Aside0.mk (hbox); have n2_ := Aside0.mk ((by rw [hg]; exact (Op.a6 (by repeat (first | (with_reducible first | exact HB.out | apply Op.a1 | apply Op.a2 | apply Op.a3) | exact HB.out))) : w.heap.size ≤ gb310)); have n3_ := Aside0.mk ((by rw [hg]; exact (Op.a6 (by repeat (first | (with_reducible first | exact HB.out | apply Op.a1 | apply Op.a2 | apply Op.a3) | exact HB.out))) : w.heap.size ≤ gb310)); clear HB; have HB := n0_; have BK310 := n1_; have GW310 := n2_; have GE310 := n3_; clear n0_ n1_ n2_ n3_; clear hb hbox hg) | ((with_reducible refine gate_dst (N := 4) rfl ?_); refine box_event ?hg (N := 4) ?hd (cs := #[.int .i64 0, .slice none 0 0, .slice none 0 0, .int .i64 0]) (t := 27) ?hr ?_; (case hd => rfl); (case hg => rfl); (case hr => first | (go_simp; done) | (go_simp; rfl)); intro gb311 hg w25 hbox hb; have n0_ := Aside0.mk (Op.b4 (g := gb310) (o := .cells #[.int .i64 a0_0, .slice A0_1 l0_1.length c0_1, .slice A0_2 l0_2.length c0_2, .int .i64 a0_3] 27 (0, 0)) (by (with_reducible repeat (first | refine Op.b1 ?_ _ | refine Op.b2 ?_ | refine Op.b3 ?_ _)); exact BK310.out) hb); have n1_ := Aside0.mk (Op.a5 (by repeat (first | (with_reducible first | exact HB.out | apply Op.a1 | apply Op.a2 | apply Op.a3 | refine Op.a4 ?_ GE310.out) | exact HB.out)) hb); have n2_ := Aside0.mk (hbox); have n3_ := Aside0.mk ((by rw [hg]; exact (Op.a6 (by repeat (first | (with_reducible first | exact HB.out | apply Op.a1 | apply Op.a2 | apply Op.a3 | refine Op.a4 ?_ GE310.out) | exact HB.out))) : w.heap.size ≤ gb311)); have n4_ := Aside0.mk ((by rw [hg]; exact (Op.a6 (by repeat (first | (with_reducible first | exact HB.out | apply Op.a1 | apply Op.a2 | apply Op.a3 | refine Op.a4 ?_ GE310.out) | exact HB.out))) : w.heap.size ≤ gb311)); have n5_ := Aside0.mk ((by rw [hg]; exact Nat.ne_of_lt (blk_lt (g := gb310) (o := .cells #[.int .i64 a0_0, .slice A0_1 l0_1.length c0_1, .slice A0_2 l0_2.length c0_2, .int .i64 a0_3] 27 (0, 0)) (by (with_reducible repeat (first | refine Op.b1 ?_ _ | refine Op.b2 ?_ | refine Op.b3 ?_ _)); exact BK310.out)) : gb310 ≠ gb311)); have n6_ := Aside0.mk ((by rw [hg]; exact Nat.ne_of_gt (blk_lt (g := gb310) (o := .cells #[.int .i64 a0_0, .slice A0_1 l0_1.length c0_1, .slice A0_2 l0_2.length c0_2, .int .i64 a0_3] 27 (0, 0)) (by (with_reducible repeat (first | refine Op.b1 ?_ _ | refine Op.b2 ?_ | refine Op.b3 ?_ _)); exact BK310.out)) : gb311 ≠ gb310)); clear BK310; clear HB; have BK310 := n0_; have HB := n1_; have BK311 := n2_; have GW311 := n3_; have GE311 := n4_; have NB310_311 := n5_; have NB311_310 := n6_; clear n0_ n1_ n2_ n3_ n4_ n5_ n6_; clear hb hbox hg; have hnb26 := NB310_311.out; have hnc26 := NB311_310.out; have hcz27_0 : w25.cell? ⟨gb310, 0, none⟩ = some (.int .i64 a0_0) := (blk_cell BK310.out 0).trans rfl; have hcz27_1 : w25.cell? ⟨gb310, 1, none⟩ = some (.slice A0_1 l0_1.length c0_1) := (blk_cell BK310.out 1).trans rfl; have hcz27_2 : w25.cell? ⟨gb310, 2, none⟩ = some (.slice A0_2 l0_2.length c0_2) := (blk_cell BK310.out 2).trans rfl; have hcz27_3 : w25.cell? ⟨gb310, 3, none⟩ = some (.int .i64 a0_3) := (blk_cell BK310.out 3).trans rfl; have hfz27_0 := blk_frozen BK310.out 0; have hfz27_1 := blk_frozen BK310.out 1; have hfz27_2 := blk_frozen BK310.out 2; have hfz27_3 := blk_frozen BK310.out 3) | ((with_reducible refine gate_callee (f := 19) rfl ?_); refine goesL_ (some 7) rfl rfl Try.func19 (by kernel_rfl) rfl #[.agg #[.int .i64 a0_0, .slice A0_1 l0_1.length c0_1, .slice A0_2 l0_2.length c0_2, .int .i64 a0_3]] rfl (by (try simp only [List.map_toArray, List.map_cons, List.map_nil]); first | done | rfl | (simp only [List.length_drop, List.length_take]; rfl)) ?_; (with_reducible refine (impl_GoodTable.calls k a0_0 _ _ l0_1 _ _ l0_2 a0_3 false _ ?side1 ?side2 ?side3 ?side4 A3.out).mono ?_); (case side1 => repeat (first | exact (Kd.C_below HR0_1.out HB.out) | (with_reducible refine Kd.C_alloc ?_ _) | (with_reducible refine Kd.C_drewN ?_ _) | (with_reducible refine Kd.C_drew ?_))); (case side2 => exact HC0_1.out); (case side3 => repeat (first | exact (Kd.C_below HR0_2.out HB.out) | (with_reducible refine Kd.C_alloc ?_ _) | (with_reducible refine Kd.C_drewN ?_ _) | (with_reducible refine Kd.C_drew ?_))); (case side4 => exact HC0_2.out); rintro e w28 ⟨rfl, hb⟩; refine ⟨_, rfl, ?_⟩; have n0_ := Aside0.mk (Op.b4 (g := gb310) (o := .cells #[.int .i64 a0_0, .slice A0_1 l0_1.length c0_1, .slice A0_2 l0_2.length c0_2, .int .i64 a0_3] 27 (0, 0)) (by (with_reducible repeat (first | refine Op.b1 ?_ _ | refine Op.b2 ?_ | refine Op.b3 ?_ _)); exact BK310.out) hb); have n1_ := Aside0.mk (Op.b4 (g := gb311) (o := .cells #[.int .i64 0, .slice none 0 0, .slice none 0 0, .int .i64 0] 27 (0, 0)) (by (with_reducible repeat (first | refine Op.b1 ?_ _ | refine Op.b2 ?_ | refine Op.b3 ?_ _)); exact BK311.out) hb); have n2_ := Aside0.mk (Op.a5 (by repeat (first | (with_reducible first | exact HB.out | apply Op.a1 | apply Op.a2 | apply Op.a3 | refine Op.a4 ?_ GE310.out | refine Op.a4 ?_ GE311.out) | exact HB.out)) hb); clear BK310; clear BK311; clear HB; have BK310 := n0_; have BK311 := n1_; have HB := n2_; clear n0_ n1_ n2_; (try clear hb); (try clear hb2); (try clear hk); (try clear hi); have hcz29_0 : w28.cell? ⟨gb311, 0, none⟩ = some (.int .i64 0) := (blk_cell BK311.out 0).trans rfl; have hcz29_1 : w28.cell? ⟨gb311, 1, none⟩ = some (.slice none 0 0) := (blk_cell BK311.out 1).trans rfl; have hcz29_2 : w28.cell? ⟨gb311, 2, none⟩ = some (.slice none 0 0) := (blk_cell BK311.out 2).trans rfl; have hcz29_3 : w28.cell? ⟨gb311, 3, none⟩ = some (.int .i64 0) := (blk_cell BK311.out 3).trans rfl; have hfz29_0 := blk_frozen BK311.out 0; have hfz29_1 := blk_frozen BK311.out 1; have hfz29_2 := blk_frozen BK311.out 2; have hfz29_3 := blk_frozen BK311.out 3))
  refine bodyPost_ret (results_ct rfl _ _ gb311 27 #[.int .i64 0, .slice none 0 0, .slice none 0 0, .int .i64 0] (0, 0) _ rfl (by (with_reducible repeat (first | refine Op.b1 ?_ _ | refine Op.b2 ?_ | refine Op.b3 ?_ _)); refine blk_put (cs := #[.int .i64 0, .slice none 0 0, .slice none 0 0, .int .i64 0]) ?_ 3 _ rfl; (with_reducible repeat (first | refine Op.b1 ?_ _ | refine Op.b2 ?_ | refine Op.b3 ?_ _)); refine blk_put (cs := #[.int .i64 0, .slice none 0 0, .slice none 0 0, .int .i64 0]) ?_ 2 _ rfl; (with_reducible repeat (first | refine Op.b1 ?_ _ | refine Op.b2 ?_ | refine Op.b3 ?_ _)); refine blk_put (cs := #[.int .i64 0, .slice none 0 0, .slice none 0 0, .int .i64 0]) ?_ 1 _ rfl; (with_reducible repeat (first | refine Op.b1 ?_ _ | refine Op.b2 ?_ | refine Op.b3 ?_ _)); refine blk_put (cs := #[.int .i64 0, .slice none 0 0, .slice none 0 0, .int .i64 0]) ?_ 0 _ rfl; (with_reducible repeat (first | refine Op.b1 ?_ _ | refine Op.b2 ?_ | refine Op.b3 ?_ _)); exact BK311.out) Try.underlying27 rfl (by kernel_rfl)) rfl ?_
  exact ⟨_, _, by first | rfl | (simp [errW_none, errW_some] <;> rfl) | (simp [*, errW_none, errW_some] <;> rfl), by first | exact Kd.R_nil _ _ _ _ _ | exact Kd.N_nil _ _ _ _ _ | exact Kd.V_nil _ _ _ _ _ | exact Kd.Q_nil _ _ _ _ _ | exact Kd.S_nil _ _ _ _ _, by first | exact Kd.R_nil _ _ _ _ _ | exact Kd.N_nil _ _ _ _ _ | exact Kd.V_nil _ _ _ _ _ | exact Kd.Q_nil _ _ _ _ _ | exact Kd.S_nil _ _ _ _ _, by repeat (first | (with_reducible first | exact HB.out | apply Op.a1 | apply Op.a2 | apply Op.a3 | refine Op.a4 ?_ GE310.out | refine Op.a4 ?_ GE311.out) | exact HB.out)⟩

end Go.Proofs.Ytnohankakmmnoaa.PFnExactDropKey
