/- Contracts of functions of the translation, written by a program of this repo (a changed copy of the printer). Not trusted: Lean checks it. -/
import Derived.Test.YtnafnpoflheonaaPFnExactNewPoolx0
import Derived.Test.YtnafnpoflheonaaPFnExactNewPoolx1
namespace Go.Proofs.Ytnafnpoflheonaa.PFnExactNewPool
open Go.RowKit Go.Proofs.YtnafnpoflheonaaW.PrintWords Go.Proofs.YtnafnpoflheonaaW.PrintLast Go.Proofs.YtnafnpoflheonaaW.PrintMore
attribute [local go_sem] max2_int min2_int max_two min_two max_three min_three max_four min_four   -- for this text's walks alone
set_option linter.unusedVariables false
set_option linter.unusedSimpArgs false

/-! ### laws_markBranchS: function 46 -/
/-- the values behind the marks, each element's row and bool -/
def laws_markBranchS.f (k : Nat) : List S65 → Int → Option (Int × List S65)
  | [], x => some (x, [])
  | b :: t, x => (laws_markIntS.f k b.f0 x).bind fun p => (laws_markBranchS.f k t (wrap64 (p.1 + 1))).map fun q => (q.1, ⟨p.2, Int.tmod p.1 3 == 0⟩ :: q.2)
set_option maxHeartbeats 4000000 in
theorem laws_markBranchS.calls (k : Nat) (P0_ : Nat → Prop) (u9000_ : Value) (l0 : List S65) (a1 : Int) (r1 : Int) (r2 : List S65) (w0 w : World) (hB : Below w0.heap.size w0 w) (ho0 : Kd.S k65 65 w w0.heap.size P0_ u9000_ l0) (h : laws_markBranchS.f k l0 a1 = some (r1, r2)) :
    Calls Try.prog 46 #[u9000_, .int .i64 a1] w fun e w' => e = .returned (.int .i64 r1) ∧ Kd.S k65 65 w' w0.heap.size P0_ u9000_ r2 ∧ Below w0.heap.size w0 w' ∧ Kept w w' P0_ := by
  have HO := Aside0.mk ho0
  have HB := Aside0.mk hB
  have HK := Aside0.mk (Kept.refl w P0_)
  have H' := Aside0.mk h
  obtain ⟨A, c, rfl⟩ := Kd.S_slice ho0
  clear ho0 hB h
  go_enter Try.func46, Try.ntmps46
  go_wp2
  go_loopg [1, 5] l0.length (fun gg v1 v5 wr => ∃ (n : Nat) (x1 : Int) (pre q : List S65), v1 = .int .i64 x1 ∧ v5 = .int .i64 n ∧ Aside0 (n ≤ l0.length ∧ l0.length - n ≤ gg ∧ pre.length = n ∧ r2 = pre ++ q) ∧ Aside0 (laws_markBranchS.f k (l0.drop n) x1 = some (r1, q)) ∧ Aside0 (Kd.S k65 65 wr w0.heap.size P0_ (.slice A l0.length c) (pre ++ l0.drop n)) ∧ Aside0 (Kept w wr P0_) ∧ Aside0 (Below w0.heap.size w0 wr))
  case atStart => exact ⟨0, a1, [], r2, rfl, rfl, ⟨by omega, by omega, rfl, rfl⟩, ⟨by simpa using H'.out⟩, ⟨by simpa using HO.out⟩, HK, HB⟩
  case round =>
    clear H' HO HK HB
    obtain ⟨n, x1, pre, q, rfl, rfl, HN, HA, HO, HK, HB⟩ := hrel
    by_cases hlt : n < l0.length
    · have hltz : (n : Int) < (l0.length : Int) := by omega
      have HD : Aside0 (l0.drop n = l0[n] :: l0.drop (n + 1)) := ⟨List.drop_eq_getElem_cons hlt⟩
      generalize l0[n] = b at HD
      have HLT := Aside0.mk hlt
      have HA2 : ∃ p1 p2 q2, laws_markIntS.f k b.f0 x1 = some (p1, p2) ∧ Aside0 (laws_markBranchS.f k (l0.drop (n + 1)) (wrap64 (p1 + 1)) = some (r1, q2)) ∧ Aside0 (q = ⟨p2, Int.tmod p1 3 == 0⟩ :: q2) := by
        have h1 := HA.out
        rw [HD.out] at h1
        obtain ⟨⟨p1, p2⟩, e1, h2⟩ := Option.bind_eq_some_iff.1 h1
        obtain ⟨⟨q1, q2⟩, e2, h3⟩ := Option.map_eq_some_iff.1 h2
        simp only [Prod.mk.injEq] at h3
        obtain ⟨rfl, rfl⟩ := h3
        exact ⟨p1, p2, q2, e1, ⟨e2⟩, ⟨rfl⟩⟩
      clear HA
      obtain ⟨p1, p2, q2, e1, HA, HQ⟩ := HA2
      have HE1 := Aside0.mk e1
      clear e1
      have ho := HO.out
      rw [HD.out] at ho
      have hlen : (pre ++ b :: l0.drop (n + 1)).length = l0.length := by have := HN.out; simp; omega
      obtain ⟨g, cap, eA, hg1, hg2, hcl⟩ := Kd.S_form ho (by rw [hlen]; omega)
      injection eA with eA eA2 eA3
      subst eA eA3
      clear eA2
      obtain ⟨oki, cs, hcl2, hM, hcc, hfr, hoki, hH⟩ := Kd.S_elem ho b (n : Int) (by omega) (by rw [hlen] at *; omega)
      have hget : (pre ++ b :: l0.drop (n + 1)).getD (n : Int).toNat b = b := by have := HN.out; simp [List.getD_eq_getElem?_getD, List.getElem?_append, ← this.2.2.1]
      rw [hget] at hM
      obtain ⟨v0, rfl, hR⟩ := k65_openM hM
      have hz : k65.sz = 2 := rfl
      have hc0 : wr.cell? ⟨g, n * 2, none⟩ = some v0 := by have := hcc 0 v0 rfl; rw [hz] at this; simpa using this
      have hf0 : wr.frozen? ⟨g, n * 2, none⟩ = false := by have := hfr 0; rw [hz] at this; simpa using this
      have HH := Aside0.mk hH
      have HOK := Aside0.mk hoki
      have HR := Aside0.mk hR
      have HG := Aside0.mk hg2
      have HLEN := Aside0.mk hlen
      have HZ := Aside0.mk hz
      clear hM hcc hfr hoki hH hR hcl hcl2 hget ho hg1 hg2 HO hlt hlen hz
      go_wp2_with (first | (go_at_call 27; refine (laws_markIntS.calls k oki v0 b.f0 x1 p1 p2 w0 _ HB.out HR.out HE1.out).mono ?_; rintro e w8 ⟨rfl, hr, hb2, hk2⟩; have h8 := Kd.H_back (Kd.H_step HH.out (fun j hj hn hl => hk2.2 j hl hn)) (k65_mkM w8 _ oki ⟨p2, b.f1⟩ (Kd.R_flat (fun h => h) hr (fun j hj _ => HR.out.1 j hj))) (fun _ hj => hj); have hk8 := Kept.then_ HK.out hk2 (fun j hj => .inl (HOK.out j hj).1); obtain ⟨oki8, cs8, hcl8, hM8, hcc8, hfr8, hoki8, hH8⟩ := Kd.S_elem h8 b (n : Int) (by omega) (by omega); have hget : ((pre ++ b :: l0.drop (n + 1)).set (n : Int).toNat ⟨p2, b.f1⟩).getD (n : Int).toNat b = ⟨p2, b.f1⟩ := (by have h1 := HN.out; have h2 := HLEN.out; have h3 := HLT.out; rw [List.getD_eq_getElem?_getD, Int.toNat_natCast, List.getElem?_set_self (by omega)]; rfl); rw [hget] at hM8; obtain ⟨v8, rfl, hR8⟩ := k65_openM hM8; have hc8 : w8.cell? ⟨g, n * 2 + 1, none⟩ = some (.bool b.f1) := (by have h1 := hcc8 1 _ rfl; rw [HZ.out] at h1; simpa using h1); have hf8 : w8.frozen? ⟨g, n * 2 + 1, none⟩ = false := (by have h1 := hfr8 1; rw [HZ.out] at h1; simpa using h1); have H8 := Aside0.mk hH8; have R8 := Aside0.mk hR8; have K8 := Aside0.mk hk8; have B8 := Aside0.mk hb2; clear hget h8 hk8 hb2 hk2 hr hcl8 hM8 hcc8 hfr8 hoki8 hH8 hR8))
      have h9 := Kd.S_seg (okg := fun _ => False) (Kd.H_mono H8.out (fun j hj => ⟨hj, fun h => h⟩)) (by omega) hltz (seg := [.bool (Int.tmod p1 3 == 0)]) (j := 1) (by rw [HZ.out]; exact Nat.le_refl 2) (x' := ⟨p2, Int.tmod p1 3 == 0⟩) (okp := oki8) (k65_mkM w8 _ oki8 ⟨p2, Int.tmod p1 3 == 0⟩ R8.out) (fun _ hj => .inl hj) (fun _ hj => hj.elim)
      have e9 : w8.setCells g ((n : Int).toNat * k65.sz + 1) [.bool (Int.tmod p1 3 == 0)] = w8.setCell ⟨g, n * 2 + 1, none⟩ (.bool (Int.tmod p1 3 == 0)) := by rw [HZ.out, Int.toNat_natCast]; rfl
      have el : ((pre ++ b :: l0.drop (n + 1)).set (n : Int).toNat ⟨p2, b.f1⟩).set (n : Int).toNat ⟨p2, Int.tmod p1 3 == 0⟩ = (pre ++ [⟨p2, Int.tmod p1 3 == 0⟩]) ++ l0.drop (n + 1) := by
        have h1 := HN.out
        rw [Int.toNat_natCast, List.set_set, ← h1.2.2.1, List.set_append_right _ _ (Nat.le_refl _)]
        simp
      rw [e9, el] at h9
      have HL := (Kd.S_reads h9.1).elim fun _ hA => hA.elim fun _ hB => hB.2.2.2.1
      have HM := Kd.S_base h9.1 g rfl
      have HP := (Kd.S_R h9.1).1 g rfl
      have hs : w0.heap.size ≤ w8.heap.size := B8.out.size
      have hK := Kept.of_grown h9.2 K8.out (fun j hj => by injection hj with hj; subst hj; exact .inl HP)
      have hB := B8.out.grown h9.2 hs (fun j hj => by injection hj with hj; subst hj; exact HM)
      have H9 := Aside0.mk h9.1
      have K9 := Aside0.mk hK
      have B9 := Aside0.mk hB
      have HQ2 : Aside0 (r2 = (pre ++ [⟨p2, Int.tmod p1 3 == 0⟩]) ++ q2) := ⟨by rw [HN.out.2.2.2, HQ.out]; simp⟩
      have HL2 : (l0.length : Int) ≤ 9223372036854775807 := by have h1 := HN.out; have h2 := HLT.out; simp at HL; omega
      clear h9 hK hB HM HP hs HL el e9
      go_roundg (l0.length - (n + 1))
      case measure => have h1 := HLT.out; have h2 := HN.out; omega
      case rel => exact ⟨n + 1, wrap64 (p1 + 1), _, q2, rfl, by rw [show wrap64 ((n : Int) + 1) = ((n + 1 : Nat) : Int) from by unfold wrap64; omega], ⟨by have := HLT.out; omega, by have := HN.out; omega, by have := HN.out; simp; omega, HQ2.out⟩, HA, H9, K9, B9⟩
    · have hltz : ¬ (n : Int) < (l0.length : Int) := by omega
      have e : n = l0.length := by have := HN.out; omega
      have hA := HA.out
      have hO := HO.out
      have hN := HN.out
      rw [e, List.drop_length] at hA hO
      simp only [laws_markBranchS.f, Option.some.injEq, Prod.mk.injEq] at hA
      obtain ⟨rfl, rfl⟩ := hA
      rw [List.append_nil] at hO hN
      obtain ⟨_, _, _, rfl⟩ := hN
      have HO2 := Aside0.mk hO
      clear hO HO HA HN e
      go_wp2
      go_ret
      exact ⟨rfl, HO2.out, HB.out, HK.out⟩


/-! ### laws_markPool: function 16 -/
def laws_markPool.f (k : Nat) (l0 : List S65) (l1 : List Int) (a : Int) : Option (Int × List S65 × List Int) :=
  (laws_markBranchS.f k l0 a).bind fun p0 => (laws_markIntS.f k l1 p0.1).bind fun p1 => some (p1.1, p0.2, p1.2)
set_option maxHeartbeats 4000000 in
theorem laws_markPool.calls (k : Nat) (P0 P1 : Nat → Prop) (u0 u1 : Value) (l0 : List S65) (l1 : List Int) (a1 r : Int) (r0 : List S65) (r1 : List Int) (w0 w : World) (hB : Below w0.heap.size w0 w) (h0 : Kd.S k65 65 w w0.heap.size P0 u0 l0) (h1 : Kd.R (Kd.int .i64) 3 w w0.heap.size P1 u1 l1) (d01 : ∀ j, P0 j → ¬ P1 j) (h : laws_markPool.f k l0 l1 a1 = some (r, r0, r1)) :
    Calls Try.prog 16 #[.agg #[u0, u1], .int .i64 a1] w fun e w' => e = .returned (.int .i64 r) ∧ Kd.S k65 65 w' w0.heap.size P0 u0 r0 ∧ Kd.R (Kd.int .i64) 3 w' w0.heap.size P1 u1 r1 ∧ Below w0.heap.size w0 w' ∧ Kept w w' (fun j => P0 j ∨ P1 j) := by
  obtain ⟨⟨x0, y0⟩, e0, h⟩ := Option.bind_eq_some_iff.1 h
  obtain ⟨⟨x1, y1⟩, e1, h⟩ := Option.bind_eq_some_iff.1 h
  simp only [Option.some.injEq, Prod.mk.injEq] at h
  obtain ⟨rfl, rfl, rfl⟩ := h
  have E0 := Aside0.mk e0
  have E1 := Aside0.mk e1
  obtain ⟨A0, c0, rfl⟩ := Kd.S_slice h0
  obtain ⟨A1, c1, rfl⟩ := Kd.R_slice h1
  have O0 := Aside0.mk (Op.bdS h0)
  have O1 := Aside0.mk (Op.bdR h1)
  have D01 := Aside0.mk d01
  have HB := Aside0.mk hB
  have HK := Aside0.mk (Kept.refl w (fun j => P0 j ∨ P1 j))
  clear hB e0 h0 e1 h1 d01
  go_enter Try.func16, Try.ntmps16
  go_wp2_with (first | ((with_reducible refine gate_dst (N := 2) rfl ?_); refine box_event ?hg (N := 2) ?hd (cs := #[(.slice A0 l0.length c0), (.slice A1 l1.length c1)]) (t := 25) ?hr ?_; (case hd => rfl); (case hg => rfl); (case hr => first | (go_simp; done) | (go_simp; rfl)); intro g hg w1 hbox hb; have hk1 := Kept.of_below hb (fun _ => False); have n0 := Aside0.mk (Op.mvS O0.out hk1 (fun _ _ h => h)); have n1 := Aside0.mk (Op.mvR O1.out hk1 (fun _ _ h => h)); have n8 := Aside0.mk (Kept.then_ HK.out hk1 (fun j hj => hj.elim)); have n9 := Aside0.mk (below_step HB.out hb); have BK := Aside0.mk hbox; have GN := Aside0.mk (show w.heap.size ≤ g from Nat.le_of_eq hg.symm); clear O0 O1 HK HB; have O0 := n0; have O1 := n1; have HK := n8; have HB := n9; clear n0 n1 n8 n9 hg hbox hb hk1; have hz0 : w1.cell? ⟨g, 0, none⟩ = some (.slice A0 l0.length c0) := (blk_cell BK.out 0).trans rfl; have hz1 : w1.cell? ⟨g, 1, none⟩ = some (.slice A1 l1.length c1) := (blk_cell BK.out 1).trans rfl; have hf0 := blk_frozen BK.out 0; have hf1 := blk_frozen BK.out 1) | ((with_reducible refine gate_callee (f := 46) rfl ?_); refine goesL_ (some 8) rfl rfl Try.func46 (by kernel_rfl) rfl #[(.slice A0 l0.length c0), .int .i64 a1] rfl (by (try simp only [List.map_toArray, List.map_cons, List.map_nil]); first | done | rfl) ?_; (with_reducible refine (laws_markBranchS.calls k (fun j => P0 j ∧ j < w.heap.size) (.slice A0 l0.length c0) l0 a1 x0 y0 w0 _ HB.out O0.out E0.out).mono ?_); rintro e w2 ⟨rfl, ho, hb2, hk2⟩; refine ⟨_, rfl, ?_⟩; have n0 := Aside0.mk ho; have n1 := Aside0.mk (Op.mvR O1.out hk2 (fun j hj hs => D01.out j hs.1 hj.1)); have n8 := Aside0.mk (Kept.then_ HK.out hk2 (fun j hs => .inl (.inl hs.1))); have n9 := Aside0.mk (Op.mvB BK.out hk2 (fun hs => Nat.lt_irrefl _ (Nat.lt_of_lt_of_le hs.2 GN.out))); clear O0 O1 HK HB BK; have O0 := n0; have O1 := n1; have HK := n8; have BK := n9; have HB := Aside0.mk hb2; clear n0 n1 n8 n9 ho hb2 hk2; have hz0 : w2.cell? ⟨g, 0, none⟩ = some (.slice A0 l0.length c0) := (blk_cell BK.out 0).trans rfl; have hz1 : w2.cell? ⟨g, 1, none⟩ = some (.slice A1 l1.length c1) := (blk_cell BK.out 1).trans rfl; have hf0 := blk_frozen BK.out 0; have hf1 := blk_frozen BK.out 1) | ((with_reducible refine gate_callee (f := 27) rfl ?_); refine goesL_ (some 12) rfl rfl Try.func27 (by kernel_rfl) rfl #[(.slice A1 l1.length c1), .int .i64 x0] rfl (by (try simp only [List.map_toArray, List.map_cons, List.map_nil]); first | done | rfl) ?_; (with_reducible refine (laws_markIntS.calls k (fun j => P1 j ∧ j < w.heap.size) (.slice A1 l1.length c1) l1 x0 x1 y1 w0 _ HB.out O1.out E1.out).mono ?_); rintro e w3 ⟨rfl, ho, hb2, hk2⟩; refine ⟨_, rfl, ?_⟩; have n0 := Aside0.mk (Op.mvS O0.out hk2 (fun j hj hs => D01.out j hj.1 hs.1)); have n1 := Aside0.mk (Kd.R_reok (ok := fun j => P1 j ∧ j < w.heap.size) rfl ho (fun j hj => O1.out.1 j hj)); have n8 := Aside0.mk (Kept.then_ HK.out hk2 (fun j hs => .inl (.inr (hs.1)))); have n9 := Aside0.mk (Op.mvB BK.out hk2 (fun hs => Nat.lt_irrefl _ (Nat.lt_of_lt_of_le hs.2 GN.out))); clear O0 O1 HK HB BK; have O0 := n0; have O1 := n1; have HK := n8; have BK := n9; have HB := Aside0.mk hb2; clear n0 n1 n8 n9 ho hb2 hk2; have hz0 : w3.cell? ⟨g, 0, none⟩ = some (.slice A0 l0.length c0) := (blk_cell BK.out 0).trans rfl; have hz1 : w3.cell? ⟨g, 1, none⟩ = some (.slice A1 l1.length c1) := (blk_cell BK.out 1).trans rfl; have hf0 := blk_frozen BK.out 0; have hf1 := blk_frozen BK.out 1))
  go_ret
  exact ⟨rfl, Kd.S_mono O0.out (fun _ h => h.1), Kd.R_mono O1.out (fun _ h => h.1), HB.out, HK.out⟩


/-! ### laws_heldIntS: function 28 -/
def laws_heldIntS.l0 : Nat → List Int → Int → Int → Option (Int)
  | 0, _, _, _ => none
  | k + 1, x0, x1, x5 => if x5 < (x0.length : Int) then (if 0 ≤ x5 then (if (rd x0 x5) = x1 then (laws_heldIntS.l0 k x0 (wrap64 (x1 + 1)) (wrap64 (x5 + 1))) else (some (-1))) else (none)) else (some x1)
def laws_heldIntS.f (k : Nat) (l0 : List Int) (a1 : Int) : Option (Int) := laws_heldIntS.l0 k l0 a1 0
theorem laws_heldIntS.mono_l : ∀ k, (∀ y0 y1 y2, LeO (laws_heldIntS.l0 k y0 y1 y2) (laws_heldIntS.l0 (k + 1) y0 y1 y2))
  | 0 => fun _ _ _ r h => by simp [laws_heldIntS.l0] at h
  | k + 1 => by
    have ih0 := laws_heldIntS.mono_l k
    · intro y0 y1 y2
      unfold laws_heldIntS.l0
      repeat' first
      | (with_reducible exact ih0 _ _ _)
      | (with_reducible exact LeO.refl _)
      | (with_reducible exact LeO.none _)
      | (with_reducible refine LeO.ite ?_ ?_)
      | (with_reducible refine LeO.bind ?_ (fun _ => ?_))
      | exact ih0 _ _ _
      | exact LeO.none _
      | refine LeO.ite ?_ ?_
      | refine LeO.bind ?_ (fun _ => ?_)
theorem laws_heldIntS.mono : ∀ a0 a1 k, LeO (laws_heldIntS.f k a0 a1) (laws_heldIntS.f (k + 1) a0 a1) := by
  intro a0 a1 k
  have ih0 := laws_heldIntS.mono_l k
  unfold laws_heldIntS.f
  repeat' first
      | (with_reducible exact ih0 _ _ _)
      | (with_reducible exact LeO.refl _)
      | (with_reducible exact LeO.none _)
      | (with_reducible refine LeO.ite ?_ ?_)
      | (with_reducible refine LeO.bind ?_ (fun _ => ?_))
      | exact ih0 _ _ _
      | exact LeO.none _
      | refine LeO.ite ?_ ?_
      | refine LeO.bind ?_ (fun _ => ?_)
set_option maxHeartbeats 8000000 in
set_option maxRecDepth 100000 in
theorem laws_heldIntS.calls (k : Nat) (A0 : Option Addr) (c0 : Nat) (l0 : List Int) (a1 : Int) (r : Int) (w : World) (hr0 : Kd.C (Kd.int .i64) w A0 l0.length l0) (hc0 : l0.length ≤ c0) (h : laws_heldIntS.f k l0 a1 = some r) :
    Calls Try.prog 28 #[.slice A0 l0.length c0, .int .i64 a1] w fun e w' => e = .returned (.int .i64 r) ∧ Drawn0 w w' := by
  have HR0 := Aside0.mk hr0
  have HC0 := Aside0.mk hc0
  clear hr0 hc0
  have H : (laws_heldIntS.l0 k l0 a1 0) = some r := h
  clear h
  have H' := Aside0.mk H
  clear H
  go_enter Try.func28, Try.ntmps28
  go_wp2
  go_loopg [1, 5] k (fun kq v1 v5 w' => ∃ (x1_1 : Int) (x5_1 : Int), v1 = .int .i64 x1_1 ∧ v5 = .int .i64 x5_1 ∧ Aside0 (laws_heldIntS.l0 kq l0 x1_1 x5_1 = some r) ∧ Aside0 (kq ≤ k) ∧ Drawn0 w w')
  case atStart => exact ⟨(a1), (0), (by first | rfl | (simp; done) | (simp [*]; done)), (by first | rfl | (simp; done) | (simp [*]; done)), H', ⟨Nat.le_refl _⟩, by repeat (first | exact Drawn0.refl _ | apply Drawn0.step)⟩
  case round =>
    clear H'
    try clear c2
    try clear p2
    obtain ⟨x1_1, x5_1, rfl, rfl, HA, HK1, ⟨m1, rfl⟩⟩ := hrel
    cases gk with
    | zero => exact absurd HA.out (by simp [laws_heldIntS.l0])
    | succ k1 =>
      have H := HA.out
      clear HA
      simp only [laws_heldIntS.l0] at H
      by_cases c3 : x5_1 < (l0.length : Int)
      · rw [if_pos c3] at H
        have c3b0 : decide (x5_1 < (l0.length : Int)) = true := decide_eq_true c3
        clear c3
        by_cases c4 : 0 ≤ x5_1
        · rw [if_pos c4] at H
          have c4b0 : decide (0 ≤ x5_1) = true := decide_eq_true c4
          clear c4
          by_cases c5 : (rd l0 x5_1) = x1_1
          · rw [if_pos c5] at H
            have c5b0 : ((rd l0 x5_1) == x1_1) = true := beq_iff_eq.mpr c5
            have c5b1 : ((rd l0 x5_1) != x1_1) = false := bne_eq_false_iff_eq.mpr c5
            clear c5
            have H' := Aside0.mk H
            clear H
            have p122 : 0 ≤ (x5_1 : Int) := of_decide_eq_true (by first | (with_reducible assumption) | assumption)
            have q122 : x5_1 < (l0.length : Int) := of_decide_eq_true (by first | (with_reducible assumption) | assumption)
            obtain ⟨ad122, e122, hx122_0⟩ := Kd.at_int HR0.out x5_1 p122 q122
            cases e122
            replace p122 := eq_true p122
            replace q122 := eq_true q122
            go_wp2
            go_roundg k1
            case measure => have := HK1.out; omega
            case rel => exact ⟨(wrap64 (x1_1 + 1)), (wrap64 (x5_1 + 1)), (by first | rfl | (simp; done) | (simp [*]; done)), (by first | rfl | (simp; done) | (simp [*]; done)), H', ⟨by have := HK1.out; omega⟩, by repeat (first | exact Drawn0.refl _ | apply Drawn0.step)⟩
          · rw [if_neg c5] at H
            have c5b0 : ((rd l0 x5_1) == x1_1) = false := beq_eq_false_iff_ne.mpr c5
            have c5b1 : ((rd l0 x5_1) != x1_1) = true := bne_iff_ne.mpr c5
            obtain rfl := Option.some.inj H
            have p122 : 0 ≤ (x5_1 : Int) := of_decide_eq_true (by first | (with_reducible assumption) | assumption)
            have q122 : x5_1 < (l0.length : Int) := of_decide_eq_true (by first | (with_reducible assumption) | assumption)
            obtain ⟨ad122, e122, hx122_0⟩ := Kd.at_int HR0.out x5_1 p122 q122
            cases e122
            replace p122 := eq_true p122
            replace q122 := eq_true q122
            go_wp2
            go_ret
            exact ⟨by first | rfl | (simp; done) | (simp [*]; done), by repeat (first | exact Drawn0.refl _ | apply Drawn0.step)⟩
        · rw [if_neg c4] at H
          exact absurd H (by simp)
      · rw [if_neg c3] at H
        have c3b0 : decide (x5_1 < (l0.length : Int)) = false := decide_eq_false c3
        clear c3
        obtain rfl := Option.some.inj H
        go_wp2
        go_ret
        exact ⟨by first | rfl | (simp; done) | (simp [*]; done), by repeat (first | exact Drawn0.refl _ | apply Drawn0.step)⟩

/-! ### laws_heldBranchS: function 47 -/
def laws_heldBranchS.l0 : Nat → List (S65) → Int → Int → Option (Int)
  | 0, _, _, _ => none
  | k + 1, x0, x1, x5 => if x5 < (x0.length : Int) then (if 0 ≤ x5 then ((laws_heldIntS.f k ((rd_T65 x0 x5).f0) x1).bind fun t124 => (if t124 < 0 then (some (-1)) else (if (((rd_T65 x0 x5).f1) != ((Int.tmod t124 3) == 0)) = true then (some (-1)) else (laws_heldBranchS.l0 k x0 (wrap64 (t124 + 1)) (wrap64 (x5 + 1)))))) else (none)) else (some x1)
def laws_heldBranchS.f (k : Nat) (l0 : List (S65)) (a1 : Int) : Option (Int) := laws_heldBranchS.l0 k l0 a1 0
theorem laws_heldBranchS.mono_l : ∀ k, (∀ y0 y1 y2, LeO (laws_heldBranchS.l0 k y0 y1 y2) (laws_heldBranchS.l0 (k + 1) y0 y1 y2))
  | 0 => fun _ _ _ r h => by simp [laws_heldBranchS.l0] at h
  | k + 1 => by
    have ih0 := laws_heldBranchS.mono_l k
    · intro y0 y1 y2
      unfold laws_heldBranchS.l0
      repeat' first
      | (with_reducible exact ih0 _ _ _)
      | (with_reducible exact laws_heldIntS.mono _ _ _)
      | (with_reducible exact LeO.refl _)
      | (with_reducible exact LeO.none _)
      | (with_reducible refine LeO.ite ?_ ?_)
      | (with_reducible refine LeO.bind ?_ (fun _ => ?_))
      | exact ih0 _ _ _
      | exact laws_heldIntS.mono _ _ _
      | exact LeO.none _
      | refine LeO.ite ?_ ?_
      | refine LeO.bind ?_ (fun _ => ?_)
theorem laws_heldBranchS.mono : ∀ a0 a1 k, LeO (laws_heldBranchS.f k a0 a1) (laws_heldBranchS.f (k + 1) a0 a1) := by
  intro a0 a1 k
  have ih0 := laws_heldBranchS.mono_l k
  unfold laws_heldBranchS.f
  repeat' first
      | (with_reducible exact ih0 _ _ _)
      | (with_reducible exact laws_heldIntS.mono _ _ _)
      | (with_reducible exact LeO.refl _)
      | (with_reducible exact LeO.none _)
      | (with_reducible refine LeO.ite ?_ ?_)
      | (with_reducible refine LeO.bind ?_ (fun _ => ?_))
      | exact ih0 _ _ _
      | exact laws_heldIntS.mono _ _ _
      | exact LeO.none _
      | refine LeO.ite ?_ ?_
      | refine LeO.bind ?_ (fun _ => ?_)
set_option maxHeartbeats 8000000 in
set_option maxRecDepth 100000 in
theorem laws_heldBranchS.calls (k : Nat) (A0 : Option Addr) (c0 : Nat) (l0 : List (S65)) (a1 : Int) (r : Int) (w : World) (hr0 : Kd.C k65 w A0 l0.length l0) (hc0 : l0.length ≤ c0) (h : laws_heldBranchS.f k l0 a1 = some r) :
    Calls Try.prog 47 #[.slice A0 l0.length c0, .int .i64 a1] w fun e w' => e = .returned (.int .i64 r) ∧ Drawn0 w w' := by
  have HR0 := Aside0.mk hr0
  have HC0 := Aside0.mk hc0
  clear hr0 hc0
  have H : (laws_heldBranchS.l0 k l0 a1 0) = some r := h
  clear h
  have H' := Aside0.mk H
  clear H
  go_enter Try.func47, Try.ntmps47
  go_wp2
  go_loopg [1, 5] k (fun kq v1 v5 w' => ∃ (x1_1 : Int) (x5_1 : Int), v1 = .int .i64 x1_1 ∧ v5 = .int .i64 x5_1 ∧ Aside0 (laws_heldBranchS.l0 kq l0 x1_1 x5_1 = some r) ∧ Aside0 (kq ≤ k) ∧ Drawn0 w w')
  case atStart => exact ⟨(a1), (0), (by first | rfl | (simp; done) | (simp [*]; done)), (by first | rfl | (simp; done) | (simp [*]; done)), H', ⟨Nat.le_refl _⟩, by repeat (first | exact Drawn0.refl _ | apply Drawn0.step)⟩
  case round =>
    clear H'
    try clear p2
    obtain ⟨x1_1, x5_1, rfl, rfl, HA, HK1, ⟨m1, rfl⟩⟩ := hrel
    cases gk with
    | zero => exact absurd HA.out (by simp [laws_heldBranchS.l0])
    | succ k1 =>
      have H := HA.out
      clear HA
      simp only [laws_heldBranchS.l0] at H
      by_cases c3 : x5_1 < (l0.length : Int)
      · rw [if_pos c3] at H
        have c3b0 : decide (x5_1 < (l0.length : Int)) = true := decide_eq_true c3
        clear c3
        by_cases c4 : 0 ≤ x5_1
        · rw [if_pos c4] at H
          have c4b0 : decide (0 ≤ x5_1) = true := decide_eq_true c4
          clear c4
          replace H := Option.bind_eq_some_iff.mp H
          obtain ⟨t124, A50, H⟩ := H
          replace H : (if t124 < 0 then (some (-1)) else (if (((rd_T65 l0 x5_1).f1) != ((Int.tmod t124 3) == 0)) = true then (some (-1)) else (laws_heldBranchS.l0 k1 l0 (wrap64 (t124 + 1)) (wrap64 (x5_1 + 1))))) = some r := H
          have A5 := Aside0.mk A50
          clear A50
          by_cases c6 : t124 < 0
          · rw [if_pos c6] at H
            have c6b0 : decide (t124 < 0) = true := decide_eq_true c6
            clear c6
            obtain rfl := Option.some.inj H
            have p123 : 0 ≤ (x5_1 : Int) := of_decide_eq_true (by first | (with_reducible assumption) | assumption)
            have q123 : x5_1 < (l0.length : Int) := of_decide_eq_true (by first | (with_reducible assumption) | assumption)
            obtain ⟨ad123, A123_0, c123_0, e123, hx123_0, hx123_1, hl123_0, hi123_0⟩ := at_T65 HR0.out x5_1 p123 q123
            cases e123
            have HR123_0 := Aside0.mk hi123_0
            have HC123_0 := Aside0.mk hl123_0
            clear hi123_0 hl123_0
            replace p123 := eq_true p123
            replace q123 := eq_true q123
            go_wp2_with (first | ((with_reducible refine gate_callee (f := 28) rfl ?_); refine goesL_ (some 18) rfl rfl Try.func28 (by kernel_rfl) rfl #[.slice A123_0 ((rd_T65 l0 x5_1).f0).length c123_0, .int .i64 x1_1] rfl (by (try simp only [List.map_toArray, List.map_cons, List.map_nil]); first | done | rfl | (simp only [List.length_drop, List.length_take]; rfl)) ?_; (with_reducible refine (laws_heldIntS.calls k1 _ _ ((rd_T65 l0 x5_1).f0) x1_1 t124 _ ?side1 ?side2 A5.out).mono ?_); (case side1 => repeat (first | exact HR123_0.out | (with_reducible refine Kd.C_alloc ?_ _) | (with_reducible refine Kd.C_drewN ?_ _) | (with_reducible refine Kd.C_drew ?_))); (case side2 => exact HC123_0.out); rintro e w' ⟨rfl, ⟨nd, rfl⟩⟩; refine ⟨_, rfl, ?_⟩))
            go_ret
            exact ⟨by first | rfl | (simp; done) | (simp [*]; done), by repeat (first | exact Drawn0.refl _ | apply Drawn0.step)⟩
          · rw [if_neg c6] at H
            have c6b0 : decide (t124 < 0) = false := decide_eq_false c6
            clear c6
            by_cases c7 : (((rd_T65 l0 x5_1).f1) != ((Int.tmod t124 3) == 0)) = true
            · rw [if_pos c7] at H
              have c7b0 : (((rd_T65 l0 x5_1).f1) != ((Int.tmod t124 3) == 0)) = true := c7
              (try (have c7b1 : decide (((rd_T65 l0 x5_1).f1) = ((Int.tmod t124 3) == 0)) = false := by simpa using c7))
              (try (have c7b2 : (((rd_T65 l0 x5_1).f1) == ((Int.tmod t124 3) == 0)) = false := by simpa using c7))
              (try (have c7b3 : ¬ (((rd_T65 l0 x5_1).f1) = ((Int.tmod t124 3) == 0)) := by simpa using c7))
              clear c7
              obtain rfl := Option.some.inj H
              have p123 : 0 ≤ (x5_1 : Int) := of_decide_eq_true (by first | (with_reducible assumption) | assumption)
              have q123 : x5_1 < (l0.length : Int) := of_decide_eq_true (by first | (with_reducible assumption) | assumption)
              obtain ⟨ad123, A123_0, c123_0, e123, hx123_0, hx123_1, hl123_0, hi123_0⟩ := at_T65 HR0.out x5_1 p123 q123
              cases e123
              have HR123_0 := Aside0.mk hi123_0
              have HC123_0 := Aside0.mk hl123_0
              clear hi123_0 hl123_0
              replace p123 := eq_true p123
              replace q123 := eq_true q123
              go_wp2_with (first | ((with_reducible refine gate_callee (f := 28) rfl ?_); refine goesL_ (some 18) rfl rfl Try.func28 (by kernel_rfl) rfl #[.slice A123_0 ((rd_T65 l0 x5_1).f0).length c123_0, .int .i64 x1_1] rfl (by (try simp only [List.map_toArray, List.map_cons, List.map_nil]); first | done | rfl | (simp only [List.length_drop, List.length_take]; rfl)) ?_; (with_reducible refine (laws_heldIntS.calls k1 _ _ ((rd_T65 l0 x5_1).f0) x1_1 t124 _ ?side1 ?side2 A5.out).mono ?_); (case side1 => repeat (first | exact HR123_0.out | (with_reducible refine Kd.C_alloc ?_ _) | (with_reducible refine Kd.C_drewN ?_ _) | (with_reducible refine Kd.C_drew ?_))); (case side2 => exact HC123_0.out); rintro e w' ⟨rfl, ⟨nd, rfl⟩⟩; refine ⟨_, rfl, ?_⟩; have p125 : 0 ≤ (x5_1 : Int) := of_decide_eq_true (by first | (with_reducible assumption) | assumption); have q125 : x5_1 < (l0.length : Int) := of_decide_eq_true (by first | (with_reducible assumption) | assumption); obtain ⟨ad125, A125_0, c125_0, e125, hx125_0, hx125_1, hl125_0, hi125_0⟩ := at_T65 HR0.out x5_1 p125 q125; obtain rfl : ad123 = ad125 := (by injection e125); have HR125_0 := Aside0.mk hi125_0; have HC125_0 := Aside0.mk hl125_0; clear hi125_0 hl125_0; replace p125 := eq_true p125; replace q125 := eq_true q125; have ea_ := Option.some.inj (hx123_0.symm.trans hx125_0); injection ea_ with ea_ en_ ec_; subst ea_; subst ec_; clear en_))
              go_ret
              exact ⟨by first | rfl | (simp; done) | (simp [*]; done), by repeat (first | exact Drawn0.refl _ | apply Drawn0.step)⟩
            · rw [if_neg c7] at H
              have c7b0 : (((rd_T65 l0 x5_1).f1) != ((Int.tmod t124 3) == 0)) = false := by simpa using c7
              (try (have c7b1 : decide (((rd_T65 l0 x5_1).f1) = ((Int.tmod t124 3) == 0)) = true := by simpa using c7))
              (try (have c7b2 : (((rd_T65 l0 x5_1).f1) == ((Int.tmod t124 3) == 0)) = true := by simpa using c7))
              clear c7
              have H' := Aside0.mk H
              clear H
              have p123 : 0 ≤ (x5_1 : Int) := of_decide_eq_true (by first | (with_reducible assumption) | assumption)
              have q123 : x5_1 < (l0.length : Int) := of_decide_eq_true (by first | (with_reducible assumption) | assumption)
              obtain ⟨ad123, A123_0, c123_0, e123, hx123_0, hx123_1, hl123_0, hi123_0⟩ := at_T65 HR0.out x5_1 p123 q123
              cases e123
              have HR123_0 := Aside0.mk hi123_0
              have HC123_0 := Aside0.mk hl123_0
              clear hi123_0 hl123_0
              replace p123 := eq_true p123
              replace q123 := eq_true q123
              go_wp2_with (first | ((with_reducible refine gate_callee (f := 28) rfl ?_); refine goesL_ (some 18) rfl rfl Try.func28 (by kernel_rfl) rfl #[.slice A123_0 ((rd_T65 l0 x5_1).f0).length c123_0, .int .i64 x1_1] rfl (by (try simp only [List.map_toArray, List.map_cons, List.map_nil]); first | done | rfl | (simp only [List.length_drop, List.length_take]; rfl)) ?_; (with_reducible refine (laws_heldIntS.calls k1 _ _ ((rd_T65 l0 x5_1).f0) x1_1 t124 _ ?side1 ?side2 A5.out).mono ?_); (case side1 => repeat (first | exact HR123_0.out | (with_reducible refine Kd.C_alloc ?_ _) | (with_reducible refine Kd.C_drewN ?_ _) | (with_reducible refine Kd.C_drew ?_))); (case side2 => exact HC123_0.out); rintro e w' ⟨rfl, ⟨nd, rfl⟩⟩; refine ⟨_, rfl, ?_⟩; have p125 : 0 ≤ (x5_1 : Int) := of_decide_eq_true (by first | (with_reducible assumption) | assumption); have q125 : x5_1 < (l0.length : Int) := of_decide_eq_true (by first | (with_reducible assumption) | assumption); obtain ⟨ad125, A125_0, c125_0, e125, hx125_0, hx125_1, hl125_0, hi125_0⟩ := at_T65 HR0.out x5_1 p125 q125; obtain rfl : ad123 = ad125 := (by injection e125); have HR125_0 := Aside0.mk hi125_0; have HC125_0 := Aside0.mk hl125_0; clear hi125_0 hl125_0; replace p125 := eq_true p125; replace q125 := eq_true q125; have ea_ := Option.some.inj (hx123_0.symm.trans hx125_0); injection ea_ with ea_ en_ ec_; subst ea_; subst ec_; clear en_))
              go_roundg k1
              case measure => have := HK1.out; omega
              case rel => exact ⟨(wrap64 (t124 + 1)), (wrap64 (x5_1 + 1)), (by first | rfl | (simp; done) | (simp [*]; done)), (by first | rfl | (simp; done) | (simp [*]; done)), H', ⟨by have := HK1.out; omega⟩, by repeat (first | exact Drawn0.refl _ | apply Drawn0.step)⟩
        · rw [if_neg c4] at H
          exact absurd H (by simp)
      · rw [if_neg c3] at H
        have c3b0 : decide (x5_1 < (l0.length : Int)) = false := decide_eq_false c3
        clear c3
        obtain rfl := Option.some.inj H
        go_wp2
        go_ret
        exact ⟨by first | rfl | (simp; done) | (simp [*]; done), by repeat (first | exact Drawn0.refl _ | apply Drawn0.step)⟩

/-! ### laws_heldPool: function 17 -/
def laws_heldPool.f (k : Nat) (l0_0 : List (S65)) (l0_1 : List Int) (a1 : Int) : Option (Int) := (laws_heldBranchS.f k l0_0 a1).bind fun t127 => (if t127 < 0 then (some (-1)) else ((laws_heldIntS.f k l0_1 t127).bind fun t128 => (if t128 < 0 then (some (-1)) else (some t128))))
theorem laws_heldPool.mono : ∀ a0 a1 a2 k, LeO (laws_heldPool.f k a0 a1 a2) (laws_heldPool.f (k + 1) a0 a1 a2) := by
  intro a0 a1 a2 k
  unfold laws_heldPool.f
  repeat' first
      | (with_reducible exact laws_heldBranchS.mono _ _ _)
      | (with_reducible exact laws_heldIntS.mono _ _ _)
      | (with_reducible exact LeO.refl _)
      | (with_reducible exact LeO.none _)
      | (with_reducible refine LeO.ite ?_ ?_)
      | (with_reducible refine LeO.bind ?_ (fun _ => ?_))
      | exact laws_heldBranchS.mono _ _ _
      | exact laws_heldIntS.mono _ _ _
      | exact LeO.none _
      | refine LeO.ite ?_ ?_
      | refine LeO.bind ?_ (fun _ => ?_)
set_option maxHeartbeats 8000000 in
set_option maxRecDepth 100000 in
theorem laws_heldPool.calls (k : Nat) (A0_0 : Option Addr) (c0_0 : Nat) (l0_0 : List (S65)) (A0_1 : Option Addr) (c0_1 : Nat) (l0_1 : List Int) (a1 : Int) (r : Int) (w : World) (hr0_0 : Kd.C k65 w A0_0 l0_0.length l0_0) (hc0_0 : l0_0.length ≤ c0_0) (hr0_1 : Kd.C (Kd.int .i64) w A0_1 l0_1.length l0_1) (hc0_1 : l0_1.length ≤ c0_1) (h : laws_heldPool.f k l0_0 l0_1 a1 = some r) :
    Calls Try.prog 17 #[.agg #[.slice A0_0 l0_0.length c0_0, .slice A0_1 l0_1.length c0_1], .int .i64 a1] w fun e w' => e = .returned (.int .i64 r) ∧ Below w.heap.size w w' := by
  have hu25 := Try.underlying25
  have HR0_0 := Aside0.mk hr0_0
  have HC0_0 := Aside0.mk hc0_0
  clear hr0_0 hc0_0
  have HR0_1 := Aside0.mk hr0_1
  have HC0_1 := Aside0.mk hc0_1
  clear hr0_1 hc0_1
  have HB := Aside0.mk (Below.refl w.heap.size w)
  have H : ((laws_heldBranchS.f k l0_0 a1).bind fun t127 => (if t127 < 0 then (some (-1)) else ((laws_heldIntS.f k l0_1 t127).bind fun t128 => (if t128 < 0 then (some (-1)) else (some t128))))) = some r := h
  clear h
  replace H := Option.bind_eq_some_iff.mp H
  obtain ⟨t127, A30, H⟩ := H
  replace H : (if t127 < 0 then (some (-1)) else ((laws_heldIntS.f k l0_1 t127).bind fun t128 => (if t128 < 0 then (some (-1)) else (some t128)))) = some r := H
  have A3 := Aside0.mk A30
  clear A30
  by_cases c4 : t127 < 0
  · rw [if_pos c4] at H
    have c4b0 : decide (t127 < 0) = true := decide_eq_true c4
    clear c4
    obtain rfl := Option.some.inj H
    go_enter Try.func17, Try.ntmps17
    go_wp2_with (first | ((with_reducible refine gate_dst (N := 2) rfl ?_); refine box_event ?hg (N := 2) ?hd (cs := #[.slice A0_0 l0_0.length c0_0, .slice A0_1 l0_1.length c0_1]) (t := 25) ?hr ?_; (case hd => rfl); (case hg => rfl); (case hr => first | (go_simp; done) | (go_simp; rfl)); intro gb126 hg w5 hbox hb; have n0_ := Aside0.mk (below_step (by repeat (first | (with_reducible first | exact HB.out | apply below_alloc | apply pw_below_drewN | apply below_drew1) | exact HB.out)) hb); have n1_ := Aside0.mk (hbox); have n2_ := Aside0.mk ((by rw [hg]; exact (below_size (by repeat (first | (with_reducible first | exact HB.out | apply below_alloc | apply pw_below_drewN | apply below_drew1) | exact HB.out))) : w.heap.size ≤ gb126)); have n3_ := Aside0.mk ((by rw [hg]; exact (below_size (by repeat (first | (with_reducible first | exact HB.out | apply below_alloc | apply pw_below_drewN | apply below_drew1) | exact HB.out))) : w.heap.size ≤ gb126)); clear HB; have HB := n0_; have BK126 := n1_; have GW126 := n2_; have GE126 := n3_; clear n0_ n1_ n2_ n3_; clear hb hbox hg; have hcz6_0 : w5.cell? ⟨gb126, 0, none⟩ = some (.slice A0_0 l0_0.length c0_0) := (blk_cell BK126.out 0).trans rfl; have hcz6_1 : w5.cell? ⟨gb126, 1, none⟩ = some (.slice A0_1 l0_1.length c0_1) := (blk_cell BK126.out 1).trans rfl; have hfz6_0 := blk_frozen BK126.out 0; have hfz6_1 := blk_frozen BK126.out 1) | ((with_reducible refine gate_callee (f := 47) rfl ?_); refine goesL_ (some 8) rfl rfl Try.func47 (by kernel_rfl) rfl #[.slice A0_0 l0_0.length c0_0, .int .i64 a1] rfl (by (try simp only [List.map_toArray, List.map_cons, List.map_nil]); first | done | rfl | (simp only [List.length_drop, List.length_take]; rfl)) ?_; (with_reducible refine (laws_heldBranchS.calls k _ _ l0_0 a1 t127 _ ?side1 ?side2 A3.out).mono ?_); (case side1 => repeat (first | exact (Kd.C_below HR0_0.out HB.out) | (with_reducible refine Kd.C_alloc ?_ _) | (with_reducible refine Kd.C_drewN ?_ _) | (with_reducible refine Kd.C_drew ?_))); (case side2 => exact HC0_0.out); rintro e w' ⟨rfl, ⟨nd, rfl⟩⟩; refine ⟨_, rfl, ?_⟩))
    go_ret
    exact ⟨by first | rfl | (simp [errW_none, errW_some] <;> rfl) | (simp [*, errW_none, errW_some] <;> rfl), by repeat (first | (with_reducible first | exact HB.out | apply below_alloc | apply pw_below_drewN | apply below_drew1 | refine below_set ?_ GE126.out) | exact HB.out)⟩
  · rw [if_neg c4] at H
    have c4b0 : decide (t127 < 0) = false := decide_eq_false c4
    clear c4
    replace H := Option.bind_eq_some_iff.mp H
    obtain ⟨t128, A70, H⟩ := H
    replace H : (if t128 < 0 then (some (-1)) else (some t128)) = some r := H
    have A7 := Aside0.mk A70
    clear A70
    by_cases c8 : t128 < 0
    · rw [if_pos c8] at H
      have c8b0 : decide (t128 < 0) = true := decide_eq_true c8
      clear c8
      obtain rfl := Option.some.inj H
      go_enter Try.func17, Try.ntmps17
      go_wp2_with (first | ((with_reducible refine gate_dst (N := 2) rfl ?_); refine box_event ?hg (N := 2) ?hd (cs := #[.slice A0_0 l0_0.length c0_0, .slice A0_1 l0_1.length c0_1]) (t := 25) ?hr ?_; (case hd => rfl); (case hg => rfl); (case hr => first | (go_simp; done) | (go_simp; rfl)); intro gb126 hg w9 hbox hb; have n0_ := Aside0.mk (below_step (by repeat (first | (with_reducible first | exact HB.out | apply below_alloc | apply pw_below_drewN | apply below_drew1) | exact HB.out)) hb); have n1_ := Aside0.mk (hbox); have n2_ := Aside0.mk ((by rw [hg]; exact (below_size (by repeat (first | (with_reducible first | exact HB.out | apply below_alloc | apply pw_below_drewN | apply below_drew1) | exact HB.out))) : w.heap.size ≤ gb126)); have n3_ := Aside0.mk ((by rw [hg]; exact (below_size (by repeat (first | (with_reducible first | exact HB.out | apply below_alloc | apply pw_below_drewN | apply below_drew1) | exact HB.out))) : w.heap.size ≤ gb126)); clear HB; have HB := n0_; have BK126 := n1_; have GW126 := n2_; have GE126 := n3_; clear n0_ n1_ n2_ n3_; clear hb hbox hg; have hcz10_0 : w9.cell? ⟨gb126, 0, none⟩ = some (.slice A0_0 l0_0.length c0_0) := (blk_cell BK126.out 0).trans rfl; have hcz10_1 : w9.cell? ⟨gb126, 1, none⟩ = some (.slice A0_1 l0_1.length c0_1) := (blk_cell BK126.out 1).trans rfl; have hfz10_0 := blk_frozen BK126.out 0; have hfz10_1 := blk_frozen BK126.out 1) | ((with_reducible refine gate_callee (f := 47) rfl ?_); refine goesL_ (some 8) rfl rfl Try.func47 (by kernel_rfl) rfl #[.slice A0_0 l0_0.length c0_0, .int .i64 a1] rfl (by (try simp only [List.map_toArray, List.map_cons, List.map_nil]); first | done | rfl | (simp only [List.length_drop, List.length_take]; rfl)) ?_; (with_reducible refine (laws_heldBranchS.calls k _ _ l0_0 a1 t127 _ ?side1 ?side2 A3.out).mono ?_); (case side1 => repeat (first | exact (Kd.C_below HR0_0.out HB.out) | (with_reducible refine Kd.C_alloc ?_ _) | (with_reducible refine Kd.C_drewN ?_ _) | (with_reducible refine Kd.C_drew ?_))); (case side2 => exact HC0_0.out); rintro e w' ⟨rfl, ⟨nd, rfl⟩⟩; refine ⟨_, rfl, ?_⟩) | ((with_reducible refine gate_callee (f := 28) rfl ?_); refine goesL_ (some 14) rfl rfl Try.func28 (by kernel_rfl) rfl #[.slice A0_1 l0_1.length c0_1, .int .i64 t127] rfl (by (try simp only [List.map_toArray, List.map_cons, List.map_nil]); first | done | rfl | (simp only [List.length_drop, List.length_take]; rfl)) ?_; (with_reducible refine (laws_heldIntS.calls k _ _ l0_1 t127 t128 _ ?side1 ?side2 A7.out).mono ?_); (case side1 => repeat (first | exact (Kd.C_below HR0_1.out (by repeat (first | (with_reducible first | exact HB.out | apply below_alloc | apply pw_below_drewN | apply below_drew1 | refine below_set ?_ GE126.out) | exact HB.out))) | (with_reducible refine Kd.C_alloc ?_ _) | (with_reducible refine Kd.C_drewN ?_ _) | (with_reducible refine Kd.C_drew ?_))); (case side2 => exact HC0_1.out); rintro e w' ⟨rfl, ⟨nd, rfl⟩⟩; refine ⟨_, rfl, ?_⟩))
      go_ret
      exact ⟨by first | rfl | (simp [errW_none, errW_some] <;> rfl) | (simp [*, errW_none, errW_some] <;> rfl), by repeat (first | (with_reducible first | exact HB.out | apply below_alloc | apply pw_below_drewN | apply below_drew1 | refine below_set ?_ GE126.out) | exact HB.out)⟩
    · rw [if_neg c8] at H
      have c8b0 : decide (t128 < 0) = false := decide_eq_false c8
      clear c8
      obtain rfl := Option.some.inj H
      go_enter Try.func17, Try.ntmps17
      go_wp2_with (first | ((with_reducible refine gate_dst (N := 2) rfl ?_); refine box_event ?hg (N := 2) ?hd (cs := #[.slice A0_0 l0_0.length c0_0, .slice A0_1 l0_1.length c0_1]) (t := 25) ?hr ?_; (case hd => rfl); (case hg => rfl); (case hr => first | (go_simp; done) | (go_simp; rfl)); intro gb126 hg w11 hbox hb; have n0_ := Aside0.mk (below_step (by repeat (first | (with_reducible first | exact HB.out | apply below_alloc | apply pw_below_drewN | apply below_drew1) | exact HB.out)) hb); have n1_ := Aside0.mk (hbox); have n2_ := Aside0.mk ((by rw [hg]; exact (below_size (by repeat (first | (with_reducible first | exact HB.out | apply below_alloc | apply pw_below_drewN | apply below_drew1) | exact HB.out))) : w.heap.size ≤ gb126)); have n3_ := Aside0.mk ((by rw [hg]; exact (below_size (by repeat (first | (with_reducible first | exact HB.out | apply below_alloc | apply pw_below_drewN | apply below_drew1) | exact HB.out))) : w.heap.size ≤ gb126)); clear HB; have HB := n0_; have BK126 := n1_; have GW126 := n2_; have GE126 := n3_; clear n0_ n1_ n2_ n3_; clear hb hbox hg; have hcz12_0 : w11.cell? ⟨gb126, 0, none⟩ = some (.slice A0_0 l0_0.length c0_0) := (blk_cell BK126.out 0).trans rfl; have hcz12_1 : w11.cell? ⟨gb126, 1, none⟩ = some (.slice A0_1 l0_1.length c0_1) := (blk_cell BK126.out 1).trans rfl; have hfz12_0 := blk_frozen BK126.out 0; have hfz12_1 := blk_frozen BK126.out 1) | ((with_reducible refine gate_callee (f := 47) rfl ?_); refine goesL_ (some 8) rfl rfl Try.func47 (by kernel_rfl) rfl #[.slice A0_0 l0_0.length c0_0, .int .i64 a1] rfl (by (try simp only [List.map_toArray, List.map_cons, List.map_nil]); first | done | rfl | (simp only [List.length_drop, List.length_take]; rfl)) ?_; (with_reducible refine (laws_heldBranchS.calls k _ _ l0_0 a1 t127 _ ?side1 ?side2 A3.out).mono ?_); (case side1 => repeat (first | exact (Kd.C_below HR0_0.out HB.out) | (with_reducible refine Kd.C_alloc ?_ _) | (with_reducible refine Kd.C_drewN ?_ _) | (with_reducible refine Kd.C_drew ?_))); (case side2 => exact HC0_0.out); rintro e w' ⟨rfl, ⟨nd, rfl⟩⟩; refine ⟨_, rfl, ?_⟩) | ((with_reducible refine gate_callee (f := 28) rfl ?_); refine goesL_ (some 14) rfl rfl Try.func28 (by kernel_rfl) rfl #[.slice A0_1 l0_1.length c0_1, .int .i64 t127] rfl (by (try simp only [List.map_toArray, List.map_cons, List.map_nil]); first | done | rfl | (simp only [List.length_drop, List.length_take]; rfl)) ?_; (with_reducible refine (laws_heldIntS.calls k _ _ l0_1 t127 t128 _ ?side1 ?side2 A7.out).mono ?_); (case side1 => repeat (first | exact (Kd.C_below HR0_1.out (by repeat (first | (with_reducible first | exact HB.out | apply below_alloc | apply pw_below_drewN | apply below_drew1 | refine below_set ?_ GE126.out) | exact HB.out))) | (with_reducible refine Kd.C_alloc ?_ _) | (with_reducible refine Kd.C_drewN ?_ _) | (with_reducible refine Kd.C_drew ?_))); (case side2 => exact HC0_1.out); rintro e w' ⟨rfl, ⟨nd, rfl⟩⟩; refine ⟨_, rfl, ?_⟩))
      go_ret
      exact ⟨by first | rfl | (simp [errW_none, errW_some] <;> rfl) | (simp [*, errW_none, errW_some] <;> rfl), by repeat (first | (with_reducible first | exact HB.out | apply below_alloc | apply pw_below_drewN | apply below_drew1 | refine below_set ?_ GE126.out) | exact HB.out)⟩

/-! ### laws_FnExactNewPool: function 3 -/
/-- what the law asks, one after the other -/
def laws_FnExactNewPool.f (k : Nat)  : Option Bool :=
  (spec_NewPool.f ).bind fun be4 => (impl_NewPool.f ).bind fun be11 => (laws_eqPool.f k be11.1 be11.2 be4.1 be4.2).bind fun be17 => if be17 = true then ((laws_markPool.f k be11.1 be11.2 1).bind fun be22 => (laws_heldPool.f k be22.2.1 be22.2.2 1).bind fun be25 => if be25 < 0 then some false else (if (be25 != be22.1) = true then some false else ((impl_NewPool.f ).bind fun be29 => (laws_eqPool.f k be29.1 be29.2 be4.1 be4.2).bind fun be35 => if be35 = true then ((laws_heldPool.f k be22.2.1 be22.2.2 1).bind fun be38 => if be38 < 0 then some false else (if (be38 != be22.1) = true then some false else (some true))) else some false))) else some false
set_option maxHeartbeats 8000000 in
theorem laws_FnExactNewPool.calls (k : Nat)  (r : Bool) (w : World)  (h : laws_FnExactNewPool.f k  = some true) :
    Calls Try.prog 3 #[] w fun e w' => e = .returned (.bool true) ∧ Below w.heap.size w w' := by
  have hu25 := Try.underlying25
  have HB := Aside0.mk (Below.refl w.heap.size w)
  unfold laws_FnExactNewPool.f at h
  replace h := Option.bind_eq_some_iff.1 h
  obtain ⟨⟨r2, r3⟩, e4, h⟩ := h
  try dsimp only at h
  have Ee4 := Aside0.mk e4
  clear e4
  replace h := Option.bind_eq_some_iff.1 h
  obtain ⟨⟨r9, r10⟩, e11, h⟩ := h
  try dsimp only at h
  have Ee11 := Aside0.mk e11
  clear e11
  replace h := Option.bind_eq_some_iff.1 h
  obtain ⟨r16, e17, h⟩ := h
  try dsimp only at h
  have Ee17 := Aside0.mk e17
  clear e17
  replace h := Op.must_t h
  obtain ⟨rfl, h⟩ := h
  replace h := Option.bind_eq_some_iff.1 h
  obtain ⟨⟨r19, r20, r21⟩, e22, h⟩ := h
  try dsimp only at h
  have Ee22 := Aside0.mk e22
  clear e22
  replace h := Option.bind_eq_some_iff.1 h
  obtain ⟨r24, e25, h⟩ := h
  try dsimp only at h
  have Ee25 := Aside0.mk e25
  clear e25
  replace h := Op.must_n h
  obtain ⟨c1_, h⟩ := h
  have c1b_ : decide (r24 < 0) = false := decide_eq_false c1_
  clear c1_
  replace h := Op.must_n h
  obtain ⟨c2_, h⟩ := h
  have c2b_ := Bool.eq_false_iff.mpr c2_
  clear c2_
  replace h := Option.bind_eq_some_iff.1 h
  obtain ⟨⟨r27, r28⟩, e29, h⟩ := h
  try dsimp only at h
  have Ee29 := Aside0.mk e29
  clear e29
  replace h := Option.bind_eq_some_iff.1 h
  obtain ⟨r34, e35, h⟩ := h
  try dsimp only at h
  have Ee35 := Aside0.mk e35
  clear e35
  replace h := Op.must_t h
  obtain ⟨rfl, h⟩ := h
  replace h := Option.bind_eq_some_iff.1 h
  obtain ⟨r37, e38, h⟩ := h
  try dsimp only at h
  have Ee38 := Aside0.mk e38
  clear e38
  replace h := Op.must_n h
  obtain ⟨c3_, h⟩ := h
  have c3b_ : decide (r37 < 0) = false := decide_eq_false c3_
  clear c3_
  replace h := Op.must_n h
  obtain ⟨c4_, h⟩ := h
  have c4b_ := Bool.eq_false_iff.mpr c4_
  clear c4_
  clear h
  go_enter Try.func3, Try.ntmps3
  go_wp2_with (first | ((with_reducible refine gate_callee (f := 13) rfl ?_); refine goesL_ (some 6) rfl rfl Try.func13 (by kernel_rfl) rfl #[] rfl (by (try simp only [List.map_toArray, List.map_cons, List.map_nil]); first | done | rfl | (simp only [List.length_drop, List.length_take]; rfl)) ?_; (with_reducible refine (spec_NewPool.calls  r2 r3 _  Ee4.out).mono ?_); rintro ex_ w1 ⟨ve4_0, ve4_1, rfl, ho0, ho1, hb⟩; refine ⟨_, rfl, ?_⟩; have hk := Kept.of_below hb (fun _ => False); have nHB := Aside0.mk (below_step HB.out hb); have SZw1 := Aside0.mk hb.size; have Oe4_0 := Aside0.mk (Op.inS ho0 (a := w.heap.size) (b := w.heap.size) HB.out.size (Nat.le_refl _)); have Oe4_1 := Aside0.mk (Op.inR ho1 (a := w.heap.size) (b := w.heap.size) HB.out.size (Nat.le_refl _)); clear HB; have HB := nHB; clear nHB; obtain ⟨Ae4_0, cAe4_0, ev_⟩ := Kd.S_slice Oe4_0.out; subst ev_; obtain ⟨Ae4_1, cAe4_1, ev_⟩ := Kd.R_slice Oe4_1.out; subst ev_; clear hb hk ho0 ho1) | ((with_reducible refine gate_dst (N := 1) rfl ?_); refine box_event ?hg (N := 1) ?hd (cs := #[.slice none 0 0, .slice none 0 0]) (t := 25) ?hr ?_; (case hd => rfl); (case hg => rfl); (case hr => first | (go_simp; done) | (go_simp; rfl)); intro g5 hg w6 hbox hb; have hk := Kept.of_below hb (fun _ => False); have nOe4_0 := Aside0.mk (Op.mvS Oe4_0.out hk (fun _ _ hs => hs)); have nOe4_1 := Aside0.mk (Op.mvR Oe4_1.out hk (fun _ _ hs => hs)); have nHB := Aside0.mk (below_step HB.out hb); have BKg5 := Aside0.mk hbox; have GEg5 := Aside0.mk (show w.heap.size ≤ g5 from by rw [hg]; exact HB.out.size); have GLg5 := Aside0.mk (show w1.heap.size ≤ g5 from Nat.le_of_eq hg.symm); have GHg5 := Aside0.mk (blk_lt hbox); have SZw6 := Aside0.mk hb.size; clear Oe4_0 Oe4_1 HB; have Oe4_0 := nOe4_0; have Oe4_1 := nOe4_1; have HB := nHB; clear nOe4_0 nOe4_1 nHB; clear hg hbox hb hk; have hz_g5_0_w6 : w6.cell? ⟨g5, 0, none⟩ = some (.slice none 0 0) := (blk_cell BKg5.out 0).trans rfl; have hf_g5_0_w6 := blk_frozen BKg5.out 0; have hz_g5_1_w6 : w6.cell? ⟨g5, 1, none⟩ = some (.slice none 0 0) := (blk_cell BKg5.out 1).trans rfl; have hf_g5_1_w6 := blk_frozen BKg5.out 1) | ((with_reducible refine gate_store (t := 25) (p := 1) rfl ?_); refine store_event (t := 25) (p := 1) (v := ?vo_w7) (w1 := ((w6.setCell ⟨g5, 0, none⟩ (.slice Ae4_0 r2.length cAe4_0)).setCell ⟨g5, 1, none⟩ (.slice Ae4_1 r3.length cAe4_1))) ?hg ?ho ?hn ?hr ?_; (case ho => rfl); (case hg => rfl); (case hn => rfl); (case hr => first | (go_simp; done) | (go_simp; rfl)); intro w7 hw; have hk : Kept w6 w7 (fun j => j = g5) := (by rw [hw]; exact Op.kept_put (Op.kept_put (Kept.refl _ _) 0 _) 1 _); have nOe4_0 := Aside0.mk (Op.mvS Oe4_0.out hk (fun j hj hs => by (have hj2 := hj.2; have q0 := SZw1.out; have q1 := GLg5.out; have q2 := GHg5.out; have q3 := SZw6.out; have hs2 : j = g5 := hs; omega))); have nOe4_1 := Aside0.mk (Op.mvR Oe4_1.out hk (fun j hj hs => by (have hj2 := hj.2; have q0 := SZw1.out; have q1 := GLg5.out; have q2 := GHg5.out; have q3 := SZw6.out; have hs2 : j = g5 := hs; omega))); have nBKg5 : Aside0 (w7.heap[g5]? = some (.cells #[.slice Ae4_0 r2.length cAe4_0, .slice Ae4_1 r3.length cAe4_1] 25 (0, 0))) := ⟨by rw [hw]; exact (blk_put (cs' := #[.slice Ae4_0 r2.length cAe4_0, .slice Ae4_1 r3.length cAe4_1]) (blk_put (cs' := #[.slice Ae4_0 r2.length cAe4_0, .slice none 0 0]) BKg5.out 0 _ rfl) 1 _ rfl)⟩; have nHB : Aside0 (Below w.heap.size w w7) := ⟨by rw [hw]; exact below_set (below_set (HB.out) GEg5.out) GEg5.out⟩; have SZw7 := Aside0.mk hk.1; clear Oe4_0 Oe4_1 BKg5 HB; have Oe4_0 := nOe4_0; have Oe4_1 := nOe4_1; have BKg5 := nBKg5; have HB := nHB; clear nOe4_0 nOe4_1 nBKg5 nHB; clear hw hk; have hz_g5_0_w7 : w7.cell? ⟨g5, 0, none⟩ = some (.slice Ae4_0 r2.length cAe4_0) := (blk_cell BKg5.out 0).trans rfl; have hf_g5_0_w7 := blk_frozen BKg5.out 0; have hz_g5_1_w7 : w7.cell? ⟨g5, 1, none⟩ = some (.slice Ae4_1 r3.length cAe4_1) := (blk_cell BKg5.out 1).trans rfl; have hf_g5_1_w7 := blk_frozen BKg5.out 1) | ((with_reducible refine gate_callee (f := 14) rfl ?_); refine goesL_ (some 7) rfl rfl Try.func14 (by kernel_rfl) rfl #[] rfl (by (try simp only [List.map_toArray, List.map_cons, List.map_nil]); first | done | rfl | (simp only [List.length_drop, List.length_take]; rfl)) ?_; (with_reducible refine (impl_NewPool.calls  r9 r10 _  Ee11.out).mono ?_); rintro ex_ w8 ⟨ve11_0, ve11_1, rfl, ho0, ho1, hb⟩; refine ⟨_, rfl, ?_⟩; have hk := Kept.of_below hb (fun _ => False); have nOe4_0 := Aside0.mk (Op.mvS Oe4_0.out hk (fun _ _ hs => hs)); have nOe4_1 := Aside0.mk (Op.mvR Oe4_1.out hk (fun _ _ hs => hs)); have nBKg5 := Aside0.mk (Op.mvB BKg5.out hk (fun hs => hs)); have nHB := Aside0.mk (below_step HB.out hb); have SZw8 := Aside0.mk hb.size; have Oe11_0 := Aside0.mk (Op.inS ho0 (a := w7.heap.size) (b := w.heap.size) HB.out.size (Nat.le_refl _)); have Oe11_1 := Aside0.mk (Op.inR ho1 (a := w7.heap.size) (b := w.heap.size) HB.out.size (Nat.le_refl _)); clear Oe4_0 Oe4_1 BKg5 HB; have Oe4_0 := nOe4_0; have Oe4_1 := nOe4_1; have BKg5 := nBKg5; have HB := nHB; clear nOe4_0 nOe4_1 nBKg5 nHB; obtain ⟨Ae11_0, cAe11_0, ev_⟩ := Kd.S_slice Oe11_0.out; subst ev_; obtain ⟨Ae11_1, cAe11_1, ev_⟩ := Kd.R_slice Oe11_1.out; subst ev_; clear hb hk ho0 ho1; have hz_g5_0_w8 : w8.cell? ⟨g5, 0, none⟩ = some (.slice Ae4_0 r2.length cAe4_0) := (blk_cell BKg5.out 0).trans rfl; have hf_g5_0_w8 := blk_frozen BKg5.out 0; have hz_g5_1_w8 : w8.cell? ⟨g5, 1, none⟩ = some (.slice Ae4_1 r3.length cAe4_1) := (blk_cell BKg5.out 1).trans rfl; have hf_g5_1_w8 := blk_frozen BKg5.out 1) | ((with_reducible refine gate_dst (N := 2) rfl ?_); refine box_event ?hg (N := 2) ?hd (cs := #[.slice none 0 0, .slice none 0 0]) (t := 25) ?hr ?_; (case hd => rfl); (case hg => rfl); (case hr => first | (go_simp; done) | (go_simp; rfl)); intro g12 hg w13 hbox hb; have hk := Kept.of_below hb (fun _ => False); have nOe4_0 := Aside0.mk (Op.mvS Oe4_0.out hk (fun _ _ hs => hs)); have nOe4_1 := Aside0.mk (Op.mvR Oe4_1.out hk (fun _ _ hs => hs)); have nOe11_0 := Aside0.mk (Op.mvS Oe11_0.out hk (fun _ _ hs => hs)); have nOe11_1 := Aside0.mk (Op.mvR Oe11_1.out hk (fun _ _ hs => hs)); have nBKg5 := Aside0.mk (Op.mvB BKg5.out hk (fun hs => hs)); have nHB := Aside0.mk (below_step HB.out hb); have BKg12 := Aside0.mk hbox; have GEg12 := Aside0.mk (show w.heap.size ≤ g12 from by rw [hg]; exact HB.out.size); have GLg12 := Aside0.mk (show w8.heap.size ≤ g12 from Nat.le_of_eq hg.symm); have GHg12 := Aside0.mk (blk_lt hbox); have SZw13 := Aside0.mk hb.size; clear Oe4_0 Oe4_1 Oe11_0 Oe11_1 BKg5 HB; have Oe4_0 := nOe4_0; have Oe4_1 := nOe4_1; have Oe11_0 := nOe11_0; have Oe11_1 := nOe11_1; have BKg5 := nBKg5; have HB := nHB; clear nOe4_0 nOe4_1 nOe11_0 nOe11_1 nBKg5 nHB; clear hg hbox hb hk; have hz_g5_0_w13 : w13.cell? ⟨g5, 0, none⟩ = some (.slice Ae4_0 r2.length cAe4_0) := (blk_cell BKg5.out 0).trans rfl; have hf_g5_0_w13 := blk_frozen BKg5.out 0; have hz_g5_1_w13 : w13.cell? ⟨g5, 1, none⟩ = some (.slice Ae4_1 r3.length cAe4_1) := (blk_cell BKg5.out 1).trans rfl; have hf_g5_1_w13 := blk_frozen BKg5.out 1; have hz_g12_0_w13 : w13.cell? ⟨g12, 0, none⟩ = some (.slice none 0 0) := (blk_cell BKg12.out 0).trans rfl; have hf_g12_0_w13 := blk_frozen BKg12.out 0; have hz_g12_1_w13 : w13.cell? ⟨g12, 1, none⟩ = some (.slice none 0 0) := (blk_cell BKg12.out 1).trans rfl; have hf_g12_1_w13 := blk_frozen BKg12.out 1) | ((with_reducible refine gate_store (t := 25) (p := 2) rfl ?_); refine store_event (t := 25) (p := 2) (v := ?vo_w14) (w1 := ((w13.setCell ⟨g12, 0, none⟩ (.slice Ae11_0 r9.length cAe11_0)).setCell ⟨g12, 1, none⟩ (.slice Ae11_1 r10.length cAe11_1))) ?hg ?ho ?hn ?hr ?_; (case ho => rfl); (case hg => rfl); (case hn => rfl); (case hr => first | (go_simp; done) | (go_simp; rfl)); intro w14 hw; have hk : Kept w13 w14 (fun j => j = g12) := (by rw [hw]; exact Op.kept_put (Op.kept_put (Kept.refl _ _) 0 _) 1 _); have nOe4_0 := Aside0.mk (Op.mvS Oe4_0.out hk (fun j hj hs => by (have hj2 := hj.2; have q0 := SZw1.out; have q1 := GLg5.out; have q2 := GHg5.out; have q3 := SZw6.out; have q4 := SZw7.out; have q5 := SZw8.out; have q6 := GLg12.out; have q7 := GHg12.out; have q8 := SZw13.out; have hs2 : j = g12 := hs; omega))); have nOe4_1 := Aside0.mk (Op.mvR Oe4_1.out hk (fun j hj hs => by (have hj2 := hj.2; have q0 := SZw1.out; have q1 := GLg5.out; have q2 := GHg5.out; have q3 := SZw6.out; have q4 := SZw7.out; have q5 := SZw8.out; have q6 := GLg12.out; have q7 := GHg12.out; have q8 := SZw13.out; have hs2 : j = g12 := hs; omega))); have nOe11_0 := Aside0.mk (Op.mvS Oe11_0.out hk (fun j hj hs => by (have hj2 := hj.2; have q0 := SZw1.out; have q1 := GLg5.out; have q2 := GHg5.out; have q3 := SZw6.out; have q4 := SZw7.out; have q5 := SZw8.out; have q6 := GLg12.out; have q7 := GHg12.out; have q8 := SZw13.out; have hs2 : j = g12 := hs; omega))); have nOe11_1 := Aside0.mk (Op.mvR Oe11_1.out hk (fun j hj hs => by (have hj2 := hj.2; have q0 := SZw1.out; have q1 := GLg5.out; have q2 := GHg5.out; have q3 := SZw6.out; have q4 := SZw7.out; have q5 := SZw8.out; have q6 := GLg12.out; have q7 := GHg12.out; have q8 := SZw13.out; have hs2 : j = g12 := hs; omega))); have nBKg5 := Aside0.mk (Op.mvB BKg5.out hk (fun hs => by (have q0 := SZw1.out; have q1 := GLg5.out; have q2 := GHg5.out; have q3 := SZw6.out; have q4 := SZw7.out; have q5 := SZw8.out; have q6 := GLg12.out; have q7 := GHg12.out; have q8 := SZw13.out; have hs2 : g5 = g12 := hs; omega))); have nBKg12 : Aside0 (w14.heap[g12]? = some (.cells #[.slice Ae11_0 r9.length cAe11_0, .slice Ae11_1 r10.length cAe11_1] 25 (0, 0))) := ⟨by rw [hw]; exact (blk_put (cs' := #[.slice Ae11_0 r9.length cAe11_0, .slice Ae11_1 r10.length cAe11_1]) (blk_put (cs' := #[.slice Ae11_0 r9.length cAe11_0, .slice none 0 0]) BKg12.out 0 _ rfl) 1 _ rfl)⟩; have nHB : Aside0 (Below w.heap.size w w14) := ⟨by rw [hw]; exact below_set (below_set (HB.out) GEg12.out) GEg12.out⟩; have SZw14 := Aside0.mk hk.1; clear Oe4_0 Oe4_1 Oe11_0 Oe11_1 BKg5 BKg12 HB; have Oe4_0 := nOe4_0; have Oe4_1 := nOe4_1; have Oe11_0 := nOe11_0; have Oe11_1 := nOe11_1; have BKg5 := nBKg5; have BKg12 := nBKg12; have HB := nHB; clear nOe4_0 nOe4_1 nOe11_0 nOe11_1 nBKg5 nBKg12 nHB; clear hw hk; have hz_g5_0_w14 : w14.cell? ⟨g5, 0, none⟩ = some (.slice Ae4_0 r2.length cAe4_0) := (blk_cell BKg5.out 0).trans rfl; have hf_g5_0_w14 := blk_frozen BKg5.out 0; have hz_g5_1_w14 : w14.cell? ⟨g5, 1, none⟩ = some (.slice Ae4_1 r3.length cAe4_1) := (blk_cell BKg5.out 1).trans rfl; have hf_g5_1_w14 := blk_frozen BKg5.out 1; have hz_g12_0_w14 : w14.cell? ⟨g12, 0, none⟩ = some (.slice Ae11_0 r9.length cAe11_0) := (blk_cell BKg12.out 0).trans rfl; have hf_g12_0_w14 := blk_frozen BKg12.out 0; have hz_g12_1_w14 : w14.cell? ⟨g12, 1, none⟩ = some (.slice Ae11_1 r10.length cAe11_1) := (blk_cell BKg12.out 1).trans rfl; have hf_g12_1_w14 := blk_frozen BKg12.out 1) | ((with_reducible refine gate_callee (f := 15) rfl ?_); refine goesL_ (some 10) rfl rfl Try.func15 (by kernel_rfl) rfl #[.agg #[.slice Ae11_0 r9.length cAe11_0, .slice Ae11_1 r10.length cAe11_1], .agg #[.slice Ae4_0 r2.length cAe4_0, .slice Ae4_1 r3.length cAe4_1]] rfl (by (try simp only [List.map_toArray, List.map_cons, List.map_nil]); first | done | rfl | (simp only [List.length_drop, List.length_take]; rfl)) ?_; (with_reducible refine (laws_eqPool.calls k _ _ r9 _ _ r10 _ _ r2 _ _ r3 true _ ?side1 ?side2 ?side3 ?side4 ?side5 ?side6 ?side7 ?side8 Ee17.out).mono ?_); (case side1 => exact (Kd.S_reads' Oe11_0.out).2.2); (case side2 => (have h_ := Kd.S_reads' Oe11_0.out; have h1_ := h_.1; have h2_ := h_.2.1; omega)); (case side3 => exact (Kd.R_reads' Oe11_1.out).2.2); (case side4 => (have h_ := Kd.R_reads' Oe11_1.out; have h1_ := h_.1; have h2_ := h_.2.1; omega)); (case side5 => exact (Kd.S_reads' Oe4_0.out).2.2); (case side6 => (have h_ := Kd.S_reads' Oe4_0.out; have h1_ := h_.1; have h2_ := h_.2.1; omega)); (case side7 => exact (Kd.R_reads' Oe4_1.out).2.2); (case side8 => (have h_ := Kd.R_reads' Oe4_1.out; have h1_ := h_.1; have h2_ := h_.2.1; omega)); rintro ex_ w15 ⟨rfl, hb⟩; refine ⟨_, rfl, ?_⟩; have hk := Kept.of_below hb (fun _ => False); have nOe4_0 := Aside0.mk (Op.mvS Oe4_0.out hk (fun _ _ hs => hs)); have nOe4_1 := Aside0.mk (Op.mvR Oe4_1.out hk (fun _ _ hs => hs)); have nOe11_0 := Aside0.mk (Op.mvS Oe11_0.out hk (fun _ _ hs => hs)); have nOe11_1 := Aside0.mk (Op.mvR Oe11_1.out hk (fun _ _ hs => hs)); have nBKg5 := Aside0.mk (Op.mvB BKg5.out hk (fun hs => hs)); have nBKg12 := Aside0.mk (Op.mvB BKg12.out hk (fun hs => hs)); have nHB := Aside0.mk (below_step HB.out hb); have SZw15 := Aside0.mk hb.size; clear Oe4_0 Oe4_1 Oe11_0 Oe11_1 BKg5 BKg12 HB; have Oe4_0 := nOe4_0; have Oe4_1 := nOe4_1; have Oe11_0 := nOe11_0; have Oe11_1 := nOe11_1; have BKg5 := nBKg5; have BKg12 := nBKg12; have HB := nHB; clear nOe4_0 nOe4_1 nOe11_0 nOe11_1 nBKg5 nBKg12 nHB; clear hb hk; have hz_g5_0_w15 : w15.cell? ⟨g5, 0, none⟩ = some (.slice Ae4_0 r2.length cAe4_0) := (blk_cell BKg5.out 0).trans rfl; have hf_g5_0_w15 := blk_frozen BKg5.out 0; have hz_g5_1_w15 : w15.cell? ⟨g5, 1, none⟩ = some (.slice Ae4_1 r3.length cAe4_1) := (blk_cell BKg5.out 1).trans rfl; have hf_g5_1_w15 := blk_frozen BKg5.out 1; have hz_g12_0_w15 : w15.cell? ⟨g12, 0, none⟩ = some (.slice Ae11_0 r9.length cAe11_0) := (blk_cell BKg12.out 0).trans rfl; have hf_g12_0_w15 := blk_frozen BKg12.out 0; have hz_g12_1_w15 : w15.cell? ⟨g12, 1, none⟩ = some (.slice Ae11_1 r10.length cAe11_1) := (blk_cell BKg12.out 1).trans rfl; have hf_g12_1_w15 := blk_frozen BKg12.out 1) | ((with_reducible refine gate_callee (f := 16) rfl ?_); refine goesL_ (some 14) rfl rfl Try.func16 (by kernel_rfl) rfl #[.agg #[.slice Ae11_0 r9.length cAe11_0, .slice Ae11_1 r10.length cAe11_1], .int .i64 1] rfl (by (try simp only [List.map_toArray, List.map_cons, List.map_nil]); first | done | rfl | (simp only [List.length_drop, List.length_take]; rfl)) ?_; have tOe11_1 := Aside0.mk (Op.tiR rfl Oe11_1.out); (with_reducible refine (laws_markPool.calls k _ _ _ _ r9 r10 1 r19 r20 r21 w _ HB.out Oe11_0.out tOe11_1.out ?sd0 Ee22.out).mono ?_); (case sd0 => (intro j h1 h2; first | exact h1.1 h2.1 | exact h1.1.1 h2.1 | exact h1.1.2 h2.1 | exact (Oe11_1.out.1 j h1.1.symm).1 h2.1 | exact (Oe11_1.out.1 j h1.1.symm).1.1 h2.1 | exact (Oe11_1.out.1 j h1.1.symm).1.2 h2.1 | exact (Oe11_1.out.1 j h2.1.symm).1 h1.1 | exact (Oe11_1.out.1 j h2.1.symm).1.1 h1.1 | exact (Oe11_1.out.1 j h2.1.symm).1.2 h1.1)); rintro ex_ w18 ⟨rfl, ho0, ho1, hb, hk⟩; refine ⟨_, rfl, ?_⟩; have nOe4_0 := Aside0.mk (Op.mvS Oe4_0.out hk (fun j hj hs => by (have hj2 := hj.2; have q0 := SZw1.out; have q1 := GLg5.out; have q2 := GHg5.out; have q3 := SZw6.out; have q4 := SZw7.out; have q5 := SZw8.out; have q6 := GLg12.out; have q7 := GHg12.out; have q8 := SZw13.out; have q9 := SZw14.out; have q10 := SZw15.out; exact Or.elim hs (fun hs => by (have hs2 := hs.2; omega)) (fun hs => by (have hs2 := hs.2.2; omega))))); have nOe4_1 := Aside0.mk (Op.mvR Oe4_1.out hk (fun j hj hs => by (have hj2 := hj.2; have q0 := SZw1.out; have q1 := GLg5.out; have q2 := GHg5.out; have q3 := SZw6.out; have q4 := SZw7.out; have q5 := SZw8.out; have q6 := GLg12.out; have q7 := GHg12.out; have q8 := SZw13.out; have q9 := SZw14.out; have q10 := SZw15.out; exact Or.elim hs (fun hs => by (have hs2 := hs.2; omega)) (fun hs => by (have hs2 := hs.2.2; omega))))); have nBKg5 := Aside0.mk (Op.mvB BKg5.out hk (fun hs => by (have q0 := SZw1.out; have q1 := GLg5.out; have q2 := GHg5.out; have q3 := SZw6.out; have q4 := SZw7.out; have q5 := SZw8.out; have q6 := GLg12.out; have q7 := GHg12.out; have q8 := SZw13.out; have q9 := SZw14.out; have q10 := SZw15.out; exact Or.elim hs (fun hs => by (have hs2 := hs.2; omega)) (fun hs => by (have hs2 := hs.2.2; omega))))); have nBKg12 := Aside0.mk (Op.mvB BKg12.out hk (fun hs => by (have q0 := SZw1.out; have q1 := GLg5.out; have q2 := GHg5.out; have q3 := SZw6.out; have q4 := SZw7.out; have q5 := SZw8.out; have q6 := GLg12.out; have q7 := GHg12.out; have q8 := SZw13.out; have q9 := SZw14.out; have q10 := SZw15.out; exact Or.elim hs (fun hs => by (have hs2 := hs.2; omega)) (fun hs => by (have hs2 := hs.2.2; omega))))); have nHB := Aside0.mk hb; have SZw18 := Aside0.mk hk.1; have nOe11_0 := Aside0.mk ho0; have nOe11_1 := Aside0.mk (Kd.R_reok rfl ho1 Oe11_1.out.1); clear Oe4_0 Oe4_1 BKg5 BKg12 Oe11_0 Oe11_1 HB; have Oe4_0 := nOe4_0; have Oe4_1 := nOe4_1; have BKg5 := nBKg5; have BKg12 := nBKg12; have Oe11_0 := nOe11_0; have Oe11_1 := nOe11_1; have HB := nHB; clear nOe4_0 nOe4_1 nBKg5 nBKg12 nOe11_0 nOe11_1 nHB; clear hb hk ho0 ho1 tOe11_1; have hz_g5_0_w18 : w18.cell? ⟨g5, 0, none⟩ = some (.slice Ae4_0 r2.length cAe4_0) := (blk_cell BKg5.out 0).trans rfl; have hf_g5_0_w18 := blk_frozen BKg5.out 0; have hz_g5_1_w18 : w18.cell? ⟨g5, 1, none⟩ = some (.slice Ae4_1 r3.length cAe4_1) := (blk_cell BKg5.out 1).trans rfl; have hf_g5_1_w18 := blk_frozen BKg5.out 1; have hz_g12_0_w18 : w18.cell? ⟨g12, 0, none⟩ = some (.slice Ae11_0 r9.length cAe11_0) := (blk_cell BKg12.out 0).trans rfl; have hf_g12_0_w18 := blk_frozen BKg12.out 0; have hz_g12_1_w18 : w18.cell? ⟨g12, 1, none⟩ = some (.slice Ae11_1 r10.length cAe11_1) := (blk_cell BKg12.out 1).trans rfl; have hf_g12_1_w18 := blk_frozen BKg12.out 1; have hl_ := (Kd.S_reads' Oe11_0.out).1; have LOe11_0_r20 := Aside0.mk hl_; clear hl_; have hl_ := (Kd.R_reads' Oe11_1.out).1; have LOe11_1_r21 := Aside0.mk hl_; clear hl_) | ((with_reducible refine gate_callee (f := 17) rfl ?_); refine goesL_ (some 17) rfl rfl Try.func17 (by kernel_rfl) rfl #[.agg #[.slice Ae11_0 r9.length cAe11_0, .slice Ae11_1 r10.length cAe11_1], .int .i64 1] rfl (by (try simp only [List.map_toArray, List.map_cons, List.map_nil]); first | done | rfl | (simp only [List.length_drop, List.length_take]; rfl)) ?_; refine Op.args_eq (args := #[.agg #[.slice Ae11_0 r20.length cAe11_0, .slice Ae11_1 r21.length cAe11_1], .int .i64 1]) (by simp only [LOe11_0_r20.out, LOe11_1_r21.out]) ?_; (with_reducible refine (laws_heldPool.calls k _ _ r20 _ _ r21 1 r24 _ ?side1 ?side2 ?side3 ?side4 Ee25.out).mono ?_); (case side1 => exact (Kd.S_reads' Oe11_0.out).2.2); (case side2 => (have h_ := Kd.S_reads' Oe11_0.out; have h1_ := h_.1; have h2_ := h_.2.1; omega)); (case side3 => exact (Kd.R_reads' Oe11_1.out).2.2); (case side4 => (have h_ := Kd.R_reads' Oe11_1.out; have h1_ := h_.1; have h2_ := h_.2.1; omega)); rintro ex_ w23 ⟨rfl, hb⟩; refine ⟨_, rfl, ?_⟩; have hk := Kept.of_below hb (fun _ => False); have nOe4_0 := Aside0.mk (Op.mvS Oe4_0.out hk (fun _ _ hs => hs)); have nOe4_1 := Aside0.mk (Op.mvR Oe4_1.out hk (fun _ _ hs => hs)); have nOe11_0 := Aside0.mk (Op.mvS Oe11_0.out hk (fun _ _ hs => hs)); have nOe11_1 := Aside0.mk (Op.mvR Oe11_1.out hk (fun _ _ hs => hs)); have nBKg5 := Aside0.mk (Op.mvB BKg5.out hk (fun hs => hs)); have nBKg12 := Aside0.mk (Op.mvB BKg12.out hk (fun hs => hs)); have nHB := Aside0.mk (below_step HB.out hb); have SZw23 := Aside0.mk hb.size; clear Oe4_0 Oe4_1 Oe11_0 Oe11_1 BKg5 BKg12 HB; have Oe4_0 := nOe4_0; have Oe4_1 := nOe4_1; have Oe11_0 := nOe11_0; have Oe11_1 := nOe11_1; have BKg5 := nBKg5; have BKg12 := nBKg12; have HB := nHB; clear nOe4_0 nOe4_1 nOe11_0 nOe11_1 nBKg5 nBKg12 nHB; clear hb hk; have hz_g5_0_w23 : w23.cell? ⟨g5, 0, none⟩ = some (.slice Ae4_0 r2.length cAe4_0) := (blk_cell BKg5.out 0).trans rfl; have hf_g5_0_w23 := blk_frozen BKg5.out 0; have hz_g5_1_w23 : w23.cell? ⟨g5, 1, none⟩ = some (.slice Ae4_1 r3.length cAe4_1) := (blk_cell BKg5.out 1).trans rfl; have hf_g5_1_w23 := blk_frozen BKg5.out 1; have hz_g12_0_w23 : w23.cell? ⟨g12, 0, none⟩ = some (.slice Ae11_0 r9.length cAe11_0) := (blk_cell BKg12.out 0).trans rfl; have hf_g12_0_w23 := blk_frozen BKg12.out 0; have hz_g12_1_w23 : w23.cell? ⟨g12, 1, none⟩ = some (.slice Ae11_1 r10.length cAe11_1) := (blk_cell BKg12.out 1).trans rfl; have hf_g12_1_w23 := blk_frozen BKg12.out 1) | ((with_reducible refine gate_callee (f := 14) rfl ?_); refine goesL_ (some 23) rfl rfl Try.func14 (by kernel_rfl) rfl #[] rfl (by (try simp only [List.map_toArray, List.map_cons, List.map_nil]); first | done | rfl | (simp only [List.length_drop, List.length_take]; rfl)) ?_; (with_reducible refine (impl_NewPool.calls  r27 r28 _  Ee29.out).mono ?_); rintro ex_ w26 ⟨ve29_0, ve29_1, rfl, ho0, ho1, hb⟩; refine ⟨_, rfl, ?_⟩; have hk := Kept.of_below hb (fun _ => False); have nOe4_0 := Aside0.mk (Op.mvS Oe4_0.out hk (fun _ _ hs => hs)); have nOe4_1 := Aside0.mk (Op.mvR Oe4_1.out hk (fun _ _ hs => hs)); have nOe11_0 := Aside0.mk (Op.mvS Oe11_0.out hk (fun _ _ hs => hs)); have nOe11_1 := Aside0.mk (Op.mvR Oe11_1.out hk (fun _ _ hs => hs)); have nBKg5 := Aside0.mk (Op.mvB BKg5.out hk (fun hs => hs)); have nBKg12 := Aside0.mk (Op.mvB BKg12.out hk (fun hs => hs)); have nHB := Aside0.mk (below_step HB.out hb); have SZw26 := Aside0.mk hb.size; have Oe29_0 := Aside0.mk (Op.inS ho0 (a := w23.heap.size) (b := w.heap.size) HB.out.size (Nat.le_refl _)); have Oe29_1 := Aside0.mk (Op.inR ho1 (a := w23.heap.size) (b := w.heap.size) HB.out.size (Nat.le_refl _)); clear Oe4_0 Oe4_1 Oe11_0 Oe11_1 BKg5 BKg12 HB; have Oe4_0 := nOe4_0; have Oe4_1 := nOe4_1; have Oe11_0 := nOe11_0; have Oe11_1 := nOe11_1; have BKg5 := nBKg5; have BKg12 := nBKg12; have HB := nHB; clear nOe4_0 nOe4_1 nOe11_0 nOe11_1 nBKg5 nBKg12 nHB; obtain ⟨Ae29_0, cAe29_0, ev_⟩ := Kd.S_slice Oe29_0.out; subst ev_; obtain ⟨Ae29_1, cAe29_1, ev_⟩ := Kd.R_slice Oe29_1.out; subst ev_; clear hb hk ho0 ho1; have hz_g5_0_w26 : w26.cell? ⟨g5, 0, none⟩ = some (.slice Ae4_0 r2.length cAe4_0) := (blk_cell BKg5.out 0).trans rfl; have hf_g5_0_w26 := blk_frozen BKg5.out 0; have hz_g5_1_w26 : w26.cell? ⟨g5, 1, none⟩ = some (.slice Ae4_1 r3.length cAe4_1) := (blk_cell BKg5.out 1).trans rfl; have hf_g5_1_w26 := blk_frozen BKg5.out 1; have hz_g12_0_w26 : w26.cell? ⟨g12, 0, none⟩ = some (.slice Ae11_0 r9.length cAe11_0) := (blk_cell BKg12.out 0).trans rfl; have hf_g12_0_w26 := blk_frozen BKg12.out 0; have hz_g12_1_w26 : w26.cell? ⟨g12, 1, none⟩ = some (.slice Ae11_1 r10.length cAe11_1) := (blk_cell BKg12.out 1).trans rfl; have hf_g12_1_w26 := blk_frozen BKg12.out 1) | ((with_reducible refine gate_dst (N := 5) rfl ?_); refine box_event ?hg (N := 5) ?hd (cs := #[.slice none 0 0, .slice none 0 0]) (t := 25) ?hr ?_; (case hd => rfl); (case hg => rfl); (case hr => first | (go_simp; done) | (go_simp; rfl)); intro g30 hg w31 hbox hb; have hk := Kept.of_below hb (fun _ => False); have nOe4_0 := Aside0.mk (Op.mvS Oe4_0.out hk (fun _ _ hs => hs)); have nOe4_1 := Aside0.mk (Op.mvR Oe4_1.out hk (fun _ _ hs => hs)); have nOe11_0 := Aside0.mk (Op.mvS Oe11_0.out hk (fun _ _ hs => hs)); have nOe11_1 := Aside0.mk (Op.mvR Oe11_1.out hk (fun _ _ hs => hs)); have nOe29_0 := Aside0.mk (Op.mvS Oe29_0.out hk (fun _ _ hs => hs)); have nOe29_1 := Aside0.mk (Op.mvR Oe29_1.out hk (fun _ _ hs => hs)); have nBKg5 := Aside0.mk (Op.mvB BKg5.out hk (fun hs => hs)); have nBKg12 := Aside0.mk (Op.mvB BKg12.out hk (fun hs => hs)); have nHB := Aside0.mk (below_step HB.out hb); have BKg30 := Aside0.mk hbox; have GEg30 := Aside0.mk (show w.heap.size ≤ g30 from by rw [hg]; exact HB.out.size); have GLg30 := Aside0.mk (show w26.heap.size ≤ g30 from Nat.le_of_eq hg.symm); have GHg30 := Aside0.mk (blk_lt hbox); have SZw31 := Aside0.mk hb.size; clear Oe4_0 Oe4_1 Oe11_0 Oe11_1 Oe29_0 Oe29_1 BKg5 BKg12 HB; have Oe4_0 := nOe4_0; have Oe4_1 := nOe4_1; have Oe11_0 := nOe11_0; have Oe11_1 := nOe11_1; have Oe29_0 := nOe29_0; have Oe29_1 := nOe29_1; have BKg5 := nBKg5; have BKg12 := nBKg12; have HB := nHB; clear nOe4_0 nOe4_1 nOe11_0 nOe11_1 nOe29_0 nOe29_1 nBKg5 nBKg12 nHB; clear hg hbox hb hk; have hz_g5_0_w31 : w31.cell? ⟨g5, 0, none⟩ = some (.slice Ae4_0 r2.length cAe4_0) := (blk_cell BKg5.out 0).trans rfl; have hf_g5_0_w31 := blk_frozen BKg5.out 0; have hz_g5_1_w31 : w31.cell? ⟨g5, 1, none⟩ = some (.slice Ae4_1 r3.length cAe4_1) := (blk_cell BKg5.out 1).trans rfl; have hf_g5_1_w31 := blk_frozen BKg5.out 1; have hz_g12_0_w31 : w31.cell? ⟨g12, 0, none⟩ = some (.slice Ae11_0 r9.length cAe11_0) := (blk_cell BKg12.out 0).trans rfl; have hf_g12_0_w31 := blk_frozen BKg12.out 0; have hz_g12_1_w31 : w31.cell? ⟨g12, 1, none⟩ = some (.slice Ae11_1 r10.length cAe11_1) := (blk_cell BKg12.out 1).trans rfl; have hf_g12_1_w31 := blk_frozen BKg12.out 1; have hz_g30_0_w31 : w31.cell? ⟨g30, 0, none⟩ = some (.slice none 0 0) := (blk_cell BKg30.out 0).trans rfl; have hf_g30_0_w31 := blk_frozen BKg30.out 0; have hz_g30_1_w31 : w31.cell? ⟨g30, 1, none⟩ = some (.slice none 0 0) := (blk_cell BKg30.out 1).trans rfl; have hf_g30_1_w31 := blk_frozen BKg30.out 1) | ((with_reducible refine gate_store (t := 25) (p := 5) rfl ?_); refine store_event (t := 25) (p := 5) (v := ?vo_w32) (w1 := ((w31.setCell ⟨g30, 0, none⟩ (.slice Ae29_0 r27.length cAe29_0)).setCell ⟨g30, 1, none⟩ (.slice Ae29_1 r28.length cAe29_1))) ?hg ?ho ?hn ?hr ?_; (case ho => rfl); (case hg => rfl); (case hn => rfl); (case hr => first | (go_simp; done) | (go_simp; rfl)); intro w32 hw; have hk : Kept w31 w32 (fun j => j = g30) := (by rw [hw]; exact Op.kept_put (Op.kept_put (Kept.refl _ _) 0 _) 1 _); have nOe4_0 := Aside0.mk (Op.mvS Oe4_0.out hk (fun j hj hs => by (have hj2 := hj.2; have q0 := SZw1.out; have q1 := GLg5.out; have q2 := GHg5.out; have q3 := SZw6.out; have q4 := SZw7.out; have q5 := SZw8.out; have q6 := GLg12.out; have q7 := GHg12.out; have q8 := SZw13.out; have q9 := SZw14.out; have q10 := SZw15.out; have q11 := SZw18.out; have q12 := SZw23.out; have q13 := SZw26.out; have q14 := GLg30.out; have q15 := GHg30.out; have q16 := SZw31.out; have hs2 : j = g30 := hs; omega))); have nOe4_1 := Aside0.mk (Op.mvR Oe4_1.out hk (fun j hj hs => by (have hj2 := hj.2; have q0 := SZw1.out; have q1 := GLg5.out; have q2 := GHg5.out; have q3 := SZw6.out; have q4 := SZw7.out; have q5 := SZw8.out; have q6 := GLg12.out; have q7 := GHg12.out; have q8 := SZw13.out; have q9 := SZw14.out; have q10 := SZw15.out; have q11 := SZw18.out; have q12 := SZw23.out; have q13 := SZw26.out; have q14 := GLg30.out; have q15 := GHg30.out; have q16 := SZw31.out; have hs2 : j = g30 := hs; omega))); have nOe11_0 := Aside0.mk (Op.mvS Oe11_0.out hk (fun j hj hs => by (have hj2 := hj.2; have q0 := SZw1.out; have q1 := GLg5.out; have q2 := GHg5.out; have q3 := SZw6.out; have q4 := SZw7.out; have q5 := SZw8.out; have q6 := GLg12.out; have q7 := GHg12.out; have q8 := SZw13.out; have q9 := SZw14.out; have q10 := SZw15.out; have q11 := SZw18.out; have q12 := SZw23.out; have q13 := SZw26.out; have q14 := GLg30.out; have q15 := GHg30.out; have q16 := SZw31.out; have hs2 : j = g30 := hs; omega))); have nOe11_1 := Aside0.mk (Op.mvR Oe11_1.out hk (fun j hj hs => by (have hj2 := hj.2; have q0 := SZw1.out; have q1 := GLg5.out; have q2 := GHg5.out; have q3 := SZw6.out; have q4 := SZw7.out; have q5 := SZw8.out; have q6 := GLg12.out; have q7 := GHg12.out; have q8 := SZw13.out; have q9 := SZw14.out; have q10 := SZw15.out; have q11 := SZw18.out; have q12 := SZw23.out; have q13 := SZw26.out; have q14 := GLg30.out; have q15 := GHg30.out; have q16 := SZw31.out; have hs2 : j = g30 := hs; omega))); have nOe29_0 := Aside0.mk (Op.mvS Oe29_0.out hk (fun j hj hs => by (have hj2 := hj.2; have q0 := SZw1.out; have q1 := GLg5.out; have q2 := GHg5.out; have q3 := SZw6.out; have q4 := SZw7.out; have q5 := SZw8.out; have q6 := GLg12.out; have q7 := GHg12.out; have q8 := SZw13.out; have q9 := SZw14.out; have q10 := SZw15.out; have q11 := SZw18.out; have q12 := SZw23.out; have q13 := SZw26.out; have q14 := GLg30.out; have q15 := GHg30.out; have q16 := SZw31.out; have hs2 : j = g30 := hs; omega))); have nOe29_1 := Aside0.mk (Op.mvR Oe29_1.out hk (fun j hj hs => by (have hj2 := hj.2; have q0 := SZw1.out; have q1 := GLg5.out; have q2 := GHg5.out; have q3 := SZw6.out; have q4 := SZw7.out; have q5 := SZw8.out; have q6 := GLg12.out; have q7 := GHg12.out; have q8 := SZw13.out; have q9 := SZw14.out; have q10 := SZw15.out; have q11 := SZw18.out; have q12 := SZw23.out; have q13 := SZw26.out; have q14 := GLg30.out; have q15 := GHg30.out; have q16 := SZw31.out; have hs2 : j = g30 := hs; omega))); have nBKg5 := Aside0.mk (Op.mvB BKg5.out hk (fun hs => by (have q0 := SZw1.out; have q1 := GLg5.out; have q2 := GHg5.out; have q3 := SZw6.out; have q4 := SZw7.out; have q5 := SZw8.out; have q6 := GLg12.out; have q7 := GHg12.out; have q8 := SZw13.out; have q9 := SZw14.out; have q10 := SZw15.out; have q11 := SZw18.out; have q12 := SZw23.out; have q13 := SZw26.out; have q14 := GLg30.out; have q15 := GHg30.out; have q16 := SZw31.out; have hs2 : g5 = g30 := hs; omega))); have nBKg12 := Aside0.mk (Op.mvB BKg12.out hk (fun hs => by (have q0 := SZw1.out; have q1 := GLg5.out; have q2 := GHg5.out; have q3 := SZw6.out; have q4 := SZw7.out; have q5 := SZw8.out; have q6 := GLg12.out; have q7 := GHg12.out; have q8 := SZw13.out; have q9 := SZw14.out; have q10 := SZw15.out; have q11 := SZw18.out; have q12 := SZw23.out; have q13 := SZw26.out; have q14 := GLg30.out; have q15 := GHg30.out; have q16 := SZw31.out; have hs2 : g12 = g30 := hs; omega))); have nBKg30 : Aside0 (w32.heap[g30]? = some (.cells #[.slice Ae29_0 r27.length cAe29_0, .slice Ae29_1 r28.length cAe29_1] 25 (0, 0))) := ⟨by rw [hw]; exact (blk_put (cs' := #[.slice Ae29_0 r27.length cAe29_0, .slice Ae29_1 r28.length cAe29_1]) (blk_put (cs' := #[.slice Ae29_0 r27.length cAe29_0, .slice none 0 0]) BKg30.out 0 _ rfl) 1 _ rfl)⟩; have nHB : Aside0 (Below w.heap.size w w32) := ⟨by rw [hw]; exact below_set (below_set (HB.out) GEg30.out) GEg30.out⟩; have SZw32 := Aside0.mk hk.1; clear Oe4_0 Oe4_1 Oe11_0 Oe11_1 Oe29_0 Oe29_1 BKg5 BKg12 BKg30 HB; have Oe4_0 := nOe4_0; have Oe4_1 := nOe4_1; have Oe11_0 := nOe11_0; have Oe11_1 := nOe11_1; have Oe29_0 := nOe29_0; have Oe29_1 := nOe29_1; have BKg5 := nBKg5; have BKg12 := nBKg12; have BKg30 := nBKg30; have HB := nHB; clear nOe4_0 nOe4_1 nOe11_0 nOe11_1 nOe29_0 nOe29_1 nBKg5 nBKg12 nBKg30 nHB; clear hw hk; have hz_g5_0_w32 : w32.cell? ⟨g5, 0, none⟩ = some (.slice Ae4_0 r2.length cAe4_0) := (blk_cell BKg5.out 0).trans rfl; have hf_g5_0_w32 := blk_frozen BKg5.out 0; have hz_g5_1_w32 : w32.cell? ⟨g5, 1, none⟩ = some (.slice Ae4_1 r3.length cAe4_1) := (blk_cell BKg5.out 1).trans rfl; have hf_g5_1_w32 := blk_frozen BKg5.out 1; have hz_g12_0_w32 : w32.cell? ⟨g12, 0, none⟩ = some (.slice Ae11_0 r9.length cAe11_0) := (blk_cell BKg12.out 0).trans rfl; have hf_g12_0_w32 := blk_frozen BKg12.out 0; have hz_g12_1_w32 : w32.cell? ⟨g12, 1, none⟩ = some (.slice Ae11_1 r10.length cAe11_1) := (blk_cell BKg12.out 1).trans rfl; have hf_g12_1_w32 := blk_frozen BKg12.out 1; have hz_g30_0_w32 : w32.cell? ⟨g30, 0, none⟩ = some (.slice Ae29_0 r27.length cAe29_0) := (blk_cell BKg30.out 0).trans rfl; have hf_g30_0_w32 := blk_frozen BKg30.out 0; have hz_g30_1_w32 : w32.cell? ⟨g30, 1, none⟩ = some (.slice Ae29_1 r28.length cAe29_1) := (blk_cell BKg30.out 1).trans rfl; have hf_g30_1_w32 := blk_frozen BKg30.out 1) | ((with_reducible refine gate_callee (f := 15) rfl ?_); refine goesL_ (some 26) rfl rfl Try.func15 (by kernel_rfl) rfl #[.agg #[.slice Ae29_0 r27.length cAe29_0, .slice Ae29_1 r28.length cAe29_1], .agg #[.slice Ae4_0 r2.length cAe4_0, .slice Ae4_1 r3.length cAe4_1]] rfl (by (try simp only [List.map_toArray, List.map_cons, List.map_nil]); first | done | rfl | (simp only [List.length_drop, List.length_take]; rfl)) ?_; (with_reducible refine (laws_eqPool.calls k _ _ r27 _ _ r28 _ _ r2 _ _ r3 true _ ?side1 ?side2 ?side3 ?side4 ?side5 ?side6 ?side7 ?side8 Ee35.out).mono ?_); (case side1 => exact (Kd.S_reads' Oe29_0.out).2.2); (case side2 => (have h_ := Kd.S_reads' Oe29_0.out; have h1_ := h_.1; have h2_ := h_.2.1; omega)); (case side3 => exact (Kd.R_reads' Oe29_1.out).2.2); (case side4 => (have h_ := Kd.R_reads' Oe29_1.out; have h1_ := h_.1; have h2_ := h_.2.1; omega)); (case side5 => exact (Kd.S_reads' Oe4_0.out).2.2); (case side6 => (have h_ := Kd.S_reads' Oe4_0.out; have h1_ := h_.1; have h2_ := h_.2.1; omega)); (case side7 => exact (Kd.R_reads' Oe4_1.out).2.2); (case side8 => (have h_ := Kd.R_reads' Oe4_1.out; have h1_ := h_.1; have h2_ := h_.2.1; omega)); rintro ex_ w33 ⟨rfl, hb⟩; refine ⟨_, rfl, ?_⟩; have hk := Kept.of_below hb (fun _ => False); have nOe4_0 := Aside0.mk (Op.mvS Oe4_0.out hk (fun _ _ hs => hs)); have nOe4_1 := Aside0.mk (Op.mvR Oe4_1.out hk (fun _ _ hs => hs)); have nOe11_0 := Aside0.mk (Op.mvS Oe11_0.out hk (fun _ _ hs => hs)); have nOe11_1 := Aside0.mk (Op.mvR Oe11_1.out hk (fun _ _ hs => hs)); have nOe29_0 := Aside0.mk (Op.mvS Oe29_0.out hk (fun _ _ hs => hs)); have nOe29_1 := Aside0.mk (Op.mvR Oe29_1.out hk (fun _ _ hs => hs)); have nBKg5 := Aside0.mk (Op.mvB BKg5.out hk (fun hs => hs)); have nBKg12 := Aside0.mk (Op.mvB BKg12.out hk (fun hs => hs)); have nBKg30 := Aside0.mk (Op.mvB BKg30.out hk (fun hs => hs)); have nHB := Aside0.mk (below_step HB.out hb); have SZw33 := Aside0.mk hb.size; clear Oe4_0 Oe4_1 Oe11_0 Oe11_1 Oe29_0 Oe29_1 BKg5 BKg12 BKg30 HB; have Oe4_0 := nOe4_0; have Oe4_1 := nOe4_1; have Oe11_0 := nOe11_0; have Oe11_1 := nOe11_1; have Oe29_0 := nOe29_0; have Oe29_1 := nOe29_1; have BKg5 := nBKg5; have BKg12 := nBKg12; have BKg30 := nBKg30; have HB := nHB; clear nOe4_0 nOe4_1 nOe11_0 nOe11_1 nOe29_0 nOe29_1 nBKg5 nBKg12 nBKg30 nHB; clear hb hk; have hz_g5_0_w33 : w33.cell? ⟨g5, 0, none⟩ = some (.slice Ae4_0 r2.length cAe4_0) := (blk_cell BKg5.out 0).trans rfl; have hf_g5_0_w33 := blk_frozen BKg5.out 0; have hz_g5_1_w33 : w33.cell? ⟨g5, 1, none⟩ = some (.slice Ae4_1 r3.length cAe4_1) := (blk_cell BKg5.out 1).trans rfl; have hf_g5_1_w33 := blk_frozen BKg5.out 1; have hz_g12_0_w33 : w33.cell? ⟨g12, 0, none⟩ = some (.slice Ae11_0 r9.length cAe11_0) := (blk_cell BKg12.out 0).trans rfl; have hf_g12_0_w33 := blk_frozen BKg12.out 0; have hz_g12_1_w33 : w33.cell? ⟨g12, 1, none⟩ = some (.slice Ae11_1 r10.length cAe11_1) := (blk_cell BKg12.out 1).trans rfl; have hf_g12_1_w33 := blk_frozen BKg12.out 1; have hz_g30_0_w33 : w33.cell? ⟨g30, 0, none⟩ = some (.slice Ae29_0 r27.length cAe29_0) := (blk_cell BKg30.out 0).trans rfl; have hf_g30_0_w33 := blk_frozen BKg30.out 0; have hz_g30_1_w33 : w33.cell? ⟨g30, 1, none⟩ = some (.slice Ae29_1 r28.length cAe29_1) := (blk_cell BKg30.out 1).trans rfl; have hf_g30_1_w33 := blk_frozen BKg30.out 1) | ((with_reducible refine gate_callee (f := 17) rfl ?_); refine goesL_ (some 30) rfl rfl Try.func17 (by kernel_rfl) rfl #[.agg #[.slice Ae11_0 r9.length cAe11_0, .slice Ae11_1 r10.length cAe11_1], .int .i64 1] rfl (by (try simp only [List.map_toArray, List.map_cons, List.map_nil]); first | done | rfl | (simp only [List.length_drop, List.length_take]; rfl)) ?_; refine Op.args_eq (args := #[.agg #[.slice Ae11_0 r20.length cAe11_0, .slice Ae11_1 r21.length cAe11_1], .int .i64 1]) (by simp only [LOe11_0_r20.out, LOe11_1_r21.out]) ?_; (with_reducible refine (laws_heldPool.calls k _ _ r20 _ _ r21 1 r37 _ ?side1 ?side2 ?side3 ?side4 Ee38.out).mono ?_); (case side1 => exact (Kd.S_reads' Oe11_0.out).2.2); (case side2 => (have h_ := Kd.S_reads' Oe11_0.out; have h1_ := h_.1; have h2_ := h_.2.1; omega)); (case side3 => exact (Kd.R_reads' Oe11_1.out).2.2); (case side4 => (have h_ := Kd.R_reads' Oe11_1.out; have h1_ := h_.1; have h2_ := h_.2.1; omega)); rintro ex_ w36 ⟨rfl, hb⟩; refine ⟨_, rfl, ?_⟩; have hk := Kept.of_below hb (fun _ => False); have nOe4_0 := Aside0.mk (Op.mvS Oe4_0.out hk (fun _ _ hs => hs)); have nOe4_1 := Aside0.mk (Op.mvR Oe4_1.out hk (fun _ _ hs => hs)); have nOe11_0 := Aside0.mk (Op.mvS Oe11_0.out hk (fun _ _ hs => hs)); have nOe11_1 := Aside0.mk (Op.mvR Oe11_1.out hk (fun _ _ hs => hs)); have nOe29_0 := Aside0.mk (Op.mvS Oe29_0.out hk (fun _ _ hs => hs)); have nOe29_1 := Aside0.mk (Op.mvR Oe29_1.out hk (fun _ _ hs => hs)); have nBKg5 := Aside0.mk (Op.mvB BKg5.out hk (fun hs => hs)); have nBKg12 := Aside0.mk (Op.mvB BKg12.out hk (fun hs => hs)); have nBKg30 := Aside0.mk (Op.mvB BKg30.out hk (fun hs => hs)); have nHB := Aside0.mk (below_step HB.out hb); have SZw36 := Aside0.mk hb.size; clear Oe4_0 Oe4_1 Oe11_0 Oe11_1 Oe29_0 Oe29_1 BKg5 BKg12 BKg30 HB; have Oe4_0 := nOe4_0; have Oe4_1 := nOe4_1; have Oe11_0 := nOe11_0; have Oe11_1 := nOe11_1; have Oe29_0 := nOe29_0; have Oe29_1 := nOe29_1; have BKg5 := nBKg5; have BKg12 := nBKg12; have BKg30 := nBKg30; have HB := nHB; clear nOe4_0 nOe4_1 nOe11_0 nOe11_1 nOe29_0 nOe29_1 nBKg5 nBKg12 nBKg30 nHB; clear hb hk; have hz_g5_0_w36 : w36.cell? ⟨g5, 0, none⟩ = some (.slice Ae4_0 r2.length cAe4_0) := (blk_cell BKg5.out 0).trans rfl; have hf_g5_0_w36 := blk_frozen BKg5.out 0; have hz_g5_1_w36 : w36.cell? ⟨g5, 1, none⟩ = some (.slice Ae4_1 r3.length cAe4_1) := (blk_cell BKg5.out 1).trans rfl; have hf_g5_1_w36 := blk_frozen BKg5.out 1; have hz_g12_0_w36 : w36.cell? ⟨g12, 0, none⟩ = some (.slice Ae11_0 r9.length cAe11_0) := (blk_cell BKg12.out 0).trans rfl; have hf_g12_0_w36 := blk_frozen BKg12.out 0; have hz_g12_1_w36 : w36.cell? ⟨g12, 1, none⟩ = some (.slice Ae11_1 r10.length cAe11_1) := (blk_cell BKg12.out 1).trans rfl; have hf_g12_1_w36 := blk_frozen BKg12.out 1; have hz_g30_0_w36 : w36.cell? ⟨g30, 0, none⟩ = some (.slice Ae29_0 r27.length cAe29_0) := (blk_cell BKg30.out 0).trans rfl; have hf_g30_0_w36 := blk_frozen BKg30.out 0; have hz_g30_1_w36 : w36.cell? ⟨g30, 1, none⟩ = some (.slice Ae29_1 r28.length cAe29_1) := (blk_cell BKg30.out 1).trans rfl; have hf_g30_1_w36 := blk_frozen BKg30.out 1))
  go_ret
  exact ⟨rfl, HB.out⟩

/-- THE ONE PURE STATEMENT of laws_FnExactNewPool: yours. -/
def laws_FnExactNewPool.Pure : Prop := ∃ k, laws_FnExactNewPool.f k  = some true
set_option maxHeartbeats 1000000 in
theorem laws_FnExactNewPool.walk (P : laws_FnExactNewPool.Pure)  (w : World)  :
    Calls Try.prog 3 #[] w fun e w' => e = .returned (.bool true) ∧ Below w.heap.size w w' := by
  obtain ⟨k, h⟩ := P  
  refine (laws_FnExactNewPool.calls k  true w h).mono ?_
  rintro e w' ⟨rfl, hd⟩
  exact ⟨rfl, hd⟩

end Go.Proofs.Ytnafnpoflheonaa.PFnExactNewPool
