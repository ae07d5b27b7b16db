/- Contracts of functions of the translation, written by a program of this repo (a changed copy of the printer). Not trusted: Lean checks it. -/
-- squeezed
import Derived.Test.YtdhclelfnbjikaaPFnExactReachedInx0
import Derived.Test.YtdhclelfnbjikaaPFnExactReachedInx1
import Derived.Test.YtdhclelfnbjikaaPFnExactReachedInx2
namespace Go.Proofs.Ytdhclelfnbjikaa.PFnExactReachedIn
open Go.RowKit Go.Proofs.YtdhclelfnbjikaaW.PrintWords Go.Proofs.YtdhclelfnbjikaaW.PrintLast Go.Proofs.YtdhclelfnbjikaaW.PrintMore
attribute [local go_sem] max2_int min2_int max_two min_two max_three min_three max_four min_four   -- for this text's walks alone
set_option linter.unusedVariables false
set_option linter.unusedSimpArgs false

/-! ### laws_markGraph: function 31 -/
def laws_markGraph.f (k : Nat) (l0 : List S60) (l1 : List Int) (l2 : List Int) (a : Int) : Option (Int × List S60 × List Int × List Int) :=
 (laws_markNodeS.f k l0 a).bind fun p0 => (laws_markIntS.f k l1 p0.1).bind fun p1 => (laws_markIntS.f k l2 p1.1).bind fun p2 => some (p2.1, p0.2, p1.2, p2.2)
set_option maxHeartbeats 4000000 in
theorem laws_markGraph.calls (k : Nat) (P0 P1 P2 : Nat → Prop) (u0 u1 u2 : Value) (l0 : List S60) (l1 : List Int) (l2 : List Int) (a1 r : Int) (r0 : List S60) (r1 : List Int) (r2 : List Int) (w0 w : World) (hB : Below w0.heap.size w0 w) (h0 : Kd.S k60 60 w w0.heap.size P0 u0 l0) (h1 : Kd.R (Kd.int .i64) 3 w w0.heap.size P1 u1 l1) (h2 : Kd.R (Kd.int .i64) 3 w w0.heap.size P2 u2 l2) (d01 : ∀ j, P0 j → ¬ P1 j) (d02 : ∀ j, P0 j → ¬ P2 j) (d12 : ∀ j, P1 j → ¬ P2 j) (h : laws_markGraph.f k l0 l1 l2 a1 = some (r, r0, r1, r2)) :
  Calls Try.prog 31 #[.agg #[u0, u1, u2], .int .i64 a1] w fun e w' => e = .returned (.int .i64 r) ∧ Kd.S k60 60 w' w0.heap.size P0 u0 r0 ∧ Kd.R (Kd.int .i64) 3 w' w0.heap.size P1 u1 r1 ∧ Kd.R (Kd.int .i64) 3 w' w0.heap.size P2 u2 r2 ∧ Below w0.heap.size w0 w' ∧ Kept w w' (fun j => P0 j ∨ P1 j ∨ P2 j) := by
 obtain ⟨⟨x0, y0⟩, e0, h⟩ := Option.bind_eq_some_iff.1 h
 obtain ⟨⟨x1, y1⟩, e1, h⟩ := Option.bind_eq_some_iff.1 h
 obtain ⟨⟨x2, y2⟩, e2, h⟩ := Option.bind_eq_some_iff.1 h
 simp only [Option.some.injEq, Prod.mk.injEq] at h
 obtain ⟨rfl, rfl, rfl, rfl⟩ := h
 have E0 := Aside0.mk e0
 have E1 := Aside0.mk e1
 have E2 := Aside0.mk e2
 obtain ⟨A0, c0, rfl⟩ := Kd.S_slice h0
 obtain ⟨A1, c1, rfl⟩ := Kd.R_slice h1
 obtain ⟨A2, c2, rfl⟩ := Kd.R_slice h2
 have O0 := Aside0.mk (Op.bdS h0)
 have O1 := Aside0.mk (Op.bdR h1)
 have O2 := Aside0.mk (Op.bdR h2)
 have D01 := Aside0.mk d01
 have D02 := Aside0.mk d02
 have D12 := Aside0.mk d12
 have HB := Aside0.mk hB
 have HK := Aside0.mk (Kept.refl w (fun j => P0 j ∨ P1 j ∨ P2 j))
 clear hB e0 h0 e1 h1 e2 h2 d01 d02 d12
 go_enter Try.func31, Try.ntmps31
 go_wp2_with (first | ((with_reducible refine gate_dst (N := 2) rfl ?_); refine box_event ?hg (N := 2) ?hd (cs := #[(.slice A0 l0.length c0), (.slice A1 l1.length c1), (.slice A2 l2.length c2)]) (t := 40) ?hr ?_; (case hd => rfl); (case hg => rfl); (case hr => first | (go_simp; done) | (go_simp; rfl)); intro g hg w1 hbox hb; have hk1 := Kept.of_below hb (fun _ => False); have n0 := Aside0.mk (Op.mvS O0.out hk1 (fun _ _ h => h)); have n1 := Aside0.mk (Op.mvR O1.out hk1 (fun _ _ h => h)); have n2 := Aside0.mk (Op.mvR O2.out hk1 (fun _ _ h => h)); have n8 := Aside0.mk (Kept.then_ HK.out hk1 (fun j hj => hj.elim)); have n9 := Aside0.mk (Op.a5 HB.out hb); have BK := Aside0.mk hbox; have GN := Aside0.mk (show w.heap.size ≤ g from Nat.le_of_eq hg.symm); clear O0 O1 O2 HK HB; have O0 := n0; have O1 := n1; have O2 := n2; have HK := n8; have HB := n9; clear n0 n1 n2 n8 n9 hg hbox hb hk1; have hz0 : w1.cell? ⟨g, 0, none⟩ = some (.slice A0 l0.length c0) := (blk_cell BK.out 0).trans rfl; have hz1 : w1.cell? ⟨g, 1, none⟩ = some (.slice A1 l1.length c1) := (blk_cell BK.out 1).trans rfl; have hz2 : w1.cell? ⟨g, 2, none⟩ = some (.slice A2 l2.length c2) := (blk_cell BK.out 2).trans rfl; have hf0 := blk_frozen BK.out 0; have hf1 := blk_frozen BK.out 1; have hf2 := blk_frozen BK.out 2) | ((with_reducible refine gate_callee (f := 21) rfl ?_); refine goesL_ (some 8) rfl rfl Try.func21 (by kernel_rfl) rfl #[(.slice A0 l0.length c0), .int .i64 a1] rfl (by (try simp only [List.map_toArray, List.map_cons, List.map_nil]); first | done | rfl) ?_; (with_reducible refine (laws_markNodeS.calls k (fun j => P0 j ∧ j < w.heap.size) (.slice A0 l0.length c0) l0 a1 x0 y0 w0 _ HB.out O0.out E0.out).mono ?_); rintro e w2 ⟨rfl, ho, hb2, hk2⟩; refine ⟨_, rfl, ?_⟩; have n0 := Aside0.mk ho; have n1 := Aside0.mk (Op.mvR O1.out hk2 (fun j hj hs => D01.out j hs.1 hj.1)); have n2 := Aside0.mk (Op.mvR O2.out hk2 (fun j hj hs => D02.out j hs.1 hj.1)); have n8 := Aside0.mk (Kept.then_ HK.out hk2 (fun j hs => .inl (.inl hs.1))); have n9 := Aside0.mk (Op.mvB BK.out hk2 (fun hs => Nat.lt_irrefl _ (Nat.lt_of_lt_of_le hs.2 GN.out))); clear O0 O1 O2 HK HB BK; have O0 := n0; have O1 := n1; have O2 := n2; have HK := n8; have BK := n9; have HB := Aside0.mk hb2; clear n0 n1 n2 n8 n9 ho hb2 hk2; have hz0 : w2.cell? ⟨g, 0, none⟩ = some (.slice A0 l0.length c0) := (blk_cell BK.out 0).trans rfl; have hz1 : w2.cell? ⟨g, 1, none⟩ = some (.slice A1 l1.length c1) := (blk_cell BK.out 1).trans rfl; have hz2 : w2.cell? ⟨g, 2, none⟩ = some (.slice A2 l2.length c2) := (blk_cell BK.out 2).trans rfl; have hf0 := blk_frozen BK.out 0; have hf1 := blk_frozen BK.out 1; have hf2 := blk_frozen BK.out 2) | ((with_reducible refine gate_callee (f := 22) rfl ?_); refine goesL_ (some 12) rfl rfl Try.func22 (by kernel_rfl) rfl #[(.slice A1 l1.length c1), .int .i64 x0] rfl (by (try simp only [List.map_toArray, List.map_cons, List.map_nil]); first | done | rfl) ?_; (with_reducible refine (laws_markIntS.calls k (fun j => P1 j ∧ j < w.heap.size) (.slice A1 l1.length c1) l1 x0 x1 y1 w0 _ HB.out O1.out E1.out).mono ?_); rintro e w3 ⟨rfl, ho, hb2, hk2⟩; refine ⟨_, rfl, ?_⟩; have n0 := Aside0.mk (Op.mvS O0.out hk2 (fun j hj hs => D01.out j hj.1 hs.1)); have n1 := Aside0.mk (Kd.R_reok (ok := fun j => P1 j ∧ j < w.heap.size) rfl ho (fun j hj => O1.out.1 j hj)); have n2 := Aside0.mk (Op.mvR O2.out hk2 (fun j hj hs => D12.out j hs.1 hj.1)); have n8 := Aside0.mk (Kept.then_ HK.out hk2 (fun j hs => .inl (.inr (.inl hs.1)))); have n9 := Aside0.mk (Op.mvB BK.out hk2 (fun hs => Nat.lt_irrefl _ (Nat.lt_of_lt_of_le hs.2 GN.out))); clear O0 O1 O2 HK HB BK; have O0 := n0; have O1 := n1; have O2 := n2; have HK := n8; have BK := n9; have HB := Aside0.mk hb2; clear n0 n1 n2 n8 n9 ho hb2 hk2; have hz0 : w3.cell? ⟨g, 0, none⟩ = some (.slice A0 l0.length c0) := (blk_cell BK.out 0).trans rfl; have hz1 : w3.cell? ⟨g, 1, none⟩ = some (.slice A1 l1.length c1) := (blk_cell BK.out 1).trans rfl; have hz2 : w3.cell? ⟨g, 2, none⟩ = some (.slice A2 l2.length c2) := (blk_cell BK.out 2).trans rfl; have hf0 := blk_frozen BK.out 0; have hf1 := blk_frozen BK.out 1; have hf2 := blk_frozen BK.out 2) | ((with_reducible refine gate_callee (f := 22) rfl ?_); refine goesL_ (some 16) rfl rfl Try.func22 (by kernel_rfl) rfl #[(.slice A2 l2.length c2), .int .i64 x1] rfl (by (try simp only [List.map_toArray, List.map_cons, List.map_nil]); first | done | rfl) ?_; (with_reducible refine (laws_markIntS.calls k (fun j => P2 j ∧ j < w.heap.size) (.slice A2 l2.length c2) l2 x1 x2 y2 w0 _ HB.out O2.out E2.out).mono ?_); rintro e w4 ⟨rfl, ho, hb2, hk2⟩; refine ⟨_, rfl, ?_⟩; have n0 := Aside0.mk (Op.mvS O0.out hk2 (fun j hj hs => D02.out j hj.1 hs.1)); have n1 := Aside0.mk (Op.mvR O1.out hk2 (fun j hj hs => D12.out j hj.1 hs.1)); have n2 := Aside0.mk (Kd.R_reok (ok := fun j => P2 j ∧ j < w.heap.size) rfl ho (fun j hj => O2.out.1 j hj)); have n8 := Aside0.mk (Kept.then_ HK.out hk2 (fun j hs => .inl (.inr (.inr (hs.1))))); have n9 := Aside0.mk (Op.mvB BK.out hk2 (fun hs => Nat.lt_irrefl _ (Nat.lt_of_lt_of_le hs.2 GN.out))); clear O0 O1 O2 HK HB BK; have O0 := n0; have O1 := n1; have O2 := n2; have HK := n8; have BK := n9; have HB := Aside0.mk hb2; clear n0 n1 n2 n8 n9 ho hb2 hk2; have hz0 : w4.cell? ⟨g, 0, none⟩ = some (.slice A0 l0.length c0) := (blk_cell BK.out 0).trans rfl; have hz1 : w4.cell? ⟨g, 1, none⟩ = some (.slice A1 l1.length c1) := (blk_cell BK.out 1).trans rfl; have hz2 : w4.cell? ⟨g, 2, none⟩ = some (.slice A2 l2.length c2) := (blk_cell BK.out 2).trans rfl; have hf0 := blk_frozen BK.out 0; have hf1 := blk_frozen BK.out 1; have hf2 := blk_frozen BK.out 2))
 go_ret
 exact ⟨rfl, Kd.S_mono O0.out (fun _ h => h.1), Kd.R_mono O1.out (fun _ h => h.1), Kd.R_mono O2.out (fun _ h => h.1), HB.out, HK.out⟩


/-! ### spec_l10Nodes: function 56 -/
mutual
def spec_l10Nodes.l0 : Nat → List (S60) → List Int → List (S60) → Int → Int → Option (Bool)
 | 0, _, _, _, _, _ => none
 | k + 1, x0, x1, x11, x12, x13 => if x13 < x12 then (if 0 ≤ x13 then (if x13 < (x11.length : Int) then (spec_l10Nodes.l1 k x0 x1 x13 x11 x12 x13 ((rd_T60 x11 x13).f0) (((rd_T60 x11 x13).f0).length : Int) 0 ((rd_T60 x11 x13).f0) ((rd_T60 x11 x13).f1)) else (none)) else (none)) else (spec_l10Nodes.l2 k x0 x1 x1 (x1.length : Int) 0)
def spec_l10Nodes.l1 : Nat → List (S60) → List Int → Int → List (S60) → Int → Int → List Int → Int → Int → List Int → Bool → Option (Bool)
 | 0, _, _, _, _, _, _, _, _, _, _, _ => none
 | k + 1, x0, x1, x5, x11, x12, x13, x19, x20, x21, x158000, x158001 => if x21 < x20 then (if 0 ≤ x21 then (if x21 < (x19.length : Int) then (if (rd x19 x21) < 0 then (some false) else (if (rd x19 x21) ≥ x5 then (some false) else (if 0 ≤ (rd x19 x21) then (if (rd x19 x21) < (x0.length : Int) then (if (rd_T60 x0 (rd x19 x21)).f1 = true then (some false) else (spec_l10Nodes.l1 k x0 x1 x5 x11 x12 x13 x19 x20 (wrap64 (x21 + 1)) x158000 x158001)) else (none)) else (none)))) else (none)) else (none)) else (if (x158000.length : Int) > 6 then (some false) else (if x158001 = true then (if (x158000.length : Int) > 0 then (some false) else (spec_l10Nodes.l0 k x0 x1 x11 x12 (wrap64 (x13 + 1)))) else (spec_l10Nodes.l0 k x0 x1 x11 x12 (wrap64 (x13 + 1)))))
def spec_l10Nodes.l2 : Nat → List (S60) → List Int → List Int → Int → Int → Option (Bool)
 | 0, _, _, _, _, _ => none
 | k + 1, x0, x1, x55, x56, x57 => if x57 < x56 then (if 0 ≤ x57 then (if x57 < (x55.length : Int) then (if (rd x55 x57) < 0 then (some false) else (if (rd x55 x57) ≥ (x0.length : Int) then (some false) else (if 0 ≤ (rd x55 x57) then (if (rd x55 x57) < (x0.length : Int) then (if (rd_T60 x0 (rd x55 x57)).f1 = true then (some false) else (spec_l10Nodes.l2 k x0 x1 x55 x56 (wrap64 (x57 + 1)))) else (none)) else (none)))) else (none)) else (none)) else (if (x0.length : Int) ≤ 14 then (some (decide ((x1.length : Int) ≤ 6))) else (some false))
end
def spec_l10Nodes.f (k : Nat) (l0 : List (S60)) (l1 : List Int) : Option (Bool) := spec_l10Nodes.l0 k l0 l1 l0 (l0.length : Int) 0
theorem spec_l10Nodes.mono_l : ∀ k, (∀ y0 y1 y2 y3 y4, LeO (spec_l10Nodes.l0 k y0 y1 y2 y3 y4) (spec_l10Nodes.l0 (k + 1) y0 y1 y2 y3 y4)) ∧ (∀ y0 y1 y2 y3 y4 y5 y6 y7 y8 y9 y10, LeO (spec_l10Nodes.l1 k y0 y1 y2 y3 y4 y5 y6 y7 y8 y9 y10) (spec_l10Nodes.l1 (k + 1) y0 y1 y2 y3 y4 y5 y6 y7 y8 y9 y10)) ∧ (∀ y0 y1 y2 y3 y4, LeO (spec_l10Nodes.l2 k y0 y1 y2 y3 y4) (spec_l10Nodes.l2 (k + 1) y0 y1 y2 y3 y4))
 | 0 => ⟨fun _ _ _ _ _ r h => by simp [spec_l10Nodes.l0] at h, fun _ _ _ _ _ _ _ _ _ _ _ r h => by simp [spec_l10Nodes.l1] at h, fun _ _ _ _ _ r h => by simp [spec_l10Nodes.l2] at h⟩
 | k + 1 => by
  obtain ⟨ih0, ih1, ih2⟩ := spec_l10Nodes.mono_l k
  refine ⟨?_, ?_, ?_⟩
  ·intro y0 y1 y2 y3 y4
   unfold spec_l10Nodes.l0
   repeat' first
   | (with_reducible exact ih0 _ _ _ _ _)
   | (with_reducible exact ih1 _ _ _ _ _ _ _ _ _ _ _)
   | (with_reducible exact ih2 _ _ _ _ _)
   | (with_reducible exact LeO.refl _)
   | (with_reducible exact LeO.none _)
   | (with_reducible refine LeO.ite ?_ ?_)
   | (with_reducible refine LeO.bind ?_ (fun _ => ?_))
   | exact ih0 _ _ _ _ _
   | exact ih1 _ _ _ _ _ _ _ _ _ _ _
   | exact ih2 _ _ _ _ _
   | exact LeO.none _
   | refine LeO.ite ?_ ?_
   | refine LeO.bind ?_ (fun _ => ?_)
  ·intro y0 y1 y2 y3 y4 y5 y6 y7 y8 y9 y10
   unfold spec_l10Nodes.l1
   repeat' first
   | (with_reducible exact ih0 _ _ _ _ _)
   | (with_reducible exact ih1 _ _ _ _ _ _ _ _ _ _ _)
   | (with_reducible exact ih2 _ _ _ _ _)
   | (with_reducible exact LeO.refl _)
   | (with_reducible exact LeO.none _)
   | (with_reducible refine LeO.ite ?_ ?_)
   | (with_reducible refine LeO.bind ?_ (fun _ => ?_))
   | exact ih0 _ _ _ _ _
   | exact ih1 _ _ _ _ _ _ _ _ _ _ _
   | exact ih2 _ _ _ _ _
   | exact LeO.none _
   | refine LeO.ite ?_ ?_
   | refine LeO.bind ?_ (fun _ => ?_)
  ·intro y0 y1 y2 y3 y4
   unfold spec_l10Nodes.l2
   repeat' first
   | (with_reducible exact ih0 _ _ _ _ _)
   | (with_reducible exact ih1 _ _ _ _ _ _ _ _ _ _ _)
   | (with_reducible exact ih2 _ _ _ _ _)
   | (with_reducible exact LeO.refl _)
   | (with_reducible exact LeO.none _)
   | (with_reducible refine LeO.ite ?_ ?_)
   | (with_reducible refine LeO.bind ?_ (fun _ => ?_))
   | exact ih0 _ _ _ _ _
   | exact ih1 _ _ _ _ _ _ _ _ _ _ _
   | exact ih2 _ _ _ _ _
   | exact LeO.none _
   | refine LeO.ite ?_ ?_
   | refine LeO.bind ?_ (fun _ => ?_)
theorem spec_l10Nodes.mono : ∀ a0 a1 k, LeO (spec_l10Nodes.f k a0 a1) (spec_l10Nodes.f (k + 1) a0 a1) := by
 intro a0 a1 k
 obtain ⟨ih0, ih1, ih2⟩ := spec_l10Nodes.mono_l k
 unfold spec_l10Nodes.f
 repeat' first
   | (with_reducible exact ih0 _ _ _ _ _)
   | (with_reducible exact ih1 _ _ _ _ _ _ _ _ _ _ _)
   | (with_reducible exact ih2 _ _ _ _ _)
   | (with_reducible exact LeO.refl _)
   | (with_reducible exact LeO.none _)
   | (with_reducible refine LeO.ite ?_ ?_)
   | (with_reducible refine LeO.bind ?_ (fun _ => ?_))
   | exact ih0 _ _ _ _ _
   | exact ih1 _ _ _ _ _ _ _ _ _ _ _
   | exact ih2 _ _ _ _ _
   | exact LeO.none _
   | refine LeO.ite ?_ ?_
   | refine LeO.bind ?_ (fun _ => ?_)
set_option maxHeartbeats 8000000 in
set_option maxRecDepth 100000 in
theorem spec_l10Nodes.calls (k : Nat) (A0 : Option Addr) (c0 : Nat) (l0 : List (S60)) (A1 : Option Addr) (c1 : Nat) (l1 : List Int) (r : Bool) (w : World) (hr0 : Kd.C k60 w A0 l0.length l0) (hc0 : l0.length ≤ c0) (hr1 : Kd.C (Kd.int .i64) w A1 l1.length l1) (hc1 : l1.length ≤ c1) (h : spec_l10Nodes.f k l0 l1 = some r) :
  Calls Try.prog 56 #[.slice A0 l0.length c0, .slice A1 l1.length c1] w fun e w' => e = .returned (.bool r) ∧ Below w.heap.size w w' := by
 have hu60 := Try.underlying60
 have HR0 := Aside0.mk hr0
 have HC0 := Aside0.mk hc0
 clear hr0 hc0
 have HR1 := Aside0.mk hr1
 have HC1 := Aside0.mk hc1
 clear hr1 hc1
 have HB := Aside0.mk (Below.refl w.heap.size w)
 have H : (spec_l10Nodes.l0 k l0 l1 l0 (l0.length : Int) 0) = some r := h
 clear h
 have H' := Aside0.mk H
 clear H
 go_enter Try.func56, Try.ntmps56
 go_wp2
 go_loopg [13] k (fun kq v13 w' => ∃ (x13_1 : Int), v13 = .int .i64 x13_1 ∧ Aside0 (spec_l10Nodes.l0 kq l0 l1 l0 (l0.length : Int) x13_1 = some r) ∧ Aside0 (kq ≤ k) ∧ Aside0 (Below w.heap.size w w'))
 case atStart => exact ⟨(0), (by first | rfl | (simp; done) | (simp [*]; done)), H', ⟨Nat.le_refl _⟩, ⟨by repeat (first | (with_reducible first | exact HB.out | apply Op.a1 | apply Op.a2 | apply Op.a3) | exact HB.out)⟩⟩
 case round =>
  clear H'
  try clear c1
  try clear p2
  obtain ⟨x13_1, rfl, HA, HK1, HB⟩ := hrel
  cases gk with
  | zero => exact absurd HA.out (by simp [spec_l10Nodes.l0])
  | succ k1 =>
   have H := HA.out
   clear HA
   simp only [spec_l10Nodes.l0] at H
   by_cases c3 : x13_1 < (l0.length : Int)
   ·rw [if_pos c3] at H
    have c3b0 : decide (x13_1 < (l0.length : Int)) = true := decide_eq_true c3
    clear c3
    by_cases c4 : 0 ≤ x13_1
    ·rw [if_pos c4] at H
     have c4b0 : decide (0 ≤ x13_1) = true := decide_eq_true c4
     clear c4
     by_cases c5 : x13_1 < (l0.length : Int)
     ·rw [if_pos c5] at H
      have c5b0 : decide (x13_1 < (l0.length : Int)) = true := decide_eq_true c5
      clear c5
      have H' := Aside0.mk H
      clear H
      have p156 : 0 ≤ (x13_1 : Int) := of_decide_eq_true (by first | (with_reducible assumption) | assumption)
      have q156 : x13_1 < (l0.length : Int) := of_decide_eq_true (by first | (with_reducible assumption) | assumption)
      obtain ⟨ad156, A156_0, c156_0, e156, hx156_0, hx156_1, hl156_0, hi156_0⟩ := at_T60 HR0.out x13_1 p156 q156
      cases e156
      replace hx156_0 := (HB.out.cell (World.block_lt_of_cell? w _ hx156_0)).trans hx156_0
      replace hx156_1 := (HB.out.cell (World.block_lt_of_cell? w _ hx156_1)).trans hx156_1
      have HR156_0 := Aside0.mk hi156_0
      have HC156_0 := Aside0.mk hl156_0
      clear hi156_0 hl156_0
      replace p156 := eq_true p156
      replace q156 := eq_true q156
      go_wp2_with (first | ((with_reducible refine gate_dst (N := 6) rfl ?_); (try (refine gate_guard (by rfl) ?_; dsimp only)); refine box_event ?hg (N := 6) ?hd (cs := #[.slice none 0 0, .bool false]) (t := 60) ?hr ?_; (case hd => rfl); (case hg => rfl); (case hr => first | (go_simp; done) | (go_simp; rfl)); intro gb157 hg w6 hbox hb; have n0_ := Aside0.mk (Op.a5 (by repeat (first | (with_reducible first | exact HB.out | apply Op.a1 | apply Op.a2 | apply Op.a3) | exact HB.out)) hb); have n1_ := Aside0.mk (hbox); have n2_ := Aside0.mk ((by rw [hg]; exact (Op.a6 (by repeat (first | (with_reducible first | exact HB.out | apply Op.a1 | apply Op.a2 | apply Op.a3) | exact HB.out))) : w.heap.size ≤ gb157)); have n3_ := Aside0.mk ((by rw [hg]; exact (Op.a6 (by repeat (first | (with_reducible first | exact HB.out | apply Op.a1 | apply Op.a2 | apply Op.a3) | exact HB.out))) : w.heap.size ≤ gb157)); clear HB; have HB := n0_; have BK157 := n1_; have GW157 := n2_; have GE157 := n3_; clear n0_ n1_ n2_ n3_; clear hb hbox hg; have hcz7_0 : w6.cell? ⟨gb157, 0, none⟩ = some (.slice none 0 0) := (blk_cell BK157.out 0).trans rfl; have hcz7_1 : w6.cell? ⟨gb157, 1, none⟩ = some (.bool false) := (blk_cell BK157.out 1).trans rfl; have hfz7_0 := blk_frozen BK157.out 0; have hfz7_1 := blk_frozen BK157.out 1))
      go_loopg [21] k1 (fun kq v21 w' => ∃ (x21_2 : Int), v21 = .int .i64 x21_2 ∧ Aside0 (spec_l10Nodes.l1 kq l0 l1 x13_1 l0 (l0.length : Int) x13_1 ((rd_T60 l0 x13_1).f0) (((rd_T60 l0 x13_1).f0).length : Int) x21_2 ((rd_T60 l0 x13_1).f0) ((rd_T60 l0 x13_1).f1) = some r) ∧ Aside0 (kq ≤ k1) ∧ Aside0 (w'.heap[gb157]? = some (.cells #[(.slice A156_0 ((rd_T60 l0 x13_1).f0).length c156_0), .bool ((rd_T60 l0 x13_1).f1)] 60 (0, 0))) ∧ Aside0 (Below w.heap.size w w'))
      case atStart => exact ⟨(0), (by first | rfl | (simp; done) | (simp [*]; done)), H', ⟨Nat.le_refl _⟩, ⟨by (with_reducible repeat (first | refine Op.b1 ?_ _ | refine Op.b2 ?_ | refine Op.b3 ?_ _)); refine blk_put (cs := #[.slice A156_0 ((rd_T60 l0 x13_1).f0).length c156_0, .bool false]) ?_ 1 _ rfl; (with_reducible repeat (first | refine Op.b1 ?_ _ | refine Op.b2 ?_ | refine Op.b3 ?_ _)); refine blk_put (cs := #[.slice none 0 0, .bool false]) ?_ 0 _ rfl; (with_reducible repeat (first | refine Op.b1 ?_ _ | refine Op.b2 ?_ | refine Op.b3 ?_ _)); exact BK157.out⟩, ⟨by repeat (first | (with_reducible first | exact HB.out | apply Op.a1 | apply Op.a2 | apply Op.a3 | refine Op.a4 ?_ GE157.out) | exact HB.out)⟩⟩
      case round =>
       clear H'
       try clear c1
       try clear p1
       try clear q1
       try clear hx1
       try clear p2
       try clear c3
       try clear c3b0
       try clear c4
       try clear c4b0
       try clear c5
       try clear c5b0
       try clear hcz7_0
       try clear hcz7_1
       try clear hfz7_0
       try clear hfz7_1
       try clear hx156_0
       try clear hx156_1
       try clear p156
       try clear p2
       try clear q156
       obtain ⟨x21_2, rfl, HA, HK2, BK157, HB⟩ := hrel
       cases gk with
       | zero => exact absurd HA.out (by simp [spec_l10Nodes.l1])
       | succ k2 =>
        have H := HA.out
        clear HA
        simp only [spec_l10Nodes.l1] at H
        by_cases c8 : x21_2 < (((rd_T60 l0 x13_1).f0).length : Int)
        ·rw [if_pos c8] at H
         have c8b0 : decide (x21_2 < (((rd_T60 l0 x13_1).f0).length : Int)) = true := decide_eq_true c8
         clear c8
         by_cases c9 : 0 ≤ x21_2
         ·rw [if_pos c9] at H
          have c9b0 : decide (0 ≤ x21_2) = true := decide_eq_true c9
          clear c9
          by_cases c10 : x21_2 < (((rd_T60 l0 x13_1).f0).length : Int)
          ·rw [if_pos c10] at H
           have c10b0 : decide (x21_2 < (((rd_T60 l0 x13_1).f0).length : Int)) = true := decide_eq_true c10
           clear c10
           by_cases c11 : (rd ((rd_T60 l0 x13_1).f0) x21_2) < 0
           ·rw [if_pos c11] at H
            have c11b0 : decide ((rd ((rd_T60 l0 x13_1).f0) x21_2) < 0) = true := decide_eq_true c11
            clear c11
            obtain rfl := Option.some.inj H
            have p158 : 0 ≤ (x21_2 : Int) := of_decide_eq_true (by first | (with_reducible assumption) | assumption)
            have q158 : x21_2 < (((rd_T60 l0 x13_1).f0).length : Int) := of_decide_eq_true (by first | (with_reducible assumption) | assumption)
            obtain ⟨ad158, e158, hx158_0⟩ := Kd.at_int HR156_0.out x21_2 p158 q158
            cases e158
            replace hx158_0 := (HB.out.cell (World.block_lt_of_cell? w _ hx158_0)).trans hx158_0
            replace p158 := eq_true p158
            replace q158 := eq_true q158
            go_wp2
            go_ret
            exact ⟨by first | rfl | (simp [errW_none, errW_some] <;> rfl) | (simp [*, errW_none, errW_some] <;> rfl), by repeat (first | (with_reducible first | exact HB.out | apply Op.a1 | apply Op.a2 | apply Op.a3 | refine Op.a4 ?_ GE157.out) | exact HB.out)⟩
           ·rw [if_neg c11] at H
            have c11b0 : decide ((rd ((rd_T60 l0 x13_1).f0) x21_2) < 0) = false := decide_eq_false c11
            clear c11
            by_cases c12 : (rd ((rd_T60 l0 x13_1).f0) x21_2) ≥ x13_1
            ·rw [if_pos c12] at H
             have c12b0 : decide (x13_1 ≤ (rd ((rd_T60 l0 x13_1).f0) x21_2)) = true := decide_eq_true c12
             clear c12
             obtain rfl := Option.some.inj H
             have p158 : 0 ≤ (x21_2 : Int) := of_decide_eq_true (by first | (with_reducible assumption) | assumption)
             have q158 : x21_2 < (((rd_T60 l0 x13_1).f0).length : Int) := of_decide_eq_true (by first | (with_reducible assumption) | assumption)
             obtain ⟨ad158, e158, hx158_0⟩ := Kd.at_int HR156_0.out x21_2 p158 q158
             cases e158
             replace hx158_0 := (HB.out.cell (World.block_lt_of_cell? w _ hx158_0)).trans hx158_0
             replace p158 := eq_true p158
             replace q158 := eq_true q158
             go_wp2
             go_ret
             exact ⟨by first | rfl | (simp [errW_none, errW_some] <;> rfl) | (simp [*, errW_none, errW_some] <;> rfl), by repeat (first | (with_reducible first | exact HB.out | apply Op.a1 | apply Op.a2 | apply Op.a3 | refine Op.a4 ?_ GE157.out) | exact HB.out)⟩
            ·rw [if_neg c12] at H
             have c12b0 : decide (x13_1 ≤ (rd ((rd_T60 l0 x13_1).f0) x21_2)) = false := decide_eq_false c12
             clear c12
             by_cases c13 : 0 ≤ (rd ((rd_T60 l0 x13_1).f0) x21_2)
             ·rw [if_pos c13] at H
              have c13b0 : decide (0 ≤ (rd ((rd_T60 l0 x13_1).f0) x21_2)) = true := decide_eq_true c13
              clear c13
              by_cases c14 : (rd ((rd_T60 l0 x13_1).f0) x21_2) < (l0.length : Int)
              ·rw [if_pos c14] at H
               have c14b0 : decide ((rd ((rd_T60 l0 x13_1).f0) x21_2) < (l0.length : Int)) = true := decide_eq_true c14
               clear c14
               obtain ⟨bq15, hbq15⟩ : ∃ b_ : Bool, b_ = ((rd_T60 l0 (rd ((rd_T60 l0 x13_1).f0) x21_2)).f1) := ⟨_, rfl⟩
               replace H : (if bq15 = true then (some false) else (spec_l10Nodes.l1 k2 l0 l1 x13_1 l0 (l0.length : Int) x13_1 ((rd_T60 l0 x13_1).f0) (((rd_T60 l0 x13_1).f0).length : Int) (wrap64 (x21_2 + 1)) ((rd_T60 l0 x13_1).f0) ((rd_T60 l0 x13_1).f1))) = some r := by rw [← hbq15] at H; exact H
               have Nbq15 := Aside0.mk hbq15
               clear hbq15
               by_cases c16 : bq15 = true
               ·subst c16
                have H1 : (some false) = some r := by rw [if_pos rfl] at H; exact H
                clear H
                have H := H1
                clear H1
                obtain rfl := Option.some.inj H
                have p158 : 0 ≤ (x21_2 : Int) := of_decide_eq_true (by first | (with_reducible assumption) | assumption)
                have q158 : x21_2 < (((rd_T60 l0 x13_1).f0).length : Int) := of_decide_eq_true (by first | (with_reducible assumption) | assumption)
                obtain ⟨ad158, e158, hx158_0⟩ := Kd.at_int HR156_0.out x21_2 p158 q158
                cases e158
                replace hx158_0 := (HB.out.cell (World.block_lt_of_cell? w _ hx158_0)).trans hx158_0
                replace p158 := eq_true p158
                replace q158 := eq_true q158
                have p159 : 0 ≤ ((rd ((rd_T60 l0 x13_1).f0) x21_2) : Int) := of_decide_eq_true (by first | (with_reducible assumption) | assumption)
                have q159 : (rd ((rd_T60 l0 x13_1).f0) x21_2) < (l0.length : Int) := of_decide_eq_true (by first | (with_reducible assumption) | assumption)
                obtain ⟨ad159, A159_0, c159_0, e159, hx159_0, hx159_1, hl159_0, hi159_0⟩ := at_T60 HR0.out (rd ((rd_T60 l0 x13_1).f0) x21_2) p159 q159
                (try rw [← Nbq15.out] at hx159_1)
                obtain rfl : ad156 = ad159 := (by injection e159)
                replace hx159_0 := (HB.out.cell (World.block_lt_of_cell? w _ hx159_0)).trans hx159_0
                replace hx159_1 := (HB.out.cell (World.block_lt_of_cell? w _ hx159_1)).trans hx159_1
                have HR159_0 := Aside0.mk hi159_0
                have HC159_0 := Aside0.mk hl159_0
                clear hi159_0 hl159_0
                replace p159 := eq_true p159
                replace q159 := eq_true q159
                go_wp2
                go_ret
                exact ⟨by first | rfl | (simp [errW_none, errW_some] <;> rfl) | (simp [*, errW_none, errW_some] <;> rfl), by repeat (first | (with_reducible first | exact HB.out | apply Op.a1 | apply Op.a2 | apply Op.a3 | refine Op.a4 ?_ GE157.out) | exact HB.out)⟩
               ·replace c16 := Bool.eq_false_iff.mpr c16
                subst c16
                have H1 : (spec_l10Nodes.l1 k2 l0 l1 x13_1 l0 (l0.length : Int) x13_1 ((rd_T60 l0 x13_1).f0) (((rd_T60 l0 x13_1).f0).length : Int) (wrap64 (x21_2 + 1)) ((rd_T60 l0 x13_1).f0) ((rd_T60 l0 x13_1).f1)) = some r := by rw [if_neg (show ¬ (false = true) by decide)] at H; exact H
                clear H
                have H := H1
                clear H1
                have H' := Aside0.mk H
                clear H
                have p158 : 0 ≤ (x21_2 : Int) := of_decide_eq_true (by first | (with_reducible assumption) | assumption)
                have q158 : x21_2 < (((rd_T60 l0 x13_1).f0).length : Int) := of_decide_eq_true (by first | (with_reducible assumption) | assumption)
                obtain ⟨ad158, e158, hx158_0⟩ := Kd.at_int HR156_0.out x21_2 p158 q158
                cases e158
                replace hx158_0 := (HB.out.cell (World.block_lt_of_cell? w _ hx158_0)).trans hx158_0
                replace p158 := eq_true p158
                replace q158 := eq_true q158
                have p159 : 0 ≤ ((rd ((rd_T60 l0 x13_1).f0) x21_2) : Int) := of_decide_eq_true (by first | (with_reducible assumption) | assumption)
                have q159 : (rd ((rd_T60 l0 x13_1).f0) x21_2) < (l0.length : Int) := of_decide_eq_true (by first | (with_reducible assumption) | assumption)
                obtain ⟨ad159, A159_0, c159_0, e159, hx159_0, hx159_1, hl159_0, hi159_0⟩ := at_T60 HR0.out (rd ((rd_T60 l0 x13_1).f0) x21_2) p159 q159
                (try rw [← Nbq15.out] at hx159_1)
                obtain rfl : ad156 = ad159 := (by injection e159)
                replace hx159_0 := (HB.out.cell (World.block_lt_of_cell? w _ hx159_0)).trans hx159_0
                replace hx159_1 := (HB.out.cell (World.block_lt_of_cell? w _ hx159_1)).trans hx159_1
                have HR159_0 := Aside0.mk hi159_0
                have HC159_0 := Aside0.mk hl159_0
                clear hi159_0 hl159_0
                replace p159 := eq_true p159
                replace q159 := eq_true q159
                go_wp2
                go_roundg k2
                case measure => have := HK1.out; have := HK2.out; omega
                case rel => exact ⟨(wrap64 (x21_2 + 1)), (by first | rfl | (simp; done) | (simp [*]; done)), H', ⟨by have := HK1.out; have := HK2.out; omega⟩, ⟨by (with_reducible repeat (first | refine Op.b1 ?_ _ | refine Op.b2 ?_ | refine Op.b3 ?_ _)); exact BK157.out⟩, ⟨by repeat (first | (with_reducible first | exact HB.out | apply Op.a1 | apply Op.a2 | apply Op.a3 | refine Op.a4 ?_ GE157.out) | exact HB.out)⟩⟩
              ·rw [if_neg c14] at H
               exact absurd H (by simp)
             ·rw [if_neg c13] at H
              exact absurd H (by simp)
          ·rw [if_neg c10] at H
           exact absurd H (by simp)
         ·rw [if_neg c9] at H
          exact absurd H (by simp)
        ·rw [if_neg c8] at H
         have c8b0 : decide (x21_2 < (((rd_T60 l0 x13_1).f0).length : Int)) = false := decide_eq_false c8
         clear c8
         by_cases c17 : (((rd_T60 l0 x13_1).f0).length : Int) > 6
         ·rw [if_pos c17] at H
          have c17b0 : decide (6 < (((rd_T60 l0 x13_1).f0).length : Int)) = true := decide_eq_true c17
          have c17b1 : decide (6 < ((rd_T60 l0 x13_1).f0).length) = true := decide_eq_true (by omega)
          clear c17
          obtain rfl := Option.some.inj H
          have hcz18_0 : wr.cell? ⟨gb157, 0, none⟩ = some (.slice A156_0 ((rd_T60 l0 x13_1).f0).length c156_0) := (blk_cell BK157.out 0).trans rfl
          have hcz18_1 : wr.cell? ⟨gb157, 1, none⟩ = some (.bool ((rd_T60 l0 x13_1).f1)) := (blk_cell BK157.out 1).trans rfl
          have hfz18_0 := blk_frozen BK157.out 0
          have hfz18_1 := blk_frozen BK157.out 1
          go_wp2
          go_ret
          exact ⟨by first | rfl | (simp [errW_none, errW_some] <;> rfl) | (simp [*, errW_none, errW_some] <;> rfl), by repeat (first | (with_reducible first | exact HB.out | apply Op.a1 | apply Op.a2 | apply Op.a3 | refine Op.a4 ?_ GE157.out) | exact HB.out)⟩
         ·rw [if_neg c17] at H
          have c17b0 : decide (6 < (((rd_T60 l0 x13_1).f0).length : Int)) = false := decide_eq_false c17
          have c17b1 : decide (6 < ((rd_T60 l0 x13_1).f0).length) = false := decide_eq_false (by omega)
          clear c17
          by_cases c19 : ((rd_T60 l0 x13_1).f1) = true
          ·rw [if_pos c19] at H
           have c19b0 : ((rd_T60 l0 x13_1).f1) = true := c19
           clear c19
           by_cases c20 : (((rd_T60 l0 x13_1).f0).length : Int) > 0
           ·rw [if_pos c20] at H
            have c20b0 : decide (0 < (((rd_T60 l0 x13_1).f0).length : Int)) = true := decide_eq_true c20
            have c20b1 : decide (0 < ((rd_T60 l0 x13_1).f0).length) = true := decide_eq_true (by omega)
            clear c20
            obtain rfl := Option.some.inj H
            have hcz21_0 : wr.cell? ⟨gb157, 0, none⟩ = some (.slice A156_0 ((rd_T60 l0 x13_1).f0).length c156_0) := (blk_cell BK157.out 0).trans rfl
            have hcz21_1 : wr.cell? ⟨gb157, 1, none⟩ = some (.bool ((rd_T60 l0 x13_1).f1)) := (blk_cell BK157.out 1).trans rfl
            have hfz21_0 := blk_frozen BK157.out 0
            have hfz21_1 := blk_frozen BK157.out 1
            go_wp2
            go_ret
            exact ⟨by first | rfl | (simp [errW_none, errW_some] <;> rfl) | (simp [*, errW_none, errW_some] <;> rfl), by repeat (first | (with_reducible first | exact HB.out | apply Op.a1 | apply Op.a2 | apply Op.a3 | refine Op.a4 ?_ GE157.out) | exact HB.out)⟩
           ·rw [if_neg c20] at H
            have c20b0 : decide (0 < (((rd_T60 l0 x13_1).f0).length : Int)) = false := decide_eq_false c20
            have c20b1 : decide (0 < ((rd_T60 l0 x13_1).f0).length) = false := decide_eq_false (by omega)
            clear c20
            have H' := Aside0.mk H
            clear H
            have hcz22_0 : wr.cell? ⟨gb157, 0, none⟩ = some (.slice A156_0 ((rd_T60 l0 x13_1).f0).length c156_0) := (blk_cell BK157.out 0).trans rfl
            have hcz22_1 : wr.cell? ⟨gb157, 1, none⟩ = some (.bool ((rd_T60 l0 x13_1).f1)) := (blk_cell BK157.out 1).trans rfl
            have hfz22_0 := blk_frozen BK157.out 0
            have hfz22_1 := blk_frozen BK157.out 1
            go_wp2
            go_roundg k2
            case measure => have := HK1.out; have := HK2.out; omega
            case rel => exact ⟨(wrap64 (x13_1 + 1)), (by first | rfl | (simp; done) | (simp [*]; done)), H', ⟨by have := HK1.out; have := HK2.out; omega⟩, ⟨by repeat (first | (with_reducible first | exact HB.out | apply Op.a1 | apply Op.a2 | apply Op.a3 | refine Op.a4 ?_ GE157.out) | exact HB.out)⟩⟩
          ·rw [if_neg c19] at H
           have c19b0 : ((rd_T60 l0 x13_1).f1) = false := by simpa using c19
           clear c19
           have H' := Aside0.mk H
           clear H
           have hcz23_0 : wr.cell? ⟨gb157, 0, none⟩ = some (.slice A156_0 ((rd_T60 l0 x13_1).f0).length c156_0) := (blk_cell BK157.out 0).trans rfl
           have hcz23_1 : wr.cell? ⟨gb157, 1, none⟩ = some (.bool ((rd_T60 l0 x13_1).f1)) := (blk_cell BK157.out 1).trans rfl
           have hfz23_0 := blk_frozen BK157.out 0
           have hfz23_1 := blk_frozen BK157.out 1
           go_wp2
           go_roundg k2
           case measure => have := HK1.out; have := HK2.out; omega
           case rel => exact ⟨(wrap64 (x13_1 + 1)), (by first | rfl | (simp; done) | (simp [*]; done)), H', ⟨by have := HK1.out; have := HK2.out; omega⟩, ⟨by repeat (first | (with_reducible first | exact HB.out | apply Op.a1 | apply Op.a2 | apply Op.a3 | refine Op.a4 ?_ GE157.out) | exact HB.out)⟩⟩
     ·rw [if_neg c5] at H
      exact absurd H (by simp)
    ·rw [if_neg c4] at H
     exact absurd H (by simp)
   ·rw [if_neg c3] at H
    have c3b0 : decide (x13_1 < (l0.length : Int)) = false := decide_eq_false c3
    clear c3
    have H' := Aside0.mk H
    clear H
    go_wp2
    go_loopg [57] k1 (fun kq v57 w' => ∃ (x57_2 : Int), v57 = .int .i64 x57_2 ∧ Aside0 (spec_l10Nodes.l2 kq l0 l1 l1 (l1.length : Int) x57_2 = some r) ∧ Aside0 (kq ≤ k1) ∧ Aside0 (Below w.heap.size w w'))
    case atStart => exact ⟨(0), (by first | rfl | (simp; done) | (simp [*]; done)), H', ⟨Nat.le_refl _⟩, ⟨by repeat (first | (with_reducible first | exact HB.out | apply Op.a1 | apply Op.a2 | apply Op.a3) | exact HB.out)⟩⟩
    case round =>
     clear H'
     try clear c1
     try clear p1
     try clear q1
     try clear hx1
     try clear c2
     try clear p2
     try clear c3
     try clear c3b0
     try clear c4
     try clear c4b0
     try clear c5
     try clear c5b0
     try clear p6
     try clear c8
     try clear c8b0
     try clear c9
     try clear c9b0
     try clear c10
     try clear c10b0
     try clear c11
     try clear c11b0
     try clear c12
     try clear c12b0
     try clear c13
     try clear c13b0
     try clear c14
     try clear c14b0
     try clear c15
     try clear p15
     try clear q15
     try clear hx15
     try clear c16
     try clear c17
     try clear c17b0
     try clear c17b1
     try clear c19
     try clear c19b0
     try clear c20
     try clear c20b0
     try clear c20b1
     try clear hcz18_0
     try clear hcz18_1
     try clear hcz21_0
     try clear hcz21_1
     try clear hcz22_0
     try clear hcz22_1
     try clear hcz23_0
     try clear hcz23_1
     try clear hcz7_0
     try clear hcz7_1
     try clear hfz18_0
     try clear hfz18_1
     try clear hfz21_0
     try clear hfz21_1
     try clear hfz22_0
     try clear hfz22_1
     try clear hfz23_0
     try clear hfz23_1
     try clear hfz7_0
     try clear hfz7_1
     try clear hx156_0
     try clear hx156_1
     try clear hx158_0
     try clear hx159_0
     try clear hx159_1
     try clear p1
     try clear p156
     try clear p158
     try clear p159
     try clear p2
     try clear q1
     try clear q156
     try clear q158
     try clear q159
     obtain ⟨x57_2, rfl, HA, HK2, HB⟩ := hrel
     cases gk with
     | zero => exact absurd HA.out (by simp [spec_l10Nodes.l2])
     | succ k2 =>
      have H := HA.out
      clear HA
      simp only [spec_l10Nodes.l2] at H
      by_cases c24 : x57_2 < (l1.length : Int)
      ·rw [if_pos c24] at H
       have c24b0 : decide (x57_2 < (l1.length : Int)) = true := decide_eq_true c24
       clear c24
       by_cases c25 : 0 ≤ x57_2
       ·rw [if_pos c25] at H
        have c25b0 : decide (0 ≤ x57_2) = true := decide_eq_true c25
        clear c25
        by_cases c26 : x57_2 < (l1.length : Int)
        ·rw [if_pos c26] at H
         have c26b0 : decide (x57_2 < (l1.length : Int)) = true := decide_eq_true c26
         clear c26
         by_cases c27 : (rd l1 x57_2) < 0
         ·rw [if_pos c27] at H
          have c27b0 : decide ((rd l1 x57_2) < 0) = true := decide_eq_true c27
          clear c27
          obtain rfl := Option.some.inj H
          have p160 : 0 ≤ (x57_2 : Int) := of_decide_eq_true (by first | (with_reducible assumption) | assumption)
          have q160 : x57_2 < (l1.length : Int) := of_decide_eq_true (by first | (with_reducible assumption) | assumption)
          obtain ⟨ad160, e160, hx160_0⟩ := Kd.at_int HR1.out x57_2 p160 q160
          cases e160
          replace hx160_0 := (HB.out.cell (World.block_lt_of_cell? w _ hx160_0)).trans hx160_0
          replace p160 := eq_true p160
          replace q160 := eq_true q160
          go_wp2
          go_ret
          exact ⟨by first | rfl | (simp [errW_none, errW_some] <;> rfl) | (simp [*, errW_none, errW_some] <;> rfl), by repeat (first | (with_reducible first | exact HB.out | apply Op.a1 | apply Op.a2 | apply Op.a3) | exact HB.out)⟩
         ·rw [if_neg c27] at H
          have c27b0 : decide ((rd l1 x57_2) < 0) = false := decide_eq_false c27
          clear c27
          by_cases c28 : (rd l1 x57_2) ≥ (l0.length : Int)
          ·rw [if_pos c28] at H
           have c28b0 : decide ((l0.length : Int) ≤ (rd l1 x57_2)) = true := decide_eq_true c28
           clear c28
           obtain rfl := Option.some.inj H
           have p160 : 0 ≤ (x57_2 : Int) := of_decide_eq_true (by first | (with_reducible assumption) | assumption)
           have q160 : x57_2 < (l1.length : Int) := of_decide_eq_true (by first | (with_reducible assumption) | assumption)
           obtain ⟨ad160, e160, hx160_0⟩ := Kd.at_int HR1.out x57_2 p160 q160
           cases e160
           replace hx160_0 := (HB.out.cell (World.block_lt_of_cell? w _ hx160_0)).trans hx160_0
           replace p160 := eq_true p160
           replace q160 := eq_true q160
           go_wp2
           go_ret
           exact ⟨by first | rfl | (simp [errW_none, errW_some] <;> rfl) | (simp [*, errW_none, errW_some] <;> rfl), by repeat (first | (with_reducible first | exact HB.out | apply Op.a1 | apply Op.a2 | apply Op.a3) | exact HB.out)⟩
          ·rw [if_neg c28] at H
           have c28b0 : decide ((l0.length : Int) ≤ (rd l1 x57_2)) = false := decide_eq_false c28
           clear c28
           by_cases c29 : 0 ≤ (rd l1 x57_2)
           ·rw [if_pos c29] at H
            have c29b0 : decide (0 ≤ (rd l1 x57_2)) = true := decide_eq_true c29
            clear c29
            by_cases c30 : (rd l1 x57_2) < (l0.length : Int)
            ·rw [if_pos c30] at H
             have c30b0 : decide ((rd l1 x57_2) < (l0.length : Int)) = true := decide_eq_true c30
             clear c30
             obtain ⟨bq31, hbq31⟩ : ∃ b_ : Bool, b_ = ((rd_T60 l0 (rd l1 x57_2)).f1) := ⟨_, rfl⟩
             replace H : (if bq31 = true then (some false) else (spec_l10Nodes.l2 k2 l0 l1 l1 (l1.length : Int) (wrap64 (x57_2 + 1)))) = some r := by rw [← hbq31] at H; exact H
             have Nbq31 := Aside0.mk hbq31
             clear hbq31
             by_cases c32 : bq31 = true
             ·subst c32
              have H1 : (some false) = some r := by rw [if_pos rfl] at H; exact H
              clear H
              have H := H1
              clear H1
              obtain rfl := Option.some.inj H
              have p160 : 0 ≤ (x57_2 : Int) := of_decide_eq_true (by first | (with_reducible assumption) | assumption)
              have q160 : x57_2 < (l1.length : Int) := of_decide_eq_true (by first | (with_reducible assumption) | assumption)
              obtain ⟨ad160, e160, hx160_0⟩ := Kd.at_int HR1.out x57_2 p160 q160
              cases e160
              replace hx160_0 := (HB.out.cell (World.block_lt_of_cell? w _ hx160_0)).trans hx160_0
              replace p160 := eq_true p160
              replace q160 := eq_true q160
              have p161 : 0 ≤ ((rd l1 x57_2) : Int) := of_decide_eq_true (by first | (with_reducible assumption) | assumption)
              have q161 : (rd l1 x57_2) < (l0.length : Int) := of_decide_eq_true (by first | (with_reducible assumption) | assumption)
              obtain ⟨ad161, A161_0, c161_0, e161, hx161_0, hx161_1, hl161_0, hi161_0⟩ := at_T60 HR0.out (rd l1 x57_2) p161 q161
              (try rw [← Nbq31.out] at hx161_1)
              cases e161
              replace hx161_0 := (HB.out.cell (World.block_lt_of_cell? w _ hx161_0)).trans hx161_0
              replace hx161_1 := (HB.out.cell (World.block_lt_of_cell? w _ hx161_1)).trans hx161_1
              have HR161_0 := Aside0.mk hi161_0
              have HC161_0 := Aside0.mk hl161_0
              clear hi161_0 hl161_0
              replace p161 := eq_true p161
              replace q161 := eq_true q161
              go_wp2
              go_ret
              exact ⟨by first | rfl | (simp [errW_none, errW_some] <;> rfl) | (simp [*, errW_none, errW_some] <;> rfl), by repeat (first | (with_reducible first | exact HB.out | apply Op.a1 | apply Op.a2 | apply Op.a3) | exact HB.out)⟩
             ·replace c32 := Bool.eq_false_iff.mpr c32
              subst c32
              have H1 : (spec_l10Nodes.l2 k2 l0 l1 l1 (l1.length : Int) (wrap64 (x57_2 + 1))) = some r := by rw [if_neg (show ¬ (false = true) by decide)] at H; exact H
              clear H
              have H := H1
              clear H1
              have H' := Aside0.mk H
              clear H
              have p160 : 0 ≤ (x57_2 : Int) := of_decide_eq_true (by first | (with_reducible assumption) | assumption)
              have q160 : x57_2 < (l1.length : Int) := of_decide_eq_true (by first | (with_reducible assumption) | assumption)
              obtain ⟨ad160, e160, hx160_0⟩ := Kd.at_int HR1.out x57_2 p160 q160
              cases e160
              replace hx160_0 := (HB.out.cell (World.block_lt_of_cell? w _ hx160_0)).trans hx160_0
              replace p160 := eq_true p160
              replace q160 := eq_true q160
              have p161 : 0 ≤ ((rd l1 x57_2) : Int) := of_decide_eq_true (by first | (with_reducible assumption) | assumption)
              have q161 : (rd l1 x57_2) < (l0.length : Int) := of_decide_eq_true (by first | (with_reducible assumption) | assumption)
              obtain ⟨ad161, A161_0, c161_0, e161, hx161_0, hx161_1, hl161_0, hi161_0⟩ := at_T60 HR0.out (rd l1 x57_2) p161 q161
              (try rw [← Nbq31.out] at hx161_1)
              cases e161
              replace hx161_0 := (HB.out.cell (World.block_lt_of_cell? w _ hx161_0)).trans hx161_0
              replace hx161_1 := (HB.out.cell (World.block_lt_of_cell? w _ hx161_1)).trans hx161_1
              have HR161_0 := Aside0.mk hi161_0
              have HC161_0 := Aside0.mk hl161_0
              clear hi161_0 hl161_0
              replace p161 := eq_true p161
              replace q161 := eq_true q161
              go_wp2
              go_roundg k2
              case measure => have := HK1.out; have := HK2.out; omega
              case rel => exact ⟨(wrap64 (x57_2 + 1)), (by first | rfl | (simp; done) | (simp [*]; done)), H', ⟨by have := HK1.out; have := HK2.out; omega⟩, ⟨by repeat (first | (with_reducible first | exact HB.out | apply Op.a1 | apply Op.a2 | apply Op.a3) | exact HB.out)⟩⟩
            ·rw [if_neg c30] at H
             exact absurd H (by simp)
           ·rw [if_neg c29] at H
            exact absurd H (by simp)
        ·rw [if_neg c26] at H
         exact absurd H (by simp)
       ·rw [if_neg c25] at H
        exact absurd H (by simp)
      ·rw [if_neg c24] at H
       have c24b0 : decide (x57_2 < (l1.length : Int)) = false := decide_eq_false c24
       clear c24
       by_cases c33 : (l0.length : Int) ≤ 14
       ·rw [if_pos c33] at H
        have c33b0 : decide ((l0.length : Int) ≤ 14) = true := decide_eq_true c33
        have c33b1 : decide (l0.length ≤ 14) = true := decide_eq_true (by omega)
        clear c33
        obtain rfl := Option.some.inj H
        go_wp2
        go_ret
        exact ⟨by first | rfl | (simp [errW_none, errW_some] <;> rfl) | (simp [*, errW_none, errW_some] <;> rfl), by repeat (first | (with_reducible first | exact HB.out | apply Op.a1 | apply Op.a2 | apply Op.a3) | exact HB.out)⟩
       ·rw [if_neg c33] at H
        have c33b0 : decide ((l0.length : Int) ≤ 14) = false := decide_eq_false c33
        have c33b1 : decide (l0.length ≤ 14) = false := decide_eq_false (by omega)
        clear c33
        obtain rfl := Option.some.inj H
        go_wp2
        go_ret
        exact ⟨by first | rfl | (simp [errW_none, errW_some] <;> rfl) | (simp [*, errW_none, errW_some] <;> rfl), by repeat (first | (with_reducible first | exact HB.out | apply Op.a1 | apply Op.a2 | apply Op.a3) | exact HB.out)⟩

end Go.Proofs.Ytdhclelfnbjikaa.PFnExactReachedIn
