/- Contracts of functions of the translation, written by a program of this repo (a changed copy of the printer). Not trusted: Lean checks it. -/
import Derived.Test.YtnafnpoflheonaaPFnExactDiffInx0
import Derived.Test.YtnafnpoflheonaaPFnExactDiffInx1
import Derived.Test.YtnafnpoflheonaaPFnExactDiffInx2
import Derived.Test.YtnafnpoflheonaaPFnExactDiffInx4
import Derived.Test.YtnafnpoflheonaaPFnExactDiffInx5
namespace Go.Proofs.Ytnafnpoflheonaa.PFnExactDiffIn
open Go.RowKit Go.Proofs.YtnafnpoflheonaaW.PrintWords Go.Proofs.YtnafnpoflheonaaW.PrintLast Go.Proofs.YtnafnpoflheonaaW.PrintMore
attribute [local go_sem] max2_int min2_int max_two min_two max_three min_three max_four min_four   -- for this text's walks alone
set_option linter.unusedVariables false
set_option linter.unusedSimpArgs false

/-! ### laws_FnExactDiffIn: function 7 -/
/-- what the law asks, one after the other -/
def laws_FnExactDiffIn.f (k : Nat) (l0_0 : List (S88)) (l0_1 : List Int) (a1 : Int) (a2 : Int) : Option Bool :=
  (laws_szPool.f k l0_0 l0_1 1048576).bind fun be5 => if be5 < 0 then some true else ((laws_toPool.f k l0_0 l0_1).bind fun be9 => (spec_DiffIn.f k be9.1 be9.2 a1 a2).bind fun be13 => (laws_toPool.f k l0_0 l0_1).bind fun be17 => (impl_DiffIn.f k be17.1 be17.2 a1 a2).bind fun be24 => (laws_eqIntS.f k be24.1 be13.1).bind fun be27 => if be27 = true then (if (be24.2 != be13.2) = true then some false else ((laws_toPool.f k l0_0 l0_1).bind fun be32 => (laws_eqPool.f k be17.1 be17.2 be32.1 be32.2).bind fun be35 => if be35 = true then ((laws_markPool.f k be17.1 be17.2 1).bind fun be40 => if be40.1 < 0 then some false else ((laws_eqIntS.f k be24.1 be13.1).bind fun be43 => if be43 = true then (if (be24.2 != be13.2) = true then some false else ((laws_markIntS.f k be24.1 1).bind fun be47 => (laws_heldIntS.f k be47.2 1).bind fun be50 => if be50 < 0 then some false else (if (be50 != be47.1) = true then some false else ((laws_toPool.f k l0_0 l0_1).bind fun be54 => (impl_DiffIn.f k be54.1 be54.2 a1 a2).bind fun be58 => (laws_eqIntS.f k be58.1 be13.1).bind fun be61 => if be61 = true then (if (be58.2 != be13.2) = true then some false else ((laws_heldIntS.f k be47.2 1).bind fun be64 => if be64 < 0 then some false else (if (be64 != be47.1) = true then some false else (some true)))) else some false)))) else some false)) else some false)) else some false)
set_option maxHeartbeats 8000000 in
theorem laws_FnExactDiffIn.calls (k : Nat) (A0_0 : Option Addr) (c0_0 : Nat) (l0_0 : List (S88)) (A0_1 : Option Addr) (c0_1 : Nat) (l0_1 : List Int) (a1 : Int) (a2 : Int) (r : Bool) (w : World) (hr0_0 : Kd.C k88 w A0_0 l0_0.length l0_0) (hc0_0 : l0_0.length ≤ c0_0) (hr0_1 : Kd.C (Kd.int .i64) w A0_1 l0_1.length l0_1) (hc0_1 : l0_1.length ≤ c0_1) (h : laws_FnExactDiffIn.f k l0_0 l0_1 a1 a2 = some true) :
    Calls Try.prog 7 #[.agg #[.slice A0_0 l0_0.length c0_0, .slice A0_1 l0_1.length c0_1], .int .i64 a1, .int .i64 a2] w fun e w' => e = .returned (.bool true) ∧ Below w.heap.size w w' := by
  have hu25 := Try.underlying25
  have hu32 := Try.underlying32
  have HR0_0 := Aside0.mk hr0_0
  have HC0_0 := Aside0.mk hc0_0
  have HR0_1 := Aside0.mk hr0_1
  have HC0_1 := Aside0.mk hc0_1
  clear hr0_0 hc0_0 hr0_1 hc0_1
  have HB := Aside0.mk (Below.refl w.heap.size w)
  have HS0 : Aside0 (0 ≤ w.heap.size) := ⟨Nat.zero_le _⟩
  unfold laws_FnExactDiffIn.f at h
  replace h := Option.bind_eq_some_iff.1 h
  obtain ⟨r4, e5, h⟩ := h
  try dsimp only at h
  have Ee5 := Aside0.mk e5
  clear e5
  by_cases c1_ : r4 < 0
  · clear h
    have c1b_ : decide (r4 < 0) = true := decide_eq_true c1_
    clear c1_
    go_enter Try.func7, Try.ntmps7
    go_wp2_with (first | ((with_reducible refine gate_dst (N := 3) rfl ?_); refine box_event ?hg (N := 3) ?hd (cs := #[.slice A0_0 l0_0.length c0_0, .slice A0_1 l0_1.length c0_1]) (t := 32) ?hr ?_; (case hd => rfl); (case hg => rfl); (case hr => first | (go_simp; done) | (go_simp; rfl)); intro g1 hg w2 hbox hb; have hk := Kept.of_below hb (fun _ => False); have BKg1 := Aside0.mk hbox; have GEg1 := Aside0.mk (show w.heap.size ≤ g1 from by rw [hg]; exact HB.out.size); have HSw2 := Aside0.mk (And.intro (And.intro (show w.heap.size ≤ g1 from Nat.le_of_eq hg.symm) (And.intro (blk_lt hbox) hb.size)) HS0.out); replace HB := Aside0.mk (below_step HB.out hb); clear hg hbox hb hk; have hz_g1_0_w2 : w2.cell? ⟨g1, 0, none⟩ = some (.slice A0_0 l0_0.length c0_0) := (blk_cell BKg1.out 0).trans rfl; have hf_g1_0_w2 := blk_frozen BKg1.out 0; have hz_g1_1_w2 : w2.cell? ⟨g1, 1, none⟩ = some (.slice A0_1 l0_1.length c0_1) := (blk_cell BKg1.out 1).trans rfl; have hf_g1_1_w2 := blk_frozen BKg1.out 1) | ((with_reducible refine gate_callee (f := 18) rfl ?_); refine goesL_ (some 20) rfl rfl Try.func18 (by kernel_rfl) rfl #[.agg #[.slice A0_0 l0_0.length c0_0, .slice A0_1 l0_1.length c0_1], .int .i64 1048576] rfl (by (try simp only [List.map_toArray, List.map_cons, List.map_nil]); first | done | rfl | (simp only [List.length_drop, List.length_take]; rfl)) ?_; (with_reducible refine (laws_szPool.calls k _ _ l0_0 _ _ l0_1 1048576 r4 _ ?side1 ?side2 ?side3 ?side4 Ee5.out).mono ?_); (case side1 => exact (Kd.C_below HR0_0.out HB.out)); (case side2 => exact HC0_0.out); (case side3 => exact (Kd.C_below HR0_1.out HB.out)); (case side4 => exact HC0_1.out); rintro ex_ w3 ⟨rfl, hb⟩; refine ⟨_, rfl, ?_⟩; have hk := Kept.of_below hb (fun _ => False); replace BKg1 := Aside0.mk (Op.mvB BKg1.out hk (fun hs => hs)); have HSw3 := Aside0.mk (And.intro (hb.size) HSw2.out); replace HB := Aside0.mk (below_step HB.out hb); clear hb hk; have hz_g1_0_w3 : w3.cell? ⟨g1, 0, none⟩ = some (.slice A0_0 l0_0.length c0_0) := (blk_cell BKg1.out 0).trans rfl; have hf_g1_0_w3 := blk_frozen BKg1.out 0; have hz_g1_1_w3 : w3.cell? ⟨g1, 1, none⟩ = some (.slice A0_1 l0_1.length c0_1) := (blk_cell BKg1.out 1).trans rfl; have hf_g1_1_w3 := blk_frozen BKg1.out 1))
    go_ret
    exact ⟨rfl, HB.out⟩
  replace h := (if_neg c1_).symm.trans h
  have c1b_ : decide (r4 < 0) = false := decide_eq_false c1_
  clear c1_
  replace h := Option.bind_eq_some_iff.1 h
  obtain ⟨⟨r7, r8⟩, e9, h⟩ := h
  try dsimp only at h
  have Ee9 := Aside0.mk e9
  clear e9
  replace h := Option.bind_eq_some_iff.1 h
  obtain ⟨⟨r11, r12⟩, e13, h⟩ := h
  try dsimp only at h
  have Ee13 := Aside0.mk e13
  clear e13
  replace h := Option.bind_eq_some_iff.1 h
  obtain ⟨⟨r15, r16⟩, e17, h⟩ := h
  try dsimp only at h
  have Ee17 := Aside0.mk e17
  clear e17
  replace h := Option.bind_eq_some_iff.1 h
  obtain ⟨⟨r22, r23⟩, e24, h⟩ := h
  try dsimp only at h
  have Ee24 := Aside0.mk e24
  clear e24
  replace h := Option.bind_eq_some_iff.1 h
  obtain ⟨r26, e27, h⟩ := h
  try dsimp only at h
  have Ee27 := Aside0.mk e27
  clear e27
  replace h := Op.must_t h
  obtain ⟨rfl, h⟩ := h
  replace h := Op.must_n h
  obtain ⟨c2_, h⟩ := h
  have c2e_ : (r23 == r12) = true := by revert c2_; cases r23 <;> cases r12 <;> decide
  clear c2_
  replace h := Option.bind_eq_some_iff.1 h
  obtain ⟨⟨r30, r31⟩, e32, h⟩ := h
  try dsimp only at h
  have Ee32 := Aside0.mk e32
  clear e32
  replace h := Option.bind_eq_some_iff.1 h
  obtain ⟨r34, e35, h⟩ := h
  try dsimp only at h
  have Ee35 := Aside0.mk e35
  clear e35
  replace h := Op.must_t h
  obtain ⟨rfl, h⟩ := h
  replace h := Option.bind_eq_some_iff.1 h
  obtain ⟨⟨r37, r38, r39⟩, e40, h⟩ := h
  try dsimp only at h
  have Ee40 := Aside0.mk e40
  clear e40
  replace h := Op.must_n h
  obtain ⟨c3_, h⟩ := h
  have c3b_ : decide (r37 < 0) = false := decide_eq_false c3_
  clear c3_
  replace h := Option.bind_eq_some_iff.1 h
  obtain ⟨r42, e43, h⟩ := h
  try dsimp only at h
  have Ee43 := Aside0.mk e43
  clear e43
  replace h := Op.must_t h
  obtain ⟨rfl, h⟩ := h
  replace h := Op.must_n h
  obtain ⟨c4_, h⟩ := h
  have c4e_ : (r23 == r12) = true := by revert c4_; cases r23 <;> cases r12 <;> decide
  clear c4_
  replace h := Option.bind_eq_some_iff.1 h
  obtain ⟨⟨r45, r46⟩, e47, h⟩ := h
  try dsimp only at h
  have Ee47 := Aside0.mk e47
  clear e47
  replace h := Option.bind_eq_some_iff.1 h
  obtain ⟨r49, e50, h⟩ := h
  try dsimp only at h
  have Ee50 := Aside0.mk e50
  clear e50
  replace h := Op.must_n h
  obtain ⟨c5_, h⟩ := h
  have c5b_ : decide (r49 < 0) = false := decide_eq_false c5_
  clear c5_
  replace h := Op.must_n h
  obtain ⟨c6_, h⟩ := h
  have c6b_ := Bool.eq_false_iff.mpr c6_
  clear c6_
  replace h := Option.bind_eq_some_iff.1 h
  obtain ⟨⟨r52, r53⟩, e54, h⟩ := h
  try dsimp only at h
  have Ee54 := Aside0.mk e54
  clear e54
  replace h := Option.bind_eq_some_iff.1 h
  obtain ⟨⟨r56, r57⟩, e58, h⟩ := h
  try dsimp only at h
  have Ee58 := Aside0.mk e58
  clear e58
  replace h := Option.bind_eq_some_iff.1 h
  obtain ⟨r60, e61, h⟩ := h
  try dsimp only at h
  have Ee61 := Aside0.mk e61
  clear e61
  replace h := Op.must_t h
  obtain ⟨rfl, h⟩ := h
  replace h := Op.must_n h
  obtain ⟨c7_, h⟩ := h
  have c7e_ : (r57 == r12) = true := by revert c7_; cases r57 <;> cases r12 <;> decide
  clear c7_
  replace h := Option.bind_eq_some_iff.1 h
  obtain ⟨r63, e64, h⟩ := h
  try dsimp only at h
  have Ee64 := Aside0.mk e64
  clear e64
  replace h := Op.must_n h
  obtain ⟨c8_, h⟩ := h
  have c8b_ : decide (r63 < 0) = false := decide_eq_false c8_
  clear c8_
  replace h := Op.must_n h
  obtain ⟨c9_, h⟩ := h
  have c9b_ := Bool.eq_false_iff.mpr c9_
  clear c9_
  clear h
  go_enter Try.func7, Try.ntmps7
  go_wp2_with (first | ((with_reducible refine gate_dst (N := 3) rfl ?_); refine box_event ?hg (N := 3) ?hd (cs := #[.slice A0_0 l0_0.length c0_0, .slice A0_1 l0_1.length c0_1]) (t := 32) ?hr ?_; (case hd => rfl); (case hg => rfl); (case hr => first | (go_simp; done) | (go_simp; rfl)); intro g1 hg w2 hbox hb; have hk := Kept.of_below hb (fun _ => False); have BKg1 := Aside0.mk hbox; have GEg1 := Aside0.mk (show w.heap.size ≤ g1 from by rw [hg]; exact HB.out.size); have HSw2 := Aside0.mk (And.intro (And.intro (show w.heap.size ≤ g1 from Nat.le_of_eq hg.symm) (And.intro (blk_lt hbox) hb.size)) HS0.out); replace HB := Aside0.mk (below_step HB.out hb); clear hg hbox hb hk; have hz_g1_0_w2 : w2.cell? ⟨g1, 0, none⟩ = some (.slice A0_0 l0_0.length c0_0) := (blk_cell BKg1.out 0).trans rfl; have hf_g1_0_w2 := blk_frozen BKg1.out 0; have hz_g1_1_w2 : w2.cell? ⟨g1, 1, none⟩ = some (.slice A0_1 l0_1.length c0_1) := (blk_cell BKg1.out 1).trans rfl; have hf_g1_1_w2 := blk_frozen BKg1.out 1) | ((with_reducible refine gate_callee (f := 18) rfl ?_); refine goesL_ (some 20) rfl rfl Try.func18 (by kernel_rfl) rfl #[.agg #[.slice A0_0 l0_0.length c0_0, .slice A0_1 l0_1.length c0_1], .int .i64 1048576] rfl (by (try simp only [List.map_toArray, List.map_cons, List.map_nil]); first | done | rfl | (simp only [List.length_drop, List.length_take]; rfl)) ?_; (with_reducible refine (laws_szPool.calls k _ _ l0_0 _ _ l0_1 1048576 r4 _ ?side1 ?side2 ?side3 ?side4 Ee5.out).mono ?_); (case side1 => exact (Kd.C_below HR0_0.out HB.out)); (case side2 => exact HC0_0.out); (case side3 => exact (Kd.C_below HR0_1.out HB.out)); (case side4 => exact HC0_1.out); rintro ex_ w3 ⟨rfl, hb⟩; refine ⟨_, rfl, ?_⟩; have hk := Kept.of_below hb (fun _ => False); replace BKg1 := Aside0.mk (Op.mvB BKg1.out hk (fun hs => hs)); have HSw3 := Aside0.mk (And.intro (hb.size) HSw2.out); replace HB := Aside0.mk (below_step HB.out hb); clear hb hk; have hz_g1_0_w3 : w3.cell? ⟨g1, 0, none⟩ = some (.slice A0_0 l0_0.length c0_0) := (blk_cell BKg1.out 0).trans rfl; have hf_g1_0_w3 := blk_frozen BKg1.out 0; have hz_g1_1_w3 : w3.cell? ⟨g1, 1, none⟩ = some (.slice A0_1 l0_1.length c0_1) := (blk_cell BKg1.out 1).trans rfl; have hf_g1_1_w3 := blk_frozen BKg1.out 1) | ((with_reducible refine gate_callee (f := 20) rfl ?_); refine goesL_ (some 25) rfl rfl Try.func20 (by kernel_rfl) rfl #[.agg #[.slice A0_0 l0_0.length c0_0, .slice A0_1 l0_1.length c0_1]] rfl (by (try simp only [List.map_toArray, List.map_cons, List.map_nil]); first | done | rfl | (simp only [List.length_drop, List.length_take]; rfl)) ?_; (with_reducible refine (laws_toPool.calls k _ _ l0_0 _ _ l0_1 r7 r8 _ ?side1 ?side2 ?side3 ?side4 Ee9.out).mono ?_); (case side1 => exact (Kd.C_below HR0_0.out HB.out)); (case side2 => exact HC0_0.out); (case side3 => exact (Kd.C_below HR0_1.out HB.out)); (case side4 => exact HC0_1.out); rintro ex_ w6 ⟨ve9_0, ve9_1, rfl, ho0, ho1, hb⟩; refine ⟨_, rfl, ?_⟩; have hk := Kept.of_below hb (fun _ => False); replace BKg1 := Aside0.mk (Op.mvB BKg1.out hk (fun hs => hs)); have HSw6 := Aside0.mk (And.intro (hb.size) HSw3.out); have Oe9_0 := Aside0.mk (Op.inS ho0 (a := w3.heap.size) (b := w.heap.size) HB.out.size (Nat.le_refl _)); have Oe9_1 := Aside0.mk (Op.inR ho1 (a := w3.heap.size) (b := w.heap.size) HB.out.size (Nat.le_refl _)); replace HB := Aside0.mk (below_step HB.out hb); obtain ⟨Ae9_0, cAe9_0, ev_⟩ := Kd.S_slice Oe9_0.out; subst ev_; obtain ⟨Ae9_1, cAe9_1, ev_⟩ := Kd.R_slice Oe9_1.out; subst ev_; clear hb hk ho0 ho1; have hz_g1_0_w6 : w6.cell? ⟨g1, 0, none⟩ = some (.slice A0_0 l0_0.length c0_0) := (blk_cell BKg1.out 0).trans rfl; have hf_g1_0_w6 := blk_frozen BKg1.out 0; have hz_g1_1_w6 : w6.cell? ⟨g1, 1, none⟩ = some (.slice A0_1 l0_1.length c0_1) := (blk_cell BKg1.out 1).trans rfl; have hf_g1_1_w6 := blk_frozen BKg1.out 1) | ((with_reducible refine gate_callee (f := 29) rfl ?_); refine goesL_ (some 28) rfl rfl Try.func29 (by kernel_rfl) rfl #[.agg #[.slice Ae9_0 r7.length cAe9_0, .slice Ae9_1 r8.length cAe9_1], .int .i64 a1, .int .i64 a2] rfl (by (try simp only [List.map_toArray, List.map_cons, List.map_nil]); first | done | rfl | (simp only [List.length_drop, List.length_take]; rfl)) ?_; (with_reducible refine (spec_DiffIn.calls k _ _ r7 _ _ r8 a1 a2 r11 r12 _ ?side1 ?side2 ?side3 ?side4 Ee13.out).mono ?_); (case side1 => exact (Kd.S_reads' Oe9_0.out).2.2); (case side2 => (have h_ := Kd.S_reads' Oe9_0.out; have h1_ := h_.1; have h2_ := h_.2.1; omega)); (case side3 => exact (Kd.R_reads' Oe9_1.out).2.2); (case side4 => (have h_ := Kd.R_reads' Oe9_1.out; have h1_ := h_.1; have h2_ := h_.2.1; omega)); rintro ex_ w10 ⟨ve13_0, rfl, ho0, hb⟩; refine ⟨_, rfl, ?_⟩; have hk := Kept.of_below hb (fun _ => False); replace Oe9_0 := Aside0.mk (Op.mvS Oe9_0.out hk (fun _ _ hs => hs)); replace Oe9_1 := Aside0.mk (Op.mvR Oe9_1.out hk (fun _ _ hs => hs)); replace BKg1 := Aside0.mk (Op.mvB BKg1.out hk (fun hs => hs)); have HSw10 := Aside0.mk (And.intro (hb.size) HSw6.out); have Oe13_0 := Aside0.mk (Op.inR ho0 (a := w6.heap.size) (b := w.heap.size) HB.out.size (Nat.le_refl _)); replace HB := Aside0.mk (below_step HB.out hb); obtain ⟨Ae13_0, cAe13_0, ev_⟩ := Kd.R_slice Oe13_0.out; subst ev_; clear hb hk ho0; have hz_g1_0_w10 : w10.cell? ⟨g1, 0, none⟩ = some (.slice A0_0 l0_0.length c0_0) := (blk_cell BKg1.out 0).trans rfl; have hf_g1_0_w10 := blk_frozen BKg1.out 0; have hz_g1_1_w10 : w10.cell? ⟨g1, 1, none⟩ = some (.slice A0_1 l0_1.length c0_1) := (blk_cell BKg1.out 1).trans rfl; have hf_g1_1_w10 := blk_frozen BKg1.out 1) | ((with_reducible refine gate_callee (f := 20) rfl ?_); refine goesL_ (some 32) rfl rfl Try.func20 (by kernel_rfl) rfl #[.agg #[.slice A0_0 l0_0.length c0_0, .slice A0_1 l0_1.length c0_1]] rfl (by (try simp only [List.map_toArray, List.map_cons, List.map_nil]); first | done | rfl | (simp only [List.length_drop, List.length_take]; rfl)) ?_; (with_reducible refine (laws_toPool.calls k _ _ l0_0 _ _ l0_1 r15 r16 _ ?side1 ?side2 ?side3 ?side4 Ee17.out).mono ?_); (case side1 => exact (Kd.C_below HR0_0.out HB.out)); (case side2 => exact HC0_0.out); (case side3 => exact (Kd.C_below HR0_1.out HB.out)); (case side4 => exact HC0_1.out); rintro ex_ w14 ⟨ve17_0, ve17_1, rfl, ho0, ho1, hb⟩; refine ⟨_, rfl, ?_⟩; have hk := Kept.of_below hb (fun _ => False); replace Oe9_0 := Aside0.mk (Op.mvS Oe9_0.out hk (fun _ _ hs => hs)); replace Oe9_1 := Aside0.mk (Op.mvR Oe9_1.out hk (fun _ _ hs => hs)); replace Oe13_0 := Aside0.mk (Op.mvR Oe13_0.out hk (fun _ _ hs => hs)); replace BKg1 := Aside0.mk (Op.mvB BKg1.out hk (fun hs => hs)); have HSw14 := Aside0.mk (And.intro (hb.size) HSw10.out); have Oe17_0 := Aside0.mk (Op.inS ho0 (a := w10.heap.size) (b := w.heap.size) HB.out.size (Nat.le_refl _)); have Oe17_1 := Aside0.mk (Op.inR ho1 (a := w10.heap.size) (b := w.heap.size) HB.out.size (Nat.le_refl _)); replace HB := Aside0.mk (below_step HB.out hb); obtain ⟨Ae17_0, cAe17_0, ev_⟩ := Kd.S_slice Oe17_0.out; subst ev_; obtain ⟨Ae17_1, cAe17_1, ev_⟩ := Kd.R_slice Oe17_1.out; subst ev_; clear hb hk ho0 ho1; have hz_g1_0_w14 : w14.cell? ⟨g1, 0, none⟩ = some (.slice A0_0 l0_0.length c0_0) := (blk_cell BKg1.out 0).trans rfl; have hf_g1_0_w14 := blk_frozen BKg1.out 0; have hz_g1_1_w14 : w14.cell? ⟨g1, 1, none⟩ = some (.slice A0_1 l0_1.length c0_1) := (blk_cell BKg1.out 1).trans rfl; have hf_g1_1_w14 := blk_frozen BKg1.out 1) | ((with_reducible refine gate_dst (N := 10) rfl ?_); refine box_event ?hg (N := 10) ?hd (cs := #[.slice none 0 0, .slice none 0 0]) (t := 25) ?hr ?_; (case hd => rfl); (case hg => rfl); (case hr => first | (go_simp; done) | (go_simp; rfl)); intro g18 hg w19 hbox hb; have hk := Kept.of_below hb (fun _ => False); replace Oe9_0 := Aside0.mk (Op.mvS Oe9_0.out hk (fun _ _ hs => hs)); replace Oe9_1 := Aside0.mk (Op.mvR Oe9_1.out hk (fun _ _ hs => hs)); replace Oe13_0 := Aside0.mk (Op.mvR Oe13_0.out hk (fun _ _ hs => hs)); replace Oe17_0 := Aside0.mk (Op.mvS Oe17_0.out hk (fun _ _ hs => hs)); replace Oe17_1 := Aside0.mk (Op.mvR Oe17_1.out hk (fun _ _ hs => hs)); replace BKg1 := Aside0.mk (Op.mvB BKg1.out hk (fun hs => hs)); have BKg18 := Aside0.mk hbox; have GEg18 := Aside0.mk (show w.heap.size ≤ g18 from by rw [hg]; exact HB.out.size); have HSw19 := Aside0.mk (And.intro (And.intro (show w14.heap.size ≤ g18 from Nat.le_of_eq hg.symm) (And.intro (blk_lt hbox) hb.size)) HSw14.out); replace HB := Aside0.mk (below_step HB.out hb); clear hg hbox hb hk; have hz_g1_0_w19 : w19.cell? ⟨g1, 0, none⟩ = some (.slice A0_0 l0_0.length c0_0) := (blk_cell BKg1.out 0).trans rfl; have hf_g1_0_w19 := blk_frozen BKg1.out 0; have hz_g1_1_w19 : w19.cell? ⟨g1, 1, none⟩ = some (.slice A0_1 l0_1.length c0_1) := (blk_cell BKg1.out 1).trans rfl; have hf_g1_1_w19 := blk_frozen BKg1.out 1; have hz_g18_0_w19 : w19.cell? ⟨g18, 0, none⟩ = some (.slice none 0 0) := (blk_cell BKg18.out 0).trans rfl; have hf_g18_0_w19 := blk_frozen BKg18.out 0; have hz_g18_1_w19 : w19.cell? ⟨g18, 1, none⟩ = some (.slice none 0 0) := (blk_cell BKg18.out 1).trans rfl; have hf_g18_1_w19 := blk_frozen BKg18.out 1) | ((with_reducible refine gate_store (t := 25) (p := 10) rfl ?_); refine store_event (t := 25) (p := 10) (v := ?vo_w20) (w1 := ((w19.setCell ⟨g18, 0, none⟩ (.slice Ae17_0 r15.length cAe17_0)).setCell ⟨g18, 1, none⟩ (.slice Ae17_1 r16.length cAe17_1))) ?hg ?ho ?hn ?hr ?_; (case ho => rfl); (case hg => rfl); (case hn => rfl); (case hr => first | (go_simp; done) | (go_simp; rfl)); intro w20 hw; have hk : Kept w19 w20 (fun j => j = g18) := (by rw [hw]; exact Op.kept_put (Op.kept_put (Kept.refl _ _) 0 _) 1 _); replace Oe9_0 := Aside0.mk (Op.mvS Oe9_0.out hk (fun j hj hs => by (have hj2 := hj.2; have q := HSw19.out; have hs2 : j = g18 := hs; omega))); replace Oe9_1 := Aside0.mk (Op.mvR Oe9_1.out hk (fun j hj hs => by (have hj2 := hj.2; have q := HSw19.out; have hs2 : j = g18 := hs; omega))); replace Oe13_0 := Aside0.mk (Op.mvR Oe13_0.out hk (fun j hj hs => by (have hj2 := hj.2; have q := HSw19.out; have hs2 : j = g18 := hs; omega))); replace Oe17_0 := Aside0.mk (Op.mvS Oe17_0.out hk (fun j hj hs => by (have hj2 := hj.2; have q := HSw19.out; have hs2 : j = g18 := hs; omega))); replace Oe17_1 := Aside0.mk (Op.mvR Oe17_1.out hk (fun j hj hs => by (have hj2 := hj.2; have q := HSw19.out; have hs2 : j = g18 := hs; omega))); replace BKg1 := Aside0.mk (Op.mvB BKg1.out hk (fun hs => by (have q := HSw19.out; have hs2 : g1 = g18 := hs; omega))); replace BKg18 : Aside0 (w20.heap[g18]? = some (.cells #[.slice Ae17_0 r15.length cAe17_0, .slice Ae17_1 r16.length cAe17_1] 25 (0, 0))) := ⟨by rw [hw]; exact (blk_put (cs' := #[.slice Ae17_0 r15.length cAe17_0, .slice Ae17_1 r16.length cAe17_1]) (blk_put (cs' := #[.slice Ae17_0 r15.length cAe17_0, .slice none 0 0]) BKg18.out 0 _ rfl) 1 _ rfl)⟩; replace HB : Aside0 (Below w.heap.size w w20) := ⟨by rw [hw]; exact below_set (below_set (HB.out) GEg18.out) GEg18.out⟩; have HSw20 := Aside0.mk (And.intro (hk.1) HSw19.out); clear hw hk; have hz_g1_0_w20 : w20.cell? ⟨g1, 0, none⟩ = some (.slice A0_0 l0_0.length c0_0) := (blk_cell BKg1.out 0).trans rfl; have hf_g1_0_w20 := blk_frozen BKg1.out 0; have hz_g1_1_w20 : w20.cell? ⟨g1, 1, none⟩ = some (.slice A0_1 l0_1.length c0_1) := (blk_cell BKg1.out 1).trans rfl; have hf_g1_1_w20 := blk_frozen BKg1.out 1; have hz_g18_0_w20 : w20.cell? ⟨g18, 0, none⟩ = some (.slice Ae17_0 r15.length cAe17_0) := (blk_cell BKg18.out 0).trans rfl; have hf_g18_0_w20 := blk_frozen BKg18.out 0; have hz_g18_1_w20 : w20.cell? ⟨g18, 1, none⟩ = some (.slice Ae17_1 r16.length cAe17_1) := (blk_cell BKg18.out 1).trans rfl; have hf_g18_1_w20 := blk_frozen BKg18.out 1) | ((with_reducible refine gate_callee (f := 30) rfl ?_); refine goesL_ (some 37) rfl rfl Try.func30 (by kernel_rfl) rfl #[.agg #[.slice Ae17_0 r15.length cAe17_0, .slice Ae17_1 r16.length cAe17_1], .int .i64 a1, .int .i64 a2] rfl (by (try simp only [List.map_toArray, List.map_cons, List.map_nil]); first | done | rfl | (simp only [List.length_drop, List.length_take]; rfl)) ?_; (with_reducible refine (impl_DiffIn.calls k _ _ r15 _ _ r16 a1 a2 r22 r23 _ ?side1 ?side2 ?side3 ?side4 Ee24.out).mono ?_); (case side1 => exact (Kd.S_reads' Oe17_0.out).2.2); (case side2 => (have h_ := Kd.S_reads' Oe17_0.out; have h1_ := h_.1; have h2_ := h_.2.1; omega)); (case side3 => exact (Kd.R_reads' Oe17_1.out).2.2); (case side4 => (have h_ := Kd.R_reads' Oe17_1.out; have h1_ := h_.1; have h2_ := h_.2.1; omega)); rintro ex_ w21 ⟨ve24_0, rfl, ho0, hb⟩; refine ⟨_, rfl, ?_⟩; have hk := Kept.of_below hb (fun _ => False); replace Oe9_0 := Aside0.mk (Op.mvS Oe9_0.out hk (fun _ _ hs => hs)); replace Oe9_1 := Aside0.mk (Op.mvR Oe9_1.out hk (fun _ _ hs => hs)); replace Oe13_0 := Aside0.mk (Op.mvR Oe13_0.out hk (fun _ _ hs => hs)); replace Oe17_0 := Aside0.mk (Op.mvS Oe17_0.out hk (fun _ _ hs => hs)); replace Oe17_1 := Aside0.mk (Op.mvR Oe17_1.out hk (fun _ _ hs => hs)); replace BKg1 := Aside0.mk (Op.mvB BKg1.out hk (fun hs => hs)); replace BKg18 := Aside0.mk (Op.mvB BKg18.out hk (fun hs => hs)); have HSw21 := Aside0.mk (And.intro (hb.size) HSw20.out); have Oe24_0 := Aside0.mk (Op.inR ho0 (a := w20.heap.size) (b := w.heap.size) HB.out.size (Nat.le_refl _)); replace HB := Aside0.mk (below_step HB.out hb); obtain ⟨Ae24_0, cAe24_0, ev_⟩ := Kd.R_slice Oe24_0.out; subst ev_; clear hb hk ho0; have hz_g1_0_w21 : w21.cell? ⟨g1, 0, none⟩ = some (.slice A0_0 l0_0.length c0_0) := (blk_cell BKg1.out 0).trans rfl; have hf_g1_0_w21 := blk_frozen BKg1.out 0; have hz_g1_1_w21 : w21.cell? ⟨g1, 1, none⟩ = some (.slice A0_1 l0_1.length c0_1) := (blk_cell BKg1.out 1).trans rfl; have hf_g1_1_w21 := blk_frozen BKg1.out 1; have hz_g18_0_w21 : w21.cell? ⟨g18, 0, none⟩ = some (.slice Ae17_0 r15.length cAe17_0) := (blk_cell BKg18.out 0).trans rfl; have hf_g18_0_w21 := blk_frozen BKg18.out 0; have hz_g18_1_w21 : w21.cell? ⟨g18, 1, none⟩ = some (.slice Ae17_1 r16.length cAe17_1) := (blk_cell BKg18.out 1).trans rfl; have hf_g18_1_w21 := blk_frozen BKg18.out 1) | ((with_reducible refine gate_callee (f := 26) rfl ?_); refine goesL_ (some 42) rfl rfl Try.func26 (by kernel_rfl) rfl #[.slice Ae24_0 r22.length cAe24_0, .slice Ae13_0 r11.length cAe13_0] rfl (by (try simp only [List.map_toArray, List.map_cons, List.map_nil]); first | done | rfl | (simp only [List.length_drop, List.length_take]; rfl)) ?_; (with_reducible refine (laws_eqIntS.calls k _ _ r22 _ _ r11 true _ ?side1 ?side2 ?side3 ?side4 Ee27.out).mono ?_); (case side1 => exact (Kd.R_reads' Oe24_0.out).2.2); (case side2 => (have h_ := Kd.R_reads' Oe24_0.out; have h1_ := h_.1; have h2_ := h_.2.1; omega)); (case side3 => exact (Kd.R_reads' Oe13_0.out).2.2); (case side4 => (have h_ := Kd.R_reads' Oe13_0.out; have h1_ := h_.1; have h2_ := h_.2.1; omega)); rintro ex_ w25 ⟨rfl, hd⟩; refine ⟨_, rfl, ?_⟩; have hb := hd.below; have hk := Kept.of_below hb (fun _ => False); replace Oe9_0 := Aside0.mk (Op.mvS Oe9_0.out hk (fun _ _ hs => hs)); replace Oe9_1 := Aside0.mk (Op.mvR Oe9_1.out hk (fun _ _ hs => hs)); replace Oe13_0 := Aside0.mk (Op.mvR Oe13_0.out hk (fun _ _ hs => hs)); replace Oe17_0 := Aside0.mk (Op.mvS Oe17_0.out hk (fun _ _ hs => hs)); replace Oe17_1 := Aside0.mk (Op.mvR Oe17_1.out hk (fun _ _ hs => hs)); replace Oe24_0 := Aside0.mk (Op.mvR Oe24_0.out hk (fun _ _ hs => hs)); replace BKg1 := Aside0.mk (Op.mvB BKg1.out hk (fun hs => hs)); replace BKg18 := Aside0.mk (Op.mvB BKg18.out hk (fun hs => hs)); have HSw25 := Aside0.mk (And.intro (hb.size) HSw21.out); replace HB := Aside0.mk (below_step HB.out hb); clear hb hk hd; have hz_g1_0_w25 : w25.cell? ⟨g1, 0, none⟩ = some (.slice A0_0 l0_0.length c0_0) := (blk_cell BKg1.out 0).trans rfl; have hf_g1_0_w25 := blk_frozen BKg1.out 0; have hz_g1_1_w25 : w25.cell? ⟨g1, 1, none⟩ = some (.slice A0_1 l0_1.length c0_1) := (blk_cell BKg1.out 1).trans rfl; have hf_g1_1_w25 := blk_frozen BKg1.out 1; have hz_g18_0_w25 : w25.cell? ⟨g18, 0, none⟩ = some (.slice Ae17_0 r15.length cAe17_0) := (blk_cell BKg18.out 0).trans rfl; have hf_g18_0_w25 := blk_frozen BKg18.out 0; have hz_g18_1_w25 : w25.cell? ⟨g18, 1, none⟩ = some (.slice Ae17_1 r16.length cAe17_1) := (blk_cell BKg18.out 1).trans rfl; have hf_g18_1_w25 := blk_frozen BKg18.out 1))
  (try simp only [Act.put, List.setIfInBounds_toArray, List.set_cons_zero, List.set_cons_succ])
  replace Oe9_0 := Aside0.mk (Kd.S_drew Oe9_0.out)
  replace Oe9_1 := Aside0.mk (Kd.R_drew Oe9_1.out)
  replace Oe13_0 := Aside0.mk (Kd.R_drew Oe13_0.out)
  replace Oe17_0 := Aside0.mk (Kd.S_drew Oe17_0.out)
  replace Oe17_1 := Aside0.mk (Kd.R_drew Oe17_1.out)
  replace Oe24_0 := Aside0.mk (Kd.R_drew Oe24_0.out)
  replace BKg1 := Aside0.mk (blk_drew BKg1.out)
  replace BKg18 := Aside0.mk (blk_drew BKg18.out)
  replace HB := Aside0.mk (below_drew1 HB.out)
  have HSw28 := Aside0.mk (And.intro (show w25.heap.size ≤ w25.drew.heap.size from Nat.le_refl _) HSw25.out)
  refine start_ (n := 5) (S := fun w' => w'.cell? ⟨g18, 0, none⟩ = some (.slice Ae17_0 r15.length cAe17_0) ∧ w'.cell? ⟨g18, 1, none⟩ = some (.slice Ae17_1 r16.length cAe17_1) ∧ w'.cell? ⟨g1, 0, none⟩ = some (.slice A0_0 l0_0.length c0_0) ∧ w'.cell? ⟨g1, 1, none⟩ = some (.slice A0_1 l0_1.length c0_1)) (ds := []) #[false, false, false, false, false] (by kernel_rfl) rfl rfl ⟨(blk_cell BKg18.out 0).trans rfl, (blk_cell BKg18.out 1).trans rfl, (blk_cell BKg1.out 0).trans rfl, (blk_cell BKg1.out 1).trans rfl⟩ (fun hHeld => ?_)
  generalize w25.drew = w28 at Oe9_0 Oe9_1 Oe13_0 Oe17_0 Oe17_1 Oe24_0 BKg1 BKg18 HB HSw28 hHeld ⊢
  refine take_ (i := 0) (N := some 49) (v := ?_) (a' := ?_) #[true, false, false, false, false] rfl rfl (by kernel_rfl) (fun _ _ _ h => h) (Or.inl ⟨by rfl, ?_⟩) hHeld ?_ ?_
  rotate_left
  · rintro w' ⟨s0, s1, s2, s3⟩
    go_simp
    with_reducible rfl
  rotate_left
  · simp only [Act.put, List.setIfInBounds_toArray, List.set_cons_zero, List.set_cons_succ, i64_w, i32_w]
    rfl
  refine take_ (i := 1) (N := some 50) (v := ?_) (a' := ?_) #[true, true, false, false, false] rfl rfl (by kernel_rfl) (fun _ _ _ h => h) (Or.inl ⟨by rfl, ?_⟩) hHeld ?_ ?_
  rotate_left
  · rintro w' ⟨s0, s1, s2, s3⟩
    go_simp
    with_reducible rfl
  rotate_left
  · simp only [Act.put, List.setIfInBounds_toArray, List.set_cons_zero, List.set_cons_succ, i64_w, i32_w]
    rfl
  refine one_ (i := 2) (N := some 51) #[true, true, true, false, false] rfl rfl (by kernel_rfl) (by decide) (fun K hK => ?_)
  refine goes_ Try.func20 (by kernel_rfl) rfl #[.agg #[.slice A0_0 l0_0.length c0_0, .slice A0_1 l0_1.length c0_1]] (by rfl) rfl rfl (by (try simp only [List.map_toArray, List.map_cons, List.map_nil]); first | done | rfl | (simp only [List.length_drop, List.length_take]; rfl)) ?_
  (with_reducible refine (laws_toPool.calls k _ _ l0_0 _ _ l0_1 r30 r31 _ ?side1 ?side2 ?side3 ?side4 Ee32.out).mono ?_)
  (case side1 => exact (Kd.C_below HR0_0.out HB.out))
  (case side2 => exact HC0_0.out)
  (case side3 => exact (Kd.C_below HR0_1.out HB.out))
  (case side4 => exact HC0_1.out)
  rintro ex_ w29 ⟨ve32_0, ve32_1, rfl, ho0, ho1, hb⟩
  refine ⟨_, rfl, ?_⟩
  have hk := Kept.of_below hb (fun _ => False)
  replace Oe9_0 := Aside0.mk (Op.mvS Oe9_0.out hk (fun _ _ hs => hs))
  replace Oe9_1 := Aside0.mk (Op.mvR Oe9_1.out hk (fun _ _ hs => hs))
  replace Oe13_0 := Aside0.mk (Op.mvR Oe13_0.out hk (fun _ _ hs => hs))
  replace Oe17_0 := Aside0.mk (Op.mvS Oe17_0.out hk (fun _ _ hs => hs))
  replace Oe17_1 := Aside0.mk (Op.mvR Oe17_1.out hk (fun _ _ hs => hs))
  replace Oe24_0 := Aside0.mk (Op.mvR Oe24_0.out hk (fun _ _ hs => hs))
  replace BKg1 := Aside0.mk (Op.mvB BKg1.out hk (fun hs => hs))
  replace BKg18 := Aside0.mk (Op.mvB BKg18.out hk (fun hs => hs))
  have HSw29 := Aside0.mk (And.intro (hb.size) HSw28.out)
  have Oe32_0 := Aside0.mk (Op.inS ho0 (a := w28.heap.size) (b := w.heap.size) HB.out.size (Nat.le_refl _))
  have Oe32_1 := Aside0.mk (Op.inR ho1 (a := w28.heap.size) (b := w.heap.size) HB.out.size (Nat.le_refl _))
  replace HB := Aside0.mk (below_step HB.out hb)
  obtain ⟨Ae32_0, cAe32_0, ev_⟩ := Kd.S_slice Oe32_0.out
  subst ev_
  obtain ⟨Ae32_1, cAe32_1, ev_⟩ := Kd.R_slice Oe32_1.out
  subst ev_
  clear hb hk ho0 ho1
  refine hK.out _ _ ⟨(blk_cell BKg18.out 0).trans rfl, (blk_cell BKg18.out 1).trans rfl, (blk_cell BKg1.out 0).trans rfl, (blk_cell BKg1.out 1).trans rfl⟩ (fun hHeld => ?_)
  clear hK K
  refine norm_ (a' := ?_) ?_ ?_
  rotate_left
  · show Act.put _ (some 51) _ = _
    simp only [Act.put, List.setIfInBounds_toArray, List.set_cons_zero, List.set_cons_succ, i64_w, i32_w]
    rfl
  refine one_ (i := 3) (N := some 52) #[true, true, true, true, false] rfl rfl (by kernel_rfl) (by decide) (fun K hK => ?_)
  refine goes_ Try.func15 (by kernel_rfl) rfl #[.agg #[.slice Ae17_0 r15.length cAe17_0, .slice Ae17_1 r16.length cAe17_1], .agg #[.slice Ae32_0 r30.length cAe32_0, .slice Ae32_1 r31.length cAe32_1]] (by rfl) rfl rfl (by (try simp only [List.map_toArray, List.map_cons, List.map_nil]); first | done | rfl | (simp only [List.length_drop, List.length_take]; rfl)) ?_
  (with_reducible refine (laws_eqPool.calls k _ _ r15 _ _ r16 _ _ r30 _ _ r31 true _ ?side1 ?side2 ?side3 ?side4 ?side5 ?side6 ?side7 ?side8 Ee35.out).mono ?_)
  (case side1 => exact (Kd.S_reads' Oe17_0.out).2.2)
  (case side2 => (have h_ := Kd.S_reads' Oe17_0.out; have h1_ := h_.1; have h2_ := h_.2.1; omega))
  (case side3 => exact (Kd.R_reads' Oe17_1.out).2.2)
  (case side4 => (have h_ := Kd.R_reads' Oe17_1.out; have h1_ := h_.1; have h2_ := h_.2.1; omega))
  (case side5 => exact (Kd.S_reads' Oe32_0.out).2.2)
  (case side6 => (have h_ := Kd.S_reads' Oe32_0.out; have h1_ := h_.1; have h2_ := h_.2.1; omega))
  (case side7 => exact (Kd.R_reads' Oe32_1.out).2.2)
  (case side8 => (have h_ := Kd.R_reads' Oe32_1.out; have h1_ := h_.1; have h2_ := h_.2.1; omega))
  rintro ex_ w33 ⟨rfl, hb⟩
  refine ⟨_, rfl, ?_⟩
  have hk := Kept.of_below hb (fun _ => False)
  replace Oe9_0 := Aside0.mk (Op.mvS Oe9_0.out hk (fun _ _ hs => hs))
  replace Oe9_1 := Aside0.mk (Op.mvR Oe9_1.out hk (fun _ _ hs => hs))
  replace Oe13_0 := Aside0.mk (Op.mvR Oe13_0.out hk (fun _ _ hs => hs))
  replace Oe17_0 := Aside0.mk (Op.mvS Oe17_0.out hk (fun _ _ hs => hs))
  replace Oe17_1 := Aside0.mk (Op.mvR Oe17_1.out hk (fun _ _ hs => hs))
  replace Oe24_0 := Aside0.mk (Op.mvR Oe24_0.out hk (fun _ _ hs => hs))
  replace Oe32_0 := Aside0.mk (Op.mvS Oe32_0.out hk (fun _ _ hs => hs))
  replace Oe32_1 := Aside0.mk (Op.mvR Oe32_1.out hk (fun _ _ hs => hs))
  replace BKg1 := Aside0.mk (Op.mvB BKg1.out hk (fun hs => hs))
  replace BKg18 := Aside0.mk (Op.mvB BKg18.out hk (fun hs => hs))
  have HSw33 := Aside0.mk (And.intro (hb.size) HSw29.out)
  replace HB := Aside0.mk (below_step HB.out hb)
  clear hb hk
  refine hK.out _ _ ⟨(blk_cell BKg18.out 0).trans rfl, (blk_cell BKg18.out 1).trans rfl, (blk_cell BKg1.out 0).trans rfl, (blk_cell BKg1.out 1).trans rfl⟩ (fun hHeld => ?_)
  clear hK K
  refine norm_ (a' := ?_) ?_ ?_
  rotate_left
  · show Act.put _ (some 52) _ = _
    simp only [Act.put, List.setIfInBounds_toArray, List.set_cons_zero, List.set_cons_succ, i64_w, i32_w]
    rfl
  refine pure_ (i := 4) (N := some 53) (v := ?_) (a' := ?_) #[true, true, true, true, true] rfl rfl (by kernel_rfl) (fun _ _ _ h => h) (Or.inl ⟨by rfl, ?_⟩) ?_ ?_
  rotate_left
  · intro w'
    go_simp
    with_reducible rfl
  rotate_left
  · simp only [Act.put, List.setIfInBounds_toArray, List.set_cons_zero, List.set_cons_succ, i64_w, i32_w]
    rfl
  refine done_ (by kernel_rfl) ?_
  have hz_g1_0_w33 : w33.cell? ⟨g1, 0, none⟩ = some (.slice A0_0 l0_0.length c0_0) := (blk_cell BKg1.out 0).trans rfl
  have hf_g1_0_w33 := blk_frozen BKg1.out 0
  have hz_g1_1_w33 : w33.cell? ⟨g1, 1, none⟩ = some (.slice A0_1 l0_1.length c0_1) := (blk_cell BKg1.out 1).trans rfl
  have hf_g1_1_w33 := blk_frozen BKg1.out 1
  have hz_g18_0_w33 : w33.cell? ⟨g18, 0, none⟩ = some (.slice Ae17_0 r15.length cAe17_0) := (blk_cell BKg18.out 0).trans rfl
  have hf_g18_0_w33 := blk_frozen BKg18.out 0
  have hz_g18_1_w33 : w33.cell? ⟨g18, 1, none⟩ = some (.slice Ae17_1 r16.length cAe17_1) := (blk_cell BKg18.out 1).trans rfl
  have hf_g18_1_w33 := blk_frozen BKg18.out 1
  go_wp2_with (first | ((with_reducible refine gate_callee (f := 16) rfl ?_); refine goesL_ (some 56) rfl rfl Try.func16 (by kernel_rfl) rfl #[.agg #[.slice Ae17_0 r15.length cAe17_0, .slice Ae17_1 r16.length cAe17_1], .int .i64 1] rfl (by (try simp only [List.map_toArray, List.map_cons, List.map_nil]); first | done | rfl | (simp only [List.length_drop, List.length_take]; rfl)) ?_; have tOe17_1 := Aside0.mk (Op.tiR rfl Oe17_1.out); (with_reducible refine (laws_markPool.calls k _ _ _ _ r15 r16 1 r37 r38 r39 w _ HB.out Oe17_0.out tOe17_1.out ?sd0 Ee40.out).mono ?_); (case sd0 => (intro j h1 h2; first | exact h1.1 h2.1 | exact h1.1.1 h2.1 | exact h1.1.2 h2.1 | exact (Oe17_1.out.1 j h1.1.symm).1 h2.1 | exact (Oe17_1.out.1 j h1.1.symm).1.1 h2.1 | exact (Oe17_1.out.1 j h1.1.symm).1.2 h2.1 | exact (Oe17_1.out.1 j h2.1.symm).1 h1.1 | exact (Oe17_1.out.1 j h2.1.symm).1.1 h1.1 | exact (Oe17_1.out.1 j h2.1.symm).1.2 h1.1)); rintro ex_ w36 ⟨rfl, ho0, ho1, hb, hk⟩; refine ⟨_, rfl, ?_⟩; replace Oe9_0 := Aside0.mk (Op.mvS Oe9_0.out hk (fun j hj hs => by (have hj2 := hj.2; have q := HSw33.out; exact Or.elim hs (fun hs => by (have hs2 := hs.2; omega)) (fun hs => by (have hs2 := hs.2.2; omega))))); replace Oe9_1 := Aside0.mk (Op.mvR Oe9_1.out hk (fun j hj hs => by (have hj2 := hj.2; have q := HSw33.out; exact Or.elim hs (fun hs => by (have hs2 := hs.2; omega)) (fun hs => by (have hs2 := hs.2.2; omega))))); replace Oe13_0 := Aside0.mk (Op.mvR Oe13_0.out hk (fun j hj hs => by (have hj2 := hj.2; have q := HSw33.out; exact Or.elim hs (fun hs => by (have hs2 := hs.2; omega)) (fun hs => by (have hs2 := hs.2.2; omega))))); replace Oe24_0 := Aside0.mk (Op.mvR Oe24_0.out hk (fun j hj hs => by (have hj2 := hj.2; have q := HSw33.out; exact Or.elim hs (fun hs => by (have hs2 := hs.2; omega)) (fun hs => by (have hs2 := hs.2.2; omega))))); replace Oe32_0 := Aside0.mk (Op.mvS Oe32_0.out hk (fun j hj hs => by (have hj2 := hj.2; have q := HSw33.out; exact Or.elim hs (fun hs => by (have hs2 := hs.2; omega)) (fun hs => by (have hs2 := hs.2.2; omega))))); replace Oe32_1 := Aside0.mk (Op.mvR Oe32_1.out hk (fun j hj hs => by (have hj2 := hj.2; have q := HSw33.out; exact Or.elim hs (fun hs => by (have hs2 := hs.2; omega)) (fun hs => by (have hs2 := hs.2.2; omega))))); replace BKg1 := Aside0.mk (Op.mvB BKg1.out hk (fun hs => by (have q := HSw33.out; exact Or.elim hs (fun hs => by (have hs2 := hs.2; omega)) (fun hs => by (have hs2 := hs.2.2; omega))))); replace BKg18 := Aside0.mk (Op.mvB BKg18.out hk (fun hs => by (have q := HSw33.out; exact Or.elim hs (fun hs => by (have hs2 := hs.2; omega)) (fun hs => by (have hs2 := hs.2.2; omega))))); replace HB := Aside0.mk hb; have HSw36 := Aside0.mk (And.intro (hk.1) HSw33.out); replace Oe17_0 := Aside0.mk ho0; replace Oe17_1 := Aside0.mk (Kd.R_reok rfl ho1 Oe17_1.out.1); clear hb hk ho0 ho1 tOe17_1; have hz_g1_0_w36 : w36.cell? ⟨g1, 0, none⟩ = some (.slice A0_0 l0_0.length c0_0) := (blk_cell BKg1.out 0).trans rfl; have hf_g1_0_w36 := blk_frozen BKg1.out 0; have hz_g1_1_w36 : w36.cell? ⟨g1, 1, none⟩ = some (.slice A0_1 l0_1.length c0_1) := (blk_cell BKg1.out 1).trans rfl; have hf_g1_1_w36 := blk_frozen BKg1.out 1; have hz_g18_0_w36 : w36.cell? ⟨g18, 0, none⟩ = some (.slice Ae17_0 r15.length cAe17_0) := (blk_cell BKg18.out 0).trans rfl; have hf_g18_0_w36 := blk_frozen BKg18.out 0; have hz_g18_1_w36 : w36.cell? ⟨g18, 1, none⟩ = some (.slice Ae17_1 r16.length cAe17_1) := (blk_cell BKg18.out 1).trans rfl; have hf_g18_1_w36 := blk_frozen BKg18.out 1; have hl_ := (Kd.S_reads' Oe17_0.out).1; have LOe17_0_r38 := Aside0.mk hl_; clear hl_; have hl_ := (Kd.R_reads' Oe17_1.out).1; have LOe17_1_r39 := Aside0.mk hl_; clear hl_) | (go_at_call 26; (with_reducible refine (laws_eqIntS.calls k _ _ r22 _ _ r11 true _ ?side1 ?side2 ?side3 ?side4 Ee43.out).mono ?_); (case side1 => exact (Kd.R_reads' Oe24_0.out).2.2); (case side2 => (have h_ := Kd.R_reads' Oe24_0.out; have h1_ := h_.1; have h2_ := h_.2.1; omega)); (case side3 => exact (Kd.R_reads' Oe13_0.out).2.2); (case side4 => (have h_ := Kd.R_reads' Oe13_0.out; have h1_ := h_.1; have h2_ := h_.2.1; omega)); rintro ex_ w41 ⟨rfl, hd⟩; have hb := hd.below; have hk := Kept.of_below hb (fun _ => False); replace Oe9_0 := Aside0.mk (Op.mvS Oe9_0.out hk (fun _ _ hs => hs)); replace Oe9_1 := Aside0.mk (Op.mvR Oe9_1.out hk (fun _ _ hs => hs)); replace Oe13_0 := Aside0.mk (Op.mvR Oe13_0.out hk (fun _ _ hs => hs)); replace Oe17_0 := Aside0.mk (Op.mvS Oe17_0.out hk (fun _ _ hs => hs)); replace Oe17_1 := Aside0.mk (Op.mvR Oe17_1.out hk (fun _ _ hs => hs)); replace Oe24_0 := Aside0.mk (Op.mvR Oe24_0.out hk (fun _ _ hs => hs)); replace Oe32_0 := Aside0.mk (Op.mvS Oe32_0.out hk (fun _ _ hs => hs)); replace Oe32_1 := Aside0.mk (Op.mvR Oe32_1.out hk (fun _ _ hs => hs)); replace BKg1 := Aside0.mk (Op.mvB BKg1.out hk (fun hs => hs)); replace BKg18 := Aside0.mk (Op.mvB BKg18.out hk (fun hs => hs)); have HSw41 := Aside0.mk (And.intro (hb.size) HSw36.out); replace HB := Aside0.mk (below_step HB.out hb); clear hb hk hd; have hz_g1_0_w41 : w41.cell? ⟨g1, 0, none⟩ = some (.slice A0_0 l0_0.length c0_0) := (blk_cell BKg1.out 0).trans rfl; have hf_g1_0_w41 := blk_frozen BKg1.out 0; have hz_g1_1_w41 : w41.cell? ⟨g1, 1, none⟩ = some (.slice A0_1 l0_1.length c0_1) := (blk_cell BKg1.out 1).trans rfl; have hf_g1_1_w41 := blk_frozen BKg1.out 1; have hz_g18_0_w41 : w41.cell? ⟨g18, 0, none⟩ = some (.slice Ae17_0 r15.length cAe17_0) := (blk_cell BKg18.out 0).trans rfl; have hf_g18_0_w41 := blk_frozen BKg18.out 0; have hz_g18_1_w41 : w41.cell? ⟨g18, 1, none⟩ = some (.slice Ae17_1 r16.length cAe17_1) := (blk_cell BKg18.out 1).trans rfl; have hf_g18_1_w41 := blk_frozen BKg18.out 1) | ((with_reducible refine gate_callee (f := 27) rfl ?_); refine goesL_ (some 72) rfl rfl Try.func27 (by kernel_rfl) rfl #[.slice Ae24_0 r22.length cAe24_0, .int .i64 1] rfl (by (try simp only [List.map_toArray, List.map_cons, List.map_nil]); first | done | rfl | (simp only [List.length_drop, List.length_take]; rfl)) ?_; have tOe24_0 := Aside0.mk (Op.tiR rfl Oe24_0.out); (with_reducible refine (laws_markIntS.calls k _ _ r22 1 r45 r46 w _ HB.out tOe24_0.out Ee47.out).mono ?_); rintro ex_ w44 ⟨rfl, ho0, hb, hk⟩; refine ⟨_, rfl, ?_⟩; replace Oe9_0 := Aside0.mk (Op.mvS Oe9_0.out hk (fun j hj hs => by (have hj2 := hj.2; have q := HSw41.out; have hs2 := hs.2.2; omega))); replace Oe9_1 := Aside0.mk (Op.mvR Oe9_1.out hk (fun j hj hs => by (have hj2 := hj.2; have q := HSw41.out; have hs2 := hs.2.2; omega))); replace Oe13_0 := Aside0.mk (Op.mvR Oe13_0.out hk (fun j hj hs => by (have hj2 := hj.2; have q := HSw41.out; have hs2 := hs.2.2; omega))); replace Oe17_0 := Aside0.mk (Op.mvS Oe17_0.out hk (fun j hj hs => by (have hj2 := hj.2; have q := HSw41.out; have hs2 := hs.2.2; omega))); replace Oe17_1 := Aside0.mk (Op.mvR Oe17_1.out hk (fun j hj hs => by (have hj2 := hj.2; have q := HSw41.out; have hs2 := hs.2.2; omega))); replace Oe32_0 := Aside0.mk (Op.mvS Oe32_0.out hk (fun j hj hs => by (have hj2 := hj.2; have q := HSw41.out; have hs2 := hs.2.2; omega))); replace Oe32_1 := Aside0.mk (Op.mvR Oe32_1.out hk (fun j hj hs => by (have hj2 := hj.2; have q := HSw41.out; have hs2 := hs.2.2; omega))); replace BKg1 := Aside0.mk (Op.mvB BKg1.out hk (fun hs => by (have q := HSw41.out; have hs2 := hs.2.2; omega))); replace BKg18 := Aside0.mk (Op.mvB BKg18.out hk (fun hs => by (have q := HSw41.out; have hs2 := hs.2.2; omega))); replace HB := Aside0.mk hb; have HSw44 := Aside0.mk (And.intro (hk.1) HSw41.out); replace Oe24_0 := Aside0.mk (Kd.R_reok rfl ho0 Oe24_0.out.1); clear hb hk ho0 tOe24_0; have hz_g1_0_w44 : w44.cell? ⟨g1, 0, none⟩ = some (.slice A0_0 l0_0.length c0_0) := (blk_cell BKg1.out 0).trans rfl; have hf_g1_0_w44 := blk_frozen BKg1.out 0; have hz_g1_1_w44 : w44.cell? ⟨g1, 1, none⟩ = some (.slice A0_1 l0_1.length c0_1) := (blk_cell BKg1.out 1).trans rfl; have hf_g1_1_w44 := blk_frozen BKg1.out 1; have hz_g18_0_w44 : w44.cell? ⟨g18, 0, none⟩ = some (.slice Ae17_0 r15.length cAe17_0) := (blk_cell BKg18.out 0).trans rfl; have hf_g18_0_w44 := blk_frozen BKg18.out 0; have hz_g18_1_w44 : w44.cell? ⟨g18, 1, none⟩ = some (.slice Ae17_1 r16.length cAe17_1) := (blk_cell BKg18.out 1).trans rfl; have hf_g18_1_w44 := blk_frozen BKg18.out 1; have hl_ := (Kd.R_reads' Oe24_0.out).1; have LOe24_0_r46 := Aside0.mk hl_; clear hl_) | ((with_reducible refine gate_callee (f := 28) rfl ?_); refine goesL_ (some 75) rfl rfl Try.func28 (by kernel_rfl) rfl #[.slice Ae24_0 r22.length cAe24_0, .int .i64 1] rfl (by (try simp only [List.map_toArray, List.map_cons, List.map_nil]); first | done | rfl | (simp only [List.length_drop, List.length_take]; rfl)) ?_; refine Op.args_eq (args := #[.slice Ae24_0 r46.length cAe24_0, .int .i64 1]) (by simp only [LOe24_0_r46.out]) ?_; (with_reducible refine (laws_heldIntS.calls k _ _ r46 1 r49 _ ?side1 ?side2 Ee50.out).mono ?_); (case side1 => exact (Kd.R_reads' Oe24_0.out).2.2); (case side2 => (have h_ := Kd.R_reads' Oe24_0.out; have h1_ := h_.1; have h2_ := h_.2.1; omega)); rintro ex_ w48 ⟨rfl, hd⟩; refine ⟨_, rfl, ?_⟩; have hb := hd.below; have hk := Kept.of_below hb (fun _ => False); replace Oe9_0 := Aside0.mk (Op.mvS Oe9_0.out hk (fun _ _ hs => hs)); replace Oe9_1 := Aside0.mk (Op.mvR Oe9_1.out hk (fun _ _ hs => hs)); replace Oe13_0 := Aside0.mk (Op.mvR Oe13_0.out hk (fun _ _ hs => hs)); replace Oe17_0 := Aside0.mk (Op.mvS Oe17_0.out hk (fun _ _ hs => hs)); replace Oe17_1 := Aside0.mk (Op.mvR Oe17_1.out hk (fun _ _ hs => hs)); replace Oe24_0 := Aside0.mk (Op.mvR Oe24_0.out hk (fun _ _ hs => hs)); replace Oe32_0 := Aside0.mk (Op.mvS Oe32_0.out hk (fun _ _ hs => hs)); replace Oe32_1 := Aside0.mk (Op.mvR Oe32_1.out hk (fun _ _ hs => hs)); replace BKg1 := Aside0.mk (Op.mvB BKg1.out hk (fun hs => hs)); replace BKg18 := Aside0.mk (Op.mvB BKg18.out hk (fun hs => hs)); have HSw48 := Aside0.mk (And.intro (hb.size) HSw44.out); replace HB := Aside0.mk (below_step HB.out hb); clear hb hk hd; have hz_g1_0_w48 : w48.cell? ⟨g1, 0, none⟩ = some (.slice A0_0 l0_0.length c0_0) := (blk_cell BKg1.out 0).trans rfl; have hf_g1_0_w48 := blk_frozen BKg1.out 0; have hz_g1_1_w48 : w48.cell? ⟨g1, 1, none⟩ = some (.slice A0_1 l0_1.length c0_1) := (blk_cell BKg1.out 1).trans rfl; have hf_g1_1_w48 := blk_frozen BKg1.out 1; have hz_g18_0_w48 : w48.cell? ⟨g18, 0, none⟩ = some (.slice Ae17_0 r15.length cAe17_0) := (blk_cell BKg18.out 0).trans rfl; have hf_g18_0_w48 := blk_frozen BKg18.out 0; have hz_g18_1_w48 : w48.cell? ⟨g18, 1, none⟩ = some (.slice Ae17_1 r16.length cAe17_1) := (blk_cell BKg18.out 1).trans rfl; have hf_g18_1_w48 := blk_frozen BKg18.out 1) | ((with_reducible refine gate_callee (f := 20) rfl ?_); refine goesL_ (some 83) rfl rfl Try.func20 (by kernel_rfl) rfl #[.agg #[.slice A0_0 l0_0.length c0_0, .slice A0_1 l0_1.length c0_1]] rfl (by (try simp only [List.map_toArray, List.map_cons, List.map_nil]); first | done | rfl | (simp only [List.length_drop, List.length_take]; rfl)) ?_; (with_reducible refine (laws_toPool.calls k _ _ l0_0 _ _ l0_1 r52 r53 _ ?side1 ?side2 ?side3 ?side4 Ee54.out).mono ?_); (case side1 => exact (Kd.C_below HR0_0.out HB.out)); (case side2 => exact HC0_0.out); (case side3 => exact (Kd.C_below HR0_1.out HB.out)); (case side4 => exact HC0_1.out); rintro ex_ w51 ⟨ve54_0, ve54_1, rfl, ho0, ho1, hb⟩; refine ⟨_, rfl, ?_⟩; have hk := Kept.of_below hb (fun _ => False); replace Oe9_0 := Aside0.mk (Op.mvS Oe9_0.out hk (fun _ _ hs => hs)); replace Oe9_1 := Aside0.mk (Op.mvR Oe9_1.out hk (fun _ _ hs => hs)); replace Oe13_0 := Aside0.mk (Op.mvR Oe13_0.out hk (fun _ _ hs => hs)); replace Oe17_0 := Aside0.mk (Op.mvS Oe17_0.out hk (fun _ _ hs => hs)); replace Oe17_1 := Aside0.mk (Op.mvR Oe17_1.out hk (fun _ _ hs => hs)); replace Oe24_0 := Aside0.mk (Op.mvR Oe24_0.out hk (fun _ _ hs => hs)); replace Oe32_0 := Aside0.mk (Op.mvS Oe32_0.out hk (fun _ _ hs => hs)); replace Oe32_1 := Aside0.mk (Op.mvR Oe32_1.out hk (fun _ _ hs => hs)); replace BKg1 := Aside0.mk (Op.mvB BKg1.out hk (fun hs => hs)); replace BKg18 := Aside0.mk (Op.mvB BKg18.out hk (fun hs => hs)); have HSw51 := Aside0.mk (And.intro (hb.size) HSw48.out); have Oe54_0 := Aside0.mk (Op.inS ho0 (a := w48.heap.size) (b := w.heap.size) HB.out.size (Nat.le_refl _)); have Oe54_1 := Aside0.mk (Op.inR ho1 (a := w48.heap.size) (b := w.heap.size) HB.out.size (Nat.le_refl _)); replace HB := Aside0.mk (below_step HB.out hb); obtain ⟨Ae54_0, cAe54_0, ev_⟩ := Kd.S_slice Oe54_0.out; subst ev_; obtain ⟨Ae54_1, cAe54_1, ev_⟩ := Kd.R_slice Oe54_1.out; subst ev_; clear hb hk ho0 ho1; have hz_g1_0_w51 : w51.cell? ⟨g1, 0, none⟩ = some (.slice A0_0 l0_0.length c0_0) := (blk_cell BKg1.out 0).trans rfl; have hf_g1_0_w51 := blk_frozen BKg1.out 0; have hz_g1_1_w51 : w51.cell? ⟨g1, 1, none⟩ = some (.slice A0_1 l0_1.length c0_1) := (blk_cell BKg1.out 1).trans rfl; have hf_g1_1_w51 := blk_frozen BKg1.out 1; have hz_g18_0_w51 : w51.cell? ⟨g18, 0, none⟩ = some (.slice Ae17_0 r15.length cAe17_0) := (blk_cell BKg18.out 0).trans rfl; have hf_g18_0_w51 := blk_frozen BKg18.out 0; have hz_g18_1_w51 : w51.cell? ⟨g18, 1, none⟩ = some (.slice Ae17_1 r16.length cAe17_1) := (blk_cell BKg18.out 1).trans rfl; have hf_g18_1_w51 := blk_frozen BKg18.out 1) | ((with_reducible refine gate_callee (f := 30) rfl ?_); refine goesL_ (some 86) rfl rfl Try.func30 (by kernel_rfl) rfl #[.agg #[.slice Ae54_0 r52.length cAe54_0, .slice Ae54_1 r53.length cAe54_1], .int .i64 a1, .int .i64 a2] rfl (by (try simp only [List.map_toArray, List.map_cons, List.map_nil]); first | done | rfl | (simp only [List.length_drop, List.length_take]; rfl)) ?_; (with_reducible refine (impl_DiffIn.calls k _ _ r52 _ _ r53 a1 a2 r56 r57 _ ?side1 ?side2 ?side3 ?side4 Ee58.out).mono ?_); (case side1 => exact (Kd.S_reads' Oe54_0.out).2.2); (case side2 => (have h_ := Kd.S_reads' Oe54_0.out; have h1_ := h_.1; have h2_ := h_.2.1; omega)); (case side3 => exact (Kd.R_reads' Oe54_1.out).2.2); (case side4 => (have h_ := Kd.R_reads' Oe54_1.out; have h1_ := h_.1; have h2_ := h_.2.1; omega)); rintro ex_ w55 ⟨ve58_0, rfl, ho0, hb⟩; refine ⟨_, rfl, ?_⟩; have hk := Kept.of_below hb (fun _ => False); replace Oe9_0 := Aside0.mk (Op.mvS Oe9_0.out hk (fun _ _ hs => hs)); replace Oe9_1 := Aside0.mk (Op.mvR Oe9_1.out hk (fun _ _ hs => hs)); replace Oe13_0 := Aside0.mk (Op.mvR Oe13_0.out hk (fun _ _ hs => hs)); replace Oe17_0 := Aside0.mk (Op.mvS Oe17_0.out hk (fun _ _ hs => hs)); replace Oe17_1 := Aside0.mk (Op.mvR Oe17_1.out hk (fun _ _ hs => hs)); replace Oe24_0 := Aside0.mk (Op.mvR Oe24_0.out hk (fun _ _ hs => hs)); replace Oe32_0 := Aside0.mk (Op.mvS Oe32_0.out hk (fun _ _ hs => hs)); replace Oe32_1 := Aside0.mk (Op.mvR Oe32_1.out hk (fun _ _ hs => hs)); replace Oe54_0 := Aside0.mk (Op.mvS Oe54_0.out hk (fun _ _ hs => hs)); replace Oe54_1 := Aside0.mk (Op.mvR Oe54_1.out hk (fun _ _ hs => hs)); replace BKg1 := Aside0.mk (Op.mvB BKg1.out hk (fun hs => hs)); replace BKg18 := Aside0.mk (Op.mvB BKg18.out hk (fun hs => hs)); have HSw55 := Aside0.mk (And.intro (hb.size) HSw51.out); have Oe58_0 := Aside0.mk (Op.inR ho0 (a := w51.heap.size) (b := w.heap.size) HB.out.size (Nat.le_refl _)); replace HB := Aside0.mk (below_step HB.out hb); obtain ⟨Ae58_0, cAe58_0, ev_⟩ := Kd.R_slice Oe58_0.out; subst ev_; clear hb hk ho0; have hz_g1_0_w55 : w55.cell? ⟨g1, 0, none⟩ = some (.slice A0_0 l0_0.length c0_0) := (blk_cell BKg1.out 0).trans rfl; have hf_g1_0_w55 := blk_frozen BKg1.out 0; have hz_g1_1_w55 : w55.cell? ⟨g1, 1, none⟩ = some (.slice A0_1 l0_1.length c0_1) := (blk_cell BKg1.out 1).trans rfl; have hf_g1_1_w55 := blk_frozen BKg1.out 1; have hz_g18_0_w55 : w55.cell? ⟨g18, 0, none⟩ = some (.slice Ae17_0 r15.length cAe17_0) := (blk_cell BKg18.out 0).trans rfl; have hf_g18_0_w55 := blk_frozen BKg18.out 0; have hz_g18_1_w55 : w55.cell? ⟨g18, 1, none⟩ = some (.slice Ae17_1 r16.length cAe17_1) := (blk_cell BKg18.out 1).trans rfl; have hf_g18_1_w55 := blk_frozen BKg18.out 1) | ((with_reducible refine gate_callee (f := 26) rfl ?_); refine goesL_ (some 91) rfl rfl Try.func26 (by kernel_rfl) rfl #[.slice Ae58_0 r56.length cAe58_0, .slice Ae13_0 r11.length cAe13_0] rfl (by (try simp only [List.map_toArray, List.map_cons, List.map_nil]); first | done | rfl | (simp only [List.length_drop, List.length_take]; rfl)) ?_; (with_reducible refine (laws_eqIntS.calls k _ _ r56 _ _ r11 true _ ?side1 ?side2 ?side3 ?side4 Ee61.out).mono ?_); (case side1 => exact (Kd.R_reads' Oe58_0.out).2.2); (case side2 => (have h_ := Kd.R_reads' Oe58_0.out; have h1_ := h_.1; have h2_ := h_.2.1; omega)); (case side3 => exact (Kd.R_reads' Oe13_0.out).2.2); (case side4 => (have h_ := Kd.R_reads' Oe13_0.out; have h1_ := h_.1; have h2_ := h_.2.1; omega)); rintro ex_ w59 ⟨rfl, hd⟩; refine ⟨_, rfl, ?_⟩; have hb := hd.below; have hk := Kept.of_below hb (fun _ => False); replace Oe9_0 := Aside0.mk (Op.mvS Oe9_0.out hk (fun _ _ hs => hs)); replace Oe9_1 := Aside0.mk (Op.mvR Oe9_1.out hk (fun _ _ hs => hs)); replace Oe13_0 := Aside0.mk (Op.mvR Oe13_0.out hk (fun _ _ hs => hs)); replace Oe17_0 := Aside0.mk (Op.mvS Oe17_0.out hk (fun _ _ hs => hs)); replace Oe17_1 := Aside0.mk (Op.mvR Oe17_1.out hk (fun _ _ hs => hs)); replace Oe24_0 := Aside0.mk (Op.mvR Oe24_0.out hk (fun _ _ hs => hs)); replace Oe32_0 := Aside0.mk (Op.mvS Oe32_0.out hk (fun _ _ hs => hs)); replace Oe32_1 := Aside0.mk (Op.mvR Oe32_1.out hk (fun _ _ hs => hs)); replace Oe54_0 := Aside0.mk (Op.mvS Oe54_0.out hk (fun _ _ hs => hs)); replace Oe54_1 := Aside0.mk (Op.mvR Oe54_1.out hk (fun _ _ hs => hs)); replace Oe58_0 := Aside0.mk (Op.mvR Oe58_0.out hk (fun _ _ hs => hs)); replace BKg1 := Aside0.mk (Op.mvB BKg1.out hk (fun hs => hs)); replace BKg18 := Aside0.mk (Op.mvB BKg18.out hk (fun hs => hs)); have HSw59 := Aside0.mk (And.intro (hb.size) HSw55.out); replace HB := Aside0.mk (below_step HB.out hb); clear hb hk hd; have hz_g1_0_w59 : w59.cell? ⟨g1, 0, none⟩ = some (.slice A0_0 l0_0.length c0_0) := (blk_cell BKg1.out 0).trans rfl; have hf_g1_0_w59 := blk_frozen BKg1.out 0; have hz_g1_1_w59 : w59.cell? ⟨g1, 1, none⟩ = some (.slice A0_1 l0_1.length c0_1) := (blk_cell BKg1.out 1).trans rfl; have hf_g1_1_w59 := blk_frozen BKg1.out 1; have hz_g18_0_w59 : w59.cell? ⟨g18, 0, none⟩ = some (.slice Ae17_0 r15.length cAe17_0) := (blk_cell BKg18.out 0).trans rfl; have hf_g18_0_w59 := blk_frozen BKg18.out 0; have hz_g18_1_w59 : w59.cell? ⟨g18, 1, none⟩ = some (.slice Ae17_1 r16.length cAe17_1) := (blk_cell BKg18.out 1).trans rfl; have hf_g18_1_w59 := blk_frozen BKg18.out 1) | ((with_reducible refine gate_callee (f := 28) rfl ?_); refine goesL_ (some 100) rfl rfl Try.func28 (by kernel_rfl) rfl #[.slice Ae24_0 r22.length cAe24_0, .int .i64 1] rfl (by (try simp only [List.map_toArray, List.map_cons, List.map_nil]); first | done | rfl | (simp only [List.length_drop, List.length_take]; rfl)) ?_; refine Op.args_eq (args := #[.slice Ae24_0 r46.length cAe24_0, .int .i64 1]) (by simp only [LOe24_0_r46.out]) ?_; (with_reducible refine (laws_heldIntS.calls k _ _ r46 1 r63 _ ?side1 ?side2 Ee64.out).mono ?_); (case side1 => exact (Kd.R_reads' Oe24_0.out).2.2); (case side2 => (have h_ := Kd.R_reads' Oe24_0.out; have h1_ := h_.1; have h2_ := h_.2.1; omega)); rintro ex_ w62 ⟨rfl, hd⟩; refine ⟨_, rfl, ?_⟩; have hb := hd.below; have hk := Kept.of_below hb (fun _ => False); replace Oe9_0 := Aside0.mk (Op.mvS Oe9_0.out hk (fun _ _ hs => hs)); replace Oe9_1 := Aside0.mk (Op.mvR Oe9_1.out hk (fun _ _ hs => hs)); replace Oe13_0 := Aside0.mk (Op.mvR Oe13_0.out hk (fun _ _ hs => hs)); replace Oe17_0 := Aside0.mk (Op.mvS Oe17_0.out hk (fun _ _ hs => hs)); replace Oe17_1 := Aside0.mk (Op.mvR Oe17_1.out hk (fun _ _ hs => hs)); replace Oe24_0 := Aside0.mk (Op.mvR Oe24_0.out hk (fun _ _ hs => hs)); replace Oe32_0 := Aside0.mk (Op.mvS Oe32_0.out hk (fun _ _ hs => hs)); replace Oe32_1 := Aside0.mk (Op.mvR Oe32_1.out hk (fun _ _ hs => hs)); replace Oe54_0 := Aside0.mk (Op.mvS Oe54_0.out hk (fun _ _ hs => hs)); replace Oe54_1 := Aside0.mk (Op.mvR Oe54_1.out hk (fun _ _ hs => hs)); replace Oe58_0 := Aside0.mk (Op.mvR Oe58_0.out hk (fun _ _ hs => hs)); replace BKg1 := Aside0.mk (Op.mvB BKg1.out hk (fun hs => hs)); replace BKg18 := Aside0.mk (Op.mvB BKg18.out hk (fun hs => hs)); have HSw62 := Aside0.mk (And.intro (hb.size) HSw59.out); replace HB := Aside0.mk (below_step HB.out hb); clear hb hk hd; have hz_g1_0_w62 : w62.cell? ⟨g1, 0, none⟩ = some (.slice A0_0 l0_0.length c0_0) := (blk_cell BKg1.out 0).trans rfl; have hf_g1_0_w62 := blk_frozen BKg1.out 0; have hz_g1_1_w62 : w62.cell? ⟨g1, 1, none⟩ = some (.slice A0_1 l0_1.length c0_1) := (blk_cell BKg1.out 1).trans rfl; have hf_g1_1_w62 := blk_frozen BKg1.out 1; have hz_g18_0_w62 : w62.cell? ⟨g18, 0, none⟩ = some (.slice Ae17_0 r15.length cAe17_0) := (blk_cell BKg18.out 0).trans rfl; have hf_g18_0_w62 := blk_frozen BKg18.out 0; have hz_g18_1_w62 : w62.cell? ⟨g18, 1, none⟩ = some (.slice Ae17_1 r16.length cAe17_1) := (blk_cell BKg18.out 1).trans rfl; have hf_g18_1_w62 := blk_frozen BKg18.out 1))
  go_ret
  exact ⟨rfl, HB.out⟩

/-- THE ONE PURE STATEMENT of laws_FnExactDiffIn: yours. -/
def laws_FnExactDiffIn.Pure : Prop := ∀ (l0_0 : List (S88)) (l0_1 : List Int) (a1 : Int) (a2 : Int), (l0_0.length ≤ maxLen ∧ ∀ y_ ∈ l0_0, (fun z_ : S88 => ((z_).f0.length ≤ maxLen ∧ ∀ y_ ∈ (z_).f0, (fun z_ : Int => (Lit.int .i64 z_).wf = true) y_) ∧ (True)) y_) → (l0_1.length ≤ maxLen ∧ ∀ y_ ∈ l0_1, (fun z_ : Int => (Lit.int .i64 z_).wf = true) y_) → ((Lit.int .i64 a1).wf = true) → ((Lit.int .i64 a2).wf = true) → ∃ k, laws_FnExactDiffIn.f k l0_0 l0_1 a1 a2 = some true
set_option maxHeartbeats 1000000 in
theorem laws_FnExactDiffIn.walk (P : laws_FnExactDiffIn.Pure) (A0_0 : Option Addr) (c0_0 : Nat) (l0_0 : List (S88)) (A0_1 : Option Addr) (c0_1 : Nat) (l0_1 : List Int) (a1 : Int) (a2 : Int) (w : World) (hr0_0 : Kd.C k88 w A0_0 l0_0.length l0_0) (hc0_0 : l0_0.length ≤ c0_0) (hr0_1 : Kd.C (Kd.int .i64) w A0_1 l0_1.length l0_1) (hc0_1 : l0_1.length ≤ c0_1) (q0_0 : l0_0.length ≤ maxLen ∧ ∀ y_ ∈ l0_0, (fun z_ : S88 => ((z_).f0.length ≤ maxLen ∧ ∀ y_ ∈ (z_).f0, (fun z_ : Int => (Lit.int .i64 z_).wf = true) y_) ∧ (True)) y_) (q0_1 : l0_1.length ≤ maxLen ∧ ∀ y_ ∈ l0_1, (fun z_ : Int => (Lit.int .i64 z_).wf = true) y_) (q1 : (Lit.int .i64 a1).wf = true) (q2 : (Lit.int .i64 a2).wf = true) :
    Calls Try.prog 7 #[.agg #[.slice A0_0 l0_0.length c0_0, .slice A0_1 l0_1.length c0_1], .int .i64 a1, .int .i64 a2] w fun e w' => e = .returned (.bool true) ∧ Below w.heap.size w w' := by
  obtain ⟨k, h⟩ := P l0_0 l0_1 a1 a2 q0_0 q0_1 q1 q2
  refine (laws_FnExactDiffIn.calls k _ _ l0_0 _ _ l0_1 a1 a2 true w hr0_0 hc0_0 hr0_1 hc0_1 h).mono ?_
  rintro e w' ⟨rfl, hd⟩
  exact ⟨rfl, hd⟩

end Go.Proofs.Ytnafnpoflheonaa.PFnExactDiffIn
