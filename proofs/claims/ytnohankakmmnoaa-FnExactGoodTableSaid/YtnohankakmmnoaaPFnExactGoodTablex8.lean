/- Contracts of functions of the translation, written by a program of this repo (a changed copy of the printer). Not trusted: Lean checks it. -/
-- squeezed
import Derived.Test.YtnohankakmmnoaaPFnExactGoodTablex0
import Derived.Test.YtnohankakmmnoaaPFnExactGoodTablex2
import Derived.Test.YtnohankakmmnoaaPFnExactGoodTablex5
import Derived.Test.YtnohankakmmnoaaPFnExactGoodTablex6
import Derived.Test.YtnohankakmmnoaaPFnExactGoodTablex7
namespace Go.Proofs.Ytnohankakmmnoaa.PFnExactGoodTable
open Go.RowKit Go.Proofs.YtnohankakmmnoaaW.PrintWords Go.Proofs.YtnohankakmmnoaaW.PrintLast Go.Proofs.YtnohankakmmnoaaW.PrintMore
attribute [local go_sem] max2_int min2_int max_two min_two max_three min_three max_four min_four   -- for this text's walks alone
set_option linter.unusedVariables false
set_option linter.unusedSimpArgs false

/-! ### laws_FnExactGoodTable: function 5 -/
/-- what the law asks, one after the other -/
def laws_FnExactGoodTable.f (k : Nat) (a0_0 : Int) (l0_1 : List (S71)) (l0_2 : List (S71)) (a0_3 : Int) : Option Bool :=
 (laws_szTable.f a0_0 l0_1 l0_2 a0_3 1048576).bind fun be5 => if be5 < 0 then some true else ((laws_toTable.f k a0_0 l0_1 l0_2 a0_3).bind fun be11 => (spec_GoodTable.f k be11.1 be11.2.1 be11.2.2.1 be11.2.2.2).bind fun be14 => (laws_toTable.f k a0_0 l0_1 l0_2 a0_3).bind fun be20 => (impl_GoodTable.f k be20.1 be20.2.1 be20.2.2.1 be20.2.2.2).bind fun be26 => if (be26 != be14) = true then some false else ((laws_toTable.f k a0_0 l0_1 l0_2 a0_3).bind fun be33 => (laws_eqTable.f k be20.1 be20.2.1 be20.2.2.1 be20.2.2.2 be33.1 be33.2.1 be33.2.2.1 be33.2.2.2).bind fun be36 => if be36 = true then (some true) else some false))
set_option maxRecDepth 100000 in
set_option maxHeartbeats 8000000 in
theorem laws_FnExactGoodTable.calls (k : Nat) (a0_0 : Int) (A0_1 : Option Addr) (c0_1 : Nat) (l0_1 : List (S71)) (A0_2 : Option Addr) (c0_2 : Nat) (l0_2 : List (S71)) (a0_3 : Int) (r : Bool) (w : World) (hr0_1 : Kd.C k71 w A0_1 l0_1.length l0_1) (hc0_1 : l0_1.length ≤ c0_1) (hr0_2 : Kd.C k71 w A0_2 l0_2.length l0_2) (hc0_2 : l0_2.length ≤ c0_2) (h : laws_FnExactGoodTable.f k a0_0 l0_1 l0_2 a0_3 = some true) :
  Calls Try.prog 5 #[.agg #[.int .i64 a0_0, .slice A0_1 l0_1.length c0_1, .slice A0_2 l0_2.length c0_2, .int .i64 a0_3]] w fun e w' => e = .returned (.bool true) ∧ Below w.heap.size w w' := by
 have hu27 := Try.underlying27
 have hu35 := Try.underlying35
 have HR0_1 := Aside0.mk hr0_1
 have HC0_1 := Aside0.mk hc0_1
 have HR0_2 := Aside0.mk hr0_2
 have HC0_2 := Aside0.mk hc0_2
 clear hr0_1 hc0_1 hr0_2 hc0_2
 have HB := Aside0.mk (Below.refl w.heap.size w)
 have HS0 : Aside0 (0 ≤ w.heap.size) := ⟨Nat.zero_le _⟩
 unfold laws_FnExactGoodTable.f at h
 replace h := Option.bind_eq_some_iff.1 h
 obtain ⟨r4, e5, h⟩ := h
 try dsimp only at h
 have Ee5 := Aside0.mk e5
 clear e5
 by_cases c1_ : r4 < 0
 ·clear h
  have c1b_ : decide (r4 < 0) = true := decide_eq_true c1_
  clear c1_
  go_enter Try.func5, Try.ntmps5
  go_wp2_with (first | ((with_reducible refine gate_dst (N := 1) rfl ?_); refine box_event ?hg (N := 1) ?hd (cs := #[.int .i64 a0_0, .slice A0_1 l0_1.length c0_1, .slice A0_2 l0_2.length c0_2, .int .i64 a0_3]) (t := 35) ?hr ?_; (case hd => rfl); (case hg => rfl); (case hr => first | (go_simp; done) | (go_simp; rfl)); intro g1 hg w2 hbox hb; have hk := Kept.of_below hb (fun _ => False); have BKg1 := Aside0.mk hbox; have GEg1 := Aside0.mk (show w.heap.size ≤ g1 from by rw [hg]; exact HB.out.size); have HSw2 := Aside0.mk (And.intro (And.intro (show w.heap.size ≤ g1 from Nat.le_of_eq hg.symm) (And.intro (blk_lt hbox) hb.size)) HS0.out); replace HB := Aside0.mk (Op.a5 HB.out hb); clear hg hbox hb hk; have hz_g1_0_w2 : w2.cell? ⟨g1, 0, none⟩ = some (.int .i64 a0_0) := (blk_cell BKg1.out 0).trans rfl; have hf_g1_0_w2 := blk_frozen BKg1.out 0; have hz_g1_1_w2 : w2.cell? ⟨g1, 1, none⟩ = some (.slice A0_1 l0_1.length c0_1) := (blk_cell BKg1.out 1).trans rfl; have hf_g1_1_w2 := blk_frozen BKg1.out 1; have hz_g1_2_w2 : w2.cell? ⟨g1, 2, none⟩ = some (.slice A0_2 l0_2.length c0_2) := (blk_cell BKg1.out 2).trans rfl; have hf_g1_2_w2 := blk_frozen BKg1.out 2; have hz_g1_3_w2 : w2.cell? ⟨g1, 3, none⟩ = some (.int .i64 a0_3) := (blk_cell BKg1.out 3).trans rfl; have hf_g1_3_w2 := blk_frozen BKg1.out 3) | ((with_reducible refine gate_callee (f := 16) rfl ?_); refine goesL_ (some 9) rfl rfl Try.func16 (by kernel_rfl) rfl #[.agg #[.int .i64 a0_0, .slice A0_1 l0_1.length c0_1, .slice A0_2 l0_2.length c0_2, .int .i64 a0_3], .int .i64 1048576] rfl (by (try simp only [List.map_toArray, List.map_cons, List.map_nil]); first | done | rfl | (simp only [List.length_drop, List.length_take]; rfl)) ?_; (with_reducible refine (laws_szTable.calls a0_0 _ _ l0_1 _ _ l0_2 a0_3 1048576 r4 _ ?side1 ?side2 ?side3 ?side4 Ee5.out).mono ?_); (case side1 => exact (Kd.C_below HR0_1.out HB.out)); (case side2 => exact HC0_1.out); (case side3 => exact (Kd.C_below HR0_2.out HB.out)); (case side4 => exact HC0_2.out); rintro ex_ w3 ⟨rfl, hb⟩; refine ⟨_, rfl, ?_⟩; have hk := Kept.of_below hb (fun _ => False); replace BKg1 := Aside0.mk (Op.mvB BKg1.out hk (fun hs => hs)); have HSw3 := Aside0.mk (And.intro (hb.size) HSw2.out); replace HB := Aside0.mk (Op.a5 HB.out hb); clear hb hk; have hz_g1_0_w3 : w3.cell? ⟨g1, 0, none⟩ = some (.int .i64 a0_0) := (blk_cell BKg1.out 0).trans rfl; have hf_g1_0_w3 := blk_frozen BKg1.out 0; have hz_g1_1_w3 : w3.cell? ⟨g1, 1, none⟩ = some (.slice A0_1 l0_1.length c0_1) := (blk_cell BKg1.out 1).trans rfl; have hf_g1_1_w3 := blk_frozen BKg1.out 1; have hz_g1_2_w3 : w3.cell? ⟨g1, 2, none⟩ = some (.slice A0_2 l0_2.length c0_2) := (blk_cell BKg1.out 2).trans rfl; have hf_g1_2_w3 := blk_frozen BKg1.out 2; have hz_g1_3_w3 : w3.cell? ⟨g1, 3, none⟩ = some (.int .i64 a0_3) := (blk_cell BKg1.out 3).trans rfl; have hf_g1_3_w3 := blk_frozen BKg1.out 3))
  go_ret
  exact ⟨rfl, HB.out⟩
 replace h := (if_neg c1_).symm.trans h
 have c1b_ : decide (r4 < 0) = false := decide_eq_false c1_
 clear c1_
 replace h := Option.bind_eq_some_iff.1 h
 obtain ⟨⟨r7, r8, r9, r10⟩, e11, h⟩ := h
 try dsimp only at h
 have Ee11 := Aside0.mk e11
 clear e11
 replace h := Option.bind_eq_some_iff.1 h
 obtain ⟨r13, e14, h⟩ := h
 try dsimp only at h
 have Ee14 := Aside0.mk e14
 clear e14
 replace h := Option.bind_eq_some_iff.1 h
 obtain ⟨⟨r16, r17, r18, r19⟩, e20, h⟩ := h
 try dsimp only at h
 have Ee20 := Aside0.mk e20
 clear e20
 replace h := Option.bind_eq_some_iff.1 h
 obtain ⟨r25, e26, h⟩ := h
 try dsimp only at h
 have Ee26 := Aside0.mk e26
 clear e26
 replace h := Op.must_n h
 obtain ⟨c2_, h⟩ := h
 have c2e_ : (r25 == r13) = true := by revert c2_; cases r25 <;> cases r13 <;> decide
 clear c2_
 replace h := Option.bind_eq_some_iff.1 h
 obtain ⟨⟨r29, r30, r31, r32⟩, e33, h⟩ := h
 try dsimp only at h
 have Ee33 := Aside0.mk e33
 clear e33
 replace h := Option.bind_eq_some_iff.1 h
 obtain ⟨r35, e36, h⟩ := h
 try dsimp only at h
 have Ee36 := Aside0.mk e36
 clear e36
 replace h := Op.must_t h
 obtain ⟨rfl, h⟩ := h
 clear h
 go_enter Try.func5, Try.ntmps5
 go_wp2_with (first | ((with_reducible refine gate_dst (N := 1) rfl ?_); refine box_event ?hg (N := 1) ?hd (cs := #[.int .i64 a0_0, .slice A0_1 l0_1.length c0_1, .slice A0_2 l0_2.length c0_2, .int .i64 a0_3]) (t := 35) ?hr ?_; (case hd => rfl); (case hg => rfl); (case hr => first | (go_simp; done) | (go_simp; rfl)); intro g1 hg w2 hbox hb; have hk := Kept.of_below hb (fun _ => False); have BKg1 := Aside0.mk hbox; have GEg1 := Aside0.mk (show w.heap.size ≤ g1 from by rw [hg]; exact HB.out.size); have HSw2 := Aside0.mk (And.intro (And.intro (show w.heap.size ≤ g1 from Nat.le_of_eq hg.symm) (And.intro (blk_lt hbox) hb.size)) HS0.out); replace HB := Aside0.mk (Op.a5 HB.out hb); clear hg hbox hb hk; have hz_g1_0_w2 : w2.cell? ⟨g1, 0, none⟩ = some (.int .i64 a0_0) := (blk_cell BKg1.out 0).trans rfl; have hf_g1_0_w2 := blk_frozen BKg1.out 0; have hz_g1_1_w2 : w2.cell? ⟨g1, 1, none⟩ = some (.slice A0_1 l0_1.length c0_1) := (blk_cell BKg1.out 1).trans rfl; have hf_g1_1_w2 := blk_frozen BKg1.out 1; have hz_g1_2_w2 : w2.cell? ⟨g1, 2, none⟩ = some (.slice A0_2 l0_2.length c0_2) := (blk_cell BKg1.out 2).trans rfl; have hf_g1_2_w2 := blk_frozen BKg1.out 2; have hz_g1_3_w2 : w2.cell? ⟨g1, 3, none⟩ = some (.int .i64 a0_3) := (blk_cell BKg1.out 3).trans rfl; have hf_g1_3_w2 := blk_frozen BKg1.out 3) | ((with_reducible refine gate_callee (f := 16) rfl ?_); refine goesL_ (some 9) rfl rfl Try.func16 (by kernel_rfl) rfl #[.agg #[.int .i64 a0_0, .slice A0_1 l0_1.length c0_1, .slice A0_2 l0_2.length c0_2, .int .i64 a0_3], .int .i64 1048576] rfl (by (try simp only [List.map_toArray, List.map_cons, List.map_nil]); first | done | rfl | (simp only [List.length_drop, List.length_take]; rfl)) ?_; (with_reducible refine (laws_szTable.calls a0_0 _ _ l0_1 _ _ l0_2 a0_3 1048576 r4 _ ?side1 ?side2 ?side3 ?side4 Ee5.out).mono ?_); (case side1 => exact (Kd.C_below HR0_1.out HB.out)); (case side2 => exact HC0_1.out); (case side3 => exact (Kd.C_below HR0_2.out HB.out)); (case side4 => exact HC0_2.out); rintro ex_ w3 ⟨rfl, hb⟩; refine ⟨_, rfl, ?_⟩; have hk := Kept.of_below hb (fun _ => False); replace BKg1 := Aside0.mk (Op.mvB BKg1.out hk (fun hs => hs)); have HSw3 := Aside0.mk (And.intro (hb.size) HSw2.out); replace HB := Aside0.mk (Op.a5 HB.out hb); clear hb hk; have hz_g1_0_w3 : w3.cell? ⟨g1, 0, none⟩ = some (.int .i64 a0_0) := (blk_cell BKg1.out 0).trans rfl; have hf_g1_0_w3 := blk_frozen BKg1.out 0; have hz_g1_1_w3 : w3.cell? ⟨g1, 1, none⟩ = some (.slice A0_1 l0_1.length c0_1) := (blk_cell BKg1.out 1).trans rfl; have hf_g1_1_w3 := blk_frozen BKg1.out 1; have hz_g1_2_w3 : w3.cell? ⟨g1, 2, none⟩ = some (.slice A0_2 l0_2.length c0_2) := (blk_cell BKg1.out 2).trans rfl; have hf_g1_2_w3 := blk_frozen BKg1.out 2; have hz_g1_3_w3 : w3.cell? ⟨g1, 3, none⟩ = some (.int .i64 a0_3) := (blk_cell BKg1.out 3).trans rfl; have hf_g1_3_w3 := blk_frozen BKg1.out 3) | ((with_reducible refine gate_callee (f := 18) rfl ?_); refine goesL_ (some 13) rfl rfl Try.func18 (by kernel_rfl) rfl #[.agg #[.int .i64 a0_0, .slice A0_1 l0_1.length c0_1, .slice A0_2 l0_2.length c0_2, .int .i64 a0_3]] rfl (by (try simp only [List.map_toArray, List.map_cons, List.map_nil]); first | done | rfl | (simp only [List.length_drop, List.length_take]; rfl)) ?_; (with_reducible refine (laws_toTable.calls k a0_0 _ _ l0_1 _ _ l0_2 a0_3 r7 r8 r9 r10 _ ?side1 ?side2 ?side3 ?side4 Ee11.out).mono ?_); (case side1 => exact (Kd.C_below HR0_1.out HB.out)); (case side2 => exact HC0_1.out); (case side3 => exact (Kd.C_below HR0_2.out HB.out)); (case side4 => exact HC0_2.out); rintro ex_ w6 ⟨ve11_0, ve11_1, rfl, ho0, ho1, hb⟩; refine ⟨_, rfl, ?_⟩; have hk := Kept.of_below hb (fun _ => False); replace BKg1 := Aside0.mk (Op.mvB BKg1.out hk (fun hs => hs)); have HSw6 := Aside0.mk (And.intro (hb.size) HSw3.out); have Oe11_0 := Aside0.mk (Op.inR ho0 (a := w3.heap.size) (b := w.heap.size) HB.out.size (Nat.le_refl _)); have Oe11_1 := Aside0.mk (Op.inR ho1 (a := w3.heap.size) (b := w.heap.size) HB.out.size (Nat.le_refl _)); replace HB := Aside0.mk (Op.a5 HB.out hb); obtain ⟨Ae11_0, cAe11_0, ev_⟩ := Kd.R_slice Oe11_0.out; subst ev_; obtain ⟨Ae11_1, cAe11_1, ev_⟩ := Kd.R_slice Oe11_1.out; subst ev_; clear hb hk ho0 ho1; have hz_g1_0_w6 : w6.cell? ⟨g1, 0, none⟩ = some (.int .i64 a0_0) := (blk_cell BKg1.out 0).trans rfl; have hf_g1_0_w6 := blk_frozen BKg1.out 0; have hz_g1_1_w6 : w6.cell? ⟨g1, 1, none⟩ = some (.slice A0_1 l0_1.length c0_1) := (blk_cell BKg1.out 1).trans rfl; have hf_g1_1_w6 := blk_frozen BKg1.out 1; have hz_g1_2_w6 : w6.cell? ⟨g1, 2, none⟩ = some (.slice A0_2 l0_2.length c0_2) := (blk_cell BKg1.out 2).trans rfl; have hf_g1_2_w6 := blk_frozen BKg1.out 2; have hz_g1_3_w6 : w6.cell? ⟨g1, 3, none⟩ = some (.int .i64 a0_3) := (blk_cell BKg1.out 3).trans rfl; have hf_g1_3_w6 := blk_frozen BKg1.out 3) | ((with_reducible refine gate_callee (f := 17) rfl ?_); refine goesL_ (some 14) rfl rfl Try.func17 (by kernel_rfl) rfl #[.agg #[.int .i64 r7, .slice Ae11_0 r8.length cAe11_0, .slice Ae11_1 r9.length cAe11_1, .int .i64 r10]] rfl (by (try simp only [List.map_toArray, List.map_cons, List.map_nil]); first | done | rfl | (simp only [List.length_drop, List.length_take]; rfl)) ?_; (with_reducible refine (spec_GoodTable.calls k r7 _ _ r8 _ _ r9 r10 r13 _ ?side1 ?side2 ?side3 ?side4 Ee14.out).mono ?_); (case side1 => exact (Kd.R_reads' Oe11_0.out).2.2); (case side2 => (have h_ := Kd.R_reads' Oe11_0.out; have h1_ := h_.1; have h2_ := h_.2.1; omega)); (case side3 => exact (Kd.R_reads' Oe11_1.out).2.2); (case side4 => (have h_ := Kd.R_reads' Oe11_1.out; have h1_ := h_.1; have h2_ := h_.2.1; omega)); rintro ex_ w12 ⟨rfl, hb⟩; refine ⟨_, rfl, ?_⟩; have hk := Kept.of_below hb (fun _ => False); replace Oe11_0 := Aside0.mk (Op.mvR Oe11_0.out hk (fun _ _ hs => hs)); replace Oe11_1 := Aside0.mk (Op.mvR Oe11_1.out hk (fun _ _ hs => hs)); replace BKg1 := Aside0.mk (Op.mvB BKg1.out hk (fun hs => hs)); have HSw12 := Aside0.mk (And.intro (hb.size) HSw6.out); replace HB := Aside0.mk (Op.a5 HB.out hb); clear hb hk; have hz_g1_0_w12 : w12.cell? ⟨g1, 0, none⟩ = some (.int .i64 a0_0) := (blk_cell BKg1.out 0).trans rfl; have hf_g1_0_w12 := blk_frozen BKg1.out 0; have hz_g1_1_w12 : w12.cell? ⟨g1, 1, none⟩ = some (.slice A0_1 l0_1.length c0_1) := (blk_cell BKg1.out 1).trans rfl; have hf_g1_1_w12 := blk_frozen BKg1.out 1; have hz_g1_2_w12 : w12.cell? ⟨g1, 2, none⟩ = some (.slice A0_2 l0_2.length c0_2) := (blk_cell BKg1.out 2).trans rfl; have hf_g1_2_w12 := blk_frozen BKg1.out 2; have hz_g1_3_w12 : w12.cell? ⟨g1, 3, none⟩ = some (.int .i64 a0_3) := (blk_cell BKg1.out 3).trans rfl; have hf_g1_3_w12 := blk_frozen BKg1.out 3) | ((with_reducible refine gate_callee (f := 18) rfl ?_); refine goesL_ (some 16) rfl rfl Try.func18 (by kernel_rfl) rfl #[.agg #[.int .i64 a0_0, .slice A0_1 l0_1.length c0_1, .slice A0_2 l0_2.length c0_2, .int .i64 a0_3]] rfl (by (try simp only [List.map_toArray, List.map_cons, List.map_nil]); first | done | rfl | (simp only [List.length_drop, List.length_take]; rfl)) ?_; (with_reducible refine (laws_toTable.calls k a0_0 _ _ l0_1 _ _ l0_2 a0_3 r16 r17 r18 r19 _ ?side1 ?side2 ?side3 ?side4 Ee20.out).mono ?_); (case side1 => exact (Kd.C_below HR0_1.out HB.out)); (case side2 => exact HC0_1.out); (case side3 => exact (Kd.C_below HR0_2.out HB.out)); (case side4 => exact HC0_2.out); rintro ex_ w15 ⟨ve20_0, ve20_1, rfl, ho0, ho1, hb⟩; refine ⟨_, rfl, ?_⟩; have hk := Kept.of_below hb (fun _ => False); replace Oe11_0 := Aside0.mk (Op.mvR Oe11_0.out hk (fun _ _ hs => hs)); replace Oe11_1 := Aside0.mk (Op.mvR Oe11_1.out hk (fun _ _ hs => hs)); replace BKg1 := Aside0.mk (Op.mvB BKg1.out hk (fun hs => hs)); have HSw15 := Aside0.mk (And.intro (hb.size) HSw12.out); have Oe20_0 := Aside0.mk (Op.inR ho0 (a := w12.heap.size) (b := w.heap.size) HB.out.size (Nat.le_refl _)); have Oe20_1 := Aside0.mk (Op.inR ho1 (a := w12.heap.size) (b := w.heap.size) HB.out.size (Nat.le_refl _)); replace HB := Aside0.mk (Op.a5 HB.out hb); obtain ⟨Ae20_0, cAe20_0, ev_⟩ := Kd.R_slice Oe20_0.out; subst ev_; obtain ⟨Ae20_1, cAe20_1, ev_⟩ := Kd.R_slice Oe20_1.out; subst ev_; clear hb hk ho0 ho1; have hz_g1_0_w15 : w15.cell? ⟨g1, 0, none⟩ = some (.int .i64 a0_0) := (blk_cell BKg1.out 0).trans rfl; have hf_g1_0_w15 := blk_frozen BKg1.out 0; have hz_g1_1_w15 : w15.cell? ⟨g1, 1, none⟩ = some (.slice A0_1 l0_1.length c0_1) := (blk_cell BKg1.out 1).trans rfl; have hf_g1_1_w15 := blk_frozen BKg1.out 1; have hz_g1_2_w15 : w15.cell? ⟨g1, 2, none⟩ = some (.slice A0_2 l0_2.length c0_2) := (blk_cell BKg1.out 2).trans rfl; have hf_g1_2_w15 := blk_frozen BKg1.out 2; have hz_g1_3_w15 : w15.cell? ⟨g1, 3, none⟩ = some (.int .i64 a0_3) := (blk_cell BKg1.out 3).trans rfl; have hf_g1_3_w15 := blk_frozen BKg1.out 3) | ((with_reducible refine gate_dst (N := 5) rfl ?_); refine box_event ?hg (N := 5) ?hd (cs := #[.int .i64 0, .slice none 0 0, .slice none 0 0, .int .i64 0]) (t := 27) ?hr ?_; (case hd => rfl); (case hg => rfl); (case hr => first | (go_simp; done) | (go_simp; rfl)); intro g21 hg w22 hbox hb; have hk := Kept.of_below hb (fun _ => False); replace Oe11_0 := Aside0.mk (Op.mvR Oe11_0.out hk (fun _ _ hs => hs)); replace Oe11_1 := Aside0.mk (Op.mvR Oe11_1.out hk (fun _ _ hs => hs)); replace Oe20_0 := Aside0.mk (Op.mvR Oe20_0.out hk (fun _ _ hs => hs)); replace Oe20_1 := Aside0.mk (Op.mvR Oe20_1.out hk (fun _ _ hs => hs)); replace BKg1 := Aside0.mk (Op.mvB BKg1.out hk (fun hs => hs)); have BKg21 := Aside0.mk hbox; have GEg21 := Aside0.mk (show w.heap.size ≤ g21 from by rw [hg]; exact HB.out.size); have HSw22 := Aside0.mk (And.intro (And.intro (show w15.heap.size ≤ g21 from Nat.le_of_eq hg.symm) (And.intro (blk_lt hbox) hb.size)) HSw15.out); replace HB := Aside0.mk (Op.a5 HB.out hb); clear hg hbox hb hk; have hz_g1_0_w22 : w22.cell? ⟨g1, 0, none⟩ = some (.int .i64 a0_0) := (blk_cell BKg1.out 0).trans rfl; have hf_g1_0_w22 := blk_frozen BKg1.out 0; have hz_g1_1_w22 : w22.cell? ⟨g1, 1, none⟩ = some (.slice A0_1 l0_1.length c0_1) := (blk_cell BKg1.out 1).trans rfl; have hf_g1_1_w22 := blk_frozen BKg1.out 1; have hz_g1_2_w22 : w22.cell? ⟨g1, 2, none⟩ = some (.slice A0_2 l0_2.length c0_2) := (blk_cell BKg1.out 2).trans rfl; have hf_g1_2_w22 := blk_frozen BKg1.out 2; have hz_g1_3_w22 : w22.cell? ⟨g1, 3, none⟩ = some (.int .i64 a0_3) := (blk_cell BKg1.out 3).trans rfl; have hf_g1_3_w22 := blk_frozen BKg1.out 3; have hz_g21_0_w22 : w22.cell? ⟨g21, 0, none⟩ = some (.int .i64 0) := (blk_cell BKg21.out 0).trans rfl; have hf_g21_0_w22 := blk_frozen BKg21.out 0; have hz_g21_1_w22 : w22.cell? ⟨g21, 1, none⟩ = some (.slice none 0 0) := (blk_cell BKg21.out 1).trans rfl; have hf_g21_1_w22 := blk_frozen BKg21.out 1; have hz_g21_2_w22 : w22.cell? ⟨g21, 2, none⟩ = some (.slice none 0 0) := (blk_cell BKg21.out 2).trans rfl; have hf_g21_2_w22 := blk_frozen BKg21.out 2; have hz_g21_3_w22 : w22.cell? ⟨g21, 3, none⟩ = some (.int .i64 0) := (blk_cell BKg21.out 3).trans rfl; have hf_g21_3_w22 := blk_frozen BKg21.out 3) | ((with_reducible refine gate_store (t := 27) (p := 5) rfl ?_); refine store_event (t := 27) (p := 5) (v := ?vo_w23) (w1 := ((((w22.setCell ⟨g21, 0, none⟩ (.int .i64 r16)).setCell ⟨g21, 1, none⟩ (.slice Ae20_0 r17.length cAe20_0)).setCell ⟨g21, 2, none⟩ (.slice Ae20_1 r18.length cAe20_1)).setCell ⟨g21, 3, none⟩ (.int .i64 r19))) ?hg ?ho ?hn ?hr ?_; (case ho => rfl); (case hg => rfl); (case hn => rfl); (case hr => first | (go_simp; done) | (go_simp; rfl)); intro w23 hw; have hk : Kept w22 w23 (fun j => j = g21) := (by rw [hw]; exact Op.kept_put (Op.kept_put (Op.kept_put (Op.kept_put (Kept.refl _ _) 0 _) 1 _) 2 _) 3 _); replace Oe11_0 := Aside0.mk (Op.mvR Oe11_0.out hk (fun j hj hs => by (have hj2 := hj.2; have q := HSw22.out; have hs2 : j = g21 := hs; omega))); replace Oe11_1 := Aside0.mk (Op.mvR Oe11_1.out hk (fun j hj hs => by (have hj2 := hj.2; have q := HSw22.out; have hs2 : j = g21 := hs; omega))); replace Oe20_0 := Aside0.mk (Op.mvR Oe20_0.out hk (fun j hj hs => by (have hj2 := hj.2; have q := HSw22.out; have hs2 : j = g21 := hs; omega))); replace Oe20_1 := Aside0.mk (Op.mvR Oe20_1.out hk (fun j hj hs => by (have hj2 := hj.2; have q := HSw22.out; have hs2 : j = g21 := hs; omega))); replace BKg1 := Aside0.mk (Op.mvB BKg1.out hk (fun hs => by (have q := HSw22.out; have hs2 : g1 = g21 := hs; omega))); replace BKg21 : Aside0 (w23.heap[g21]? = some (.cells #[.int .i64 r16, .slice Ae20_0 r17.length cAe20_0, .slice Ae20_1 r18.length cAe20_1, .int .i64 r19] 27 (0, 0))) := ⟨by rw [hw]; exact (blk_put (cs' := #[.int .i64 r16, .slice Ae20_0 r17.length cAe20_0, .slice Ae20_1 r18.length cAe20_1, .int .i64 r19]) (blk_put (cs' := #[.int .i64 r16, .slice Ae20_0 r17.length cAe20_0, .slice Ae20_1 r18.length cAe20_1, .int .i64 0]) (blk_put (cs' := #[.int .i64 r16, .slice Ae20_0 r17.length cAe20_0, .slice none 0 0, .int .i64 0]) (blk_put (cs' := #[.int .i64 r16, .slice none 0 0, .slice none 0 0, .int .i64 0]) BKg21.out 0 _ rfl) 1 _ rfl) 2 _ rfl) 3 _ rfl)⟩; replace HB : Aside0 (Below w.heap.size w w23) := ⟨by rw [hw]; exact below_set (Op.a4 (Op.a4 (Op.a4 (HB.out) GEg21.out) GEg21.out) GEg21.out) GEg21.out⟩; have HSw23 := Aside0.mk (And.intro (hk.1) HSw22.out); clear hw hk; have hz_g1_0_w23 : w23.cell? ⟨g1, 0, none⟩ = some (.int .i64 a0_0) := (blk_cell BKg1.out 0).trans rfl; have hf_g1_0_w23 := blk_frozen BKg1.out 0; have hz_g1_1_w23 : w23.cell? ⟨g1, 1, none⟩ = some (.slice A0_1 l0_1.length c0_1) := (blk_cell BKg1.out 1).trans rfl; have hf_g1_1_w23 := blk_frozen BKg1.out 1; have hz_g1_2_w23 : w23.cell? ⟨g1, 2, none⟩ = some (.slice A0_2 l0_2.length c0_2) := (blk_cell BKg1.out 2).trans rfl; have hf_g1_2_w23 := blk_frozen BKg1.out 2; have hz_g1_3_w23 : w23.cell? ⟨g1, 3, none⟩ = some (.int .i64 a0_3) := (blk_cell BKg1.out 3).trans rfl; have hf_g1_3_w23 := blk_frozen BKg1.out 3; have hz_g21_0_w23 : w23.cell? ⟨g21, 0, none⟩ = some (.int .i64 r16) := (blk_cell BKg21.out 0).trans rfl; have hf_g21_0_w23 := blk_frozen BKg21.out 0; have hz_g21_1_w23 : w23.cell? ⟨g21, 1, none⟩ = some (.slice Ae20_0 r17.length cAe20_0) := (blk_cell BKg21.out 1).trans rfl; have hf_g21_1_w23 := blk_frozen BKg21.out 1; have hz_g21_2_w23 : w23.cell? ⟨g21, 2, none⟩ = some (.slice Ae20_1 r18.length cAe20_1) := (blk_cell BKg21.out 2).trans rfl; have hf_g21_2_w23 := blk_frozen BKg21.out 2; have hz_g21_3_w23 : w23.cell? ⟨g21, 3, none⟩ = some (.int .i64 r19) := (blk_cell BKg21.out 3).trans rfl; have hf_g21_3_w23 := blk_frozen BKg21.out 3) | ((with_reducible refine gate_callee (f := 19) rfl ?_); refine goesL_ (some 18) rfl rfl Try.func19 (by kernel_rfl) rfl #[.agg #[.int .i64 r16, .slice Ae20_0 r17.length cAe20_0, .slice Ae20_1 r18.length cAe20_1, .int .i64 r19]] rfl (by (try simp only [List.map_toArray, List.map_cons, List.map_nil]); first | done | rfl | (simp only [List.length_drop, List.length_take]; rfl)) ?_; (with_reducible refine (impl_GoodTable.calls k r16 _ _ r17 _ _ r18 r19 r25 _ ?side1 ?side2 ?side3 ?side4 Ee26.out).mono ?_); (case side1 => exact (Kd.R_reads' Oe20_0.out).2.2); (case side2 => (have h_ := Kd.R_reads' Oe20_0.out; have h1_ := h_.1; have h2_ := h_.2.1; omega)); (case side3 => exact (Kd.R_reads' Oe20_1.out).2.2); (case side4 => (have h_ := Kd.R_reads' Oe20_1.out; have h1_ := h_.1; have h2_ := h_.2.1; omega)); rintro ex_ w24 ⟨rfl, hb⟩; refine ⟨_, rfl, ?_⟩; have hk := Kept.of_below hb (fun _ => False); replace Oe11_0 := Aside0.mk (Op.mvR Oe11_0.out hk (fun _ _ hs => hs)); replace Oe11_1 := Aside0.mk (Op.mvR Oe11_1.out hk (fun _ _ hs => hs)); replace Oe20_0 := Aside0.mk (Op.mvR Oe20_0.out hk (fun _ _ hs => hs)); replace Oe20_1 := Aside0.mk (Op.mvR Oe20_1.out hk (fun _ _ hs => hs)); replace BKg1 := Aside0.mk (Op.mvB BKg1.out hk (fun hs => hs)); replace BKg21 := Aside0.mk (Op.mvB BKg21.out hk (fun hs => hs)); have HSw24 := Aside0.mk (And.intro (hb.size) HSw23.out); replace HB := Aside0.mk (Op.a5 HB.out hb); clear hb hk; have hz_g1_0_w24 : w24.cell? ⟨g1, 0, none⟩ = some (.int .i64 a0_0) := (blk_cell BKg1.out 0).trans rfl; have hf_g1_0_w24 := blk_frozen BKg1.out 0; have hz_g1_1_w24 : w24.cell? ⟨g1, 1, none⟩ = some (.slice A0_1 l0_1.length c0_1) := (blk_cell BKg1.out 1).trans rfl; have hf_g1_1_w24 := blk_frozen BKg1.out 1; have hz_g1_2_w24 : w24.cell? ⟨g1, 2, none⟩ = some (.slice A0_2 l0_2.length c0_2) := (blk_cell BKg1.out 2).trans rfl; have hf_g1_2_w24 := blk_frozen BKg1.out 2; have hz_g1_3_w24 : w24.cell? ⟨g1, 3, none⟩ = some (.int .i64 a0_3) := (blk_cell BKg1.out 3).trans rfl; have hf_g1_3_w24 := blk_frozen BKg1.out 3; have hz_g21_0_w24 : w24.cell? ⟨g21, 0, none⟩ = some (.int .i64 r16) := (blk_cell BKg21.out 0).trans rfl; have hf_g21_0_w24 := blk_frozen BKg21.out 0; have hz_g21_1_w24 : w24.cell? ⟨g21, 1, none⟩ = some (.slice Ae20_0 r17.length cAe20_0) := (blk_cell BKg21.out 1).trans rfl; have hf_g21_1_w24 := blk_frozen BKg21.out 1; have hz_g21_2_w24 : w24.cell? ⟨g21, 2, none⟩ = some (.slice Ae20_1 r18.length cAe20_1) := (blk_cell BKg21.out 2).trans rfl; have hf_g21_2_w24 := blk_frozen BKg21.out 2; have hz_g21_3_w24 : w24.cell? ⟨g21, 3, none⟩ = some (.int .i64 r19) := (blk_cell BKg21.out 3).trans rfl; have hf_g21_3_w24 := blk_frozen BKg21.out 3))
 (try simp only [Act.put, List.setIfInBounds_toArray, List.set_cons_zero, List.set_cons_succ])
 replace Oe11_0 := Aside0.mk (Kd.R_drew Oe11_0.out)
 replace Oe11_1 := Aside0.mk (Kd.R_drew Oe11_1.out)
 replace Oe20_0 := Aside0.mk (Kd.R_drew Oe20_0.out)
 replace Oe20_1 := Aside0.mk (Kd.R_drew Oe20_1.out)
 replace BKg1 := Aside0.mk (Op.b2 BKg1.out)
 replace BKg21 := Aside0.mk (Op.b2 BKg21.out)
 replace HB := Aside0.mk (Op.a3 HB.out)
 have HSw27 := Aside0.mk (And.intro (show w24.heap.size ≤ w24.drew.heap.size from Nat.le_refl _) HSw24.out)
 refine start_ (n := 5) (S := fun w' => w'.cell? ⟨g21, 0, none⟩ = some (.int .i64 r16) ∧ w'.cell? ⟨g21, 1, none⟩ = some (.slice Ae20_0 r17.length cAe20_0) ∧ w'.cell? ⟨g21, 2, none⟩ = some (.slice Ae20_1 r18.length cAe20_1) ∧ w'.cell? ⟨g21, 3, none⟩ = some (.int .i64 r19) ∧ w'.cell? ⟨g1, 0, none⟩ = some (.int .i64 a0_0) ∧ w'.cell? ⟨g1, 1, none⟩ = some (.slice A0_1 l0_1.length c0_1) ∧ w'.cell? ⟨g1, 2, none⟩ = some (.slice A0_2 l0_2.length c0_2) ∧ w'.cell? ⟨g1, 3, none⟩ = some (.int .i64 a0_3)) (ds := []) #[false, false, false, false, false] (by kernel_rfl) rfl rfl ⟨(blk_cell BKg21.out 0).trans rfl, (blk_cell BKg21.out 1).trans rfl, (blk_cell BKg21.out 2).trans rfl, (blk_cell BKg21.out 3).trans rfl, (blk_cell BKg1.out 0).trans rfl, (blk_cell BKg1.out 1).trans rfl, (blk_cell BKg1.out 2).trans rfl, (blk_cell BKg1.out 3).trans rfl⟩ (fun hHeld => ?_)
 generalize w24.drew = w27 at Oe11_0 Oe11_1 Oe20_0 Oe20_1 BKg1 BKg21 HB HSw27 hHeld ⊢
 refine take_ (i := 0) (N := some 22) (v := ?_) (a' := ?_) #[true, false, false, false, false] rfl rfl (by kernel_rfl) (fun _ _ _ h => h) (Or.inl ⟨by rfl, ?_⟩) hHeld ?_ ?_
 rotate_left
 ·rintro w' ⟨s0, s1, s2, s3, s4, s5, s6, s7⟩
  go_simp
  with_reducible rfl
 rotate_left
 ·simp only [Act.put, List.setIfInBounds_toArray, List.set_cons_zero, List.set_cons_succ, i64_w, i32_w]
  rfl
 refine take_ (i := 1) (N := some 23) (v := ?_) (a' := ?_) #[true, true, false, false, false] rfl rfl (by kernel_rfl) (fun _ _ _ h => h) (Or.inl ⟨by rfl, ?_⟩) hHeld ?_ ?_
 rotate_left
 ·rintro w' ⟨s0, s1, s2, s3, s4, s5, s6, s7⟩
  go_simp
  with_reducible rfl
 rotate_left
 ·simp only [Act.put, List.setIfInBounds_toArray, List.set_cons_zero, List.set_cons_succ, i64_w, i32_w]
  rfl
 refine one_ (i := 2) (N := some 24) #[true, true, true, false, false] rfl rfl (by kernel_rfl) (by decide) (fun K hK => ?_)
 refine goes_ Try.func18 (by kernel_rfl) rfl #[.agg #[.int .i64 a0_0, .slice A0_1 l0_1.length c0_1, .slice A0_2 l0_2.length c0_2, .int .i64 a0_3]] (by rfl) rfl rfl (by (try simp only [List.map_toArray, List.map_cons, List.map_nil]); first | done | rfl | (simp only [List.length_drop, List.length_take]; rfl)) ?_
 (with_reducible refine (laws_toTable.calls k a0_0 _ _ l0_1 _ _ l0_2 a0_3 r29 r30 r31 r32 _ ?side1 ?side2 ?side3 ?side4 Ee33.out).mono ?_)
 (case side1 => exact (Kd.C_below HR0_1.out HB.out))
 (case side2 => exact HC0_1.out)
 (case side3 => exact (Kd.C_below HR0_2.out HB.out))
 (case side4 => exact HC0_2.out)
 rintro ex_ w28 ⟨ve33_0, ve33_1, rfl, ho0, ho1, hb⟩
 refine ⟨_, rfl, ?_⟩
 have hk := Kept.of_below hb (fun _ => False)
 replace Oe11_0 := Aside0.mk (Op.mvR Oe11_0.out hk (fun _ _ hs => hs))
 replace Oe11_1 := Aside0.mk (Op.mvR Oe11_1.out hk (fun _ _ hs => hs))
 replace Oe20_0 := Aside0.mk (Op.mvR Oe20_0.out hk (fun _ _ hs => hs))
 replace Oe20_1 := Aside0.mk (Op.mvR Oe20_1.out hk (fun _ _ hs => hs))
 replace BKg1 := Aside0.mk (Op.mvB BKg1.out hk (fun hs => hs))
 replace BKg21 := Aside0.mk (Op.mvB BKg21.out hk (fun hs => hs))
 have HSw28 := Aside0.mk (And.intro (hb.size) HSw27.out)
 have Oe33_0 := Aside0.mk (Op.inR ho0 (a := w27.heap.size) (b := w.heap.size) HB.out.size (Nat.le_refl _))
 have Oe33_1 := Aside0.mk (Op.inR ho1 (a := w27.heap.size) (b := w.heap.size) HB.out.size (Nat.le_refl _))
 replace HB := Aside0.mk (Op.a5 HB.out hb)
 obtain ⟨Ae33_0, cAe33_0, ev_⟩ := Kd.R_slice Oe33_0.out
 subst ev_
 obtain ⟨Ae33_1, cAe33_1, ev_⟩ := Kd.R_slice Oe33_1.out
 subst ev_
 clear hb hk ho0 ho1
 refine hK.out _ _ ⟨(blk_cell BKg21.out 0).trans rfl, (blk_cell BKg21.out 1).trans rfl, (blk_cell BKg21.out 2).trans rfl, (blk_cell BKg21.out 3).trans rfl, (blk_cell BKg1.out 0).trans rfl, (blk_cell BKg1.out 1).trans rfl, (blk_cell BKg1.out 2).trans rfl, (blk_cell BKg1.out 3).trans rfl⟩ (fun hHeld => ?_)
 clear hK K
 refine norm_ (a' := ?_) ?_ ?_
 rotate_left
 ·show Act.put _ (some 24) _ = _
  simp only [Act.put, List.setIfInBounds_toArray, List.set_cons_zero, List.set_cons_succ, i64_w, i32_w]
  rfl
 refine one_ (i := 3) (N := some 25) #[true, true, true, true, false] rfl rfl (by kernel_rfl) (by decide) (fun K hK => ?_)
 refine goes_ Try.func13 (by kernel_rfl) rfl #[.agg #[.int .i64 r16, .slice Ae20_0 r17.length cAe20_0, .slice Ae20_1 r18.length cAe20_1, .int .i64 r19], .agg #[.int .i64 r29, .slice Ae33_0 r30.length cAe33_0, .slice Ae33_1 r31.length cAe33_1, .int .i64 r32]] (by rfl) rfl rfl (by (try simp only [List.map_toArray, List.map_cons, List.map_nil]); first | done | rfl | (simp only [List.length_drop, List.length_take]; rfl)) ?_
 (with_reducible refine (laws_eqTable.calls k r16 _ _ r17 _ _ r18 r19 r29 _ _ r30 _ _ r31 r32 true _ ?side1 ?side2 ?side3 ?side4 ?side5 ?side6 ?side7 ?side8 Ee36.out).mono ?_)
 (case side1 => exact (Kd.R_reads' Oe20_0.out).2.2)
 (case side2 => (have h_ := Kd.R_reads' Oe20_0.out; have h1_ := h_.1; have h2_ := h_.2.1; omega))
 (case side3 => exact (Kd.R_reads' Oe20_1.out).2.2)
 (case side4 => (have h_ := Kd.R_reads' Oe20_1.out; have h1_ := h_.1; have h2_ := h_.2.1; omega))
 (case side5 => exact (Kd.R_reads' Oe33_0.out).2.2)
 (case side6 => (have h_ := Kd.R_reads' Oe33_0.out; have h1_ := h_.1; have h2_ := h_.2.1; omega))
 (case side7 => exact (Kd.R_reads' Oe33_1.out).2.2)
 (case side8 => (have h_ := Kd.R_reads' Oe33_1.out; have h1_ := h_.1; have h2_ := h_.2.1; omega))
 rintro ex_ w34 ⟨rfl, hb⟩
 refine ⟨_, rfl, ?_⟩
 have hk := Kept.of_below hb (fun _ => False)
 replace Oe11_0 := Aside0.mk (Op.mvR Oe11_0.out hk (fun _ _ hs => hs))
 replace Oe11_1 := Aside0.mk (Op.mvR Oe11_1.out hk (fun _ _ hs => hs))
 replace Oe20_0 := Aside0.mk (Op.mvR Oe20_0.out hk (fun _ _ hs => hs))
 replace Oe20_1 := Aside0.mk (Op.mvR Oe20_1.out hk (fun _ _ hs => hs))
 replace Oe33_0 := Aside0.mk (Op.mvR Oe33_0.out hk (fun _ _ hs => hs))
 replace Oe33_1 := Aside0.mk (Op.mvR Oe33_1.out hk (fun _ _ hs => hs))
 replace BKg1 := Aside0.mk (Op.mvB BKg1.out hk (fun hs => hs))
 replace BKg21 := Aside0.mk (Op.mvB BKg21.out hk (fun hs => hs))
 have HSw34 := Aside0.mk (And.intro (hb.size) HSw28.out)
 replace HB := Aside0.mk (Op.a5 HB.out hb)
 clear hb hk
 refine hK.out _ _ ⟨(blk_cell BKg21.out 0).trans rfl, (blk_cell BKg21.out 1).trans rfl, (blk_cell BKg21.out 2).trans rfl, (blk_cell BKg21.out 3).trans rfl, (blk_cell BKg1.out 0).trans rfl, (blk_cell BKg1.out 1).trans rfl, (blk_cell BKg1.out 2).trans rfl, (blk_cell BKg1.out 3).trans rfl⟩ (fun hHeld => ?_)
 clear hK K
 refine norm_ (a' := ?_) ?_ ?_
 rotate_left
 ·show Act.put _ (some 25) _ = _
  simp only [Act.put, List.setIfInBounds_toArray, List.set_cons_zero, List.set_cons_succ, i64_w, i32_w]
  rfl
 refine pure_ (i := 4) (N := some 26) (v := ?_) (a' := ?_) #[true, true, true, true, true] rfl rfl (by kernel_rfl) (fun _ _ _ h => h) (Or.inl ⟨by rfl, ?_⟩) ?_ ?_
 rotate_left
 ·intro w'
  go_simp
  with_reducible rfl
 rotate_left
 ·simp only [Act.put, List.setIfInBounds_toArray, List.set_cons_zero, List.set_cons_succ, i64_w, i32_w]
  rfl
 refine done_ (by kernel_rfl) ?_
 have hz_g1_0_w34 : w34.cell? ⟨g1, 0, none⟩ = some (.int .i64 a0_0) := (blk_cell BKg1.out 0).trans rfl
 have hf_g1_0_w34 := blk_frozen BKg1.out 0
 have hz_g1_1_w34 : w34.cell? ⟨g1, 1, none⟩ = some (.slice A0_1 l0_1.length c0_1) := (blk_cell BKg1.out 1).trans rfl
 have hf_g1_1_w34 := blk_frozen BKg1.out 1
 have hz_g1_2_w34 : w34.cell? ⟨g1, 2, none⟩ = some (.slice A0_2 l0_2.length c0_2) := (blk_cell BKg1.out 2).trans rfl
 have hf_g1_2_w34 := blk_frozen BKg1.out 2
 have hz_g1_3_w34 : w34.cell? ⟨g1, 3, none⟩ = some (.int .i64 a0_3) := (blk_cell BKg1.out 3).trans rfl
 have hf_g1_3_w34 := blk_frozen BKg1.out 3
 have hz_g21_0_w34 : w34.cell? ⟨g21, 0, none⟩ = some (.int .i64 r16) := (blk_cell BKg21.out 0).trans rfl
 have hf_g21_0_w34 := blk_frozen BKg21.out 0
 have hz_g21_1_w34 : w34.cell? ⟨g21, 1, none⟩ = some (.slice Ae20_0 r17.length cAe20_0) := (blk_cell BKg21.out 1).trans rfl
 have hf_g21_1_w34 := blk_frozen BKg21.out 1
 have hz_g21_2_w34 : w34.cell? ⟨g21, 2, none⟩ = some (.slice Ae20_1 r18.length cAe20_1) := (blk_cell BKg21.out 2).trans rfl
 have hf_g21_2_w34 := blk_frozen BKg21.out 2
 have hz_g21_3_w34 : w34.cell? ⟨g21, 3, none⟩ = some (.int .i64 r19) := (blk_cell BKg21.out 3).trans rfl
 have hf_g21_3_w34 := blk_frozen BKg21.out 3
 go_wp2
 go_ret
 exact ⟨rfl, HB.out⟩

/-- THE ONE PURE STATEMENT of laws_FnExactGoodTable: yours. -/
def laws_FnExactGoodTable.Pure : Prop := ∀ (a0_0 : Int) (l0_1 : List (S71)) (l0_2 : List (S71)) (a0_3 : Int), ((Lit.int .i64 a0_0).wf = true) → (l0_1.length ≤ maxLen ∧ ∀ y_ ∈ l0_1, (fun z_ : S71 => (True) ∧ ((Lit.int .i64 (z_).f1).wf = true) ∧ ((Lit.int .i64 (z_).f2).wf = true)) y_) → (l0_2.length ≤ maxLen ∧ ∀ y_ ∈ l0_2, (fun z_ : S71 => (True) ∧ ((Lit.int .i64 (z_).f1).wf = true) ∧ ((Lit.int .i64 (z_).f2).wf = true)) y_) → ((Lit.int .i64 a0_3).wf = true) → ∃ k, laws_FnExactGoodTable.f k a0_0 l0_1 l0_2 a0_3 = some true
set_option maxHeartbeats 1000000 in
theorem laws_FnExactGoodTable.walk (P : laws_FnExactGoodTable.Pure) (a0_0 : Int) (A0_1 : Option Addr) (c0_1 : Nat) (l0_1 : List (S71)) (A0_2 : Option Addr) (c0_2 : Nat) (l0_2 : List (S71)) (a0_3 : Int) (w : World) (hr0_1 : Kd.C k71 w A0_1 l0_1.length l0_1) (hc0_1 : l0_1.length ≤ c0_1) (hr0_2 : Kd.C k71 w A0_2 l0_2.length l0_2) (hc0_2 : l0_2.length ≤ c0_2) (q0_0 : (Lit.int .i64 a0_0).wf = true) (q0_1 : l0_1.length ≤ maxLen ∧ ∀ y_ ∈ l0_1, (fun z_ : S71 => (True) ∧ ((Lit.int .i64 (z_).f1).wf = true) ∧ ((Lit.int .i64 (z_).f2).wf = true)) y_) (q0_2 : l0_2.length ≤ maxLen ∧ ∀ y_ ∈ l0_2, (fun z_ : S71 => (True) ∧ ((Lit.int .i64 (z_).f1).wf = true) ∧ ((Lit.int .i64 (z_).f2).wf = true)) y_) (q0_3 : (Lit.int .i64 a0_3).wf = true) :
  Calls Try.prog 5 #[.agg #[.int .i64 a0_0, .slice A0_1 l0_1.length c0_1, .slice A0_2 l0_2.length c0_2, .int .i64 a0_3]] w fun e w' => e = .returned (.bool true) ∧ Below w.heap.size w w' := by
 obtain ⟨k, h⟩ := P a0_0 l0_1 l0_2 a0_3 q0_0 q0_1 q0_2 q0_3
 refine (laws_FnExactGoodTable.calls k a0_0 _ _ l0_1 _ _ l0_2 a0_3 true w hr0_1 hc0_1 hr0_2 hc0_2 h).mono ?_
 rintro e w' ⟨rfl, hd⟩
 exact ⟨rfl, hd⟩

end Go.Proofs.Ytnohankakmmnoaa.PFnExactGoodTable
