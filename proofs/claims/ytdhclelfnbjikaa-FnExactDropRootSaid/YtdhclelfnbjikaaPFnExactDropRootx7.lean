/- Contracts of functions of the translation, written by a program of this repo (a changed copy of the printer). Not trusted: Lean checks it. -/
-- squeezed
import Derived.Test.YtdhclelfnbjikaaPFnExactDropRootx0
import Derived.Test.YtdhclelfnbjikaaPFnExactDropRootx5
import Derived.Test.YtdhclelfnbjikaaPFnExactDropRootx6
namespace Go.Proofs.Ytdhclelfnbjikaa.PFnExactDropRoot
open Go.RowKit Go.Proofs.YtdhclelfnbjikaaW.PrintWords Go.Proofs.YtdhclelfnbjikaaW.PrintLast Go.Proofs.YtdhclelfnbjikaaW.PrintMore
attribute [local go_sem] max2_int min2_int max_two min_two max_three min_three max_four min_four   -- for this text's walks alone
set_option linter.unusedVariables false
set_option linter.unusedSimpArgs false

/-! ### spec_l10Without: function 73 -/
def spec_l10Without.f (l0 : List Int) (a1 : Int) : Option (List Int) := (some (([] : List Int) : List Int)).bind fun y217 => (if 0 ≤ a1 then (if a1 ≤ (l0.length : Int) then (if y217.length + (l0.take (a1 : Int).toNat).length < 17592186044416 then ((some (y217 ++ (l0.take (a1 : Int).toNat) : List Int)).bind fun y221 => (if 0 ≤ (wrap64 (a1 + 1)) then (if (wrap64 (a1 + 1)) ≤ (l0.length : Int) then (if y221.length + (l0.drop ((wrap64 (a1 + 1)) : Int).toNat).length < 17592186044416 then (some (y221 ++ (l0.drop ((wrap64 (a1 + 1)) : Int).toNat))) else (none)) else (none)) else (none))) else (none)) else (none)) else (none))
set_option maxHeartbeats 8000000 in
set_option maxRecDepth 100000 in
theorem spec_l10Without.calls (A0 : Option Addr) (c0 : Nat) (l0 : List Int) (a1 : Int) (r : List Int) (w : World) (hr0 : Kd.C (Kd.int .i64) w A0 l0.length l0) (hc0 : l0.length ≤ c0) (h : spec_l10Without.f l0 a1 = some r) :
  Calls Try.prog 73 #[.slice A0 l0.length c0, .int .i64 a1] w fun e w' => ∃ v0_ : Value, e = .returned (v0_) ∧ Kd.R (Kd.int .i64) 3 w' w.heap.size (fun _ => True) v0_ r ∧ Below w.heap.size w w' := by
 have HR0 := Aside0.mk hr0
 have HC0 := Aside0.mk hc0
 clear hr0 hc0
 have HB := Aside0.mk (Below.refl w.heap.size w)
 have H : ((some (([] : List Int) : List Int)).bind fun y217 => (if 0 ≤ a1 then (if a1 ≤ (l0.length : Int) then (if y217.length + (l0.take (a1 : Int).toNat).length < 17592186044416 then ((some (y217 ++ (l0.take (a1 : Int).toNat) : List Int)).bind fun y221 => (if 0 ≤ (wrap64 (a1 + 1)) then (if (wrap64 (a1 + 1)) ≤ (l0.length : Int) then (if y221.length + (l0.drop ((wrap64 (a1 + 1)) : Int).toNat).length < 17592186044416 then (some (y221 ++ (l0.drop ((wrap64 (a1 + 1)) : Int).toNat))) else (none)) else (none)) else (none))) else (none)) else (none)) else (none))) = some r := h
 clear h
 obtain ⟨y217, hy217⟩ : ∃ y_ : List Int, y_ = (([] : List Int)) := ⟨_, rfl⟩
 replace H : (if 0 ≤ a1 then (if a1 ≤ (l0.length : Int) then (if y217.length + (l0.take (a1 : Int).toNat).length < 17592186044416 then ((some (y217 ++ (l0.take (a1 : Int).toNat) : List Int)).bind fun y221 => (if 0 ≤ (wrap64 (a1 + 1)) then (if (wrap64 (a1 + 1)) ≤ (l0.length : Int) then (if y221.length + (l0.drop ((wrap64 (a1 + 1)) : Int).toNat).length < 17592186044416 then (some (y221 ++ (l0.drop ((wrap64 (a1 + 1)) : Int).toNat))) else (none)) else (none)) else (none))) else (none)) else (none)) else (none)) = some r := by first | (rw [hy217]; with_reducible exact H) | (have H2_ := (Option.bind_some _ _).symm.trans H; rw [hy217]; with_reducible exact H2_) | (have H2_ := (Option.bind_some _ _).symm.trans H; with_reducible exact H2_) | with_reducible exact H | (rw [hy217]; exact H) | exact H
 have Ny217 := Aside0.mk hy217
 clear hy217
 by_cases c3 : 0 ≤ a1
 ·rw [if_pos c3] at H
  have c3b0 := eq_true c3
  have c3b1 : decide (0 ≤ a1) = true := decide_eq_true c3
  clear c3
  by_cases c4 : a1 ≤ (l0.length : Int)
  ·rw [if_pos c4] at H
   have c4b0 := eq_true c4
   have c4b1 : decide (a1 ≤ (l0.length : Int)) = true := decide_eq_true c4
   clear c4
   by_cases c5 : y217.length + (l0.take (a1 : Int).toNat).length < 17592186044416
   ·rw [if_pos c5] at H
    have LMc5 := Aside0.mk c5
    clear c5
    obtain ⟨y221, hy221⟩ : ∃ y_ : List Int, y_ = (y217 ++ (l0.take (a1 : Int).toNat)) := ⟨_, rfl⟩
    replace H : (if 0 ≤ (wrap64 (a1 + 1)) then (if (wrap64 (a1 + 1)) ≤ (l0.length : Int) then (if y221.length + (l0.drop ((wrap64 (a1 + 1)) : Int).toNat).length < 17592186044416 then (some (y221 ++ (l0.drop ((wrap64 (a1 + 1)) : Int).toNat))) else (none)) else (none)) else (none)) = some r := by first | (rw [hy221]; with_reducible exact H) | (have H2_ := (Option.bind_some _ _).symm.trans H; rw [hy221]; with_reducible exact H2_) | (have H2_ := (Option.bind_some _ _).symm.trans H; with_reducible exact H2_) | with_reducible exact H | (rw [hy221]; exact H) | exact H
    have Ny221 := Aside0.mk hy221
    clear hy221
    obtain ⟨ji6, hji6⟩ : ∃ j_ : Int, (wrap64 (a1 + 1)) = j_ := ⟨_, rfl⟩
    replace H : (if 0 ≤ (ji6) then (if (ji6) ≤ (l0.length : Int) then (if y221.length + (l0.drop ((ji6) : Int).toNat).length < 17592186044416 then (some (y221 ++ (l0.drop ((ji6) : Int).toNat))) else (none)) else (none)) else (none)) = some r := by first | (rw [hji6] at H; exact H) | (simp only [hji6] at H ⊢; exact H)
    have hji6w : (IntKind.i64.wrap (a1 + 1)) = ji6 := (i64_w _).trans hji6
    by_cases c7 : 0 ≤ (ji6)
    ·rw [if_pos c7] at H
     have c7b0 := eq_true c7
     have c7b1 : decide (0 ≤ (ji6)) = true := decide_eq_true c7
     clear c7
     by_cases c8 : (ji6) ≤ (l0.length : Int)
     ·rw [if_pos c8] at H
      have c8b0 := eq_true c8
      have c8b1 : decide ((ji6) ≤ (l0.length : Int)) = true := decide_eq_true c8
      clear c8
      by_cases c9 : y221.length + (l0.drop ((ji6) : Int).toNat).length < 17592186044416
      ·rw [if_pos c9] at H
       have LMc9 := Aside0.mk c9
       clear c9
       obtain ⟨y225, hy225⟩ : ∃ y_ : List Int, y_ = (y221 ++ (l0.drop ((ji6) : Int).toNat)) := ⟨_, rfl⟩
       replace H : (some y225) = some r := by first | (rw [hy225]; with_reducible exact H) | (have H2_ := (Option.bind_some _ _).symm.trans H; rw [hy225]; with_reducible exact H2_) | (have H2_ := (Option.bind_some _ _).symm.trans H; with_reducible exact H2_) | with_reducible exact H | (rw [hy225]; exact H) | exact H
       have Ny225 := Aside0.mk hy225
       clear hy225
       obtain rfl := Option.some.inj H
       go_enter Try.func73, Try.ntmps73
       go_wp2_with (first | ((with_reducible refine gate_dst (N := 6) rfl ?_); refine Kd.R_lit (Kd.int .i64) _ 3 ?hg (N := 6) ?hd (xs := ([] : List Int)) (inner := []) (ok := fun _ => True) (okp := fun _ => True) ?hr ?hp (fun _ hk => hk) trivial (Below.refl _ _) (Nat.le_refl _) (by simp) ?_; (case hd => rfl); (case hg => rfl); (case hr => first | (go_simp; done) | (go_simp; rfl)); (case hp => exact (Reps.none _ _)); intro v218 w10 ho11 hb hg_ hnew_; clear hg_ hnew_; (first | rw [← Ny217.out] at ho11 | (simp only [Int.reduceToNat] at ho11; rw [← Ny217.out] at ho11)); have n0_ := Aside0.mk (Kd.R_lower ho11 (Op.a6 (by repeat (first | (with_reducible first | exact HB.out | apply Op.a1 | apply Op.a2 | apply Op.a3) | exact HB.out)))); have n1_ := Aside0.mk (Op.a5 (by repeat (first | (with_reducible first | exact HB.out | apply Op.a1 | apply Op.a2 | apply Op.a3) | exact HB.out)) hb); clear HB; have HO219 := n0_; have HB := n1_; clear n0_ n1_; clear hb ho11; obtain ⟨i012, hi012, _, hsz12, _⟩ := info_parts info3; obtain ⟨hcut12, hA12, hC12⟩ := print_take_of (P := Try.prog) (Value.int .i64) 0 23 3 .i64 Try.underlying23 hi012 hsz12 A0 c0 l0 a1 (of_decide_eq_true (by first | (with_reducible assumption) | assumption)) (of_decide_eq_true (by first | (with_reducible assumption) | assumption)) HC0.out; have HR220 := Aside0.mk (Kd.C_of_reads (h1 := fun _ => rfl) (hA12 _ (Kd.reads_of_C HR0.out))); have HC220 := Aside0.mk hC12; clear hA12 hC12 hi012 hsz12) | ((with_reducible refine gate_builtin (b := .append) (xs := #[.tmp 6, .tmp 9]) rfl ?_); at_builtin; refine Kd.R_append_rows (Kd.int .i64) (w0 := w) w.heap.size rfl (.tmp 6) (.tmp 9) 23 3 (.int .i64 0) 8 rfl Try.underlying23 info3 rfl (by decide) (by omega) v218 y217 (l0.take (a1 : Int).toNat) _ _ _ (fun _ => True) (fun _ => False) rfl rfl ?aO ?aR (fun _ _ h => h) (fun _ h => h.elim) ?aF ?aB ?aS ?aL ?_; (case aR => first | (have hz_ := (show (l0.take (a1 : Int).toNat).length = a1.toNat from (by rw [List.length_take]; have h_ : (a1 : Int) ≤ (l0.length : Int) := of_decide_eq_true (by first | (with_reducible assumption) | assumption); omega)); have g_ := Kd.C_below HR220.out HB.out; rw [hz_] at g_; exact g_) | (rw [← show (l0.take (a1 : Int).toNat).length = a1.toNat from (by rw [List.length_take]; have h_ : (a1 : Int) ≤ (l0.length : Int) := of_decide_eq_true (by first | (with_reducible assumption) | assumption); omega)]; repeat (first | exact (Kd.C_below HR220.out HB.out) | (with_reducible refine Kd.C_alloc ?_ _) | (with_reducible refine Kd.C_drewN ?_ _) | (with_reducible refine Kd.C_drew ?_))) | (repeat (first | exact (Kd.C_below HR220.out HB.out) | (with_reducible refine Kd.C_alloc ?_ _) | (with_reducible refine Kd.C_drewN ?_ _) | (with_reducible refine Kd.C_drew ?_)))); (case aB => exact (by repeat (first | (with_reducible first | exact HB.out | apply Op.a1 | apply Op.a2 | apply Op.a3) | exact HB.out))); (case aF => exact (fun _ _ => trivial)); (case aO => exact (by (with_reducible repeat (first | apply Kd.R_alloc | apply Kd.R_drewN | apply Kd.R_drew)); exact HO219.out)); (case aS => exact (Op.a6 (by repeat (first | (with_reducible first | exact HB.out | apply Op.a1 | apply Op.a2 | apply Op.a3) | exact HB.out)))); (case aL => have := LMc5.out; have hlx_ := (show (l0.take (a1 : Int).toNat).length = a1.toNat from (by rw [List.length_take]; have h_ : (a1 : Int) ≤ (l0.length : Int) := of_decide_eq_true (by first | (with_reducible assumption) | assumption); omega)); omega); intro v222 w13 ho hb hg hat; rw [← Ny221.out] at ho; have n0_ := Aside0.mk (hb); have n1_ := Aside0.mk (ho); clear HB; clear HO219; have HB := n0_; have HO223 := n1_; clear n0_ n1_; clear ho hb hg hat; obtain ⟨i014, hi014, _, hsz14, _⟩ := info_parts info3; obtain ⟨A14, hcut14, hA14, hC14⟩ := print_drop_of (P := Try.prog) (Value.int .i64) 0 23 3 .i64 Try.underlying23 hi014 hsz14 A0 c0 l0 (ji6) (of_decide_eq_true (by first | (with_reducible assumption) | assumption)) (of_decide_eq_true (by first | (with_reducible assumption) | assumption)) HC0.out; have HR224 := Aside0.mk (Kd.C_of_reads (h1 := fun _ => rfl) (hA14 _ (Kd.reads_of_C HR0.out))); have HC224 := Aside0.mk hC14; clear hA14 hC14 hi014 hsz14) | ((with_reducible refine gate_builtin (b := .append) (xs := #[.tmp 11, .tmp 15]) rfl ?_); at_builtin; refine Kd.R_append_rows (Kd.int .i64) (w0 := w) w.heap.size rfl (.tmp 11) (.tmp 15) 23 3 (.int .i64 0) 8 rfl Try.underlying23 info3 rfl (by decide) (by omega) v222 y221 (l0.drop ((ji6) : Int).toNat) _ _ _ (fun _ => True) (fun _ => False) rfl rfl ?aO ?aR (fun _ _ h => h) (fun _ h => h.elim) ?aF ?aB ?aS ?aL ?_; (case aR => first | (have hz_ := (show (l0.drop ((ji6) : Int).toNat).length = (l0.length - (ji6).toNat) from List.length_drop); have g_ := Kd.C_below HR224.out HB.out; rw [hz_] at g_; exact g_) | (rw [← show (l0.drop ((ji6) : Int).toNat).length = (l0.length - (ji6).toNat) from List.length_drop]; repeat (first | exact (Kd.C_below HR224.out HB.out) | (with_reducible refine Kd.C_alloc ?_ _) | (with_reducible refine Kd.C_drewN ?_ _) | (with_reducible refine Kd.C_drew ?_))) | (repeat (first | exact (Kd.C_below HR224.out HB.out) | (with_reducible refine Kd.C_alloc ?_ _) | (with_reducible refine Kd.C_drewN ?_ _) | (with_reducible refine Kd.C_drew ?_)))); (case aB => exact (by repeat (first | (with_reducible first | exact HB.out | apply Op.a1 | apply Op.a2 | apply Op.a3) | exact HB.out))); (case aF => exact (fun _ _ => trivial)); (case aO => exact (by (with_reducible repeat (first | apply Kd.R_alloc | apply Kd.R_drewN | apply Kd.R_drew)); exact HO223.out)); (case aS => exact (Op.a6 (by repeat (first | (with_reducible first | exact HB.out | apply Op.a1 | apply Op.a2 | apply Op.a3) | exact HB.out)))); (case aL => have := LMc9.out; have hlx_ := (show (l0.drop ((ji6) : Int).toNat).length = (l0.length - (ji6).toNat) from List.length_drop); omega); intro v226 w15 ho hb hg hat; rw [← Ny225.out] at ho; have n0_ := Aside0.mk (hb); have n1_ := Aside0.mk (ho); clear HB; clear HO223; have HB := n0_; have HO227 := n1_; clear n0_ n1_; clear ho hb hg hat))
       go_ret
       exact ⟨_, by first | rfl | (simp [errW_none, errW_some] <;> rfl) | (simp only [← hji6]; first | rfl | (simp [errW_none, errW_some] <;> rfl)) | (simp [*, errW_none, errW_some] <;> rfl), by (with_reducible repeat (first | apply Kd.R_alloc | apply Kd.R_drewN | apply Kd.R_drew)); exact HO227.out, by repeat (first | (with_reducible first | exact HB.out | apply Op.a1 | apply Op.a2 | apply Op.a3) | exact HB.out)⟩
      ·rw [if_neg c9] at H
       exact absurd H (by simp)
     ·rw [if_neg c8] at H
      exact absurd H (by simp)
    ·rw [if_neg c7] at H
     exact absurd H (by simp)
   ·rw [if_neg c5] at H
    exact absurd H (by simp)
  ·rw [if_neg c4] at H
   exact absurd H (by simp)
 ·rw [if_neg c3] at H
  exact absurd H (by simp)

/-! ### spec_l10Less: function 74 -/
/-- one less at a node's count; a node that has none any more goes, and lets go what it holds -/
def spec_l10Less.run (g : List S60 → List Int → List Int → Int → Option (List S60 × List Int × List Int)) : List Int → List S60 → List Int → List Int → Option (List S60 × List Int × List Int)
 | [], ns, cs, gl => some (ns, cs, gl)
 | x :: t, ns, cs, gl => (g ns cs gl x).bind fun p => spec_l10Less.run g t p.1 p.2.1 p.2.2
def spec_l10Less.f : Nat → List S60 → List Int → List Int → Int → Option (List S60 × List Int × List Int)
 | 0, _, _, _, _ => none
 | k + 1, ns, cs, gl, v => if 0 ≤ v then (if v < (cs.length : Int) then (if 0 < wrap64 (rd cs v - 1) then some (ns, cs.set v.toNat (wrap64 (rd cs v - 1)), gl) else (if v < (ns.length : Int) then (if gl.length < 17592186044416 then spec_l10Less.run (fun a b c d => spec_l10Less.f k a b c d) (rd_T60 ns v).f0 (ns.set v.toNat ⟨[], true⟩) (cs.set v.toNat (wrap64 (rd cs v - 1))) (gl ++ [v]) else none) else none)) else none) else none

theorem spec_l10Less.put {w : World} {base gn n cap : Nat} {ok oki : Nat → Prop} {v0 : Value} {b : Bool} {xs : List S60} {v : Int} (hH : Kd.H k60 60 w base ok (.slice (some ⟨gn, 0, none⟩) n cap) xs v oki [v0, .bool b]) (h0 : 0 ≤ v) (h1 : v < n) :
  Kd.S k60 60 ((w.setCell ⟨gn, v.toNat * 2, none⟩ (.slice none 0 0)).setCell ⟨gn, v.toNat * 2 + 1, none⟩ (.bool true)) base (fun k => ok k ∧ ¬ oki k) (.slice (some ⟨gn, 0, none⟩) n cap) (xs.set v.toNat ⟨[], true⟩) ∧ w.grownBy ((w.setCell ⟨gn, v.toNat * 2, none⟩ (.slice none 0 0)).setCell ⟨gn, v.toNat * 2 + 1, none⟩ (.bool true)) (some gn) := by
 have h2 : Kd.H k60 60 w base (fun k => (ok k ∧ ¬ oki k) ∧ ¬ (fun _ => False) k) (.slice (some ⟨gn, 0, none⟩) n cap) xs v (fun _ => False) [v0, .bool b] := ⟨fun _ h => h.elim, hH.2.elim fun f hf => ⟨f, Kd.R_mono hf (fun k hk => ⟨⟨hk, fun h => h⟩, fun h => h⟩)⟩⟩
 exact Kd.S_seg (okg := fun _ => False) (okp := fun _ => False) h2 h0 h1 (seg := [.slice none 0 0, .bool true]) (j := 0) (by exact Nat.le_refl 2) (x' := ⟨[], true⟩) (k60_mkM _ _ _ ⟨[], true⟩ (Kd.R_nil _ _ _ _ _)) (fun _ h => h.elim) (fun _ h => h.elim)
set_option maxHeartbeats 8000000 in
set_option maxRecDepth 100000 in
theorem spec_l10Less.calls (k : Nat) : ∀ (PN PC PG : Nat → Prop) (A1 : Option Addr) (n1 c1 : Nat) (vn vc vg : Value) (ns : List S60) (cs gl : List Int) (v : Int) (ns' : List S60) (cs' gl' : List Int) (w0 w : World), Below w0.heap.size w0 w → Kd.S k60 60 w w0.heap.size PN vn ns → Kd.R (Kd.int .i64) 3 w w0.heap.size PC vc cs → Kd.R (Kd.int .i64) 3 w w0.heap.size PG vg gl →
  (∀ j, PN j → ¬ PC j) → (∀ j, PN j → ¬ PG j) → (∀ j, PC j → ¬ PG j) → spec_l10Less.f k ns cs gl v = some (ns', cs', gl') →
  Calls Try.prog 74 #[.agg #[vn, .slice A1 n1 c1, vc], .int .i64 v, vg] w fun e w' => ∃ vg' : Value, e = .returned vg' ∧ Kd.S k60 60 w' w0.heap.size PN vn ns' ∧ Kd.R (Kd.int .i64) 3 w' w0.heap.size PC vc cs' ∧ Kd.R (Kd.int .i64) 3 w' w0.heap.size (fun j => PG j ∨ w.heap.size ≤ j) vg' gl' ∧ Below w0.heap.size w0 w' ∧ Kept w w' (fun j => PN j ∨ PC j ∨ PG j) := by
 induction k with
 | zero =>
  intro _ _ _ _ _ _ _ _ _ _ _ _ _ _ _ _ _ _ _ _ _ _ _ _ _ h
  exact absurd h (by simp [spec_l10Less.f])
 | succ k ih =>
 intro PN PC PG A1 n1 c1 vn vc vg ns cs gl v ns' cs' gl' w0 w hB hN hC hG d1 d2 d3 h
 have hu40 := Try.underlying40
 have hu60 := Try.underlying60
 have IH := Aside0.mk ih
 unfold spec_l10Less.f at h
 by_cases q0 : 0 ≤ v
 case neg => rw [if_neg q0] at h; exact absurd h (by simp)
 rw [if_pos q0] at h
 by_cases q1 : v < cs.length
 case neg => rw [if_neg q1] at h; exact absurd h (by simp)
 rw [if_pos q1] at h
 obtain ⟨gc, cc, rfl, hgc, hgl, _⟩ := Kd.R_form hC (by omega)
 obtain ⟨An, cn, rfl⟩ := Kd.S_slice hN
 obtain ⟨Ag, cg, rfl⟩ := Kd.R_slice hG
 obtain ⟨hx0, hf0⟩ := Kd.R_celln 0 hC v q0 q1
 have hx0 : w.cell? ⟨gc, v.toNat, none⟩ = some (.int .i64 (rd cs v)) := hx0
 have D1 := Aside0.mk d1
 have D2 := Aside0.mk d2
 have D3 := Aside0.mk d3
 have HN := Aside0.mk (Op.bdS hN)
 have HC := Aside0.mk (Op.bdR hC)
 have HG := Aside0.mk (Op.bdR hG)
 have GC := Aside0.mk (And.intro hgc hgl)
 have HX := Aside0.mk hx0
 have HF := Aside0.mk hf0
 have HB := Aside0.mk hB
 have HK := Aside0.mk (Kept.refl w (fun j => PN j ∨ PC j ∨ PG j))
 have q0b : decide (0 ≤ v) = true := decide_eq_true q0
 have q0e := eq_true q0
 have q1e := eq_true q1
 have q1b : decide (v < (cs.length : Int)) = true := decide_eq_true q1
 have Q0 := Aside0.mk (And.intro q0 q1)
 clear ih hB hN hC hG d1 d2 d3 hgc hgl hx0 hf0 q0 q1
 by_cases c0 : 0 < wrap64 (rd cs v - 1)
 ·rw [if_pos c0] at h
  simp only [Option.some.injEq, Prod.mk.injEq] at h
  obtain ⟨rfl, rfl, rfl⟩ := h
  have c0b : decide (0 < wrap64 (rd cs v - 1)) = true := decide_eq_true c0
  clear c0
  go_enter Try.func74, Try.ntmps74
  go_wp2_with (first | ((with_reducible refine gate_dst (N := 3) rfl ?_); refine box_event ?hg (N := 3) ?hd (cs := #[.slice An ns.length cn, .slice A1 n1 c1, .slice (some ⟨gc, 0, none⟩) cs.length cc]) (t := 40) ?hr ?_; (case hd => rfl); (case hg => rfl); (case hr => first | (go_simp; done) | (go_simp; rfl)); intro g hg w1 hbox hb; subst hg; have hk1 := Kept.of_below hb (fun _ => False); replace HN := Aside0.mk (Op.mvS HN.out hk1 (fun _ _ h => h)); replace HC := Aside0.mk (Op.mvR HC.out hk1 (fun _ _ h => h)); replace HG := Aside0.mk (Op.mvR HG.out hk1 (fun _ _ h => h)); replace HK := Aside0.mk (Kept.then_ HK.out hk1 (fun j hj => hj.elim)); replace HB := Aside0.mk (Op.a5 HB.out hb); have BK := Aside0.mk hbox; have hx1 : w1.cell? ⟨gc, v.toNat, none⟩ = some (.int .i64 (rd cs v)) := (hb.cell (p := ⟨gc, v.toNat, none⟩) GC.out.2).trans HX.out; have hfx1 : w1.frozen? ⟨gc, v.toNat, none⟩ = false := (hb.frozen (p := ⟨gc, v.toNat, none⟩) GC.out.2).trans HF.out; clear hbox hb hk1; have hz0_w1 : w1.cell? ⟨w.heap.size, 0, none⟩ = some (.slice An ns.length cn) := (blk_cell BK.out 0).trans rfl; have hz1_w1 : w1.cell? ⟨w.heap.size, 1, none⟩ = some (.slice A1 n1 c1) := (blk_cell BK.out 1).trans rfl; have hz2_w1 : w1.cell? ⟨w.heap.size, 2, none⟩ = some (.slice (some ⟨gc, 0, none⟩) cs.length cc) := (blk_cell BK.out 2).trans rfl; have hf0_w1 := blk_frozen BK.out 0; have hf1_w1 := blk_frozen BK.out 1; have hf2_w1 := blk_frozen BK.out 2) | ((with_reducible refine gate_store (t := 3) (p := 16) rfl ?_); refine store_event (t := 3) (p := 16) (v := ?vo_a) (w1 := (w1.setCell ⟨gc, v.toNat, none⟩ (.int .i64 (wrap64 (rd cs v - 1))))) ?hg ?ho ?hn ?hr ?_; (case ho => rfl); (case hg => rfl); (case hn => rfl); (case hr => first | (go_simp; done) | (go_simp; rfl)); intro w2 hw; have hp := Kd.R_putg HC.out v (wrap64 (rd cs v - 1)); have hgr : w1.grownBy w2 (some gc) := (by rw [hw]; exact hp.2); have hc2 : Kd.R (Kd.int .i64) 3 w2 w0.heap.size (fun k => PC k ∧ k < w.heap.size) (.slice (some ⟨gc, 0, none⟩) cs.length cc) (cs.set v.toNat (wrap64 (rd cs v - 1))) := (by rw [hw]; exact hp.1); have hpc := HC.out.1 gc rfl; replace HK := Aside0.mk (Kept.of_grown hgr HK.out (fun j hj => .inl (.inr (.inl (by injection hj with hj; subst hj; exact hpc.1))))); replace HN := Aside0.mk (Kd.S_grown HN.out hgr (fun k hk e => by injection e with e; subst e; exact D1.out k hk.1 hpc.1)); replace HG := Aside0.mk (Kd.R_grown HG.out hgr (fun k hk e => by injection e with e; subst e; exact D3.out k hpc.1 hk.1)); replace BK := Aside0.mk (blk_grown BK.out hgr (fun e => by injection e with e; have h1 := hpc.2; omega)); replace HB := Aside0.mk (HB.out.grown hgr HB.out.size (fun j hj => by injection hj with hj; subst hj; exact GC.out.1)); replace HC := Aside0.mk hc2; have hx2 : w2.cell? ⟨gc, v.toNat, none⟩ = some (.int .i64 (wrap64 (rd cs v - 1))) := (by have h1 := (Kd.R_celln 0 hc2 v Q0.out.1 Q0.out.2).1; have h2 : rdOf 0 (cs.set v.toNat (wrap64 (rd cs v - 1))) v = wrap64 (rd cs v - 1) := (by have h3 := Q0.out; simp only [rdOf, List.getD_eq_getElem?_getD]; rw [List.getElem?_set_self (by omega)]; rfl); rw [h2] at h1; exact h1); clear hw hp hgr hc2 hpc; have hz0_w2 : w2.cell? ⟨w.heap.size, 0, none⟩ = some (.slice An ns.length cn) := (blk_cell BK.out 0).trans rfl; have hz1_w2 : w2.cell? ⟨w.heap.size, 1, none⟩ = some (.slice A1 n1 c1) := (blk_cell BK.out 1).trans rfl; have hz2_w2 : w2.cell? ⟨w.heap.size, 2, none⟩ = some (.slice (some ⟨gc, 0, none⟩) cs.length cc) := (blk_cell BK.out 2).trans rfl; have hf0_w2 := blk_frozen BK.out 0; have hf1_w2 := blk_frozen BK.out 1; have hf2_w2 := blk_frozen BK.out 2))
  go_ret
  exact ⟨_, rfl, Kd.S_mono HN.out (fun _ h => h.1), Kd.R_mono HC.out (fun _ h => h.1), Kd.R_mono HG.out (fun _ h => .inl h.1), HB.out, HK.out⟩
 ·rw [if_neg c0] at h
  by_cases q2 : v < ns.length
  case neg => rw [if_neg q2] at h; exact absurd h (by simp)
  rw [if_pos q2] at h
  by_cases q3 : gl.length < 17592186044416
  case neg => rw [if_neg q3] at h; exact absurd h (by simp)
  rw [if_pos q3] at h
  have c0b : decide (0 < wrap64 (rd cs v - 1)) = false := decide_eq_false c0
  have q2b : decide (v < (ns.length : Int)) = true := decide_eq_true q2
  have q2e := eq_true q2
  obtain ⟨hs, hhs⟩ : ∃ hs, hs = (rd_T60 ns v).f0 := ⟨_, rfl⟩
  rw [← hhs] at h
  have HH := Aside0.mk hhs
  have Q2 := Aside0.mk q2
  have Q3 := Aside0.mk q3
  have H' := Aside0.mk h
  obtain ⟨gn, cn2, en, hgn, hgn2, _⟩ := Kd.S_form HN.out (by have := Q0.out; omega)
  injection en with ea en2 ec
  subst ea
  clear c0 q2 q3 h ec en2 hgn hgn2 hhs
  go_enter Try.func74, Try.ntmps74
  go_wp2_with (first | ((with_reducible refine gate_dst (N := 3) rfl ?_); refine box_event ?hg (N := 3) ?hd (cs := #[.slice (some ⟨gn, 0, none⟩) ns.length cn, .slice A1 n1 c1, .slice (some ⟨gc, 0, none⟩) cs.length cc]) (t := 40) ?hr ?_; (case hd => rfl); (case hg => rfl); (case hr => first | (go_simp; done) | (go_simp; rfl)); intro g hg w1 hbox hb; subst hg; have hk1 := Kept.of_below hb (fun _ => False); replace HN := Aside0.mk (Op.mvS HN.out hk1 (fun _ _ h => h)); replace HC := Aside0.mk (Op.mvR HC.out hk1 (fun _ _ h => h)); replace HG := Aside0.mk (Op.mvR HG.out hk1 (fun _ _ h => h)); replace HK := Aside0.mk (Kept.then_ HK.out hk1 (fun j hj => hj.elim)); replace HB := Aside0.mk (Op.a5 HB.out hb); have BK := Aside0.mk hbox; have hx1 : w1.cell? ⟨gc, v.toNat, none⟩ = some (.int .i64 (rd cs v)) := (hb.cell (p := ⟨gc, v.toNat, none⟩) GC.out.2).trans HX.out; have hfx1 : w1.frozen? ⟨gc, v.toNat, none⟩ = false := (hb.frozen (p := ⟨gc, v.toNat, none⟩) GC.out.2).trans HF.out; clear hbox hb hk1; have hz0_w1 : w1.cell? ⟨w.heap.size, 0, none⟩ = some (.slice (some ⟨gn, 0, none⟩) ns.length cn) := (blk_cell BK.out 0).trans rfl; have hz1_w1 : w1.cell? ⟨w.heap.size, 1, none⟩ = some (.slice A1 n1 c1) := (blk_cell BK.out 1).trans rfl; have hz2_w1 : w1.cell? ⟨w.heap.size, 2, none⟩ = some (.slice (some ⟨gc, 0, none⟩) cs.length cc) := (blk_cell BK.out 2).trans rfl; have hf0_w1 := blk_frozen BK.out 0; have hf1_w1 := blk_frozen BK.out 1; have hf2_w1 := blk_frozen BK.out 2) | ((with_reducible refine gate_store (t := 3) (p := 16) rfl ?_); refine store_event (t := 3) (p := 16) (v := ?vo_a) (w1 := (w1.setCell ⟨gc, v.toNat, none⟩ (.int .i64 (wrap64 (rd cs v - 1))))) ?hg ?ho ?hn ?hr ?_; (case ho => rfl); (case hg => rfl); (case hn => rfl); (case hr => first | (go_simp; done) | (go_simp; rfl)); intro w2 hw; have hp := Kd.R_putg HC.out v (wrap64 (rd cs v - 1)); have hgr : w1.grownBy w2 (some gc) := (by rw [hw]; exact hp.2); have hc2 : Kd.R (Kd.int .i64) 3 w2 w0.heap.size (fun k => PC k ∧ k < w.heap.size) (.slice (some ⟨gc, 0, none⟩) cs.length cc) (cs.set v.toNat (wrap64 (rd cs v - 1))) := (by rw [hw]; exact hp.1); have hpc := HC.out.1 gc rfl; replace HK := Aside0.mk (Kept.of_grown hgr HK.out (fun j hj => .inl (.inr (.inl (by injection hj with hj; subst hj; exact hpc.1))))); replace HN := Aside0.mk (Kd.S_grown HN.out hgr (fun k hk e => by injection e with e; subst e; exact D1.out k hk.1 hpc.1)); replace HG := Aside0.mk (Kd.R_grown HG.out hgr (fun k hk e => by injection e with e; subst e; exact D3.out k hpc.1 hk.1)); replace BK := Aside0.mk (blk_grown BK.out hgr (fun e => by injection e with e; have h1 := hpc.2; omega)); replace HB := Aside0.mk (HB.out.grown hgr HB.out.size (fun j hj => by injection hj with hj; subst hj; exact GC.out.1)); replace HC := Aside0.mk hc2; have hx2 : w2.cell? ⟨gc, v.toNat, none⟩ = some (.int .i64 (wrap64 (rd cs v - 1))) := (by have h1 := (Kd.R_celln 0 hc2 v Q0.out.1 Q0.out.2).1; have h2 : rdOf 0 (cs.set v.toNat (wrap64 (rd cs v - 1))) v = wrap64 (rd cs v - 1) := (by have h3 := Q0.out; simp only [rdOf, List.getD_eq_getElem?_getD]; rw [List.getElem?_set_self (by omega)]; rfl); rw [h2] at h1; exact h1); clear hw hp hgr hc2 hpc; have hz0_w2 : w2.cell? ⟨w.heap.size, 0, none⟩ = some (.slice (some ⟨gn, 0, none⟩) ns.length cn) := (blk_cell BK.out 0).trans rfl; have hz1_w2 : w2.cell? ⟨w.heap.size, 1, none⟩ = some (.slice A1 n1 c1) := (blk_cell BK.out 1).trans rfl; have hz2_w2 : w2.cell? ⟨w.heap.size, 2, none⟩ = some (.slice (some ⟨gc, 0, none⟩) cs.length cc) := (blk_cell BK.out 2).trans rfl; have hf0_w2 := blk_frozen BK.out 0; have hf1_w2 := blk_frozen BK.out 1; have hf2_w2 := blk_frozen BK.out 2; obtain ⟨oki, ce, hcl, hM, hcc, hfr, hoki, hH⟩ := Kd.S_elem HN.out z60 v Q0.out.1 Q2.out; have hM2 : k60.M w2 w0.heap.size oki (rd_T60 ns v) ce := hM; obtain ⟨v0, rfl, hR⟩ := k60_openM hM2; rw [← HH.out] at hR; obtain ⟨Ah, ch, rfl⟩ := Kd.R_slice hR; have hv0 : w2.cell? ⟨gn, v.toNat * 2, none⟩ = some (.slice Ah hs.length ch) := hcc 0 _ rfl; have hv1 : w2.cell? ⟨gn, v.toNat * 2 + 1, none⟩ = some (.bool (rd_T60 ns v).f1) := hcc 1 _ rfl; have hg0 : w2.frozen? ⟨gn, v.toNat * 2, none⟩ = false := hfr 0; have hg1 : w2.frozen? ⟨gn, v.toNat * 2 + 1, none⟩ = false := hfr 1; have HR := Aside0.mk hR; have HO := Aside0.mk hoki; have HL := Aside0.mk hH; clear hcl hM hcc hfr hoki hH hM2 hR) | ((with_reducible refine gate_store (t := 60) (p := 34) rfl ?_); refine store_event (t := 60) (p := 34) (v := ?vo_b) (w1 := ((w2.setCell ⟨gn, v.toNat * 2, none⟩ (.slice none 0 0)).setCell ⟨gn, v.toNat * 2 + 1, none⟩ (.bool true))) ?hg ?ho ?hn ?hr ?_; (case ho => rfl); (case hg => rfl); (case hn => rfl); (case hr => first | (go_simp; done) | (go_simp; rfl)); intro w3 hw; have hp := spec_l10Less.put HL.out Q0.out.1 Q2.out; have hgr : w2.grownBy w3 (some gn) := (by rw [hw]; exact hp.2); have hn3 : Kd.S k60 60 w3 w0.heap.size (fun k => (PN k ∧ k < w.heap.size) ∧ ¬ oki k) (.slice (some ⟨gn, 0, none⟩) ns.length cn) (ns.set v.toNat ⟨[], true⟩) := (by rw [hw]; exact hp.1); have hpn := (Kd.S_R HN.out).1 gn rfl; have hbn := Kd.S_base HN.out gn rfl; replace HK := Aside0.mk (Kept.of_grown hgr HK.out (fun j hj => .inl (.inl (by injection hj with hj; subst hj; exact hpn.1)))); replace HC := Aside0.mk (Kd.R_grown HC.out hgr (fun k hk e => by injection e with e; subst e; exact D1.out k hpn.1 hk.1)); replace HG := Aside0.mk (Kd.R_grown HG.out hgr (fun k hk e => by injection e with e; subst e; exact D2.out k hpn.1 hk.1)); replace HR := Aside0.mk (Kd.R_grown HR.out hgr (fun k hk e => by injection e with e; exact (HO.out k hk).2 e)); replace BK := Aside0.mk (blk_grown BK.out hgr (fun e => by injection e with e; have h1 := hpn.2; omega)); replace HB := Aside0.mk (HB.out.grown hgr HB.out.size (fun j hj => by injection hj with hj; subst hj; exact hbn)); replace HN := Aside0.mk hn3; clear hw hp hgr hn3 hpn hbn; have hz0_w3 : w3.cell? ⟨w.heap.size, 0, none⟩ = some (.slice (some ⟨gn, 0, none⟩) ns.length cn) := (blk_cell BK.out 0).trans rfl; have hz1_w3 : w3.cell? ⟨w.heap.size, 1, none⟩ = some (.slice A1 n1 c1) := (blk_cell BK.out 1).trans rfl; have hz2_w3 : w3.cell? ⟨w.heap.size, 2, none⟩ = some (.slice (some ⟨gc, 0, none⟩) cs.length cc) := (blk_cell BK.out 2).trans rfl; have hf0_w3 := blk_frozen BK.out 0; have hf1_w3 := blk_frozen BK.out 1; have hf2_w3 := blk_frozen BK.out 2) | ((with_reducible refine gate_builtin (b := .append) (xs := #[.tmp 35, .tmp 37]) rfl ?_); at_builtin; refine Kd.R_append (Kd.int .i64) (w0 := w0) w0.heap.size rfl (.tmp 35) (.tmp 37) 23 3 (.int .i64 0) 8 rfl Try.underlying23 info3 rfl (by decide) (by omega) (.slice Ag gl.length cg) gl v [.int .i64 v] (fun j => (PG j ∧ j < w.heap.size) ∨ w.heap.size < j) (fun _ => False) rfl rfl ?aP (fun _ hk => hk.elim) ?aF ?aO ?aB ?aS ?aL ?_; (case aP => exact rfl); (case aF => exact (fun k hk => .inr (Nat.lt_of_lt_of_le (blk_lt BK.out) hk))); (case aO => exact Kd.R_mono HG.out (fun _ h => .inl h)); (case aB => exact HB.out); (case aS => exact HB.out.size); (case aL => have h1 := Q3.out; omega); intro v4 w4 ho hb hg hat; have hGo := HG.out.1; replace HN := Aside0.mk (Kd.S_grown HN.out hg (fun k hk e => D2.out k hk.1.1 (hGo k e.symm).1)); replace HC := Aside0.mk (Kd.R_grown HC.out hg (fun k hk e => D3.out k hk.1 (hGo k e.symm).1)); replace HR := Aside0.mk (Kd.R_grown HR.out hg (fun k hk e => D2.out k (HO.out k hk).1.1 (hGo k e.symm).1)); replace BK := Aside0.mk (blk_grown BK.out hg (fun e => Nat.lt_irrefl _ (hGo _ e.symm).2)); replace HK := Aside0.mk (Kept.of_grown hg HK.out (fun k hk => .inl (.inr (.inr (hGo k hk).1)))); replace HB := Aside0.mk hb; replace HG := Aside0.mk ho; clear ho hb hg hat hGo; have hz0_w4 : w4.cell? ⟨w.heap.size, 0, none⟩ = some (.slice (some ⟨gn, 0, none⟩) ns.length cn) := (blk_cell BK.out 0).trans rfl; have hz1_w4 : w4.cell? ⟨w.heap.size, 1, none⟩ = some (.slice A1 n1 c1) := (blk_cell BK.out 1).trans rfl; have hz2_w4 : w4.cell? ⟨w.heap.size, 2, none⟩ = some (.slice (some ⟨gc, 0, none⟩) cs.length cc) := (blk_cell BK.out 2).trans rfl; have hf0_w4 := blk_frozen BK.out 0; have hf1_w4 := blk_frozen BK.out 1; have hf2_w4 := blk_frozen BK.out 2))
  go_loopg [2, 41] hs.length (fun gg v2 v41 wr => ∃ (n : Nat) (ni : List S60) (ci gi : List Int), v41 = .int .i64 n ∧ Aside0 (n ≤ hs.length ∧ hs.length - n ≤ gg) ∧ Aside0 (spec_l10Less.run (fun a b c d => spec_l10Less.f k a b c d) (hs.drop n) ni ci gi = some (ns', cs', gl')) ∧ Aside0 (Kd.S k60 60 wr w0.heap.size (fun k => (PN k ∧ k < w.heap.size) ∧ ¬ oki k) (.slice (some ⟨gn, 0, none⟩) ns.length cn) ni) ∧ Aside0 (Kd.R (Kd.int .i64) 3 wr w0.heap.size (fun k => PC k ∧ k < w.heap.size) (.slice (some ⟨gc, 0, none⟩) cs.length cc) ci) ∧ Aside0 (Kd.R (Kd.int .i64) 3 wr w0.heap.size (fun j => (PG j ∧ j < w.heap.size) ∨ w.heap.size < j) v2 gi) ∧ Aside0 (Kd.R (Kd.int .i64) 3 wr w0.heap.size oki (.slice Ah hs.length ch) hs) ∧ Aside0 (wr.heap[w.heap.size]? = some (.cells #[.slice (some ⟨gn, 0, none⟩) ns.length cn, .slice A1 n1 c1, .slice (some ⟨gc, 0, none⟩) cs.length cc] 40 (0, 0))) ∧ Aside0 (Below w0.heap.size w0 wr) ∧ Aside0 (Kept w wr (fun j => PN j ∨ PC j ∨ PG j)))
  case atStart => exact ⟨0, _, _, _, rfl, ⟨Nat.zero_le _, by omega⟩, ⟨by simpa using H'.out⟩, HN, HC, HG, HR, BK, HB, HK⟩
  case round =>
   clear H' HN HC HG HR BK HB HK
   obtain ⟨n, ni, ci, gi, rfl, HQ, HA, HN, HC, HG, HR, BK, HB, HK⟩ := hrel
   by_cases hlt : n < hs.length
   ·have hltz : (n : Int) < (hs.length : Int) := by omega
    have HD : hs.drop n = rd hs n :: hs.drop (n + 1) := by rw [List.drop_eq_getElem_cons hlt]; simp [rd, List.getD_eq_getElem?_getD, hlt]
    have hA := HA.out
    rw [HD] at hA
    obtain ⟨⟨n2, c2, g2⟩, e1, e2⟩ := Option.bind_eq_some_iff.1 hA
    have HE := Aside0.mk e1
    have HE2 := Aside0.mk e2
    have HLT := Aside0.mk hlt
    have hlm : (hs.length : Int) ≤ 9223372036854775807 := by have := (Kd.R_reads' HR.out).2.2.2.1; omega
    obtain ⟨ad, eA, hx⟩ := Kd.at_int (Kd.R_reads' HR.out).2.2 (n : Int) (by omega) hltz
    subst eA
    rw [Int.toNat_natCast] at hx
    clear HA HD hA e1 e2 hlt
    have hz0_wr : wr.cell? ⟨w.heap.size, 0, none⟩ = some (.slice (some ⟨gn, 0, none⟩) ns.length cn) := (blk_cell BK.out 0).trans rfl
    have hz1_wr : wr.cell? ⟨w.heap.size, 1, none⟩ = some (.slice A1 n1 c1) := (blk_cell BK.out 1).trans rfl
    have hz2_wr : wr.cell? ⟨w.heap.size, 2, none⟩ = some (.slice (some ⟨gc, 0, none⟩) cs.length cc) := (blk_cell BK.out 2).trans rfl
    have hf0_wr := blk_frozen BK.out 0
    have hf1_wr := blk_frozen BK.out 1
    have hf2_wr := blk_frozen BK.out 2
    go_wp2_with (first | (go_at_call 74; refine (IH.out (fun k => (PN k ∧ k < w.heap.size) ∧ ¬ oki k) (fun k => PC k ∧ k < w.heap.size) (fun j => (PG j ∧ j < w.heap.size) ∨ w.heap.size < j) A1 n1 c1 _ _ _ ni ci gi (rd hs n) n2 c2 g2 w0 _ HB.out HN.out HC.out HG.out (fun j a b => D1.out j a.1.1 b.1) (fun j a b => b.elim (fun b => D2.out j a.1.1 b.1) (fun b => Nat.lt_asymm a.1.2 b)) (fun j a b => b.elim (fun b => D3.out j a.1 b.1) (fun b => Nat.lt_asymm a.2 b)) HE.out).mono ?_; rintro e w8 ⟨vg8, rfl, hn8, hc8, hg8, hb8, hk8⟩; replace HK := Aside0.mk (Kept.then_ HK.out hk8 (fun j hj => hj.elim (fun h => .inl (.inl h.1.1)) (fun h => h.elim (fun h => .inl (.inr (.inl h.1))) (fun h => h.elim (fun h => .inl (.inr (.inr h.1))) (fun h => .inr (Nat.le_of_lt h)))))); replace HR := Aside0.mk (Kd.R_kept HR.out hk8 (fun j hj hs2 => hs2.elim (fun h => h.2 hj) (fun h => h.elim (fun h => D1.out j (HO.out j hj).1.1 h.1) (fun h => h.elim (fun h => D2.out j (HO.out j hj).1.1 h.1) (fun h => Nat.lt_asymm (HO.out j hj).1.2 h))))); have hlt8 := blk_lt BK.out; replace BK := Aside0.mk (blk_kept BK.out hk8 (fun hs2 => hs2.elim (fun h => Nat.lt_irrefl _ h.1.2) (fun h => h.elim (fun h => Nat.lt_irrefl _ h.2) (fun h => h.elim (fun h => Nat.lt_irrefl _ h.2) (fun h => Nat.lt_irrefl _ h))))); replace HG := Aside0.mk (Kd.R_mono hg8 (ok' := fun j => (PG j ∧ j < w.heap.size) ∨ w.heap.size < j) (fun j hj => hj.elim (fun h => h) (fun h => .inr (Nat.lt_of_lt_of_le hlt8 h)))); replace HN := Aside0.mk hn8; replace HC := Aside0.mk hc8; replace HB := Aside0.mk hb8; clear hn8 hc8 hg8 hb8 hk8 hlt8))
    go_roundg (hs.length - (n + 1))
    case measure => have h1 := HLT.out; have h2 := HQ.out; omega
    case rel => exact ⟨n + 1, n2, c2, g2, by first | rfl | (simp only [Int.natCast_add, Int.natCast_one]; done) | (rw [show wrap64 ((n : Int) + 1) = ((n + 1 : Nat) : Int) from by have := HLT.out; unfold wrap64; omega]), ⟨by have := HLT.out; omega, by have := HQ.out; omega⟩, HE2, HN, HC, HG, HR, BK, HB, HK⟩
   ·have e : n = hs.length := by have := HQ.out; omega
    have hltz : ¬ (n : Int) < (hs.length : Int) := by omega
    have hA := HA.out
    rw [e, List.drop_length] at hA
    simp only [spec_l10Less.run, Option.some.injEq, Prod.mk.injEq] at hA
    obtain ⟨rfl, rfl, rfl⟩ := hA
    clear e HA
    go_wp2
    go_ret
    exact ⟨_, rfl, Kd.S_mono HN.out (fun _ h => h.1.1), Kd.R_mono HC.out (fun _ h => h.1), Kd.R_mono HG.out (fun _ h => h.elim (fun h => .inl h.1) (fun h => .inr (Nat.le_of_lt h))), HB.out, HK.out⟩


/-! ### spec_DropRoot: function 41 -/
/-- what it does, one after the other -/
def spec_DropRoot.f (k : Nat) (l0_0 : List (S60)) (l0_1 : List Int) (l0_2 : List Int) (a1 : Int) : Option (List (S60) × List Int × List Int × List Int × Bool) :=
 (spec_GoodGraph.f k l0_0 l0_1 l0_2).bind fun be7 => if (!be7) = true then some (([] : List (S60)), ([] : List Int), ([] : List Int), ([] : List Int), false) else (if a1 < 0 then some (([] : List (S60)), ([] : List Int), ([] : List Int), ([] : List Int), false) else (if (a1 : Int) ≥ (l0_1.length : Int) then some (([] : List (S60)), ([] : List Int), ([] : List Int), ([] : List Int), false) else ((spec_l10Own.f k l0_0 l0_1 l0_2).bind fun be12 => if 0 ≤ a1 then (if a1 < (be12.2.1.length : Int) then ((spec_l10Without.f be12.2.1 a1).bind fun be19 => (spec_l10Less.f k be12.1 be12.2.2 ([] : List Int) (rd be12.2.1 a1)).bind fun be25 => (spec_l10Own.f k be25.1 be19 be25.2.1).bind fun be30 => some (be30.1, be30.2.1, be30.2.2, be25.2.2, true)) else none) else none)))
set_option maxRecDepth 100000 in
set_option maxHeartbeats 8000000 in
theorem spec_DropRoot.calls (k : Nat) (A0_0 : Option Addr) (c0_0 : Nat) (l0_0 : List (S60)) (A0_1 : Option Addr) (c0_1 : Nat) (l0_1 : List Int) (A0_2 : Option Addr) (c0_2 : Nat) (l0_2 : List Int) (a1 : Int) (r9001 : List (S60)) (r9002 : List Int) (r9003 : List Int) (r9004 : List Int) (r9005 : Bool) (w : World) (hr0_0 : Kd.C k60 w A0_0 l0_0.length l0_0) (hc0_0 : l0_0.length ≤ c0_0) (hr0_1 : Kd.C (Kd.int .i64) w A0_1 l0_1.length l0_1) (hc0_1 : l0_1.length ≤ c0_1) (hr0_2 : Kd.C (Kd.int .i64) w A0_2 l0_2.length l0_2) (hc0_2 : l0_2.length ≤ c0_2) (h : spec_DropRoot.f k l0_0 l0_1 l0_2 a1 = some (r9001, r9002, r9003, r9004, r9005)) :
  Calls Try.prog 41 #[.agg #[.slice A0_0 l0_0.length c0_0, .slice A0_1 l0_1.length c0_1, .slice A0_2 l0_2.length c0_2], .int .i64 a1] w fun e w' => ∃ v0_ v1_ v2_ v3_ : Value, e = .returned (.tuple #[.agg #[v0_, v1_, v2_], v3_, .bool r9005]) ∧ Kd.S k60 60 w' w.heap.size (fun k_ => some k_ ≠ (v1_ : Value).ownBlock ∧ some k_ ≠ (v2_ : Value).ownBlock ∧ some k_ ≠ (v3_ : Value).ownBlock) v0_ r9001 ∧ Kd.R (Kd.int .i64) 3 w' w.heap.size (fun k_ => some k_ ≠ (v2_ : Value).ownBlock ∧ some k_ ≠ (v3_ : Value).ownBlock) v1_ r9002 ∧ Kd.R (Kd.int .i64) 3 w' w.heap.size (fun k_ => some k_ ≠ (v1_ : Value).ownBlock ∧ some k_ ≠ (v3_ : Value).ownBlock) v2_ r9003 ∧ Kd.R (Kd.int .i64) 3 w' w.heap.size (fun k_ => some k_ ≠ (v1_ : Value).ownBlock ∧ some k_ ≠ (v2_ : Value).ownBlock) v3_ r9004 ∧ Below w.heap.size w w' := by
 have hu40 := Try.underlying40
 have HR0_0 := Aside0.mk hr0_0
 have HC0_0 := Aside0.mk hc0_0
 have HR0_1 := Aside0.mk hr0_1
 have HC0_1 := Aside0.mk hc0_1
 have HR0_2 := Aside0.mk hr0_2
 have HC0_2 := Aside0.mk hc0_2
 clear hr0_0 hc0_0 hr0_1 hc0_1 hr0_2 hc0_2
 have HB := Aside0.mk (Below.refl w.heap.size w)
 have HS0 : Aside0 (0 ≤ w.heap.size) := ⟨Nat.zero_le _⟩
 unfold spec_DropRoot.f at h
 replace h := Option.bind_eq_some_iff.1 h
 obtain ⟨r6, e7, h⟩ := h
 try dsimp only at h
 have Ee7 := Aside0.mk e7
 clear e7
 by_cases c1_ : (!r6) = true
 ·replace h := (if_pos c1_).symm.trans h
  simp only [Option.some.injEq, Prod.mk.injEq] at h
  obtain ⟨rfl, rfl, rfl, rfl, rfl⟩ := h
  have c1b_ : r6 = false := by simpa using c1_
  clear c1_
  go_enter Try.func41, Try.ntmps41
  go_wp2_with (first | ((with_reducible refine gate_dst (N := 2) rfl ?_); refine box_event ?hg (N := 2) ?hd (cs := #[.slice A0_0 l0_0.length c0_0, .slice A0_1 l0_1.length c0_1, .slice A0_2 l0_2.length c0_2]) (t := 40) ?hr ?_; (case hd => rfl); (case hg => rfl); (case hr => first | (go_simp; done) | (go_simp; rfl)); intro g1 hg w2 hbox hb; have hk := Kept.of_below hb (fun _ => False); have BKg1 := Aside0.mk hbox; have GEg1 := Aside0.mk (show w.heap.size ≤ g1 from by rw [hg]; exact HB.out.size); have HSw2 := Aside0.mk (And.intro (And.intro (show w.heap.size ≤ g1 from Nat.le_of_eq hg.symm) (And.intro (blk_lt hbox) hb.size)) HS0.out); replace HB := Aside0.mk (Op.a5 HB.out hb); clear hg hbox hb hk; have hz_g1_0_w2 : w2.cell? ⟨g1, 0, none⟩ = some (.slice A0_0 l0_0.length c0_0) := (blk_cell BKg1.out 0).trans rfl; have hf_g1_0_w2 := blk_frozen BKg1.out 0; have hz_g1_1_w2 : w2.cell? ⟨g1, 1, none⟩ = some (.slice A0_1 l0_1.length c0_1) := (blk_cell BKg1.out 1).trans rfl; have hf_g1_1_w2 := blk_frozen BKg1.out 1; have hz_g1_2_w2 : w2.cell? ⟨g1, 2, none⟩ = some (.slice A0_2 l0_2.length c0_2) := (blk_cell BKg1.out 2).trans rfl; have hf_g1_2_w2 := blk_frozen BKg1.out 2) | ((with_reducible refine gate_dst (N := 4) rfl ?_); refine box_event ?hg (N := 4) ?hd (cs := #[.slice none 0 0, .slice none 0 0, .slice none 0 0]) (t := 40) ?hr ?_; (case hd => rfl); (case hg => rfl); (case hr => first | (go_simp; done) | (go_simp; rfl)); intro g3 hg w4 hbox hb; have hk := Kept.of_below hb (fun _ => False); replace BKg1 := Aside0.mk (Op.mvB BKg1.out hk (fun hs => hs)); have BKg3 := Aside0.mk hbox; have GEg3 := Aside0.mk (show w.heap.size ≤ g3 from by rw [hg]; exact HB.out.size); have HSw4 := Aside0.mk (And.intro (And.intro (show w2.heap.size ≤ g3 from Nat.le_of_eq hg.symm) (And.intro (blk_lt hbox) hb.size)) HSw2.out); replace HB := Aside0.mk (Op.a5 HB.out hb); clear hg hbox hb hk; have hz_g1_0_w4 : w4.cell? ⟨g1, 0, none⟩ = some (.slice A0_0 l0_0.length c0_0) := (blk_cell BKg1.out 0).trans rfl; have hf_g1_0_w4 := blk_frozen BKg1.out 0; have hz_g1_1_w4 : w4.cell? ⟨g1, 1, none⟩ = some (.slice A0_1 l0_1.length c0_1) := (blk_cell BKg1.out 1).trans rfl; have hf_g1_1_w4 := blk_frozen BKg1.out 1; have hz_g1_2_w4 : w4.cell? ⟨g1, 2, none⟩ = some (.slice A0_2 l0_2.length c0_2) := (blk_cell BKg1.out 2).trans rfl; have hf_g1_2_w4 := blk_frozen BKg1.out 2; have hz_g3_0_w4 : w4.cell? ⟨g3, 0, none⟩ = some (.slice none 0 0) := (blk_cell BKg3.out 0).trans rfl; have hf_g3_0_w4 := blk_frozen BKg3.out 0; have hz_g3_1_w4 : w4.cell? ⟨g3, 1, none⟩ = some (.slice none 0 0) := (blk_cell BKg3.out 1).trans rfl; have hf_g3_1_w4 := blk_frozen BKg3.out 1; have hz_g3_2_w4 : w4.cell? ⟨g3, 2, none⟩ = some (.slice none 0 0) := (blk_cell BKg3.out 2).trans rfl; have hf_g3_2_w4 := blk_frozen BKg3.out 2) | ((with_reducible refine gate_callee (f := 25) rfl ?_); refine goesL_ (some 11) rfl rfl Try.func25 (by kernel_rfl) rfl #[.agg #[.slice A0_0 l0_0.length c0_0, .slice A0_1 l0_1.length c0_1, .slice A0_2 l0_2.length c0_2]] rfl (by (try simp only [List.map_toArray, List.map_cons, List.map_nil]); first | done | rfl | (simp only [List.length_drop, List.length_take]; rfl)) ?_; (with_reducible refine (spec_GoodGraph.calls k _ _ l0_0 _ _ l0_1 _ _ l0_2 r6 _ ?side1 ?side2 ?side3 ?side4 ?side5 ?side6 Ee7.out).mono ?_); (case side1 => exact (Kd.C_below HR0_0.out HB.out)); (case side2 => exact HC0_0.out); (case side3 => exact (Kd.C_below HR0_1.out HB.out)); (case side4 => exact HC0_1.out); (case side5 => exact (Kd.C_below HR0_2.out HB.out)); (case side6 => exact HC0_2.out); rintro ex_ w5 ⟨rfl, hb⟩; refine ⟨_, rfl, ?_⟩; have hk := Kept.of_below hb (fun _ => False); replace BKg1 := Aside0.mk (Op.mvB BKg1.out hk (fun hs => hs)); replace BKg3 := Aside0.mk (Op.mvB BKg3.out hk (fun hs => hs)); have HSw5 := Aside0.mk (And.intro (hb.size) HSw4.out); replace HB := Aside0.mk (Op.a5 HB.out hb); clear hb hk; have hz_g1_0_w5 : w5.cell? ⟨g1, 0, none⟩ = some (.slice A0_0 l0_0.length c0_0) := (blk_cell BKg1.out 0).trans rfl; have hf_g1_0_w5 := blk_frozen BKg1.out 0; have hz_g1_1_w5 : w5.cell? ⟨g1, 1, none⟩ = some (.slice A0_1 l0_1.length c0_1) := (blk_cell BKg1.out 1).trans rfl; have hf_g1_1_w5 := blk_frozen BKg1.out 1; have hz_g1_2_w5 : w5.cell? ⟨g1, 2, none⟩ = some (.slice A0_2 l0_2.length c0_2) := (blk_cell BKg1.out 2).trans rfl; have hf_g1_2_w5 := blk_frozen BKg1.out 2; have hz_g3_0_w5 : w5.cell? ⟨g3, 0, none⟩ = some (.slice none 0 0) := (blk_cell BKg3.out 0).trans rfl; have hf_g3_0_w5 := blk_frozen BKg3.out 0; have hz_g3_1_w5 : w5.cell? ⟨g3, 1, none⟩ = some (.slice none 0 0) := (blk_cell BKg3.out 1).trans rfl; have hf_g3_1_w5 := blk_frozen BKg3.out 1; have hz_g3_2_w5 : w5.cell? ⟨g3, 2, none⟩ = some (.slice none 0 0) := (blk_cell BKg3.out 2).trans rfl; have hf_g3_2_w5 := blk_frozen BKg3.out 2))
  refine bodyPost_ret (results_ctt rfl _ _ g3 40 #[.slice none 0 0, .slice none 0 0, .slice none 0 0] (0, 0) _ rfl (by (with_reducible repeat (first | refine Op.b1 ?_ _ | refine Op.b2 ?_ | refine Op.b3 ?_ _)); refine blk_put (cs := #[.slice none 0 0, .slice none 0 0, .slice none 0 0]) ?_ 2 _ rfl; (with_reducible repeat (first | refine Op.b1 ?_ _ | refine Op.b2 ?_ | refine Op.b3 ?_ _)); refine blk_put (cs := #[.slice none 0 0, .slice none 0 0, .slice none 0 0]) ?_ 1 _ rfl; (with_reducible repeat (first | refine Op.b1 ?_ _ | refine Op.b2 ?_ | refine Op.b3 ?_ _)); refine blk_put (cs := #[.slice none 0 0, .slice none 0 0, .slice none 0 0]) ?_ 0 _ rfl; (with_reducible repeat (first | refine Op.b1 ?_ _ | refine Op.b2 ?_ | refine Op.b3 ?_ _)); exact BKg3.out) Try.underlying40 rfl (by kernel_rfl)) rfl ?_
  exact ⟨_, _, _, _, rfl, Kd.S_nil _ _ _ _ _, Kd.R_nil _ _ _ _ _, Kd.R_nil _ _ _ _ _, Kd.R_nil _ _ _ _ _, (by repeat (first | (with_reducible first | exact HB.out | apply Op.a1 | apply Op.a2 | apply Op.a3 | refine Op.a4 ?_ GEg3.out) | exact HB.out))⟩
 replace h := (if_neg c1_).symm.trans h
 have c1b_ : r6 = true := by simpa using c1_
 clear c1_
 by_cases c2_ : a1 < 0
 ·replace h := (if_pos c2_).symm.trans h
  simp only [Option.some.injEq, Prod.mk.injEq] at h
  obtain ⟨rfl, rfl, rfl, rfl, rfl⟩ := h
  have c2b_ : decide (a1 < 0) = true := decide_eq_true c2_
  clear c2_
  go_enter Try.func41, Try.ntmps41
  go_wp2_with (first | ((with_reducible refine gate_dst (N := 2) rfl ?_); refine box_event ?hg (N := 2) ?hd (cs := #[.slice A0_0 l0_0.length c0_0, .slice A0_1 l0_1.length c0_1, .slice A0_2 l0_2.length c0_2]) (t := 40) ?hr ?_; (case hd => rfl); (case hg => rfl); (case hr => first | (go_simp; done) | (go_simp; rfl)); intro g1 hg w2 hbox hb; have hk := Kept.of_below hb (fun _ => False); have BKg1 := Aside0.mk hbox; have GEg1 := Aside0.mk (show w.heap.size ≤ g1 from by rw [hg]; exact HB.out.size); have HSw2 := Aside0.mk (And.intro (And.intro (show w.heap.size ≤ g1 from Nat.le_of_eq hg.symm) (And.intro (blk_lt hbox) hb.size)) HS0.out); replace HB := Aside0.mk (Op.a5 HB.out hb); clear hg hbox hb hk; have hz_g1_0_w2 : w2.cell? ⟨g1, 0, none⟩ = some (.slice A0_0 l0_0.length c0_0) := (blk_cell BKg1.out 0).trans rfl; have hf_g1_0_w2 := blk_frozen BKg1.out 0; have hz_g1_1_w2 : w2.cell? ⟨g1, 1, none⟩ = some (.slice A0_1 l0_1.length c0_1) := (blk_cell BKg1.out 1).trans rfl; have hf_g1_1_w2 := blk_frozen BKg1.out 1; have hz_g1_2_w2 : w2.cell? ⟨g1, 2, none⟩ = some (.slice A0_2 l0_2.length c0_2) := (blk_cell BKg1.out 2).trans rfl; have hf_g1_2_w2 := blk_frozen BKg1.out 2) | ((with_reducible refine gate_dst (N := 4) rfl ?_); refine box_event ?hg (N := 4) ?hd (cs := #[.slice none 0 0, .slice none 0 0, .slice none 0 0]) (t := 40) ?hr ?_; (case hd => rfl); (case hg => rfl); (case hr => first | (go_simp; done) | (go_simp; rfl)); intro g3 hg w4 hbox hb; have hk := Kept.of_below hb (fun _ => False); replace BKg1 := Aside0.mk (Op.mvB BKg1.out hk (fun hs => hs)); have BKg3 := Aside0.mk hbox; have GEg3 := Aside0.mk (show w.heap.size ≤ g3 from by rw [hg]; exact HB.out.size); have HSw4 := Aside0.mk (And.intro (And.intro (show w2.heap.size ≤ g3 from Nat.le_of_eq hg.symm) (And.intro (blk_lt hbox) hb.size)) HSw2.out); replace HB := Aside0.mk (Op.a5 HB.out hb); clear hg hbox hb hk; have hz_g1_0_w4 : w4.cell? ⟨g1, 0, none⟩ = some (.slice A0_0 l0_0.length c0_0) := (blk_cell BKg1.out 0).trans rfl; have hf_g1_0_w4 := blk_frozen BKg1.out 0; have hz_g1_1_w4 : w4.cell? ⟨g1, 1, none⟩ = some (.slice A0_1 l0_1.length c0_1) := (blk_cell BKg1.out 1).trans rfl; have hf_g1_1_w4 := blk_frozen BKg1.out 1; have hz_g1_2_w4 : w4.cell? ⟨g1, 2, none⟩ = some (.slice A0_2 l0_2.length c0_2) := (blk_cell BKg1.out 2).trans rfl; have hf_g1_2_w4 := blk_frozen BKg1.out 2; have hz_g3_0_w4 : w4.cell? ⟨g3, 0, none⟩ = some (.slice none 0 0) := (blk_cell BKg3.out 0).trans rfl; have hf_g3_0_w4 := blk_frozen BKg3.out 0; have hz_g3_1_w4 : w4.cell? ⟨g3, 1, none⟩ = some (.slice none 0 0) := (blk_cell BKg3.out 1).trans rfl; have hf_g3_1_w4 := blk_frozen BKg3.out 1; have hz_g3_2_w4 : w4.cell? ⟨g3, 2, none⟩ = some (.slice none 0 0) := (blk_cell BKg3.out 2).trans rfl; have hf_g3_2_w4 := blk_frozen BKg3.out 2) | ((with_reducible refine gate_callee (f := 25) rfl ?_); refine goesL_ (some 11) rfl rfl Try.func25 (by kernel_rfl) rfl #[.agg #[.slice A0_0 l0_0.length c0_0, .slice A0_1 l0_1.length c0_1, .slice A0_2 l0_2.length c0_2]] rfl (by (try simp only [List.map_toArray, List.map_cons, List.map_nil]); first | done | rfl | (simp only [List.length_drop, List.length_take]; rfl)) ?_; (with_reducible refine (spec_GoodGraph.calls k _ _ l0_0 _ _ l0_1 _ _ l0_2 r6 _ ?side1 ?side2 ?side3 ?side4 ?side5 ?side6 Ee7.out).mono ?_); (case side1 => exact (Kd.C_below HR0_0.out HB.out)); (case side2 => exact HC0_0.out); (case side3 => exact (Kd.C_below HR0_1.out HB.out)); (case side4 => exact HC0_1.out); (case side5 => exact (Kd.C_below HR0_2.out HB.out)); (case side6 => exact HC0_2.out); rintro ex_ w5 ⟨rfl, hb⟩; refine ⟨_, rfl, ?_⟩; have hk := Kept.of_below hb (fun _ => False); replace BKg1 := Aside0.mk (Op.mvB BKg1.out hk (fun hs => hs)); replace BKg3 := Aside0.mk (Op.mvB BKg3.out hk (fun hs => hs)); have HSw5 := Aside0.mk (And.intro (hb.size) HSw4.out); replace HB := Aside0.mk (Op.a5 HB.out hb); clear hb hk; have hz_g1_0_w5 : w5.cell? ⟨g1, 0, none⟩ = some (.slice A0_0 l0_0.length c0_0) := (blk_cell BKg1.out 0).trans rfl; have hf_g1_0_w5 := blk_frozen BKg1.out 0; have hz_g1_1_w5 : w5.cell? ⟨g1, 1, none⟩ = some (.slice A0_1 l0_1.length c0_1) := (blk_cell BKg1.out 1).trans rfl; have hf_g1_1_w5 := blk_frozen BKg1.out 1; have hz_g1_2_w5 : w5.cell? ⟨g1, 2, none⟩ = some (.slice A0_2 l0_2.length c0_2) := (blk_cell BKg1.out 2).trans rfl; have hf_g1_2_w5 := blk_frozen BKg1.out 2; have hz_g3_0_w5 : w5.cell? ⟨g3, 0, none⟩ = some (.slice none 0 0) := (blk_cell BKg3.out 0).trans rfl; have hf_g3_0_w5 := blk_frozen BKg3.out 0; have hz_g3_1_w5 : w5.cell? ⟨g3, 1, none⟩ = some (.slice none 0 0) := (blk_cell BKg3.out 1).trans rfl; have hf_g3_1_w5 := blk_frozen BKg3.out 1; have hz_g3_2_w5 : w5.cell? ⟨g3, 2, none⟩ = some (.slice none 0 0) := (blk_cell BKg3.out 2).trans rfl; have hf_g3_2_w5 := blk_frozen BKg3.out 2))
  refine bodyPost_ret (results_ctt rfl _ _ g3 40 #[.slice none 0 0, .slice none 0 0, .slice none 0 0] (0, 0) _ rfl (by (with_reducible repeat (first | refine Op.b1 ?_ _ | refine Op.b2 ?_ | refine Op.b3 ?_ _)); refine blk_put (cs := #[.slice none 0 0, .slice none 0 0, .slice none 0 0]) ?_ 2 _ rfl; (with_reducible repeat (first | refine Op.b1 ?_ _ | refine Op.b2 ?_ | refine Op.b3 ?_ _)); refine blk_put (cs := #[.slice none 0 0, .slice none 0 0, .slice none 0 0]) ?_ 1 _ rfl; (with_reducible repeat (first | refine Op.b1 ?_ _ | refine Op.b2 ?_ | refine Op.b3 ?_ _)); refine blk_put (cs := #[.slice none 0 0, .slice none 0 0, .slice none 0 0]) ?_ 0 _ rfl; (with_reducible repeat (first | refine Op.b1 ?_ _ | refine Op.b2 ?_ | refine Op.b3 ?_ _)); exact BKg3.out) Try.underlying40 rfl (by kernel_rfl)) rfl ?_
  exact ⟨_, _, _, _, rfl, Kd.S_nil _ _ _ _ _, Kd.R_nil _ _ _ _ _, Kd.R_nil _ _ _ _ _, Kd.R_nil _ _ _ _ _, (by repeat (first | (with_reducible first | exact HB.out | apply Op.a1 | apply Op.a2 | apply Op.a3 | refine Op.a4 ?_ GEg3.out) | exact HB.out))⟩
 replace h := (if_neg c2_).symm.trans h
 have c2b_ : decide (a1 < 0) = false := decide_eq_false c2_
 clear c2_
 by_cases c3_ : (a1 : Int) ≥ (l0_1.length : Int)
 ·replace h := (if_pos c3_).symm.trans h
  simp only [Option.some.injEq, Prod.mk.injEq] at h
  obtain ⟨rfl, rfl, rfl, rfl, rfl⟩ := h
  have c3b_ : decide ((l0_1.length : Int) ≤ (a1 : Int)) = true := decide_eq_true c3_
  clear c3_
  go_enter Try.func41, Try.ntmps41
  go_wp2_with (first | ((with_reducible refine gate_dst (N := 2) rfl ?_); refine box_event ?hg (N := 2) ?hd (cs := #[.slice A0_0 l0_0.length c0_0, .slice A0_1 l0_1.length c0_1, .slice A0_2 l0_2.length c0_2]) (t := 40) ?hr ?_; (case hd => rfl); (case hg => rfl); (case hr => first | (go_simp; done) | (go_simp; rfl)); intro g1 hg w2 hbox hb; have hk := Kept.of_below hb (fun _ => False); have BKg1 := Aside0.mk hbox; have GEg1 := Aside0.mk (show w.heap.size ≤ g1 from by rw [hg]; exact HB.out.size); have HSw2 := Aside0.mk (And.intro (And.intro (show w.heap.size ≤ g1 from Nat.le_of_eq hg.symm) (And.intro (blk_lt hbox) hb.size)) HS0.out); replace HB := Aside0.mk (Op.a5 HB.out hb); clear hg hbox hb hk; have hz_g1_0_w2 : w2.cell? ⟨g1, 0, none⟩ = some (.slice A0_0 l0_0.length c0_0) := (blk_cell BKg1.out 0).trans rfl; have hf_g1_0_w2 := blk_frozen BKg1.out 0; have hz_g1_1_w2 : w2.cell? ⟨g1, 1, none⟩ = some (.slice A0_1 l0_1.length c0_1) := (blk_cell BKg1.out 1).trans rfl; have hf_g1_1_w2 := blk_frozen BKg1.out 1; have hz_g1_2_w2 : w2.cell? ⟨g1, 2, none⟩ = some (.slice A0_2 l0_2.length c0_2) := (blk_cell BKg1.out 2).trans rfl; have hf_g1_2_w2 := blk_frozen BKg1.out 2) | ((with_reducible refine gate_dst (N := 4) rfl ?_); refine box_event ?hg (N := 4) ?hd (cs := #[.slice none 0 0, .slice none 0 0, .slice none 0 0]) (t := 40) ?hr ?_; (case hd => rfl); (case hg => rfl); (case hr => first | (go_simp; done) | (go_simp; rfl)); intro g3 hg w4 hbox hb; have hk := Kept.of_below hb (fun _ => False); replace BKg1 := Aside0.mk (Op.mvB BKg1.out hk (fun hs => hs)); have BKg3 := Aside0.mk hbox; have GEg3 := Aside0.mk (show w.heap.size ≤ g3 from by rw [hg]; exact HB.out.size); have HSw4 := Aside0.mk (And.intro (And.intro (show w2.heap.size ≤ g3 from Nat.le_of_eq hg.symm) (And.intro (blk_lt hbox) hb.size)) HSw2.out); replace HB := Aside0.mk (Op.a5 HB.out hb); clear hg hbox hb hk; have hz_g1_0_w4 : w4.cell? ⟨g1, 0, none⟩ = some (.slice A0_0 l0_0.length c0_0) := (blk_cell BKg1.out 0).trans rfl; have hf_g1_0_w4 := blk_frozen BKg1.out 0; have hz_g1_1_w4 : w4.cell? ⟨g1, 1, none⟩ = some (.slice A0_1 l0_1.length c0_1) := (blk_cell BKg1.out 1).trans rfl; have hf_g1_1_w4 := blk_frozen BKg1.out 1; have hz_g1_2_w4 : w4.cell? ⟨g1, 2, none⟩ = some (.slice A0_2 l0_2.length c0_2) := (blk_cell BKg1.out 2).trans rfl; have hf_g1_2_w4 := blk_frozen BKg1.out 2; have hz_g3_0_w4 : w4.cell? ⟨g3, 0, none⟩ = some (.slice none 0 0) := (blk_cell BKg3.out 0).trans rfl; have hf_g3_0_w4 := blk_frozen BKg3.out 0; have hz_g3_1_w4 : w4.cell? ⟨g3, 1, none⟩ = some (.slice none 0 0) := (blk_cell BKg3.out 1).trans rfl; have hf_g3_1_w4 := blk_frozen BKg3.out 1; have hz_g3_2_w4 : w4.cell? ⟨g3, 2, none⟩ = some (.slice none 0 0) := (blk_cell BKg3.out 2).trans rfl; have hf_g3_2_w4 := blk_frozen BKg3.out 2) | ((with_reducible refine gate_callee (f := 25) rfl ?_); refine goesL_ (some 11) rfl rfl Try.func25 (by kernel_rfl) rfl #[.agg #[.slice A0_0 l0_0.length c0_0, .slice A0_1 l0_1.length c0_1, .slice A0_2 l0_2.length c0_2]] rfl (by (try simp only [List.map_toArray, List.map_cons, List.map_nil]); first | done | rfl | (simp only [List.length_drop, List.length_take]; rfl)) ?_; (with_reducible refine (spec_GoodGraph.calls k _ _ l0_0 _ _ l0_1 _ _ l0_2 r6 _ ?side1 ?side2 ?side3 ?side4 ?side5 ?side6 Ee7.out).mono ?_); (case side1 => exact (Kd.C_below HR0_0.out HB.out)); (case side2 => exact HC0_0.out); (case side3 => exact (Kd.C_below HR0_1.out HB.out)); (case side4 => exact HC0_1.out); (case side5 => exact (Kd.C_below HR0_2.out HB.out)); (case side6 => exact HC0_2.out); rintro ex_ w5 ⟨rfl, hb⟩; refine ⟨_, rfl, ?_⟩; have hk := Kept.of_below hb (fun _ => False); replace BKg1 := Aside0.mk (Op.mvB BKg1.out hk (fun hs => hs)); replace BKg3 := Aside0.mk (Op.mvB BKg3.out hk (fun hs => hs)); have HSw5 := Aside0.mk (And.intro (hb.size) HSw4.out); replace HB := Aside0.mk (Op.a5 HB.out hb); clear hb hk; have hz_g1_0_w5 : w5.cell? ⟨g1, 0, none⟩ = some (.slice A0_0 l0_0.length c0_0) := (blk_cell BKg1.out 0).trans rfl; have hf_g1_0_w5 := blk_frozen BKg1.out 0; have hz_g1_1_w5 : w5.cell? ⟨g1, 1, none⟩ = some (.slice A0_1 l0_1.length c0_1) := (blk_cell BKg1.out 1).trans rfl; have hf_g1_1_w5 := blk_frozen BKg1.out 1; have hz_g1_2_w5 : w5.cell? ⟨g1, 2, none⟩ = some (.slice A0_2 l0_2.length c0_2) := (blk_cell BKg1.out 2).trans rfl; have hf_g1_2_w5 := blk_frozen BKg1.out 2; have hz_g3_0_w5 : w5.cell? ⟨g3, 0, none⟩ = some (.slice none 0 0) := (blk_cell BKg3.out 0).trans rfl; have hf_g3_0_w5 := blk_frozen BKg3.out 0; have hz_g3_1_w5 : w5.cell? ⟨g3, 1, none⟩ = some (.slice none 0 0) := (blk_cell BKg3.out 1).trans rfl; have hf_g3_1_w5 := blk_frozen BKg3.out 1; have hz_g3_2_w5 : w5.cell? ⟨g3, 2, none⟩ = some (.slice none 0 0) := (blk_cell BKg3.out 2).trans rfl; have hf_g3_2_w5 := blk_frozen BKg3.out 2))
  refine bodyPost_ret (results_ctt rfl _ _ g3 40 #[.slice none 0 0, .slice none 0 0, .slice none 0 0] (0, 0) _ rfl (by (with_reducible repeat (first | refine Op.b1 ?_ _ | refine Op.b2 ?_ | refine Op.b3 ?_ _)); refine blk_put (cs := #[.slice none 0 0, .slice none 0 0, .slice none 0 0]) ?_ 2 _ rfl; (with_reducible repeat (first | refine Op.b1 ?_ _ | refine Op.b2 ?_ | refine Op.b3 ?_ _)); refine blk_put (cs := #[.slice none 0 0, .slice none 0 0, .slice none 0 0]) ?_ 1 _ rfl; (with_reducible repeat (first | refine Op.b1 ?_ _ | refine Op.b2 ?_ | refine Op.b3 ?_ _)); refine blk_put (cs := #[.slice none 0 0, .slice none 0 0, .slice none 0 0]) ?_ 0 _ rfl; (with_reducible repeat (first | refine Op.b1 ?_ _ | refine Op.b2 ?_ | refine Op.b3 ?_ _)); exact BKg3.out) Try.underlying40 rfl (by kernel_rfl)) rfl ?_
  exact ⟨_, _, _, _, rfl, Kd.S_nil _ _ _ _ _, Kd.R_nil _ _ _ _ _, Kd.R_nil _ _ _ _ _, Kd.R_nil _ _ _ _ _, (by repeat (first | (with_reducible first | exact HB.out | apply Op.a1 | apply Op.a2 | apply Op.a3 | refine Op.a4 ?_ GEg3.out) | exact HB.out))⟩
 replace h := (if_neg c3_).symm.trans h
 have c3b_ : decide ((l0_1.length : Int) ≤ (a1 : Int)) = false := decide_eq_false c3_
 clear c3_
 replace h := Option.bind_eq_some_iff.1 h
 obtain ⟨⟨r9, r10, r11⟩, e12, h⟩ := h
 try dsimp only at h
 have Ee12 := Aside0.mk e12
 clear e12
 by_cases q16a_ : 0 ≤ a1
 case neg => rw [if_neg q16a_] at h; exact absurd h (by simp)
 replace h := (if_pos q16a_).symm.trans h
 replace q16a_ := eq_true q16a_
 by_cases q16b_ : a1 < (r10.length : Int)
 case neg => rw [if_neg q16b_] at h; exact absurd h (by simp)
 replace h := (if_pos q16b_).symm.trans h
 replace q16b_ := eq_true q16b_
 replace h := Option.bind_eq_some_iff.1 h
 obtain ⟨r18, e19, h⟩ := h
 try dsimp only at h
 have Ee19 := Aside0.mk e19
 clear e19
 replace h := Option.bind_eq_some_iff.1 h
 obtain ⟨⟨r22, r23, r24⟩, e25, h⟩ := h
 try dsimp only at h
 have Ee25 := Aside0.mk e25
 clear e25
 replace h := Option.bind_eq_some_iff.1 h
 obtain ⟨⟨r27, r28, r29⟩, e30, h⟩ := h
 try dsimp only at h
 have Ee30 := Aside0.mk e30
 clear e30
 simp only [Option.some.injEq, Prod.mk.injEq] at h
 obtain ⟨rfl, rfl, rfl, rfl, rfl⟩ := h
 go_enter Try.func41, Try.ntmps41
 go_wp2_with (first | ((with_reducible refine gate_dst (N := 2) rfl ?_); refine box_event ?hg (N := 2) ?hd (cs := #[.slice A0_0 l0_0.length c0_0, .slice A0_1 l0_1.length c0_1, .slice A0_2 l0_2.length c0_2]) (t := 40) ?hr ?_; (case hd => rfl); (case hg => rfl); (case hr => first | (go_simp; done) | (go_simp; rfl)); intro g1 hg w2 hbox hb; have hk := Kept.of_below hb (fun _ => False); have BKg1 := Aside0.mk hbox; have GEg1 := Aside0.mk (show w.heap.size ≤ g1 from by rw [hg]; exact HB.out.size); have HSw2 := Aside0.mk (And.intro (And.intro (show w.heap.size ≤ g1 from Nat.le_of_eq hg.symm) (And.intro (blk_lt hbox) hb.size)) HS0.out); replace HB := Aside0.mk (Op.a5 HB.out hb); clear hg hbox hb hk; have hz_g1_0_w2 : w2.cell? ⟨g1, 0, none⟩ = some (.slice A0_0 l0_0.length c0_0) := (blk_cell BKg1.out 0).trans rfl; have hf_g1_0_w2 := blk_frozen BKg1.out 0; have hz_g1_1_w2 : w2.cell? ⟨g1, 1, none⟩ = some (.slice A0_1 l0_1.length c0_1) := (blk_cell BKg1.out 1).trans rfl; have hf_g1_1_w2 := blk_frozen BKg1.out 1; have hz_g1_2_w2 : w2.cell? ⟨g1, 2, none⟩ = some (.slice A0_2 l0_2.length c0_2) := (blk_cell BKg1.out 2).trans rfl; have hf_g1_2_w2 := blk_frozen BKg1.out 2) | ((with_reducible refine gate_dst (N := 4) rfl ?_); refine box_event ?hg (N := 4) ?hd (cs := #[.slice none 0 0, .slice none 0 0, .slice none 0 0]) (t := 40) ?hr ?_; (case hd => rfl); (case hg => rfl); (case hr => first | (go_simp; done) | (go_simp; rfl)); intro g3 hg w4 hbox hb; have hk := Kept.of_below hb (fun _ => False); replace BKg1 := Aside0.mk (Op.mvB BKg1.out hk (fun hs => hs)); have BKg3 := Aside0.mk hbox; have GEg3 := Aside0.mk (show w.heap.size ≤ g3 from by rw [hg]; exact HB.out.size); have HSw4 := Aside0.mk (And.intro (And.intro (show w2.heap.size ≤ g3 from Nat.le_of_eq hg.symm) (And.intro (blk_lt hbox) hb.size)) HSw2.out); replace HB := Aside0.mk (Op.a5 HB.out hb); clear hg hbox hb hk; have hz_g1_0_w4 : w4.cell? ⟨g1, 0, none⟩ = some (.slice A0_0 l0_0.length c0_0) := (blk_cell BKg1.out 0).trans rfl; have hf_g1_0_w4 := blk_frozen BKg1.out 0; have hz_g1_1_w4 : w4.cell? ⟨g1, 1, none⟩ = some (.slice A0_1 l0_1.length c0_1) := (blk_cell BKg1.out 1).trans rfl; have hf_g1_1_w4 := blk_frozen BKg1.out 1; have hz_g1_2_w4 : w4.cell? ⟨g1, 2, none⟩ = some (.slice A0_2 l0_2.length c0_2) := (blk_cell BKg1.out 2).trans rfl; have hf_g1_2_w4 := blk_frozen BKg1.out 2; have hz_g3_0_w4 : w4.cell? ⟨g3, 0, none⟩ = some (.slice none 0 0) := (blk_cell BKg3.out 0).trans rfl; have hf_g3_0_w4 := blk_frozen BKg3.out 0; have hz_g3_1_w4 : w4.cell? ⟨g3, 1, none⟩ = some (.slice none 0 0) := (blk_cell BKg3.out 1).trans rfl; have hf_g3_1_w4 := blk_frozen BKg3.out 1; have hz_g3_2_w4 : w4.cell? ⟨g3, 2, none⟩ = some (.slice none 0 0) := (blk_cell BKg3.out 2).trans rfl; have hf_g3_2_w4 := blk_frozen BKg3.out 2) | ((with_reducible refine gate_callee (f := 25) rfl ?_); refine goesL_ (some 11) rfl rfl Try.func25 (by kernel_rfl) rfl #[.agg #[.slice A0_0 l0_0.length c0_0, .slice A0_1 l0_1.length c0_1, .slice A0_2 l0_2.length c0_2]] rfl (by (try simp only [List.map_toArray, List.map_cons, List.map_nil]); first | done | rfl | (simp only [List.length_drop, List.length_take]; rfl)) ?_; (with_reducible refine (spec_GoodGraph.calls k _ _ l0_0 _ _ l0_1 _ _ l0_2 r6 _ ?side1 ?side2 ?side3 ?side4 ?side5 ?side6 Ee7.out).mono ?_); (case side1 => exact (Kd.C_below HR0_0.out HB.out)); (case side2 => exact HC0_0.out); (case side3 => exact (Kd.C_below HR0_1.out HB.out)); (case side4 => exact HC0_1.out); (case side5 => exact (Kd.C_below HR0_2.out HB.out)); (case side6 => exact HC0_2.out); rintro ex_ w5 ⟨rfl, hb⟩; refine ⟨_, rfl, ?_⟩; have hk := Kept.of_below hb (fun _ => False); replace BKg1 := Aside0.mk (Op.mvB BKg1.out hk (fun hs => hs)); replace BKg3 := Aside0.mk (Op.mvB BKg3.out hk (fun hs => hs)); have HSw5 := Aside0.mk (And.intro (hb.size) HSw4.out); replace HB := Aside0.mk (Op.a5 HB.out hb); clear hb hk; have hz_g1_0_w5 : w5.cell? ⟨g1, 0, none⟩ = some (.slice A0_0 l0_0.length c0_0) := (blk_cell BKg1.out 0).trans rfl; have hf_g1_0_w5 := blk_frozen BKg1.out 0; have hz_g1_1_w5 : w5.cell? ⟨g1, 1, none⟩ = some (.slice A0_1 l0_1.length c0_1) := (blk_cell BKg1.out 1).trans rfl; have hf_g1_1_w5 := blk_frozen BKg1.out 1; have hz_g1_2_w5 : w5.cell? ⟨g1, 2, none⟩ = some (.slice A0_2 l0_2.length c0_2) := (blk_cell BKg1.out 2).trans rfl; have hf_g1_2_w5 := blk_frozen BKg1.out 2; have hz_g3_0_w5 : w5.cell? ⟨g3, 0, none⟩ = some (.slice none 0 0) := (blk_cell BKg3.out 0).trans rfl; have hf_g3_0_w5 := blk_frozen BKg3.out 0; have hz_g3_1_w5 : w5.cell? ⟨g3, 1, none⟩ = some (.slice none 0 0) := (blk_cell BKg3.out 1).trans rfl; have hf_g3_1_w5 := blk_frozen BKg3.out 1; have hz_g3_2_w5 : w5.cell? ⟨g3, 2, none⟩ = some (.slice none 0 0) := (blk_cell BKg3.out 2).trans rfl; have hf_g3_2_w5 := blk_frozen BKg3.out 2) | ((with_reducible refine gate_callee (f := 65) rfl ?_); refine goesL_ (some 26) rfl rfl Try.func65 (by kernel_rfl) rfl #[.agg #[.slice A0_0 l0_0.length c0_0, .slice A0_1 l0_1.length c0_1, .slice A0_2 l0_2.length c0_2]] rfl (by (try simp only [List.map_toArray, List.map_cons, List.map_nil]); first | done | rfl | (simp only [List.length_drop, List.length_take]; rfl)) ?_; (with_reducible refine (spec_l10Own.calls k _ _ l0_0 _ _ l0_1 _ _ l0_2 r9 r10 r11 _ ?side1 ?side2 ?side3 ?side4 ?side5 ?side6 Ee12.out).mono ?_); (case side1 => exact (Kd.C_below HR0_0.out HB.out)); (case side2 => exact HC0_0.out); (case side3 => exact (Kd.C_below HR0_1.out HB.out)); (case side4 => exact HC0_1.out); (case side5 => exact (Kd.C_below HR0_2.out HB.out)); (case side6 => exact HC0_2.out); rintro ex_ w8 ⟨ve12_0, ve12_1, ve12_2, rfl, ho0, ho1, ho2, hb⟩; refine ⟨_, rfl, ?_⟩; have hk := Kept.of_below hb (fun _ => False); replace BKg1 := Aside0.mk (Op.mvB BKg1.out hk (fun hs => hs)); replace BKg3 := Aside0.mk (Op.mvB BKg3.out hk (fun hs => hs)); have HSw8 := Aside0.mk (And.intro (hb.size) HSw5.out); have Oe12_0 := Aside0.mk (Op.inS ho0 (a := w5.heap.size) (b := w.heap.size) HB.out.size (Nat.le_refl _)); have Oe12_1 := Aside0.mk (Op.inR ho1 (a := w5.heap.size) (b := w.heap.size) HB.out.size (Nat.le_refl _)); have Oe12_2 := Aside0.mk (Op.inR ho2 (a := w5.heap.size) (b := w.heap.size) HB.out.size (Nat.le_refl _)); replace HB := Aside0.mk (Op.a5 HB.out hb); obtain ⟨Ae12_0, cAe12_0, ev_⟩ := Kd.S_slice Oe12_0.out; subst ev_; obtain ⟨Ae12_1, cAe12_1, ev_⟩ := Kd.R_slice Oe12_1.out; subst ev_; obtain ⟨Ae12_2, cAe12_2, ev_⟩ := Kd.R_slice Oe12_2.out; subst ev_; clear hb hk ho0 ho1 ho2; have hz_g1_0_w8 : w8.cell? ⟨g1, 0, none⟩ = some (.slice A0_0 l0_0.length c0_0) := (blk_cell BKg1.out 0).trans rfl; have hf_g1_0_w8 := blk_frozen BKg1.out 0; have hz_g1_1_w8 : w8.cell? ⟨g1, 1, none⟩ = some (.slice A0_1 l0_1.length c0_1) := (blk_cell BKg1.out 1).trans rfl; have hf_g1_1_w8 := blk_frozen BKg1.out 1; have hz_g1_2_w8 : w8.cell? ⟨g1, 2, none⟩ = some (.slice A0_2 l0_2.length c0_2) := (blk_cell BKg1.out 2).trans rfl; have hf_g1_2_w8 := blk_frozen BKg1.out 2; have hz_g3_0_w8 : w8.cell? ⟨g3, 0, none⟩ = some (.slice none 0 0) := (blk_cell BKg3.out 0).trans rfl; have hf_g3_0_w8 := blk_frozen BKg3.out 0; have hz_g3_1_w8 : w8.cell? ⟨g3, 1, none⟩ = some (.slice none 0 0) := (blk_cell BKg3.out 1).trans rfl; have hf_g3_1_w8 := blk_frozen BKg3.out 1; have hz_g3_2_w8 : w8.cell? ⟨g3, 2, none⟩ = some (.slice none 0 0) := (blk_cell BKg3.out 2).trans rfl; have hf_g3_2_w8 := blk_frozen BKg3.out 2) | ((with_reducible refine gate_dst (N := 7) rfl ?_); refine box_event ?hg (N := 7) ?hd (cs := #[.slice none 0 0, .slice none 0 0, .slice none 0 0]) (t := 40) ?hr ?_; (case hd => rfl); (case hg => rfl); (case hr => first | (go_simp; done) | (go_simp; rfl)); intro g13 hg w14 hbox hb; have hk := Kept.of_below hb (fun _ => False); replace Oe12_0 := Aside0.mk (Op.mvS Oe12_0.out hk (fun _ _ hs => hs)); replace Oe12_1 := Aside0.mk (Op.mvR Oe12_1.out hk (fun _ _ hs => hs)); replace Oe12_2 := Aside0.mk (Op.mvR Oe12_2.out hk (fun _ _ hs => hs)); replace BKg1 := Aside0.mk (Op.mvB BKg1.out hk (fun hs => hs)); replace BKg3 := Aside0.mk (Op.mvB BKg3.out hk (fun hs => hs)); have BKg13 := Aside0.mk hbox; have GEg13 := Aside0.mk (show w.heap.size ≤ g13 from by rw [hg]; exact HB.out.size); have HSw14 := Aside0.mk (And.intro (And.intro (show w8.heap.size ≤ g13 from Nat.le_of_eq hg.symm) (And.intro (blk_lt hbox) hb.size)) HSw8.out); replace HB := Aside0.mk (Op.a5 HB.out hb); clear hg hbox hb hk; have hz_g1_0_w14 : w14.cell? ⟨g1, 0, none⟩ = some (.slice A0_0 l0_0.length c0_0) := (blk_cell BKg1.out 0).trans rfl; have hf_g1_0_w14 := blk_frozen BKg1.out 0; have hz_g1_1_w14 : w14.cell? ⟨g1, 1, none⟩ = some (.slice A0_1 l0_1.length c0_1) := (blk_cell BKg1.out 1).trans rfl; have hf_g1_1_w14 := blk_frozen BKg1.out 1; have hz_g1_2_w14 : w14.cell? ⟨g1, 2, none⟩ = some (.slice A0_2 l0_2.length c0_2) := (blk_cell BKg1.out 2).trans rfl; have hf_g1_2_w14 := blk_frozen BKg1.out 2; have hz_g3_0_w14 : w14.cell? ⟨g3, 0, none⟩ = some (.slice none 0 0) := (blk_cell BKg3.out 0).trans rfl; have hf_g3_0_w14 := blk_frozen BKg3.out 0; have hz_g3_1_w14 : w14.cell? ⟨g3, 1, none⟩ = some (.slice none 0 0) := (blk_cell BKg3.out 1).trans rfl; have hf_g3_1_w14 := blk_frozen BKg3.out 1; have hz_g3_2_w14 : w14.cell? ⟨g3, 2, none⟩ = some (.slice none 0 0) := (blk_cell BKg3.out 2).trans rfl; have hf_g3_2_w14 := blk_frozen BKg3.out 2; have hz_g13_0_w14 : w14.cell? ⟨g13, 0, none⟩ = some (.slice none 0 0) := (blk_cell BKg13.out 0).trans rfl; have hf_g13_0_w14 := blk_frozen BKg13.out 0; have hz_g13_1_w14 : w14.cell? ⟨g13, 1, none⟩ = some (.slice none 0 0) := (blk_cell BKg13.out 1).trans rfl; have hf_g13_1_w14 := blk_frozen BKg13.out 1; have hz_g13_2_w14 : w14.cell? ⟨g13, 2, none⟩ = some (.slice none 0 0) := (blk_cell BKg13.out 2).trans rfl; have hf_g13_2_w14 := blk_frozen BKg13.out 2) | ((with_reducible refine gate_store (t := 40) (p := 7) rfl ?_); refine store_event (t := 40) (p := 7) (v := ?vo_w15) (w1 := (((w14.setCell ⟨g13, 0, none⟩ (.slice Ae12_0 r9.length cAe12_0)).setCell ⟨g13, 1, none⟩ (.slice Ae12_1 r10.length cAe12_1)).setCell ⟨g13, 2, none⟩ (.slice Ae12_2 r11.length cAe12_2))) ?hg ?ho ?hn ?hr ?_; (case ho => rfl); (case hg => rfl); (case hn => rfl); (case hr => first | (go_simp; done) | (go_simp; rfl)); intro w15 hw; have hk : Kept w14 w15 (fun j => j = g13) := (by rw [hw]; exact Op.kept_put (Op.kept_put (Op.kept_put (Kept.refl _ _) 0 _) 1 _) 2 _); replace Oe12_0 := Aside0.mk (Op.mvS Oe12_0.out hk (fun j hj hs => by (have hj2 := hj.2; have q := HSw14.out; have hs2 : j = g13 := hs; omega))); replace Oe12_1 := Aside0.mk (Op.mvR Oe12_1.out hk (fun j hj hs => by (have hj2 := hj.2; have q := HSw14.out; have hs2 : j = g13 := hs; omega))); replace Oe12_2 := Aside0.mk (Op.mvR Oe12_2.out hk (fun j hj hs => by (have hj2 := hj.2; have q := HSw14.out; have hs2 : j = g13 := hs; omega))); replace BKg1 := Aside0.mk (Op.mvB BKg1.out hk (fun hs => by (have q := HSw14.out; have hs2 : g1 = g13 := hs; omega))); replace BKg3 := Aside0.mk (Op.mvB BKg3.out hk (fun hs => by (have q := HSw14.out; have hs2 : g3 = g13 := hs; omega))); replace BKg13 : Aside0 (w15.heap[g13]? = some (.cells #[.slice Ae12_0 r9.length cAe12_0, .slice Ae12_1 r10.length cAe12_1, .slice Ae12_2 r11.length cAe12_2] 40 (0, 0))) := ⟨by rw [hw]; exact (blk_put (cs' := #[.slice Ae12_0 r9.length cAe12_0, .slice Ae12_1 r10.length cAe12_1, .slice Ae12_2 r11.length cAe12_2]) (blk_put (cs' := #[.slice Ae12_0 r9.length cAe12_0, .slice Ae12_1 r10.length cAe12_1, .slice none 0 0]) (blk_put (cs' := #[.slice Ae12_0 r9.length cAe12_0, .slice none 0 0, .slice none 0 0]) BKg13.out 0 _ rfl) 1 _ rfl) 2 _ rfl)⟩; replace HB : Aside0 (Below w.heap.size w w15) := ⟨by rw [hw]; exact below_set (Op.a4 (Op.a4 (HB.out) GEg13.out) GEg13.out) GEg13.out⟩; have HSw15 := Aside0.mk (And.intro (hk.1) HSw14.out); clear hw hk; have hz_g1_0_w15 : w15.cell? ⟨g1, 0, none⟩ = some (.slice A0_0 l0_0.length c0_0) := (blk_cell BKg1.out 0).trans rfl; have hf_g1_0_w15 := blk_frozen BKg1.out 0; have hz_g1_1_w15 : w15.cell? ⟨g1, 1, none⟩ = some (.slice A0_1 l0_1.length c0_1) := (blk_cell BKg1.out 1).trans rfl; have hf_g1_1_w15 := blk_frozen BKg1.out 1; have hz_g1_2_w15 : w15.cell? ⟨g1, 2, none⟩ = some (.slice A0_2 l0_2.length c0_2) := (blk_cell BKg1.out 2).trans rfl; have hf_g1_2_w15 := blk_frozen BKg1.out 2; have hz_g3_0_w15 : w15.cell? ⟨g3, 0, none⟩ = some (.slice none 0 0) := (blk_cell BKg3.out 0).trans rfl; have hf_g3_0_w15 := blk_frozen BKg3.out 0; have hz_g3_1_w15 : w15.cell? ⟨g3, 1, none⟩ = some (.slice none 0 0) := (blk_cell BKg3.out 1).trans rfl; have hf_g3_1_w15 := blk_frozen BKg3.out 1; have hz_g3_2_w15 : w15.cell? ⟨g3, 2, none⟩ = some (.slice none 0 0) := (blk_cell BKg3.out 2).trans rfl; have hf_g3_2_w15 := blk_frozen BKg3.out 2; have hz_g13_0_w15 : w15.cell? ⟨g13, 0, none⟩ = some (.slice Ae12_0 r9.length cAe12_0) := (blk_cell BKg13.out 0).trans rfl; have hf_g13_0_w15 := blk_frozen BKg13.out 0; have hz_g13_1_w15 : w15.cell? ⟨g13, 1, none⟩ = some (.slice Ae12_1 r10.length cAe12_1) := (blk_cell BKg13.out 1).trans rfl; have hf_g13_1_w15 := blk_frozen BKg13.out 1; have hz_g13_2_w15 : w15.cell? ⟨g13, 2, none⟩ = some (.slice Ae12_2 r11.length cAe12_2) := (blk_cell BKg13.out 2).trans rfl; have hf_g13_2_w15 := blk_frozen BKg13.out 2; obtain ⟨adq16, eq16_, hxq16⟩ := Kd.at_int (Kd.R_reads' Oe12_1.out).2.2 a1 (of_eq_true q16a_) (of_eq_true q16b_); subst eq16_) | ((with_reducible refine gate_callee (f := 73) rfl ?_); refine goesL_ (some 35) rfl rfl Try.func73 (by kernel_rfl) rfl #[.slice (some adq16) r10.length cAe12_1, .int .i64 a1] rfl (by (try simp only [List.map_toArray, List.map_cons, List.map_nil]); first | done | rfl | (simp only [List.length_drop, List.length_take]; rfl)) ?_; (with_reducible refine (spec_l10Without.calls _ _ r10 a1 r18 _ ?side1 ?side2 Ee19.out).mono ?_); (case side1 => exact (Kd.R_reads' Oe12_1.out).2.2); (case side2 => (have h_ := Kd.R_reads' Oe12_1.out; have h1_ := h_.1; have h2_ := h_.2.1; omega)); rintro ex_ w17 ⟨ve19_0, rfl, ho0, hb⟩; refine ⟨_, rfl, ?_⟩; have hk := Kept.of_below hb (fun _ => False); replace Oe12_0 := Aside0.mk (Op.mvS Oe12_0.out hk (fun _ _ hs => hs)); replace Oe12_1 := Aside0.mk (Op.mvR Oe12_1.out hk (fun _ _ hs => hs)); replace Oe12_2 := Aside0.mk (Op.mvR Oe12_2.out hk (fun _ _ hs => hs)); replace BKg1 := Aside0.mk (Op.mvB BKg1.out hk (fun hs => hs)); replace BKg3 := Aside0.mk (Op.mvB BKg3.out hk (fun hs => hs)); replace BKg13 := Aside0.mk (Op.mvB BKg13.out hk (fun hs => hs)); have HSw17 := Aside0.mk (And.intro (hb.size) HSw15.out); have Oe19_0 := Aside0.mk (Op.inR ho0 (a := w15.heap.size) (b := w.heap.size) HB.out.size (Nat.le_refl _)); replace HB := Aside0.mk (Op.a5 HB.out hb); obtain ⟨Ae19_0, cAe19_0, ev_⟩ := Kd.R_slice Oe19_0.out; subst ev_; clear hb hk ho0; have hz_g1_0_w17 : w17.cell? ⟨g1, 0, none⟩ = some (.slice A0_0 l0_0.length c0_0) := (blk_cell BKg1.out 0).trans rfl; have hf_g1_0_w17 := blk_frozen BKg1.out 0; have hz_g1_1_w17 : w17.cell? ⟨g1, 1, none⟩ = some (.slice A0_1 l0_1.length c0_1) := (blk_cell BKg1.out 1).trans rfl; have hf_g1_1_w17 := blk_frozen BKg1.out 1; have hz_g1_2_w17 : w17.cell? ⟨g1, 2, none⟩ = some (.slice A0_2 l0_2.length c0_2) := (blk_cell BKg1.out 2).trans rfl; have hf_g1_2_w17 := blk_frozen BKg1.out 2; have hz_g3_0_w17 : w17.cell? ⟨g3, 0, none⟩ = some (.slice none 0 0) := (blk_cell BKg3.out 0).trans rfl; have hf_g3_0_w17 := blk_frozen BKg3.out 0; have hz_g3_1_w17 : w17.cell? ⟨g3, 1, none⟩ = some (.slice none 0 0) := (blk_cell BKg3.out 1).trans rfl; have hf_g3_1_w17 := blk_frozen BKg3.out 1; have hz_g3_2_w17 : w17.cell? ⟨g3, 2, none⟩ = some (.slice none 0 0) := (blk_cell BKg3.out 2).trans rfl; have hf_g3_2_w17 := blk_frozen BKg3.out 2; have hz_g13_0_w17 : w17.cell? ⟨g13, 0, none⟩ = some (.slice Ae12_0 r9.length cAe12_0) := (blk_cell BKg13.out 0).trans rfl; have hf_g13_0_w17 := blk_frozen BKg13.out 0; have hz_g13_1_w17 : w17.cell? ⟨g13, 1, none⟩ = some (.slice (some adq16) r10.length cAe12_1) := (blk_cell BKg13.out 1).trans rfl; have hf_g13_1_w17 := blk_frozen BKg13.out 1; have hz_g13_2_w17 : w17.cell? ⟨g13, 2, none⟩ = some (.slice Ae12_2 r11.length cAe12_2) := (blk_cell BKg13.out 2).trans rfl; have hf_g13_2_w17 := blk_frozen BKg13.out 2) | ((with_reducible refine gate_store (t := 23) (p := 36) rfl ?_); refine store_event (t := 23) (p := 36) (v := ?vo_w20) (w1 := (w17.setCell ⟨g13, 1, none⟩ (.slice Ae19_0 r18.length cAe19_0))) ?hg ?ho ?hn ?hr ?_; (case ho => rfl); (case hg => rfl); (case hn => rfl); (case hr => first | (go_simp; done) | (go_simp; rfl)); intro w20 hw; have hk : Kept w17 w20 (fun j => j = g13) := (by rw [hw]; exact Op.kept_put (Kept.refl _ _) 1 _); replace Oe12_0 := Aside0.mk (Op.mvS Oe12_0.out hk (fun j hj hs => by (have hj2 := hj.2; have q := HSw17.out; have hs2 : j = g13 := hs; omega))); replace Oe12_1 := Aside0.mk (Op.mvR Oe12_1.out hk (fun j hj hs => by (have hj2 := hj.2; have q := HSw17.out; have hs2 : j = g13 := hs; omega))); replace Oe12_2 := Aside0.mk (Op.mvR Oe12_2.out hk (fun j hj hs => by (have hj2 := hj.2; have q := HSw17.out; have hs2 : j = g13 := hs; omega))); replace Oe19_0 := Aside0.mk (Op.mvR Oe19_0.out hk (fun j hj hs => by (have hj2 := hj.2; have q := HSw17.out; have hs2 : j = g13 := hs; omega))); replace BKg1 := Aside0.mk (Op.mvB BKg1.out hk (fun hs => by (have q := HSw17.out; have hs2 : g1 = g13 := hs; omega))); replace BKg3 := Aside0.mk (Op.mvB BKg3.out hk (fun hs => by (have q := HSw17.out; have hs2 : g3 = g13 := hs; omega))); replace BKg13 : Aside0 (w20.heap[g13]? = some (.cells #[.slice Ae12_0 r9.length cAe12_0, .slice Ae19_0 r18.length cAe19_0, .slice Ae12_2 r11.length cAe12_2] 40 (0, 0))) := ⟨by rw [hw]; exact (blk_put (cs' := #[.slice Ae12_0 r9.length cAe12_0, .slice Ae19_0 r18.length cAe19_0, .slice Ae12_2 r11.length cAe12_2]) BKg13.out 1 _ rfl)⟩; replace HB : Aside0 (Below w.heap.size w w20) := ⟨by rw [hw]; exact below_set HB.out GEg13.out⟩; have HSw20 := Aside0.mk (And.intro (hk.1) HSw17.out); clear hw hk; have hz_g1_0_w20 : w20.cell? ⟨g1, 0, none⟩ = some (.slice A0_0 l0_0.length c0_0) := (blk_cell BKg1.out 0).trans rfl; have hf_g1_0_w20 := blk_frozen BKg1.out 0; have hz_g1_1_w20 : w20.cell? ⟨g1, 1, none⟩ = some (.slice A0_1 l0_1.length c0_1) := (blk_cell BKg1.out 1).trans rfl; have hf_g1_1_w20 := blk_frozen BKg1.out 1; have hz_g1_2_w20 : w20.cell? ⟨g1, 2, none⟩ = some (.slice A0_2 l0_2.length c0_2) := (blk_cell BKg1.out 2).trans rfl; have hf_g1_2_w20 := blk_frozen BKg1.out 2; have hz_g3_0_w20 : w20.cell? ⟨g3, 0, none⟩ = some (.slice none 0 0) := (blk_cell BKg3.out 0).trans rfl; have hf_g3_0_w20 := blk_frozen BKg3.out 0; have hz_g3_1_w20 : w20.cell? ⟨g3, 1, none⟩ = some (.slice none 0 0) := (blk_cell BKg3.out 1).trans rfl; have hf_g3_1_w20 := blk_frozen BKg3.out 1; have hz_g3_2_w20 : w20.cell? ⟨g3, 2, none⟩ = some (.slice none 0 0) := (blk_cell BKg3.out 2).trans rfl; have hf_g3_2_w20 := blk_frozen BKg3.out 2; have hz_g13_0_w20 : w20.cell? ⟨g13, 0, none⟩ = some (.slice Ae12_0 r9.length cAe12_0) := (blk_cell BKg13.out 0).trans rfl; have hf_g13_0_w20 := blk_frozen BKg13.out 0; have hz_g13_1_w20 : w20.cell? ⟨g13, 1, none⟩ = some (.slice Ae19_0 r18.length cAe19_0) := (blk_cell BKg13.out 1).trans rfl; have hf_g13_1_w20 := blk_frozen BKg13.out 1; have hz_g13_2_w20 : w20.cell? ⟨g13, 2, none⟩ = some (.slice Ae12_2 r11.length cAe12_2) := (blk_cell BKg13.out 2).trans rfl; have hf_g13_2_w20 := blk_frozen BKg13.out 2) | ((with_reducible refine gate_callee (f := 74) rfl ?_); refine goesL_ (some 39) rfl rfl Try.func74 (by kernel_rfl) rfl #[.agg #[.slice Ae12_0 r9.length cAe12_0, .slice Ae19_0 r18.length cAe19_0, .slice Ae12_2 r11.length cAe12_2], .int .i64 (rd r10 a1), .slice none 0 0] rfl (by (try simp only [List.map_toArray, List.map_cons, List.map_nil]); first | done | rfl) ?_; have tOe12_2 := Aside0.mk (Op.tiR rfl Oe12_2.out); refine (spec_l10Less.calls k _ _ (fun _ => False) _ _ _ _ _ _ r9 r11 ([] : List Int) (rd r10 a1) r22 r23 r24 w _ HB.out Oe12_0.out tOe12_2.out (Kd.R_nil _ _ _ _ _) (fun j h1 h2 => by first | exact h1.1.1 h2.1 | exact h1.1.2 h2.1 | exact h1.1.2.1 h2.1 | exact h1.1.2.2 h2.1) (fun _ _ h => h) (fun _ _ h => h) Ee25.out).mono ?_; rintro ex_ w21 ⟨vge25, rfl, ho0, ho1, ho2, hb, hk⟩; refine ⟨_, rfl, ?_⟩; replace Oe12_1 := Aside0.mk (Kd.R_reok rfl (Op.mvR (Op.tiR rfl Oe12_1.out) hk (fun j hj hs => by (exact Or.elim hs (fun hs => by (first | exact hs.1 hj.1 | exact hs.1.1 hj.1 | exact hs.1.2 hj.1 | exact hs.1.2.1 hj.1 | exact hs.1.2.2 hj.1 | exact hs.1.2.2.1 hj.1 | exact hs.1.2.2.2 hj.1 | exact hs.1 (hj.1.trans (Op.own_len _ _ _ _)) | exact hs.1.1 (hj.1.trans (Op.own_len _ _ _ _)) | exact hs.1.2 (hj.1.trans (Op.own_len _ _ _ _)) | exact hs.1.2.1 (hj.1.trans (Op.own_len _ _ _ _)) | exact hs.1.2.2 (hj.1.trans (Op.own_len _ _ _ _)) | exact hs.1.2.2.1 (hj.1.trans (Op.own_len _ _ _ _)) | exact hs.1.2.2.2 (hj.1.trans (Op.own_len _ _ _ _)))) (fun hs => by (exact Or.elim hs (fun hs => by (first | exact hj.2.1 hs.1 | exact hj.2.1.1 hs.1 | exact hj.2.1.2 hs.1 | exact hj.2.1.2.1 hs.1 | exact hj.2.1.2.2 hs.1 | exact hj.2.1.2.2.1 hs.1 | exact hj.2.1.2.2.2 hs.1 | exact hs.2.1 hj.1 | exact hs.2.1.1 hj.1 | exact hs.2.1.2 hj.1 | exact hs.2.1.2.1 hj.1 | exact hs.2.1.2.2 hj.1 | exact hs.2.1.2.2.1 hj.1 | exact hs.2.1.2.2.2 hj.1)) (fun hs => by (exact (hs : False).elim))))))) Oe12_1.out.1); replace Oe19_0 := Aside0.mk (Op.mvR Oe19_0.out hk (fun j hj hs => by (have hj2 := hj.2; have q := HSw20.out; exact Or.elim hs (fun hs => by (have hs2 := hs.2; omega)) (fun hs => by (exact Or.elim hs (fun hs => by (have hs2 := hs.2.2; omega)) (fun hs => by (exact (hs : False).elim))))))); replace BKg1 := Aside0.mk (Op.mvB BKg1.out hk (fun hs => by (have q := HSw20.out; exact Or.elim hs (fun hs => by (have hs2 := hs.2; omega)) (fun hs => by (exact Or.elim hs (fun hs => by (have hs2 := hs.2.2; omega)) (fun hs => by (exact (hs : False).elim))))))); replace BKg3 := Aside0.mk (Op.mvB BKg3.out hk (fun hs => by (have q := HSw20.out; exact Or.elim hs (fun hs => by (have hs2 := hs.2; omega)) (fun hs => by (exact Or.elim hs (fun hs => by (have hs2 := hs.2.2; omega)) (fun hs => by (exact (hs : False).elim))))))); replace BKg13 := Aside0.mk (Op.mvB BKg13.out hk (fun hs => by (have q := HSw20.out; exact Or.elim hs (fun hs => by (have hs2 := hs.2; omega)) (fun hs => by (exact Or.elim hs (fun hs => by (have hs2 := hs.2.2; omega)) (fun hs => by (exact (hs : False).elim))))))); replace HB := Aside0.mk hb; have HSw21 := Aside0.mk (And.intro (hk.1) HSw20.out); replace Oe12_0 := Aside0.mk ho0; replace Oe12_2 := Aside0.mk (Kd.R_reok rfl ho1 Oe12_2.out.1); have Oe25_0 := Aside0.mk (Kd.R_mono (Kd.R_bound ho2) (fun j hj => (⟨trivial, hj.1.elim (fun h => h.elim) (fun h => h), hj.2.2.1⟩ : True ∧ w20.heap.size ≤ j ∧ j < w21.heap.size))); clear ho0 ho1 ho2 hb hk tOe12_2; obtain ⟨Ae25_0, cAe25_0, ev_⟩ := Kd.R_slice Oe25_0.out; subst ev_; have hz_g1_0_w21 : w21.cell? ⟨g1, 0, none⟩ = some (.slice A0_0 l0_0.length c0_0) := (blk_cell BKg1.out 0).trans rfl; have hf_g1_0_w21 := blk_frozen BKg1.out 0; have hz_g1_1_w21 : w21.cell? ⟨g1, 1, none⟩ = some (.slice A0_1 l0_1.length c0_1) := (blk_cell BKg1.out 1).trans rfl; have hf_g1_1_w21 := blk_frozen BKg1.out 1; have hz_g1_2_w21 : w21.cell? ⟨g1, 2, none⟩ = some (.slice A0_2 l0_2.length c0_2) := (blk_cell BKg1.out 2).trans rfl; have hf_g1_2_w21 := blk_frozen BKg1.out 2; have hz_g3_0_w21 : w21.cell? ⟨g3, 0, none⟩ = some (.slice none 0 0) := (blk_cell BKg3.out 0).trans rfl; have hf_g3_0_w21 := blk_frozen BKg3.out 0; have hz_g3_1_w21 : w21.cell? ⟨g3, 1, none⟩ = some (.slice none 0 0) := (blk_cell BKg3.out 1).trans rfl; have hf_g3_1_w21 := blk_frozen BKg3.out 1; have hz_g3_2_w21 : w21.cell? ⟨g3, 2, none⟩ = some (.slice none 0 0) := (blk_cell BKg3.out 2).trans rfl; have hf_g3_2_w21 := blk_frozen BKg3.out 2; have hz_g13_0_w21 : w21.cell? ⟨g13, 0, none⟩ = some (.slice Ae12_0 r9.length cAe12_0) := (blk_cell BKg13.out 0).trans rfl; have hf_g13_0_w21 := blk_frozen BKg13.out 0; have hz_g13_1_w21 : w21.cell? ⟨g13, 1, none⟩ = some (.slice Ae19_0 r18.length cAe19_0) := (blk_cell BKg13.out 1).trans rfl; have hf_g13_1_w21 := blk_frozen BKg13.out 1; have hz_g13_2_w21 : w21.cell? ⟨g13, 2, none⟩ = some (.slice Ae12_2 r11.length cAe12_2) := (blk_cell BKg13.out 2).trans rfl; have hf_g13_2_w21 := blk_frozen BKg13.out 2; have hl_ := (Kd.S_reads' Oe12_0.out).1; have LOe12_0_r22 := Aside0.mk hl_; clear hl_; have hl_ := (Kd.R_reads' Oe12_2.out).1; have LOe12_2_r23 := Aside0.mk hl_; clear hl_) | ((with_reducible refine gate_callee (f := 65) rfl ?_); refine goesL_ (some 41) rfl rfl Try.func65 (by kernel_rfl) rfl #[.agg #[.slice Ae12_0 r9.length cAe12_0, .slice Ae19_0 r18.length cAe19_0, .slice Ae12_2 r11.length cAe12_2]] rfl (by (try simp only [List.map_toArray, List.map_cons, List.map_nil]); first | done | rfl | (simp only [List.length_drop, List.length_take]; rfl)) ?_; refine Op.args_eq (args := #[.agg #[.slice Ae12_0 r22.length cAe12_0, .slice Ae19_0 r18.length cAe19_0, .slice Ae12_2 r23.length cAe12_2]]) (by simp only [LOe12_0_r22.out, LOe12_2_r23.out]) ?_; (with_reducible refine (spec_l10Own.calls k _ _ r22 _ _ r18 _ _ r23 r27 r28 r29 _ ?side1 ?side2 ?side3 ?side4 ?side5 ?side6 Ee30.out).mono ?_); (case side1 => exact (Kd.S_reads' Oe12_0.out).2.2); (case side2 => (have h_ := Kd.S_reads' Oe12_0.out; have h1_ := h_.1; have h2_ := h_.2.1; omega)); (case side3 => exact (Kd.R_reads' Oe19_0.out).2.2); (case side4 => (have h_ := Kd.R_reads' Oe19_0.out; have h1_ := h_.1; have h2_ := h_.2.1; omega)); (case side5 => exact (Kd.R_reads' Oe12_2.out).2.2); (case side6 => (have h_ := Kd.R_reads' Oe12_2.out; have h1_ := h_.1; have h2_ := h_.2.1; omega)); rintro ex_ w26 ⟨ve30_0, ve30_1, ve30_2, rfl, ho0, ho1, ho2, hb⟩; refine ⟨_, rfl, ?_⟩; have hk := Kept.of_below hb (fun _ => False); replace Oe12_0 := Aside0.mk (Op.mvS Oe12_0.out hk (fun _ _ hs => hs)); replace Oe12_1 := Aside0.mk (Op.mvR Oe12_1.out hk (fun _ _ hs => hs)); replace Oe12_2 := Aside0.mk (Op.mvR Oe12_2.out hk (fun _ _ hs => hs)); replace Oe19_0 := Aside0.mk (Op.mvR Oe19_0.out hk (fun _ _ hs => hs)); replace Oe25_0 := Aside0.mk (Op.mvR Oe25_0.out hk (fun _ _ hs => hs)); replace BKg1 := Aside0.mk (Op.mvB BKg1.out hk (fun hs => hs)); replace BKg3 := Aside0.mk (Op.mvB BKg3.out hk (fun hs => hs)); replace BKg13 := Aside0.mk (Op.mvB BKg13.out hk (fun hs => hs)); have HSw26 := Aside0.mk (And.intro (hb.size) HSw21.out); have Oe30_0 := Aside0.mk (Op.inS ho0 (a := w21.heap.size) (b := w.heap.size) HB.out.size (Nat.le_refl _)); have Oe30_1 := Aside0.mk (Op.inR ho1 (a := w21.heap.size) (b := w.heap.size) HB.out.size (Nat.le_refl _)); have Oe30_2 := Aside0.mk (Op.inR ho2 (a := w21.heap.size) (b := w.heap.size) HB.out.size (Nat.le_refl _)); replace HB := Aside0.mk (Op.a5 HB.out hb); obtain ⟨Ae30_0, cAe30_0, ev_⟩ := Kd.S_slice Oe30_0.out; subst ev_; obtain ⟨Ae30_1, cAe30_1, ev_⟩ := Kd.R_slice Oe30_1.out; subst ev_; obtain ⟨Ae30_2, cAe30_2, ev_⟩ := Kd.R_slice Oe30_2.out; subst ev_; clear hb hk ho0 ho1 ho2; have hz_g1_0_w26 : w26.cell? ⟨g1, 0, none⟩ = some (.slice A0_0 l0_0.length c0_0) := (blk_cell BKg1.out 0).trans rfl; have hf_g1_0_w26 := blk_frozen BKg1.out 0; have hz_g1_1_w26 : w26.cell? ⟨g1, 1, none⟩ = some (.slice A0_1 l0_1.length c0_1) := (blk_cell BKg1.out 1).trans rfl; have hf_g1_1_w26 := blk_frozen BKg1.out 1; have hz_g1_2_w26 : w26.cell? ⟨g1, 2, none⟩ = some (.slice A0_2 l0_2.length c0_2) := (blk_cell BKg1.out 2).trans rfl; have hf_g1_2_w26 := blk_frozen BKg1.out 2; have hz_g3_0_w26 : w26.cell? ⟨g3, 0, none⟩ = some (.slice none 0 0) := (blk_cell BKg3.out 0).trans rfl; have hf_g3_0_w26 := blk_frozen BKg3.out 0; have hz_g3_1_w26 : w26.cell? ⟨g3, 1, none⟩ = some (.slice none 0 0) := (blk_cell BKg3.out 1).trans rfl; have hf_g3_1_w26 := blk_frozen BKg3.out 1; have hz_g3_2_w26 : w26.cell? ⟨g3, 2, none⟩ = some (.slice none 0 0) := (blk_cell BKg3.out 2).trans rfl; have hf_g3_2_w26 := blk_frozen BKg3.out 2; have hz_g13_0_w26 : w26.cell? ⟨g13, 0, none⟩ = some (.slice Ae12_0 r9.length cAe12_0) := (blk_cell BKg13.out 0).trans rfl; have hf_g13_0_w26 := blk_frozen BKg13.out 0; have hz_g13_1_w26 : w26.cell? ⟨g13, 1, none⟩ = some (.slice Ae19_0 r18.length cAe19_0) := (blk_cell BKg13.out 1).trans rfl; have hf_g13_1_w26 := blk_frozen BKg13.out 1; have hz_g13_2_w26 : w26.cell? ⟨g13, 2, none⟩ = some (.slice Ae12_2 r11.length cAe12_2) := (blk_cell BKg13.out 2).trans rfl; have hf_g13_2_w26 := blk_frozen BKg13.out 2) | ((with_reducible refine gate_store (t := 40) (p := 4) rfl ?_); refine store_event (t := 40) (p := 4) (v := ?vo_w31) (w1 := (((w26.setCell ⟨g3, 0, none⟩ (.slice Ae30_0 r27.length cAe30_0)).setCell ⟨g3, 1, none⟩ (.slice Ae30_1 r28.length cAe30_1)).setCell ⟨g3, 2, none⟩ (.slice Ae30_2 r29.length cAe30_2))) ?hg ?ho ?hn ?hr ?_; (case ho => rfl); (case hg => rfl); (case hn => rfl); (case hr => first | (go_simp; done) | (go_simp; rfl)); intro w31 hw; have hk : Kept w26 w31 (fun j => j = g3) := (by rw [hw]; exact Op.kept_put (Op.kept_put (Op.kept_put (Kept.refl _ _) 0 _) 1 _) 2 _); replace Oe12_0 := Aside0.mk (Op.mvS Oe12_0.out hk (fun j hj hs => by (have hj2 := hj.2; have q := HSw26.out; have hs2 : j = g3 := hs; omega))); replace Oe12_1 := Aside0.mk (Op.mvR Oe12_1.out hk (fun j hj hs => by (have hj2 := hj.2; have q := HSw26.out; have hs2 : j = g3 := hs; omega))); replace Oe12_2 := Aside0.mk (Op.mvR Oe12_2.out hk (fun j hj hs => by (have hj2 := hj.2; have q := HSw26.out; have hs2 : j = g3 := hs; omega))); replace Oe19_0 := Aside0.mk (Op.mvR Oe19_0.out hk (fun j hj hs => by (have hj2 := hj.2; have q := HSw26.out; have hs2 : j = g3 := hs; omega))); replace Oe25_0 := Aside0.mk (Op.mvR Oe25_0.out hk (fun j hj hs => by (have hj2 := hj.2; have q := HSw26.out; have hs2 : j = g3 := hs; omega))); replace Oe30_0 := Aside0.mk (Op.mvS Oe30_0.out hk (fun j hj hs => by (have hj2 := hj.2; have q := HSw26.out; have hs2 : j = g3 := hs; omega))); replace Oe30_1 := Aside0.mk (Op.mvR Oe30_1.out hk (fun j hj hs => by (have hj2 := hj.2; have q := HSw26.out; have hs2 : j = g3 := hs; omega))); replace Oe30_2 := Aside0.mk (Op.mvR Oe30_2.out hk (fun j hj hs => by (have hj2 := hj.2; have q := HSw26.out; have hs2 : j = g3 := hs; omega))); replace BKg1 := Aside0.mk (Op.mvB BKg1.out hk (fun hs => by (have q := HSw26.out; have hs2 : g1 = g3 := hs; omega))); replace BKg13 := Aside0.mk (Op.mvB BKg13.out hk (fun hs => by (have q := HSw26.out; have hs2 : g13 = g3 := hs; omega))); replace BKg3 : Aside0 (w31.heap[g3]? = some (.cells #[.slice Ae30_0 r27.length cAe30_0, .slice Ae30_1 r28.length cAe30_1, .slice Ae30_2 r29.length cAe30_2] 40 (0, 0))) := ⟨by rw [hw]; exact (blk_put (cs' := #[.slice Ae30_0 r27.length cAe30_0, .slice Ae30_1 r28.length cAe30_1, .slice Ae30_2 r29.length cAe30_2]) (blk_put (cs' := #[.slice Ae30_0 r27.length cAe30_0, .slice Ae30_1 r28.length cAe30_1, .slice none 0 0]) (blk_put (cs' := #[.slice Ae30_0 r27.length cAe30_0, .slice none 0 0, .slice none 0 0]) BKg3.out 0 _ rfl) 1 _ rfl) 2 _ rfl)⟩; replace HB : Aside0 (Below w.heap.size w w31) := ⟨by rw [hw]; exact below_set (Op.a4 (Op.a4 (HB.out) GEg3.out) GEg3.out) GEg3.out⟩; have HSw31 := Aside0.mk (And.intro (hk.1) HSw26.out); clear hw hk; have hz_g1_0_w31 : w31.cell? ⟨g1, 0, none⟩ = some (.slice A0_0 l0_0.length c0_0) := (blk_cell BKg1.out 0).trans rfl; have hf_g1_0_w31 := blk_frozen BKg1.out 0; have hz_g1_1_w31 : w31.cell? ⟨g1, 1, none⟩ = some (.slice A0_1 l0_1.length c0_1) := (blk_cell BKg1.out 1).trans rfl; have hf_g1_1_w31 := blk_frozen BKg1.out 1; have hz_g1_2_w31 : w31.cell? ⟨g1, 2, none⟩ = some (.slice A0_2 l0_2.length c0_2) := (blk_cell BKg1.out 2).trans rfl; have hf_g1_2_w31 := blk_frozen BKg1.out 2; have hz_g3_0_w31 : w31.cell? ⟨g3, 0, none⟩ = some (.slice Ae30_0 r27.length cAe30_0) := (blk_cell BKg3.out 0).trans rfl; have hf_g3_0_w31 := blk_frozen BKg3.out 0; have hz_g3_1_w31 : w31.cell? ⟨g3, 1, none⟩ = some (.slice Ae30_1 r28.length cAe30_1) := (blk_cell BKg3.out 1).trans rfl; have hf_g3_1_w31 := blk_frozen BKg3.out 1; have hz_g3_2_w31 : w31.cell? ⟨g3, 2, none⟩ = some (.slice Ae30_2 r29.length cAe30_2) := (blk_cell BKg3.out 2).trans rfl; have hf_g3_2_w31 := blk_frozen BKg3.out 2; have hz_g13_0_w31 : w31.cell? ⟨g13, 0, none⟩ = some (.slice Ae12_0 r9.length cAe12_0) := (blk_cell BKg13.out 0).trans rfl; have hf_g13_0_w31 := blk_frozen BKg13.out 0; have hz_g13_1_w31 : w31.cell? ⟨g13, 1, none⟩ = some (.slice Ae19_0 r18.length cAe19_0) := (blk_cell BKg13.out 1).trans rfl; have hf_g13_1_w31 := blk_frozen BKg13.out 1; have hz_g13_2_w31 : w31.cell? ⟨g13, 2, none⟩ = some (.slice Ae12_2 r11.length cAe12_2) := (blk_cell BKg13.out 2).trans rfl; have hf_g13_2_w31 := blk_frozen BKg13.out 2))
 refine bodyPost_ret (results_ctt rfl _ _ g3 40 #[.slice Ae30_0 r27.length cAe30_0, .slice Ae30_1 r28.length cAe30_1, .slice Ae30_2 r29.length cAe30_2] (0, 0) _ rfl BKg3.out Try.underlying40 rfl (by kernel_rfl)) rfl ?_
 exact ⟨_, _, _, _, rfl, Kd.S_mono Oe30_0.out (fun k_ hk_ => ⟨(by first | exact hk_.1 | exact hk_.1.1 | exact hk_.1.2 | exact hk_.1.2.1 | exact hk_.1.2.2 | exact fun e_ => hk_.1 (e_.trans (Op.own_len _ _ _ _)) | exact fun e_ => hk_.1.1 (e_.trans (Op.own_len _ _ _ _)) | exact fun e_ => hk_.1.2 (e_.trans (Op.own_len _ _ _ _)) | (intro e_; have z1_ := hk_.2; have z2_ := (Oe30_1.out.1 k_ e_.symm).2; have q := HSw31.out; omega)), (by first | exact hk_.1 | exact hk_.1.1 | exact hk_.1.2 | exact hk_.1.2.1 | exact hk_.1.2.2 | exact fun e_ => hk_.1 (e_.trans (Op.own_len _ _ _ _)) | exact fun e_ => hk_.1.1 (e_.trans (Op.own_len _ _ _ _)) | exact fun e_ => hk_.1.2 (e_.trans (Op.own_len _ _ _ _)) | (intro e_; have z1_ := hk_.2; have z2_ := (Oe30_2.out.1 k_ e_.symm).2; have q := HSw31.out; omega)), (by first | exact hk_.1 | exact hk_.1.1 | exact hk_.1.2 | exact hk_.1.2.1 | exact hk_.1.2.2 | exact fun e_ => hk_.1 (e_.trans (Op.own_len _ _ _ _)) | exact fun e_ => hk_.1.1 (e_.trans (Op.own_len _ _ _ _)) | exact fun e_ => hk_.1.2 (e_.trans (Op.own_len _ _ _ _)) | (intro e_; have z1_ := hk_.2; have z2_ := (Oe25_0.out.1 k_ e_.symm).2; have q := HSw31.out; omega))⟩), Kd.R_mono Oe30_1.out (fun k_ hk_ => ⟨(by first | exact hk_.1 | exact hk_.1.1 | exact hk_.1.2 | exact hk_.1.2.1 | exact hk_.1.2.2 | exact fun e_ => hk_.1 (e_.trans (Op.own_len _ _ _ _)) | exact fun e_ => hk_.1.1 (e_.trans (Op.own_len _ _ _ _)) | exact fun e_ => hk_.1.2 (e_.trans (Op.own_len _ _ _ _)) | (intro e_; have z1_ := hk_.2; have z2_ := (Oe30_2.out.1 k_ e_.symm).2; have q := HSw31.out; omega)), (by first | exact hk_.1 | exact hk_.1.1 | exact hk_.1.2 | exact hk_.1.2.1 | exact hk_.1.2.2 | exact fun e_ => hk_.1 (e_.trans (Op.own_len _ _ _ _)) | exact fun e_ => hk_.1.1 (e_.trans (Op.own_len _ _ _ _)) | exact fun e_ => hk_.1.2 (e_.trans (Op.own_len _ _ _ _)) | (intro e_; have z1_ := hk_.2; have z2_ := (Oe25_0.out.1 k_ e_.symm).2; have q := HSw31.out; omega))⟩), Kd.R_mono Oe30_2.out (fun k_ hk_ => ⟨(by first | exact hk_.1 | exact hk_.1.1 | exact hk_.1.2 | exact hk_.1.2.1 | exact hk_.1.2.2 | exact fun e_ => hk_.1 (e_.trans (Op.own_len _ _ _ _)) | exact fun e_ => hk_.1.1 (e_.trans (Op.own_len _ _ _ _)) | exact fun e_ => hk_.1.2 (e_.trans (Op.own_len _ _ _ _)) | (intro e_; have z1_ := hk_.2; have z2_ := (Oe30_1.out.1 k_ e_.symm).2; have q := HSw31.out; omega)), (by first | exact hk_.1 | exact hk_.1.1 | exact hk_.1.2 | exact hk_.1.2.1 | exact hk_.1.2.2 | exact fun e_ => hk_.1 (e_.trans (Op.own_len _ _ _ _)) | exact fun e_ => hk_.1.1 (e_.trans (Op.own_len _ _ _ _)) | exact fun e_ => hk_.1.2 (e_.trans (Op.own_len _ _ _ _)) | (intro e_; have z1_ := hk_.2; have z2_ := (Oe25_0.out.1 k_ e_.symm).2; have q := HSw31.out; omega))⟩), Kd.R_mono Oe25_0.out (fun k_ hk_ => ⟨(by first | exact hk_.1 | exact hk_.1.1 | exact hk_.1.2 | exact hk_.1.2.1 | exact hk_.1.2.2 | exact fun e_ => hk_.1 (e_.trans (Op.own_len _ _ _ _)) | exact fun e_ => hk_.1.1 (e_.trans (Op.own_len _ _ _ _)) | exact fun e_ => hk_.1.2 (e_.trans (Op.own_len _ _ _ _)) | (intro e_; have z1_ := hk_.2; have z2_ := (Oe30_1.out.1 k_ e_.symm).2; have q := HSw31.out; omega)), (by first | exact hk_.1 | exact hk_.1.1 | exact hk_.1.2 | exact hk_.1.2.1 | exact hk_.1.2.2 | exact fun e_ => hk_.1 (e_.trans (Op.own_len _ _ _ _)) | exact fun e_ => hk_.1.1 (e_.trans (Op.own_len _ _ _ _)) | exact fun e_ => hk_.1.2 (e_.trans (Op.own_len _ _ _ _)) | (intro e_; have z1_ := hk_.2; have z2_ := (Oe30_2.out.1 k_ e_.symm).2; have q := HSw31.out; omega))⟩), HB.out⟩

/-! ### impl_within: function 75 -/
def impl_within.f (a0 : Int) (a1 : Int) (a2 : Int) : Option (Bool) := if a0 ≥ a1 then (some (decide (a0 ≤ a2))) else (some false)
set_option maxHeartbeats 8000000 in
set_option maxRecDepth 100000 in
theorem impl_within.calls (a0 : Int) (a1 : Int) (a2 : Int) (r : Bool) (w : World) (h : impl_within.f a0 a1 a2 = some r) :
  Calls Try.prog 75 #[.int .i64 a0, .int .i64 a1, .int .i64 a2] w fun e w' => e = .returned (.bool r) ∧ Drawn0 w w' := by
 have H : (if a0 ≥ a1 then (some (decide (a0 ≤ a2))) else (some false)) = some r := h
 clear h
 by_cases c4 : a0 ≥ a1
 ·rw [if_pos c4] at H
  have c4b0 : decide (a1 ≤ a0) = true := decide_eq_true c4
  clear c4
  obtain rfl := Option.some.inj H
  go_enter Try.func75, Try.ntmps75
  go_wp2
  go_ret
  exact ⟨by first | rfl | (simp; done) | (simp [*]; done), by repeat (first | exact Drawn0.refl _ | apply Drawn0.step)⟩
 ·rw [if_neg c4] at H
  have c4b0 : decide (a1 ≤ a0) = false := decide_eq_false c4
  clear c4
  obtain rfl := Option.some.inj H
  go_enter Try.func75, Try.ntmps75
  go_wp2
  go_ret
  exact ⟨by first | rfl | (simp; done) | (simp [*]; done), by repeat (first | exact Drawn0.refl _ | apply Drawn0.step)⟩

/-! ### slices_IndexFunc_int_int: function 91 -/
theorem slices_IndexFunc_int_int.calls (A0 : Option Addr) (c0 : Nat) (l0 : List Int) (g : Nat) (lb : Array Value) (p : Int → Option Bool) (r : Int) (w : World)
  (eg : ∀ args W, (callFunc g args).run Try.prog W = .ok (.enter g args) W)
  (hp : ∀ (W : World) (x : Int) (b : Bool), x ∈ l0 → Below w.heap.size w W → p x = some b → Calls Try.prog g (#[.int .i64 x] ++ lb) W fun e W' => e = .returned (.bool b) ∧ Below W.heap.size W W')
  (hr0 : Kd.C (Kd.int .i64) w A0 l0.length l0) (h : Op.indexO p l0 0 = some r) :
  Calls Try.prog 91 #[.slice A0 l0.length c0, .func (.func g) #[] lb] w fun e w' => e = .returned (.int .i64 r) ∧ Below w.heap.size w w' := by
 have HR0 := Aside0.mk hr0
 have HP := Aside0.mk hp
 have HL : (l0.length : Int) ≤ 9223372036854775807 := by have := hr0.2.1; omega
 have H' := Aside0.mk h
 clear hr0 hp h
 go_enter Try.func91, Try.ntmps91
 go_wp2
 go_loopg [5, 8] l0.length (fun gg v5 v8 wr => ∃ n : Nat, n ≤ l0.length ∧ l0.length - n ≤ gg ∧ v8 = .int .i64 n ∧ Aside0 (Op.indexO p (l0.drop n) n = some r) ∧ Aside0 (Below w.heap.size w wr))
 case atStart => exact ⟨0, Nat.zero_le _, by omega, rfl, ⟨by simpa using H'.out⟩, ⟨Below.refl _ _⟩⟩
 case round =>
  clear H'
  obtain ⟨n, hn, hg, rfl, HA, HB⟩ := hrel
  by_cases hlt : n < l0.length
  ·have hltz : (n : Int) < (l0.length : Int) := by omega
   obtain ⟨ad, rfl, hcell⟩ := Kd.at_int (Kd.C_below HR0.out HB.out) (n : Int) (by omega) hltz
   rw [Int.toNat_natCast] at hcell
   have hd : Aside0 (l0.drop n = rd l0 n :: l0.drop (n + 1)) := ⟨by rw [List.drop_eq_getElem_cons hlt]; simp [rd, List.getD_eq_getElem?_getD, hlt]⟩
   have hm : Aside0 (rd l0 n ∈ l0) := ⟨by simp [rd, List.getD_eq_getElem?_getD, hlt]⟩
   generalize rd l0 n = y at *
   have HA2 : ∃ b, p y = some b ∧ Aside0 ((if b then some (n : Int) else Op.indexO p (l0.drop (n + 1)) ((n : Int) + 1)) = some r) := by
    have h1 := HA.out
    rw [hd.out] at h1
    obtain ⟨b, hb, h2⟩ := Option.bind_eq_some_iff.1 h1
    exact ⟨b, hb, ⟨h2⟩⟩
   clear HA
   obtain ⟨b, hb, HA⟩ := HA2
   have hcall := fun W hB => HP.out W y b hm.out hB hb
   have HC := Aside0.mk hcall
   clear hcall hb hd hm
   cases b with
   | true =>
    go_wp2_with (go_at_fn g; refine (HC.out _ HB.out).mono ?_; rintro e w' ⟨rfl, hb2⟩)
    go_ret
    exact ⟨by have h1 := HA.out; simp only [if_true, Option.some.injEq] at h1; rw [h1]; rfl, below_step HB.out hb2⟩
   | false =>
    go_wp2_with (go_at_fn g; refine (HC.out _ HB.out).mono ?_; rintro e w' ⟨rfl, hb2⟩)
    go_roundg (l0.length - (n + 1))
    case measure => omega
    case rel => exact ⟨n + 1, by omega, by omega, by go_num, ⟨by have h1 := HA.out; simpa using h1⟩, ⟨below_step HB.out hb2⟩⟩
  ·have hltz : ¬ (n : Int) < (l0.length : Int) := by omega
   have e : n = l0.length := by omega
   have HA2 : Aside0 (r = -1) := ⟨by have h1 := HA.out; rw [e, List.drop_length] at h1; simpa [Op.indexO] using h1.symm⟩
   clear HA e
   go_wp2
   go_ret
   exact ⟨by rw [HA2.out]; rfl, HB.out⟩


/-! ### slices_ContainsFunc_int_int: function 82 -/
theorem slices_ContainsFunc_int_int.calls (A0 : Option Addr) (c0 : Nat) (l0 : List Int) (g : Nat) (lb : Array Value) (p : Int → Option Bool) (r : Bool) (w : World)
  (eg : ∀ args W, (callFunc g args).run Try.prog W = .ok (.enter g args) W)
  (hp : ∀ (W : World) (x : Int) (b : Bool), x ∈ l0 → Below w.heap.size w W → p x = some b → Calls Try.prog g (#[.int .i64 x] ++ lb) W fun e W' => e = .returned (.bool b) ∧ Below W.heap.size W W')
  (hr0 : Kd.C (Kd.int .i64) w A0 l0.length l0) (h : Op.anyO p l0 = some r) :
  Calls Try.prog 82 #[.slice A0 l0.length c0, .func (.func g) #[] lb] w fun e w' => e = .returned (.bool r) ∧ Below w.heap.size w w' := by
 obtain ⟨i, hi, hr⟩ := Op.indexO_of_anyO (i := 0) (by omega) h
 have hc := slices_IndexFunc_int_int.calls A0 c0 l0 g lb p i w eg hp hr0 hi
 have HC := Aside0.mk hc
 have HI := Aside0.mk hr
 clear hc hp hr0 h hi hr
 go_enter Try.func82, Try.ntmps82
 go_wp2_with (go_at_call 91; refine HC.out.mono ?_; rintro e w' ⟨rfl, hb⟩)
 go_ret
 exact ⟨by rw [← HI.out]; rfl, hb⟩


/-! ### impl_areNodes: function 59 -/
/-- is what a number names gone, or none of these -/
def impl_areNodes.bad (ns : List S60) (hi k : Int) : Option Bool :=
 (impl_within.f k 0 hi).bind fun z => if z then (if 0 ≤ k then if k < ns.length then some (rd_T60 ns k).f1 else none else none) else some true
def impl_areNodes.all (ns : List S60) : List S60 → Int → Option Bool
 | [], _ => some true
 | b :: t, i => if (b.f0.length : Int) > 6 then some false else if b.f1 = true ∧ (b.f0.length : Int) > 0 then some false else (Op.anyO (impl_areNodes.bad ns (wrap64 (i - 1))) b.f0).bind fun x => if x then some false else impl_areNodes.all ns t (i + 1)
def impl_areNodes.f (l0 : List S60) (l1 : List Int) : Option Bool :=
 if (l0.length : Int) > 14 then some false else if (l1.length : Int) > 6 then some false else (impl_areNodes.all l0 l0 0).bind fun x => if x then (Op.anyO (impl_areNodes.bad l0 (wrap64 ((l0.length : Int) - 1))) l1).map (fun z => !z) else some false
theorem impl_areNodes.one (ns : List S60) (A0 : Option Addr) (c0 gn gi : Nat) (i x : Int) (b : Bool) (w : World)
  (hb : w.heap[gn]? = some (.cells #[.slice A0 ns.length c0] 27 (0, 0))) (hi : w.heap[gi]? = some (.cells #[.int .i64 i] 3 (0, 0)))
  (hr0 : Kd.C k60 w A0 ns.length ns) (h : impl_areNodes.bad ns (wrap64 (i - 1)) x = some b) :
  Calls Try.prog 83 #[.int .i64 x, .pointer (some ⟨gi, 0, none⟩), .pointer (some ⟨gn, 0, none⟩)] w fun e w' => e = .returned (.bool b) ∧ Below w.heap.size w w' := by
 have h0 : w.cell? ⟨gn, 0, none⟩ = some (.slice A0 ns.length c0) := (blk_cell hb 0).trans rfl
 have h1 : w.cell? ⟨gi, 0, none⟩ = some (.int .i64 i) := (blk_cell hi 0).trans rfl
 clear hb hi
 unfold impl_areNodes.bad at h
 obtain ⟨z, hz, h⟩ := Option.bind_eq_some_iff.1 h
 have HZ := Aside0.mk hz
 clear hz
 cases z with
 | false =>
  have hb : b = true := by simpa using h.symm
  subst hb
  clear h hr0
  go_enter Try.func83, Try.ntmps83
  go_wp2_with (go_at_call 75; refine (impl_within.calls _ _ _ false _ HZ.out).mono ?_; rintro e w' ⟨rfl, ⟨nd, rfl⟩⟩)
  go_ret
  exact ⟨rfl, pw_below_drewN (Below.refl _ _) _⟩
 | true =>
  simp only [if_true] at h
  by_cases h2 : 0 ≤ x
  ·rw [if_pos h2] at h
   by_cases h3 : x < ns.length
   ·rw [if_pos h3] at h
    obtain ⟨ad, A', c', rfl, hx0, hx1, _, _⟩ := at_T60 hr0 x h2 h3
    have hb := Option.some.inj h
    have HBB := Aside0.mk hb
    have h2b : decide (0 ≤ x) = true := decide_eq_true h2
    have h3b : decide (x < (ns.length : Int)) = true := decide_eq_true h3
    clear h hr0 hb
    go_enter Try.func83, Try.ntmps83
    go_wp2_with (go_at_call 75; refine (impl_within.calls _ _ _ true _ HZ.out).mono ?_; rintro e w' ⟨rfl, ⟨nd, rfl⟩⟩)
    go_ret
    exact ⟨by rw [← HBB.out]; rfl, pw_below_drewN (Below.refl _ _) _⟩
   ·rw [if_neg h3] at h; exact absurd h (by simp)
  ·rw [if_neg h2] at h; exact absurd h (by simp)
theorem impl_areNodes.two (ns : List S60) (A0 : Option Addr) (c0 gn : Nat) (x : Int) (b : Bool) (w : World)
  (hb : w.heap[gn]? = some (.cells #[.slice A0 ns.length c0] 27 (0, 0)))
  (hr0 : Kd.C k60 w A0 ns.length ns) (h : impl_areNodes.bad ns (wrap64 ((ns.length : Int) - 1)) x = some b) :
  Calls Try.prog 84 #[.int .i64 x, .pointer (some ⟨gn, 0, none⟩)] w fun e w' => e = .returned (.bool b) ∧ Below w.heap.size w w' := by
 have h0 : w.cell? ⟨gn, 0, none⟩ = some (.slice A0 ns.length c0) := (blk_cell hb 0).trans rfl
 clear hb
 unfold impl_areNodes.bad at h
 obtain ⟨z, hz, h⟩ := Option.bind_eq_some_iff.1 h
 have HZ := Aside0.mk hz
 clear hz
 cases z with
 | false =>
  have hb : b = true := by simpa using h.symm
  subst hb
  clear h hr0
  go_enter Try.func84, Try.ntmps84
  go_wp2_with (go_at_call 75; refine (impl_within.calls _ _ _ false _ HZ.out).mono ?_; rintro e w' ⟨rfl, ⟨nd, rfl⟩⟩)
  go_ret
  exact ⟨rfl, pw_below_drewN (Below.refl _ _) _⟩
 | true =>
  simp only [if_true] at h
  by_cases h2 : 0 ≤ x
  ·rw [if_pos h2] at h
   by_cases h3 : x < ns.length
   ·rw [if_pos h3] at h
    obtain ⟨ad, A', c', rfl, hx0, hx1, _, _⟩ := at_T60 hr0 x h2 h3
    have hb := Option.some.inj h
    have HBB := Aside0.mk hb
    have h2b : decide (0 ≤ x) = true := decide_eq_true h2
    have h3b : decide (x < (ns.length : Int)) = true := decide_eq_true h3
    clear h hr0 hb
    go_enter Try.func84, Try.ntmps84
    go_wp2_with (go_at_call 75; refine (impl_within.calls _ _ _ true _ HZ.out).mono ?_; rintro e w' ⟨rfl, ⟨nd, rfl⟩⟩)
    go_ret
    exact ⟨by rw [← HBB.out]; rfl, pw_below_drewN (Below.refl _ _) _⟩
   ·rw [if_neg h3] at h; exact absurd h (by simp)
  ·rw [if_neg h2] at h; exact absurd h (by simp)
set_option maxHeartbeats 2000000 in
set_option maxRecDepth 100000 in
theorem impl_areNodes.calls (A0 : Option Addr) (c0 : Nat) (l0 : List S60) (A1 : Option Addr) (c1 : Nat) (l1 : List Int) (r : Bool) (w : World)
  (hr0 : Kd.C k60 w A0 l0.length l0) (hc0 : l0.length ≤ c0) (hr1 : Kd.C (Kd.int .i64) w A1 l1.length l1) (hc1 : l1.length ≤ c1) (h : impl_areNodes.f l0 l1 = some r) :
  Calls Try.prog 59 #[.slice A0 l0.length c0, .slice A1 l1.length c1] w fun e w' => e = .returned (.bool r) ∧ Below w.heap.size w w' := by
 unfold impl_areNodes.f at h
 by_cases g1 : (l0.length : Int) > 14
 ·rw [if_pos g1] at h
  obtain rfl := Option.some.inj h
  have g1b : decide ((14 : Int) < l0.length) = true := decide_eq_true g1
  clear g1 h hr0 hr1
  go_enter Try.func59, Try.ntmps59
  go_wp2
  go_ret
  exact ⟨rfl, (Below.refl _ _).alloc (Nat.le_refl _) _⟩
 rw [if_neg g1] at h
 by_cases g2 : (l1.length : Int) > 6
 ·rw [if_pos g2] at h
  obtain rfl := Option.some.inj h
  have g1b : decide ((14 : Int) < l0.length) = false := decide_eq_false g1
  have g2b : decide ((6 : Int) < l1.length) = true := decide_eq_true g2
  clear g1 g2 h hr0 hr1
  go_enter Try.func59, Try.ntmps59
  go_wp2
  go_ret
  exact ⟨rfl, (Below.refl _ _).alloc (Nat.le_refl _) _⟩
 rw [if_neg g2] at h
 have g1b : decide ((14 : Int) < l0.length) = false := decide_eq_false g1
 have g2b : decide ((6 : Int) < l1.length) = false := decide_eq_false g2
 have H' := Aside0.mk h
 have HR0 := Aside0.mk hr0
 have HR1 := Aside0.mk hr1
 have HL : (l0.length : Int) ≤ 9223372036854775807 := by have := hr0.2.1; omega
 have e1 : ∀ args W, (callFunc 83 args).run Try.prog W = .ok (.enter 83 args) W := enters_of Try.func83 (by kernel_rfl) rfl
 have e2 : ∀ args W, (callFunc 84 args).run Try.prog W = .ok (.enter 84 args) W := enters_of Try.func84 (by kernel_rfl) rfl
 clear g1 g2 h hr0 hr1
 go_enter Try.func59, Try.ntmps59
 go_wp2_with fail
 have HB0 := Aside0.mk ((Below.refl w.heap.size w).alloc (Nat.le_refl _) (.cells #[.slice A0 l0.length c0] 27))
 have HG0 := Aside0.mk (heap_alloc_new w (.cells #[.slice A0 l0.length c0] 27))
 go_loopg [17] l0.length (fun gg v17 wr => ∃ n : Nat, n ≤ l0.length ∧ l0.length - n ≤ gg ∧ v17 = .int .i64 n ∧ Aside0 (((impl_areNodes.all l0 (l0.drop n) n).bind fun x => if x then (Op.anyO (impl_areNodes.bad l0 (wrap64 ((l0.length : Int) - 1))) l1).map (fun z => !z) else some false) = some r) ∧ Aside0 (Below w.heap.size w wr) ∧ Aside0 (wr.heap[w.heap.size]? = some (.cells #[.slice A0 l0.length c0] 27 (0, 0))))
 case atStart => exact ⟨0, Nat.zero_le _, by omega, rfl, ⟨by simpa using H'.out⟩, HB0, HG0⟩
 case round =>
  clear H' HB0 HG0
  obtain ⟨n, hn, hg, rfl, HA, HB, HG⟩ := hrel
  by_cases hlt : n < l0.length
  ·have hltz : (n : Int) < (l0.length : Int) := by omega
   obtain ⟨ad, A', c', rfl, hx0, hx1, hxl, hxr⟩ := at_T60 (Kd.C_below HR0.out HB.out) (n : Int) (by omega) hltz
   rw [Int.toNat_natCast] at hx0 hx1
   have hdr : Aside0 (l0.drop n = rd_T60 l0 n :: l0.drop (n + 1)) := ⟨by rw [List.drop_eq_getElem_cons hlt]; simp [rd_T60, List.getD_eq_getElem?_getD, hlt]⟩
   generalize rd_T60 l0 n = x at *
   rcases x with ⟨xk, xg⟩
   dsimp only at hx0 hx1 hxl hxr
   have HX := Aside0.mk hxr
   have hA := HA.out
   rw [hdr.out] at hA
   unfold impl_areNodes.all at hA
   dsimp only at hA
   clear hxr HA hdr
   by_cases k6 : (xk.length : Int) > 6
   ·rw [if_pos k6] at hA
    have HBA := Aside0.mk ((HB.out.alloc HB.out.size (.cells #[.int .i64 (n : Int)] 3)).alloc (by simp; have := HB.out.size; omega) (.cells #[.slice A' xk.length c', .bool xg] 60))
    have HA := Aside0.mk hA
    have k6b : decide ((6 : Int) < xk.length) = true := decide_eq_true k6
    clear hA k6
    go_wp2
    go_ret
    exact ⟨by have h1 := HA.out; simp only [Option.bind_some, Bool.false_eq_true, if_false, Option.some.injEq] at h1; rw [← h1]; rfl, HBA.out⟩
   rw [if_neg k6] at hA
   have k6b : decide ((6 : Int) < xk.length) = false := decide_eq_false k6
   by_cases kg : xg = true ∧ (xk.length : Int) > 0
   ·rw [if_pos kg] at hA
    obtain ⟨rfl, kz⟩ := kg
    have HBA := Aside0.mk ((HB.out.alloc HB.out.size (.cells #[.int .i64 (n : Int)] 3)).alloc (by simp; have := HB.out.size; omega) (.cells #[.slice A' xk.length c', .bool true] 60))
    have HA := Aside0.mk hA
    have kgc : decide ((0 : Int) < xk.length) = true := decide_eq_true kz
    have kgd : decide (0 < xk.length) = true := decide_eq_true (by omega)
    have kge : 0 < xk.length := by omega
    clear hA kz k6
    go_wp2
    go_ret
    exact ⟨by have h1 := HA.out; simp only [Option.bind_some, Bool.false_eq_true, if_false, Option.some.injEq] at h1; rw [← h1]; rfl, HBA.out⟩
   rw [if_neg kg, Option.bind_assoc] at hA
   obtain ⟨y, hy, hA⟩ := Option.bind_eq_some_iff.1 hA
   have HY := Aside0.mk hy
   have HA := Aside0.mk hA
   have kor : xg = false ∨ (xg = true ∧ decide ((0 : Int) < xk.length) = false ∧ decide (0 < xk.length) = false ∧ ¬ 0 < xk.length) := by
    cases xg with
    | false => exact .inl rfl
    | true => exact .inr ⟨rfl, decide_eq_false (fun h => kg ⟨rfl, h⟩), decide_eq_false (fun h => kg ⟨rfl, by omega⟩), fun h => kg ⟨rfl, by omega⟩⟩
   clear hA hy kg k6
   rcases kor with rfl | ⟨rfl, kz, kz2, kz3⟩
   ·have HBA := Aside0.mk ((HB.out.alloc HB.out.size (.cells #[.int .i64 (n : Int)] 3)).alloc (by simp; have := HB.out.size; omega) (.cells #[.slice A' xk.length c', .bool false] 60))
    have HBW := Aside0.mk (((Below.refl wr.heap.size wr).alloc (Nat.le_refl _) (.cells #[.int .i64 (n : Int)] 3)).alloc (by simp) (.cells #[.slice A' xk.length c', .bool false] 60))
    have HC := Aside0.mk (slices_ContainsFunc_int_int.calls A' c' xk 83 #[.pointer (some ⟨wr.heap.size, 0, none⟩), .pointer (some ⟨w.heap.size, 0, none⟩)] (impl_areNodes.bad l0 (wrap64 ((n : Int) - 1))) y
      ((wr.alloc (.cells #[.int .i64 (n : Int)] 3)).alloc (.cells #[.slice A' xk.length c', .bool false] 60)) e1
      (fun W k b _ hB hk => impl_areNodes.one l0 (some ad) c0 w.heap.size wr.heap.size n k b W
       (Op.b4 (Op.b3 (Op.b3 HG.out _) _) hB)
       (Op.b4 (Op.b3 (blk_new wr _) _) hB)
       (Kd.C_below HR0.out (Op.a5 HBA.out hB)) hk)
      (Kd.C_below HX.out HBW.out) HY.out)
    cases y with
    | true =>
     go_wp2_with (go_at_call 82; refine HC.out.mono ?_; rintro e w' ⟨rfl, hb2⟩)
     go_ret
     exact ⟨by have h1 := HA.out; simp only [if_true, Option.bind_some, Bool.false_eq_true, if_false, Option.some.injEq] at h1; rw [← h1]; rfl, below_step HBA.out hb2⟩
    | false =>
     go_wp2_with (go_at_call 82; refine HC.out.mono ?_; rintro e w' ⟨rfl, hb2⟩)
     go_roundg (l0.length - (n + 1))
     case measure => omega
     case rel => exact ⟨n + 1, by omega, by omega, by go_num, ⟨by have h1 := HA.out; simpa using h1⟩, ⟨below_step HBA.out hb2⟩, ⟨blk_below (Op.b3 (Op.b3 HG.out _) _) hb2⟩⟩
   ·have HBA := Aside0.mk ((HB.out.alloc HB.out.size (.cells #[.int .i64 (n : Int)] 3)).alloc (by simp; have := HB.out.size; omega) (.cells #[.slice A' xk.length c', .bool true] 60))
    have HBW := Aside0.mk (((Below.refl wr.heap.size wr).alloc (Nat.le_refl _) (.cells #[.int .i64 (n : Int)] 3)).alloc (by simp) (.cells #[.slice A' xk.length c', .bool true] 60))
    have HC := Aside0.mk (slices_ContainsFunc_int_int.calls A' c' xk 83 #[.pointer (some ⟨wr.heap.size, 0, none⟩), .pointer (some ⟨w.heap.size, 0, none⟩)] (impl_areNodes.bad l0 (wrap64 ((n : Int) - 1))) y
      ((wr.alloc (.cells #[.int .i64 (n : Int)] 3)).alloc (.cells #[.slice A' xk.length c', .bool true] 60)) e1
      (fun W k b _ hB hk => impl_areNodes.one l0 (some ad) c0 w.heap.size wr.heap.size n k b W
       (Op.b4 (Op.b3 (Op.b3 HG.out _) _) hB)
       (Op.b4 (Op.b3 (blk_new wr _) _) hB)
       (Kd.C_below HR0.out (Op.a5 HBA.out hB)) hk)
      (Kd.C_below HX.out HBW.out) HY.out)
    cases y with
    | true =>
     go_wp2_with (go_at_call 82; refine HC.out.mono ?_; rintro e w' ⟨rfl, hb2⟩)
     go_ret
     exact ⟨by have h1 := HA.out; simp only [if_true, Option.bind_some, Bool.false_eq_true, if_false, Option.some.injEq] at h1; rw [← h1]; rfl, below_step HBA.out hb2⟩
    | false =>
     go_wp2_with (go_at_call 82; refine HC.out.mono ?_; rintro e w' ⟨rfl, hb2⟩)
     go_roundg (l0.length - (n + 1))
     case measure => omega
     case rel => exact ⟨n + 1, by omega, by omega, by go_num, ⟨by have h1 := HA.out; simpa using h1⟩, ⟨below_step HBA.out hb2⟩, ⟨blk_below (Op.b3 (Op.b3 HG.out _) _) hb2⟩⟩
  ·have hltz : ¬ (n : Int) < (l0.length : Int) := by omega
   have e : n = l0.length := by omega
   have hA := HA.out
   rw [e, List.drop_length] at hA
   simp only [impl_areNodes.all, Option.bind_some, if_true] at hA
   obtain ⟨y, hy, hA⟩ := Option.map_eq_some_iff.1 hA
   have h0 : wr.cell? ⟨w.heap.size, 0, none⟩ = some (.slice A0 l0.length c0) := (blk_cell HG.out 0).trans rfl
   have HC := Aside0.mk (slices_ContainsFunc_int_int.calls A1 c1 l1 84 #[.pointer (some ⟨w.heap.size, 0, none⟩)] (impl_areNodes.bad l0 (wrap64 ((l0.length : Int) - 1))) y wr e2
    (fun W k b _ hB hk => impl_areNodes.two l0 A0 c0 w.heap.size k b W ((hB.block _ (blk_lt HG.out)).trans HG.out) (Kd.C_below HR0.out (Op.a5 HB.out hB)) hk)
    (Kd.C_below HR1.out HB.out) hy)
   have HA' := Aside0.mk hA
   clear HA hA hy e
   go_wp2_with (go_at_call 82; refine HC.out.mono ?_; rintro e w' ⟨rfl, hb2⟩)
   go_ret
   exact ⟨by rw [← HA'.out]; rfl, below_step HB.out hb2⟩


end Go.Proofs.Ytdhclelfnbjikaa.PFnExactDropRoot
