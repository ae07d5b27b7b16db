/- A program's values as trees, and its code as steps on them. No condition. -/
import Derived.Test.YtplhecjngmkngaaTree3
import Derived.Orders
set_option linter.all false
set_option linter.unusedVariables false
set_option linter.unusedSimpArgs false
set_option linter.unusedSectionVars false
set_option linter.unnecessarySimpa false
set_option linter.deprecated false
/- Trees: a call, run. No condition. -/
set_option linter.unusedVariables false
set_option linter.unusedSimpArgs false
set_option linter.unusedSectionVars false
namespace Go.Proofs.YtplhecjngmkngaaT
open Go

/-- what a call yields, told in the state -/
inductive Bring : St → List T → List H → St → Prop
  | nil (z : St) : Bring z [] [] z
  | int {z z' : St} {k n ts gs} : Bring z ts gs z' → Bring z (.int k n :: ts) (.int k n :: gs) z'
  | bool {z z' : St} {b ts gs} : Bring z ts gs z' → Bring z (.bool b :: ts) (.bool b :: gs) z'
  | str {z z' : St} {b ts gs} : Bring z ts gs z' → Bring z (.str b :: ts) (.str b :: gs) z'
  | nptr {z z' : St} {ts gs} : Bring z ts gs z' → Bring z (.nptr :: ts) (.nptr :: gs) z'
  | nil0 {z z' : St} {own ts gs} : Bring z ts gs z' → Bring z (.sl own 0 0 [] :: ts) (.nil :: gs) z'
  | fn {z z' : St} {f cts cgs ts gs} : cgs.length = cts.length → Bring z (cts ++ ts) (cgs ++ gs) z' → Bring z (.fn f cts :: ts) (.fn f cgs :: gs) z'
  | sl {z z' : St} {r own st n cs ts gs} : fresh z r = true → Bring (z.new r (.sl own st n cs)) ts gs z' → Bring z (.sl own st n cs :: ts) (.hs r [] 0 st n :: gs) z'
  | bx {z z' : St} {r own cs ts gs} : fresh z r = true → Bring (z.new r (.bx own cs)) ts gs z' → Bring z (.bx own cs :: ts) (.hp r [] 0 :: gs) z'

def wsOf : List TW → List H → List W
  | [], _ => []
  | .one _ :: xs, g :: gs => .one g :: wsOf xs gs
  | .one _ :: _, [] => []
  | .agg ts :: xs, gs => .agg (gs.take ts.length) :: wsOf xs (gs.drop ts.length)
def vOf : TV → List H → V
  | .w (.one _), g :: _ => .w (.one g)
  | .w (.one _), [] => .w (.one .un)
  | .w (.agg _), gs => .w (.agg gs)
  | .tup xs, gs => .tup (wsOf xs gs)

section
variable {P : Program} {nt : Nat} {w : World} {ro : Nat → Prop} {s : St} {tm : Array Value} {args : List Value} {hv : Nat → Value} {F : Nat → List Nat} {G : List Nat}

theorem wsOf_rep {roots : List (Nat × T)} : ∀ (xs : List TW) (vs : List Value) (F : List Nat) (gs : List H), RTWL w ro xs vs F → HRepL w roots hv gs (flatV xs vs) → WRepL w roots hv (wsOf xs gs) vs
  | [], vs, F, gs, h, hg => by simp only [RTWL] at h; obtain ⟨rfl, _⟩ := h; simp [wsOf, WRepL]
  | .one t :: xs, vs, F, gs, h, hg => by
    simp only [RTWL] at h
    obtain ⟨v, vs', F1, F2, rfl, h2, h3, rfl⟩ := h
    simp only [flatV] at hg
    cases gs with
    | nil => simp only [HRepL] at hg; simp at hg
    | cons g gs =>
      simp only [HRepL] at hg
      obtain ⟨v', us, e, r1, r2⟩ := hg
      simp only [List.cons.injEq] at e
      obtain ⟨rfl, rfl⟩ := e
      exact ⟨v, vs', rfl, r1, wsOf_rep xs vs' F2 gs h3 r2⟩
  | .agg ts :: xs, vs, F, gs, h, hg => by
    simp only [RTWL] at h
    obtain ⟨v, vs', F1, F2, rfl, ⟨cs, rfl, h2⟩, h3, rfl⟩ := h
    simp only [flatV] at hg
    have hl := RepV.len _ _ _ h2
    have e1 := HRepL_take cs.length _ _ hg
    have e2 := HRepL_drop cs.length _ _ hg
    simp only [List.toList_toArray, List.take_left', List.drop_left', List.take_left, List.drop_left] at e1 e2
    rw [hl] at e1 e2
    exact ⟨_, vs', rfl, ⟨cs, rfl, e1⟩, wsOf_rep xs vs' F2 _ h3 e2⟩

/-- a value's cells -/
def flatTV : TV → Value → List Value
  | .w (.one _), v => [v]
  | .w (.agg _), .agg cs => cs.toList
  | .tup xs, .tuple vs => flatV xs vs.toList
  | _, _ => []
theorem RTV_flat {x : TV} {v : Value} {F : List Nat} (h : RTV w ro x v F) : RepV w ro x.cells (flatTV x v) F := by
  cases x with
  | w x =>
    cases x with
    | one t => simp only [TV.cells, TW.cells, flatTV, RepV]; exact ⟨v, [], F, [], rfl, h, ⟨rfl, rfl⟩, by simp⟩
    | agg ts => obtain ⟨vs, rfl, h2⟩ := h; simpa [TV.cells, TW.cells, flatTV] using h2
  | tup xs => obtain ⟨vs, rfl, h2⟩ := h; simpa [TV.cells, flatTV] using RTWL_flat xs vs F h2
theorem vOf_rep {roots : List (Nat × T)} {x : TV} {v : Value} {F : List Nat} {gs : List H} (h : RTV w ro x v F) (hg : HRepL w roots hv gs (flatTV x v)) : VRep w roots hv (vOf x gs) v := by
  cases x with
  | w x =>
    cases x with
    | one t =>
      simp only [flatTV] at hg
      cases gs with
      | nil => simp only [HRepL] at hg; simp at hg
      | cons g gs => simp only [HRepL] at hg; obtain ⟨v', us, e, r1, r2⟩ := hg; simp only [List.cons.injEq] at e; obtain ⟨rfl, rfl⟩ := e; exact r1
    | agg ts => obtain ⟨vs, rfl, h2⟩ := h; simp only [flatTV, List.toList_toArray] at hg; exact ⟨vs, rfl, hg⟩
  | tup xs => obtain ⟨vs, rfl, h2⟩ := h; simp only [flatTV, List.toList_toArray] at hg; exact ⟨vs, rfl, wsOf_rep xs vs F gs h2 hg⟩

theorem newH' {own : Bool} {st n : Nat} {cs : List T} {v : Value} {Ft : List Nat} (hR : Rep w ro (.sl own st n cs) v Ft) :
    UnH v 0 st n v ∧ (0 + n * st ≤ cs.length) := by
  have key : (0 + n * st ≤ cs.length) ∧ SlOf v 0 st n v ∧ (∀ A n0 c, v = .slice A n0 c → 0 + n * st ≤ n0 * st) := by
    simp only [Rep] at hR
    rcases hR with ⟨rfl, rfl, _, A, rfl⟩ | ⟨b, o', cap, F', rfl, h2, h3, _⟩
    · exact ⟨by simp, .inl ⟨rfl, _, rfl⟩, by simp⟩
    · refine ⟨by omega, .inr ⟨b, o', n, cap, cap, rfl, by simp, h2.1, by omega, h2.2⟩, fun A n0 c e => ?_⟩
      simp only [Value.slice.injEq] at e; obtain ⟨_, rfl, _⟩ := e; omega
  exact ⟨⟨key.2.1, key.2.2, fun _ _ _ _ => rfl⟩, key.1⟩

theorem bring_ok : ∀ {z z' : St} {ts : List T} {gs : List H}, Bring z ts gs z' → ∀ {hv : Nat → Value} {F : Nat → List Nat} {Ft G0 : List Nat} {us : List Value}, Inv nt w ro z tm args hv F (Ft ++ G0) → RepV w ro ts us Ft →
    ∃ hv' F', Inv nt w ro z' tm args hv' F' G0 ∧ (∀ r t, get z.roots r = some t → get z'.roots r = some t ∧ hv' r = hv r) ∧ HRepL w z'.roots hv' gs us ∧ (∀ y, Rest z' F' y → Rest z F y ∨ y ∈ Ft) := by
  intro z z' ts gs hb
  have flat : ∀ {z z' : St} {t : T} {ts : List T} {g : H} {gs : List H}, (∀ {hv : Nat → Value} {F : Nat → List Nat} {Ft G0 : List Nat} {us : List Value}, Inv nt w ro z tm args hv F (Ft ++ G0) → RepV w ro ts us Ft →
      ∃ hv' F', Inv nt w ro z' tm args hv' F' G0 ∧ (∀ r t, get z.roots r = some t → get z'.roots r = some t ∧ hv' r = hv r) ∧ HRepL w z'.roots hv' gs us ∧ (∀ y, Rest z' F' y → Rest z F y ∨ y ∈ Ft)) →
      (∀ (v : Value) (Fx : List Nat) (hv' : Nat → Value), Rep w ro t v Fx → HRep w z'.roots hv' g v ∧ Fx = []) →
      ∀ {hv : Nat → Value} {F : Nat → List Nat} {Ft G0 : List Nat} {us : List Value}, Inv nt w ro z tm args hv F (Ft ++ G0) → RepV w ro (t :: ts) us Ft →
      ∃ hv' F', Inv nt w ro z' tm args hv' F' G0 ∧ (∀ r t, get z.roots r = some t → get z'.roots r = some t ∧ hv' r = hv r) ∧ HRepL w z'.roots hv' (g :: gs) us ∧ (∀ y, Rest z' F' y → Rest z F y ∨ y ∈ Ft) := by
    intro z z' t ts g gs ih ht hv F Ft G0 us h hr
    simp only [RepV] at hr
    obtain ⟨v, us', F1, F2, rfl, r1, r2, rfl⟩ := hr
    obtain ⟨_, rfl⟩ := ht v F1 hv r1
    obtain ⟨hv', F', k1, k2, k3, k4⟩ := ih (by simpa using h) r2
    refine ⟨hv', F', k1, k2, ?_, by simpa using k4⟩
    simp only [HRepL]
    exact ⟨v, us', rfl, (ht v [] hv' r1).1, k3⟩
  induction hb with
  | nil z =>
    intro hv F Ft G0 us h hr
    simp only [RepV] at hr
    obtain ⟨rfl, rfl⟩ := hr
    exact ⟨hv, F, by simpa using h, fun r t ht => ⟨ht, rfl⟩, by simp [HRepL], fun y hy => .inl hy⟩
  | int _ ih => exact flat ih (fun v Fx hv' hr => by simp only [Rep] at hr; simp only [HRep]; exact hr)
  | bool _ ih => exact flat ih (fun v Fx hv' hr => by simp only [Rep] at hr; simp only [HRep]; exact hr)
  | str _ ih => exact flat ih (fun v Fx hv' hr => by simp only [Rep] at hr; simp only [HRep]; exact hr)
  | nptr _ ih => exact flat ih (fun v Fx hv' hr => by simp only [Rep] at hr; simp only [HRep]; exact hr)
  | nil0 _ ih =>
    exact flat ih (fun v Fx hv' hr => by
      simp only [Rep] at hr; simp only [HRep]
      rcases hr with ⟨_, _, h3, h4⟩ | ⟨b, o, cap, F', h1, h2, _⟩
      · exact ⟨h4, h3⟩
      · omega)
  | fn hlen _ ih =>
    rename_i z z' f cts cgs ts gs _
    intro hv F Ft G0 us h hr
    simp only [RepV] at hr
    obtain ⟨v, us', F1, F2, rfl, r1, r2, rfl⟩ := hr
    simp only [Rep] at r1
    obtain ⟨cvs, rfl, r1⟩ := r1
    have hl := RepV.len _ _ _ r1
    obtain ⟨hv', F', k1, k2, k3, k4⟩ := ih h (RepV.append _ _ _ _ _ _ r1 r2)
    refine ⟨hv', F', k1, k2, ?_, k4⟩
    simp only [HRepL, HRep]
    have e1 := HRepL_take cgs.length _ _ k3
    have e2 := HRepL_drop cgs.length _ _ k3
    rw [List.take_left' rfl, List.take_left' (hl.trans hlen.symm)] at e1
    rw [List.drop_left' rfl, List.drop_left' (hl.trans hlen.symm)] at e2
    exact ⟨_, us', rfl, ⟨cvs, rfl, e1⟩, e2⟩
  | sl hf _ ih =>
    rename_i z z' r own st n cs ts gs _
    intro hv F Ft G0 us h hr
    simp only [RepV] at hr
    obtain ⟨v, us', F1, F2, rfl, r1, r2, rfl⟩ := hr
    have hnd := h.gnd
    have h1 := h.new (r := r) (Ft := F1) (G' := F2 ++ G0) (fun x hx => by simp only [List.mem_append] at hx ⊢; rcases hx with hx | hx | hx <;> simp [hx]) (by simpa using hnd) hf r1
    obtain ⟨hv', F', k1, k2, k3, k4⟩ := ih h1 r2
    have hr0 := k2 r (.sl own st n cs) (by simp [St.new, get_set])
    simp only [if_true] at hr0
    refine ⟨hv', F', k1, fun r' t ht => ?_, ?_, fun y hy => ?_⟩
    · have hne : r' ≠ r := fun e => by
        subst e
        simp only [fresh, Bool.and_eq_true, Option.isNone_iff_eq_none] at hf
        rw [hf.1.1] at ht; simp at ht
      have := k2 r' t (by simp only [St.new, get_set, if_neg (Ne.symm hne)]; exact ht)
      simpa [hne] using this
    · obtain ⟨n1, n2⟩ := newH' r1
      simp only [HRepL, HRep]
      refine ⟨v, us', rfl, ⟨fun _ => by rw [hr0.2]; exact n1, fun t ht => ?_⟩, k3⟩
      rw [hr0.1] at ht; obtain rfl := Option.some.inj ht
      exact ⟨own, n, cs, hv' r, by simp [sub], by simp [walk], ⟨n2, by rw [hr0.2]; exact n1.2.2⟩, by rw [hr0.2]; exact n1.1⟩
    · rcases k4 y hy with hy | hy
      · exact (rest_new hy).imp id (fun hy => by simp [hy])
      · exact .inr (by simp [hy])
  | bx hf _ ih =>
    rename_i z z' r own cs ts gs _
    intro hv F Ft G0 us h hr
    simp only [RepV] at hr
    obtain ⟨v, us', F1, F2, rfl, r1, r2, rfl⟩ := hr
    have hnd := h.gnd
    have h1 := h.new (r := r) (Ft := F1) (G' := F2 ++ G0) (fun x hx => by simp only [List.mem_append] at hx ⊢; rcases hx with hx | hx | hx <;> simp [hx]) (by simpa using hnd) hf r1
    obtain ⟨hv', F', k1, k2, k3, k4⟩ := ih h1 r2
    have hr0 := k2 r (.bx own cs) (by simp [St.new, get_set])
    simp only [if_true] at hr0
    refine ⟨hv', F', k1, fun r' t ht => ?_, ?_, fun y hy => ?_⟩
    · have hne : r' ≠ r := fun e => by
        subst e
        simp only [fresh, Bool.and_eq_true, Option.isNone_iff_eq_none] at hf
        rw [hf.1.1] at ht; simp at ht
      have := k2 r' t (by simp only [St.new, get_set, if_neg (Ne.symm hne)]; exact ht)
      simpa [hne] using this
    · simp only [Rep] at r1
      obtain ⟨b, o, F', rfl, _⟩ := r1
      simp only [HRepL, HRep]
      refine ⟨_, us', rfl, ⟨fun _ => ⟨b, o, by rw [hr0.2]; rfl, rfl⟩, fun t ht => ?_⟩, k3⟩
      rw [hr0.1] at ht; obtain rfl := Option.some.inj ht
      exact ⟨T.bx own cs, .pointer (some ⟨b, o, none⟩), b, o, ⟨rfl, rfl⟩, by rw [hr0.2]; rfl, rfl, rfl⟩
    · rcases k4 y hy with hy | hy
      · exact (rest_new hy).imp id (fun hy => by simp [hy])
      · exact .inr (by simp [hy])

theorem toXs_ev {a : Go.Act} (h : Inv nt w ro s a.tmps args hv F G) : ∀ (l : List Operand) (Xs : List X) (ws : List W), toXs l = some Xs → evs s Xs = some (ws.map V.w) → WRepL w s.roots hv ws (l.map a.eval)
  | [], Xs, ws, h1, h2 => by
    simp only [toXs, Option.some.injEq] at h1; subst h1
    simp only [evs, Option.some.injEq] at h2
    cases ws <;> simp at h2
    rfl
  | x :: l, Xs, ws, h1, h2 => by
    simp only [toXs] at h1
    cases k1 : toX x with
    | none => simp [k1] at h1
    | some y =>
      cases k2 : toXs l with
      | none => simp [k1, k2] at h1
      | some ys =>
        simp only [k1, k2, Option.some.injEq] at h1; subst h1
        simp only [evs] at h2
        cases k3 : ev s y with
        | none => simp [k3] at h2
        | some v =>
          cases k4 : evs s ys with
          | none => simp [k3, k4] at h2
          | some vs =>
            simp only [k3, k4, Option.some.injEq] at h2
            cases ws with
            | nil => simp at h2
            | cons g ws =>
              simp only [List.map_cons, List.cons.injEq] at h2
              obtain ⟨rfl, h2⟩ := h2
              have r1 := ev_rep h k1 k3
              exact ⟨_, _, rfl, r1, toXs_ev h l ys ws k2 (by rw [k4, h2])⟩

def shp : List TW → List Bool
  | [] => []
  | .one _ :: xs => true :: shp xs
  | .agg _ :: xs => false :: shp xs
theorem flatV_shp : ∀ (xs ys : List TW) (vs : List Value), shp xs = shp ys → flatV xs vs = flatV ys vs
  | [], [], vs, _ => rfl
  | [], .one _ :: _, vs, h => by simp [shp] at h
  | [], .agg _ :: _, vs, h => by simp [shp] at h
  | .one _ :: _, [], vs, h => by simp [shp] at h
  | .agg _ :: _, [], vs, h => by simp [shp] at h
  | .one _ :: _, .agg _ :: _, vs, h => by simp [shp] at h
  | .agg _ :: _, .one _ :: _, vs, h => by simp [shp] at h
  | .one _ :: xs, .one _ :: ys, [], h => by simp [flatV]
  | .one _ :: xs, .one _ :: ys, v :: vs, h => by simp only [flatV, flatV_shp xs ys vs (by simpa [shp] using h)]
  | .agg _ :: xs, .agg _ :: ys, [], h => by simp [flatV]
  | .agg _ :: xs, .agg _ :: ys, v :: vs, h => by
    cases v <;> simp only [flatV]
    rw [flatV_shp xs ys vs (by simpa [shp] using h)]

/-- what came back is in the hand in place of what was handed over; more may be read -/
theorem Inv.turn {w0 : World} {ro' : Nat → Prop} {Ft G' H' : List Nat} (h : Inv nt w ro s tm args hv F (Ft ++ G')) (hF : ∀ r t, get s.roots r = some t → ∀ b ∈ F r, b < w0.heap.size) (hG : ∀ b ∈ G', b < w0.heap.size) (hro : ∀ b, ro b → ro' b) (hro2 : ∀ b, ro' b → ro b ∨ b ∈ Ft ∨ w0.heap.size ≤ b) (hlt : ∀ b, ro' b → b < w.heap.size)
    (hnd : H'.Nodup) (hH : ∀ b ∈ H', b ∈ Ft ∨ w0.heap.size ≤ b) (hHr : ∀ b ∈ H', ¬ ro' b) (hHl : ∀ b ∈ H', b < w.heap.size) : Inv nt w ro' s tm args hv F (H' ++ G') := by
  have hgnd := h.gnd
  simp only [List.nodup_append] at hgnd
  have hnro : ∀ r t, get s.roots r = some t → ∀ b ∈ F r, ¬ ro' b := fun r t ht b hb hr => by
    rcases hro2 b hr with hr | hr | hr
    · exact h.nro r t ht b hb hr
    · exact h.gdis r t ht b hb (by simp [hr])
    · have := hF r t ht b hb; omega
  exact {
    rep := fun r t ht => Rep.same (fun _ _ => rfl) hro (Nat.le_refl _) _ _ _ (h.rep r t ht) (fun _ h => h)
    nd := h.nd
    dis := h.dis
    nro := hnro
    gnd := by
      simp only [List.nodup_append]
      refine ⟨hnd, hgnd.2.1, fun a ha b hb e => ?_⟩
      subst e
      rcases hH a ha with h1 | h1
      · exact hgnd.2.2 a h1 a hb rfl
      · have := hG a hb; omega
    gdis := fun r t ht b hb hb2 => by
      rcases List.mem_append.1 hb2 with hb2 | hb2
      · rcases hH b hb2 with h1 | h1
        · exact h.gdis r t ht b hb (by simp [h1])
        · have := hF r t ht b hb; omega
      · exact h.gdis r t ht b hb (by simp [hb2])
    gnro := fun b hb hr => by
      rcases List.mem_append.1 hb with hb | hb
      · exact hHr b hb hr
      · rcases hro2 b hr with hr | hr | hr
        · exact h.gnro b (by simp [hb]) hr
        · exact hgnd.2.2 b hr b hb rfl
        · have := hG b hb; omega
    glt := fun b hb => by
      rcases List.mem_append.1 hb with hb | hb
      · exact hHl b hb
      · exact h.glt b (by simp [hb])
    rolt := hlt
    sz := h.sz
    env := h.env
    par := h.par }

/-- what a call leaves where it was -/
def Stays (w w' : World) (hv hv' : Nat → Value) (z1 z2 : St) : Prop := ∀ r t1 t2, get z1.roots r = some t1 → get z2.roots r = some t2 → hv' r = hv r ∧ ∀ q, (sub t1 q).isSome → walk w' (hv r) q = walk w (hv r) q
def Keep (s z1 z2 z3 : St) (r : Nat) (p : List Nat) : Prop := ∃ t x t1 t2 t3 x3, get s.roots r = some t ∧ sub t p = some x ∧ get z1.roots r = some t1 ∧ (sub t1 p).isSome = true ∧ get z2.roots r = some t2 ∧ get z3.roots r = some t3 ∧ sub t3 p = some x3 ∧ Alike x x3
def eqN : List Nat → List Nat → Bool
  | [], [] => true
  | a :: l, b :: m => (a == b) && eqN l m
  | _, _ => false
theorem eqN_ok : ∀ {l m : List Nat}, eqN l m = true → l = m
  | [], [], _ => rfl
  | a :: l, b :: m, h => by simp only [eqN, Bool.and_eq_true, beq_iff_eq] at h; rw [h.1, eqN_ok h.2]
  | [], _ :: _, h => by simp [eqN] at h
  | _ :: _, [], h => by simp [eqN] at h
def inK : List (Nat × List Nat) → Nat → List Nat → Bool
  | [], _, _ => false
  | (a, l) :: ks, r, p => ((a == r) && eqN l p) || inK ks r p
theorem inK_ok : ∀ {ks : List (Nat × List Nat)} {r : Nat} {p : List Nat}, inK ks r p = true → (r, p) ∈ ks
  | [], _, _, h => by simp [inK] at h
  | (a, l) :: ks, r, p, h => by
    simp only [inK, Bool.or_eq_true, Bool.and_eq_true, beq_iff_eq] at h
    rcases h with ⟨rfl, h⟩ | h
    · rw [eqN_ok h]; exact List.mem_cons_self
    · exact List.mem_cons_of_mem _ (inK_ok h)
def keepF (ks : List (Nat × List Nat)) : Ren := fun r p => if inK ks r p then some (r, p) else none
def St.kp (s : St) (par : List W) : St := { s with par := par }
/-- temporaries told again, each where it stands -/
def keepE (ks : List (Nat × List Nat)) : List (Nat × V) → List (Nat × V) → List (Nat × V)
  | _, [] => []
  | kv, (k, v) :: l => match get kv k with | some v0 => (k, renV (keepF ks) v0) :: keepE ks (del kv k) l | none => (k, v) :: keepE ks kv l
def St.ke (s : St) (env : List (Nat × V)) : St := { s with env := env }
theorem keepE_get {ks : List (Nat × List Nat)} {i : Nat} {v : V} : ∀ {l kv : List (Nat × V)}, get (keepE ks kv l) i = some v → get l i = some v ∨ ∃ v0, get kv i = some v0 ∧ v = renV (keepF ks) v0
  | [], kv, h => by simp [keepE, get] at h
  | (k, x) :: l, kv, h => by
    simp only [keepE] at h
    cases hk : get kv k with
    | some v0 =>
      simp only [hk, get] at h
      split at h
      · rename_i e; subst e
        exact .inr ⟨v0, hk, (Option.some.inj h).symm⟩
      · rename_i e
        rcases keepE_get h with h | ⟨v1, h, hv⟩
        · exact .inl (by simp only [get, if_neg e]; exact h)
        · rw [get_del, if_neg e] at h; exact .inr ⟨v1, h, hv⟩
    | none =>
      simp only [hk, get] at h
      split at h
      · rename_i e
        exact .inl (by simp only [get, if_pos e]; exact h)
      · rename_i e
        rcases keepE_get h with h | ⟨v1, h, hv⟩
        · exact .inl (by simp only [get, if_neg e]; exact h)
        · exact .inr ⟨v1, h, hv⟩
theorem keepE_no {ks : List (Nat × List Nat)} : ∀ {l kv : List (Nat × V)}, (∀ i, get kv i = none) → keepE ks kv l = l
  | [], _, _ => rfl
  | (k, x) :: l, kv, h => by simp only [keepE, h k, keepE_no (l := l) h]
theorem Inv.keep {w' : World} {ro' : Nat → Prop} {hv' : Nat → Value} {F' : Nat → List Nat} {z1 z2 z3 : St} {ks : List (Nat × List Nat)} {kv : List (Nat × V)} (h : Inv nt w ro s tm args hv F G) {G' : List Nat} (hI : Inv nt w' ro' z3 tm args hv' F' G') (hs : Stays w w' hv hv' z1 z2) (hk : ∀ q ∈ ks, Keep s z1 z2 z3 q.1 q.2) (hkv : ∀ i v, get kv i = some v → get s.env i = some v) : Inv nt w' ro' ((z3.ke (keepE ks kv z3.env)).kp (s.par.map (renW (keepF ks)))) tm args hv' F' G' := by
  have L : Leads (keepF ks) w s.roots hv w' z3.roots hv' := by
    intro r p r' p' e
    simp only [keepF] at e
    split at e
    · rename_i hin
      simp only [Option.some.injEq, Prod.mk.injEq] at e
      obtain ⟨rfl, rfl⟩ := e
      obtain ⟨t, x, t1, t2, t3, x3, e1, e2, e3, e4, e5, e6, e7, e8⟩ := hk _ (inK_ok hin)
      obtain ⟨s1, s2⟩ := hs r t1 t2 e3 e5
      refine ⟨fun hp => ⟨hp, s1⟩, fun t' ht' => ⟨t, e1, fun y hy ho => ?_⟩⟩
      rw [e6] at ht'
      obtain rfl := Option.some.inj ht'
      rw [e2] at hy
      obtain rfl := Option.some.inj hy
      exact ⟨x3, e7, e8, fun hh hw => by rw [s1, s2 p e4]; exact hw⟩
    · simp at e
  exact { hI with
    par := WRepL_ren L _ _ h.par
    env := fun i v hg => by
      rcases keepE_get hg with hq | ⟨v0, hq, rfl⟩
      · exact hI.env i v hq
      · obtain ⟨x, h1, h2⟩ := h.env i v0 (hkv i v0 hq)
        exact ⟨x, h1, VRep_ren L _ _ h2⟩ }

/-- the call itself -/
theorem call_ok (h : Inv nt w ro s tm args hv F G) {A : Bool} {ws : List W} {vs : List Value} {ts : List T} {ls : List (Option H)} {z1 z2 z3 : St} {f : FuncId} {res : TV} {outs : List TW} {gs : List H} (hws : WRepL w s.roots hv ws vs) (ha : Args A s (ws.flatMap W.cells) ts ls z1) (hm : Meets P f (tws ws ts) res outs) (hA : A = true → noRoL res.cells = true ∧ noRoL (outs.flatMap TW.cells) = true)
    (hsh : shp outs = shp (tws ws ts)) (hg : Gives z1 z1 ls (outs.flatMap TW.cells) z2) (hb : Bring z2 res.cells gs z3) :
    Calls P f vs.toArray w fun e w' => ∃ v, e = .returned v ∧ ∃ ro' hv' F', Inv nt w' ro' z3 tm args hv' F' G ∧ VRep w' z3.roots hv' (vOf res gs) v ∧ (∃ Fs, Since w Fs w' ∧ ∀ b ∈ Fs, Rest s F b) ∧ (∀ b, ro b → ro' b) ∧ (∀ b, ro' b → ro b ∨ Rest s F b ∨ w.heap.size ≤ b) ∧ (∀ b, Rest z3 F' b → Rest s F b ∨ w.heap.size ≤ b) ∧ Stays w w' hv hv' z1 z2 := by
  obtain ⟨us, r1, r2⟩ := WRepL_flat ws vs hws
  obtain ⟨F1, Ft, k1, k2, k3, k4, k5, k6⟩ := args_ok ha h r1
  have k1nd := k1.gnd
  simp only [List.nodup_append] at k1nd
  have hRF : ∀ b, Rest z1 F1 b → b < w.heap.size := fun b ⟨r, t, ht, hb⟩ => Rep.lt _ _ _ (k1.rep r t ht) b hb
  have hroA : ∀ b, (ro b ∨ (A = true ∧ Rest z1 F1 b)) → b < w.heap.size := fun b hb => hb.elim (k1.rolt b) (fun hb => hRF b hb.2)
  obtain ⟨rt, hflat⟩ := r2 (fun b => ro b ∨ (A = true ∧ Rest z1 F1 b)) ts Ft (k3 _ (fun b hb => .inl hb) (fun hA b hb => .inr ⟨hA, hb⟩))
  refine (hm w _ vs Ft rt k1nd.1 (fun b hb hr => ?_) hroA).mono ?_
  · rcases hr with hr | ⟨_, r, t, ht, hr⟩
    · exact k1.gnro b (by simp [hb]) hr
    · exact k1.gdis r t ht b hr (by simp [hb])
  rintro e w' ⟨v, ro', Fr, Fo, rfl, hres, houts, hnd, hnro, hsub, hro, hro2, hlt, hS⟩
  refine ⟨v, rfl, ?_⟩
  have hI := k1.later hS (fun b hb => by simp [hb])
  -- what may be read from now on
  obtain ⟨ro2, q1, q2, q3, q4, q5, q6⟩ : ∃ ro2 : Nat → Prop, (∀ b, ro b → ro2 b) ∧ (∀ b, ro2 b → ro b ∨ b ∈ Ft ∨ w.heap.size ≤ b) ∧ (∀ b, ro2 b → b < w'.heap.size) ∧ (∀ b ∈ Fr ++ Fo, ¬ ro2 b) ∧ RTV w' ro' res v Fr ∧ (RepV w' ro2 res.cells (flatTV res v) Fr ∧ RepV w' ro2 (outs.flatMap TW.cells) us Fo) := by
    have e1 := RTV_flat hres
    have e2 := RTWL_flat _ _ _ houts
    rw [flatV_shp _ _ vs hsh, hflat] at e2
    cases A with
    | true => exact ⟨ro, fun _ h => h, fun _ h => .inl h, fun b hb => Nat.lt_of_lt_of_le (k1.rolt b hb) hS.size, fun b hb hr => hnro b hb (hro b (.inl hr)), hres, RepV.noRo _ _ _ (hA rfl).1 e1, RepV.noRo _ _ _ (hA rfl).2 e2⟩
    | false => exact ⟨ro', fun b hb => hro b (.inl hb), fun b hb => by
        rcases hro2 b hb with (h1 | ⟨h1, _⟩) | h1
        · exact .inl h1
        · simp at h1
        · exact .inr h1, hlt, hnro, hres, e1, e2⟩
  have hI2 := hI.turn (w0 := w) (H' := Fr ++ Fo) (G' := G) (fun r t ht b hb => hRF b ⟨r, t, ht, hb⟩) (fun b hb => k1.glt b (by simp [hb])) q1 q2 q3 hnd hsub q4 (fun b hb => by
    rcases List.mem_append.1 hb with hb | hb
    · exact RepV.lt _ _ _ q6.1 b hb
    · exact RepV.lt _ _ _ q6.2 b hb)
  have hI3 : Inv nt w' ro2 z1 tm args hv F1 (Fo ++ (Fr ++ G)) := hI2.hand (fun x hx => by simp only [List.mem_append] at hx ⊢; rcases hx with hx | hx | hx <;> simp [hx]) (by
    have := hI2.gnd
    rw [List.append_assoc] at this
    exact (List.perm_append_comm_assoc Fr Fo G).nodup_iff.1 this)
  have hW : ∀ r t0 q, get z1.roots r = some t0 → (sub t0 q).isSome → walk w' (hv r) q = walk w (hv r) q := by
    intro r t0 q ht hq
    obtain ⟨x, hx⟩ := Option.isSome_iff_exists.1 hq
    refine walk_same q t0 x (hv r) (F1 r) (k1.rep r t0 ht) (fun b hb => hS.block b ?_ (fun hf => ?_)) hx
    · exact hb.elim (fun hb => hRF b ⟨r, t0, ht, hb⟩) (k1.rolt b)
    · rcases hb with hb | hb
      · exact k1.gdis r t0 ht b hb (by simp [hf])
      · exact k1.gnro b (by simp [hf]) hb
  obtain ⟨F2, g1, g2⟩ := gives_ok hW hg hI3 k4 q6.2
  obtain ⟨hv', F3, b1, b2, b3, b4⟩ := bring_ok hb g1 q6.1
  refine ⟨ro2, hv', F3, b1, vOf_rep q5 b3, ⟨Ft, hS, k6⟩, q1, fun b hb => ?_, fun b hb => ?_, fun r t1 t2 ht1 ht2 => ⟨(b2 r t2 ht2).2, fun q hq => hW r t1 q ht1 hq⟩⟩
  · rcases q2 b hb with h1 | h1 | h1
    · exact .inl h1
    · exact .inr (.inl (k6 b h1))
    · exact .inr (.inr h1)
  · have hFF : ∀ y, y ∈ Fr ++ Fo → Rest s F y ∨ w.heap.size ≤ y := fun y hy => (hsub y hy).imp (k6 y) id
    rcases b4 b hb with hb | hb
    · rcases g2 b hb with hb | hb
      · exact .inl (k5 b hb)
      · exact hFF b (by simp [hb])
    · exact hFF b (by simp [hb])
end
end Go.Proofs.YtplhecjngmkngaaT

/- Trees: all operations on states, and that they run so. No condition. -/
set_option linter.unusedVariables false
set_option linter.unusedSimpArgs false
set_option linter.unusedSectionVars false
namespace Go.Proofs.YtplhecjngmkngaaT
open Go

def putO (s : St) : Option Nat → V → St
  | some d, v => s.put d v
  | none, _ => s

inductive OpR (P : Program) : I → Option Nat → St → St → Prop
  | yld {i d s v} : Yld i s v → OpR P i (some d) s (s.put d v)
  | alloc {zs ts r d s} : CellTL s.roots zs ts → fresh s r = true → OpR P (.alloc zs) (some d) s ((s.new r (.bx true ts)).put d (.w (.one (.hp r [] 0))))
  | box {x v ts r d s s1} : ev s x = some (.w v) → liveW s.roots v = true → Grab s v.cells ts s1 → fresh s1 r = true → OpR P (.box x) (some d) s ((s1.new r (.bx true ts)).put d (.w (.one (.hp r [] 0))))
  | boxR {x v ts l r d s s1} : ev s x = some (.w v) → liveW s.roots v = true → Grab s v.cells ts s1 → fresh s1 r = true → BoxL s v.cells ts l → OpR P (.box x) (some d) s ((boxSt s s1 l r ts).put d (.w (.one (.hp r [] 0))))
  | lit {st len z ps vs gs ts r d s s1} : 0 < len → z.length = st ∧ 0 < st → (ps.map fun (i, x) => (i, ev s x)) = (vs.map fun (i, v) => (i, some (V.w v))) → vs.all (fun q => liveW s.roots q.2) = true → litH st len z vs = some gs → gs.length = len * st →
      Grab s gs ts s1 → fresh s1 r = true → OpR P (.lit st len z ps) (some d) s ((s1.new r (.sl true st len ts)).put d (.w (.one (.hs r [] 0 st len))))
  | lit0 {st z d s} : OpR P (.lit st 0 z []) (some d) s (s.put d (.w (.one .nil)))
  | make {st z bytes l c n kl kc ts r d s} : ev s l = some (.w (.one (.int kl (n : Nat)))) → ev s c = some (.w (.one (.int kc (n : Nat)))) → z.length = st ∧ 0 < st → bytes * n ≤ 281474976710656 → n ≤ 9223372036854775807 → CellTL s.roots z ts → fresh s r = true →
      OpR P (.make st z bytes l c) (some d) s ((s.new r (.sl true st n (List.replicate n ts).flatten)).put d (.w (.one (.hs r [] 0 st n))))
  | cvb {x b r d s} : ev s x = some (.w (.one (.str b))) → fresh s r = true → OpR P (.cvb x) (some d) s ((s.new r (.sl true 1 b.size (b.data.toList.map fun c : UInt8 => T.int .u8 c.toNat))).put d (.w (.one (.hs r [] 0 1 b.size))))
  | app0 {st bytes z x y v m ts r d s s1} : z.length = st ∧ 0 < st → ev s x = some (.w (.one .nil)) → ev s y = some v → SrcT st s v m ts s1 → m ≤ 9223372036854775807 → m * bytes ≤ 140737488355328 → fresh s1 r = true →
      OpR P (.app st bytes z x y) (some d) s ((s1.new r (.sl true st m ts)).put d (.w (.one (.hs r [] 0 st m))))
  | app {st bytes z x y g v n m cs ts r d s s1 s2 f} : z.length = st ∧ 0 < st → ev s x = some (.w (.one g)) → ev s y = some v → Take s g (.sl true st n cs) s1 f → SrcT st s1 (renV f v) m ts s2 → n + m ≤ 9223372036854775807 → (n + m) * bytes ≤ 140737488355328 → fresh s2 r = true →
      OpR P (.app st bytes z x y) (some d) s ((s2.new r (.sl true st (n + m) (cs ++ ts))).put d (.w (.one (.hs r [] 0 st (n + m)))))
  | store {k a x r p off v t0 ts s s1 s2} : ev s a = some (.w (.one (.hp r p off))) → ev s x = some (.w v) → get s.roots r = some t0 → v.cells.all (live s.roots) = true → v.cells.length = k → Grab s v.cells ts s1 → PutL s1 r p off ts s2 → OpR P (.store k a x) none s s2
  | same {a x r p off st n t0 cs s} : ev s a = some (.w (.one (.hp r p off))) → ev s x = some (.w (.one (.hs r (p ++ [off]) 0 st n))) → get s.roots r = some t0 → sub t0 (p ++ [off]) = some (.sl true st n cs) → (upd .hole t0 (p ++ [off])).isSome → OpR P (.store 1 a x) none s s
  | call {f xs ws A ts ls res outs gs d s z1 z2 z3} : evs s xs = some (ws.map V.w) → Args A s (ws.flatMap W.cells) ts ls z1 → Meets P f (tws ws ts) res outs → (A = true → noRoL res.cells = true ∧ noRoL (outs.flatMap TW.cells) = true) → shp outs = shp (tws ws ts) →
      Gives z1 z1 ls (outs.flatMap TW.cells) z2 → Bring z2 res.cells gs z3 → OpR P (.call f xs) d s (putO z3 d (vOf res gs))
  | callK {f xs ws A ts ls res outs gs d s z1 z2 z3 ks kv} : evs s xs = some (ws.map V.w) → Args A s (ws.flatMap W.cells) ts ls z1 → Meets P f (tws ws ts) res outs → (A = true → noRoL res.cells = true ∧ noRoL (outs.flatMap TW.cells) = true) → shp outs = shp (tws ws ts) →
      Gives z1 z1 ls (outs.flatMap TW.cells) z2 → Bring z2 res.cells gs z3 → (∀ q ∈ ks, Keep s z1 z2 z3 q.1 q.2) → (∀ i v, get kv i = some v → get s.env i = some v ∧ (get z3.env i).isSome = true) → OpR P (.call f xs) d s (putO ((z3.ke (keepE ks kv z3.env)).kp (s.par.map (renW (keepF ks)))) d (vOf res gs))
  | callv {f x xs caps ws A ts ls res outs gs d s z1 z2 z3} : ev s x = some (.w (.one (.fn f caps))) → (∃ fn, P.funcs[f]? = some fn ∧ fn.body.isSome ∧ (fn.name != "runtime.NumGoroutine") = true) → evs s xs = some (ws.map V.w) → Args A s ((ws ++ caps.map W.one).flatMap W.cells) ts ls z1 → Meets P f (tws (ws ++ caps.map W.one) ts) res outs → (A = true → noRoL res.cells = true ∧ noRoL (outs.flatMap TW.cells) = true) → shp outs = shp (tws (ws ++ caps.map W.one) ts) →
      Gives z1 z1 ls (outs.flatMap TW.cells) z2 → Bring z2 res.cells gs z3 → OpR P (.callv x xs) d s (putO z3 d (vOf res gs))

/-- a state is told of a call's frame and of the world, the world being later than the one where the call began -/
def Ok (nt : Nat) (w0 : World) (ro0 : Nat → Prop) (F0 : List Nat) (args : List Value) (s : St) (a : Go.Act) (w : World) : Prop :=
  a.defers = [] ∧ ∃ ro hv F, Inv nt w ro s a.tmps args hv F [] ∧ Since w0 F0 w ∧ (∀ b, ro0 b → ro b) ∧ (∀ b, ro b → ro0 b ∨ b ∈ F0 ∨ w0.heap.size ≤ b) ∧ (∀ b, Rest s F b → b ∈ F0 ∨ w0.heap.size ≤ b)

section
variable {P : Program} {nt : Nat} {w w0 : World} {ro ro0 : Nat → Prop} {s : St} {a : Go.Act} {args : List Value} {hv : Nat → Value} {F : Nat → List Nat} {F0 : List Nat}

theorem Ok.step (hd : a.defers = []) (hS : Since w0 F0 w) (h1 : ∀ b, ro0 b → ro b) (h2 : ∀ b, ro b → ro0 b ∨ b ∈ F0 ∨ w0.heap.size ≤ b) (h3 : ∀ b, Rest s F b → b ∈ F0 ∨ w0.heap.size ≤ b)
    {s' : St} {w' : World} {ro' : Nat → Prop} {hv' : Nat → Value} {F' : Nat → List Nat} {a' : Go.Act} (ha : a'.defers = []) (hI : Inv nt w' ro' s' a'.tmps args hv' F' []) (hF : ∃ Fs, Since w Fs w' ∧ ∀ b ∈ Fs, Rest s F b) (k1 : ∀ b, ro b → ro' b) (k2 : ∀ b, ro' b → ro b ∨ Rest s F b ∨ w.heap.size ≤ b) (k3 : ∀ b, Rest s' F' b → Rest s F b ∨ w.heap.size ≤ b) :
    Ok nt w0 ro0 F0 args s' a' w' := by
  obtain ⟨Fs, hF1, hF2⟩ := hF
  have hsz := hS.size
  refine ⟨ha, ro', hv', F', hI, hS.trans hF1 (fun b hb => h3 b (hF2 b hb)), fun b hb => k1 b (h1 b hb), fun b hb => ?_, fun b hb => ?_⟩
  · rcases k2 b hb with hb | hb | hb
    · exact h2 b hb
    · exact .inr (h3 b hb)
    · exact .inr (.inr (by omega))
  · rcases k3 b hb with hb | hb
    · exact h3 b hb
    · exact .inr (by omega)

theorem wp_made {o : Oper} {d : Nat} {s' : St} {Q : Exit → Go.Act → World → Prop} (hdst : o.dst = some d) (hd : a.defers = []) (hS : Since w0 F0 w) (h1 : ∀ b, ro0 b → ro b) (h2 : ∀ b, ro b → ro0 b ∨ b ∈ F0 ∨ w0.heap.size ≤ b) (h3 : ∀ b, Rest s F b → b ∈ F0 ∨ w0.heap.size ≤ b)
    (hm : Made P nt w ro F args s s' a o d []) : o.wp P a w (Ok nt w0 ro0 F0 args s') Q := by
  obtain ⟨x, w', hv', F', hrun, hF, hI, hR⟩ := hm
  unfold Oper.wp
  rw [hrun, Oper.upon_value]
  refine Ok.step hd hS h1 h2 h3 (ro' := ro) (hv' := hv') (F' := F') (by simp [Act.put, hdst, hd]) (by simpa [Act.put, hdst] using hI) hF (fun _ h => h) (fun _ h => .inl h) (fun b ⟨r, t, ht, hb⟩ => hR r t b ht hb)
end
end Go.Proofs.YtplhecjngmkngaaT

/- Trees: an operation, run, goes from state to state. No condition. -/
set_option linter.unusedVariables false
set_option linter.unusedSimpArgs false
set_option linter.unusedSectionVars false
namespace Go.Proofs.YtplhecjngmkngaaT
open Go

section
variable {P : Program} {o : Oper}

theorem c_alloc {zs : List H} (hc : compI P o = some (.alloc zs)) : ∃ e, o.op = .alloc e ∧ zeroOf P e = some zs := by
  unfold compI at hc
  split at hc
  all_goals first
    | (simp at hc; done)
    | ((repeat' split at hc) <;> simp at hc; done)
    | skip
  rename_i e ho
  obtain ⟨z, h1, h2⟩ := Option.map_eq_some_iff.1 hc
  simp only [I.alloc.injEq] at h2; subst h2
  exact ⟨e, ho, h1⟩
theorem c_box {X' : X} (hc : compI P o = some (.box X')) : ∃ e x, o.op = .box e x ∧ toX x = some X' := by
  unfold compI at hc
  split at hc
  all_goals first
    | (simp at hc; done)
    | ((repeat' split at hc) <;> simp at hc; done)
    | skip
  rename_i e x ho
  obtain ⟨z, h1, h2⟩ := Option.map_eq_some_iff.1 hc
  simp only [I.box.injEq] at h2; subst h2
  exact ⟨e, x, ho, h1⟩
theorem c_lit {st len : Nat} {z : List H} {ps : List (Nat × X)} (hc : compI P o = some (.lit st len z ps)) : ∃ t e parts, o.op = .buildSlice t len parts ∧ P.underlying t = some (.slice e) ∧ szOf P e = some st ∧ zeroOf P e = some z ∧ litOf parts.toList = some ps ∧ len * st ≤ 2 ^ 24 := by
  unfold compI at hc
  split at hc
  all_goals first
    | (simp at hc; done)
    | ((repeat' split at hc) <;> simp at hc; done)
    | skip
  rename_i t len' parts ho
  split at hc
  · rename_i e k1
    split at hc
    · rename_i k2 k3 k4
      split at hc
      · rename_i k5
        simp only [Option.some.injEq, I.lit.injEq] at hc
        obtain ⟨rfl, rfl, rfl, rfl⟩ := hc
        exact ⟨t, e, parts, ho, slOf_eq k1, k2, k3, k4, k5⟩
      · simp at hc
    · simp at hc
  · simp at hc
theorem c_make {st bytes : Nat} {z : List H} {l c : X} (hc : compI P o = some (.make st z bytes l c)) : ∃ t e lo co i, o.op = .makeSlice t lo co ∧ P.underlying t = some (.slice e) ∧ P.info? e = some i ∧ i.size = st ∧ i.bytes = bytes ∧ zeroOf P e = some z ∧ toX lo = some l ∧ toX co = some c := by
  unfold compI at hc
  split at hc
  all_goals first
    | (simp at hc; done)
    | ((repeat' split at hc) <;> simp at hc; done)
    | skip
  rename_i t lo co ho
  split at hc
  · rename_i e k1
    split at hc
    · rename_i i _ _ _ k2 k3 k4 k5
      simp only [Option.some.injEq, I.make.injEq] at hc
      obtain ⟨rfl, rfl, rfl, rfl, rfl⟩ := hc
      exact ⟨t, e, lo, co, i, ho, slOf_eq k1, k2, rfl, rfl, k3, k4, k5⟩
    · simp at hc
  · simp at hc
theorem c_cvb {X' : X} (hc : compI P o = some (.cvb X')) : ∃ src dst e x, o.op = .convert src dst x ∧ P.underlying src = some .string ∧ P.underlying dst = some (.slice e) ∧ P.underlying e = some (.int .u8) ∧ toX x = some X' := by
  unfold compI at hc
  split at hc
  all_goals first
    | (simp at hc; done)
    | ((repeat' split at hc) <;> simp at hc; done)
    | skip
  rename_i src dst x ho
  split at hc
  · simp at hc
  · rename_i e k1 k2 k3
    split at hc
    · rename_i k4
      unfold isU8 at k4
      split at k4
      · rename_i k5
        simp only [Option.some.injEq, I.cvb.injEq] at hc; subst hc
        exact ⟨src, dst, _, x, ho, k1, k2, k5, k3⟩
      · simp at k4
    · simp at hc
  · split at hc <;> simp at hc
  · simp at hc
theorem c_store {k : Nat} {A X' : X} (hc : compI P o = some (.store k A X')) : ∃ t x y, o.op = .store t x y ∧ szOf P t = some k ∧ toX x = some A ∧ toX y = some X' := by
  unfold compI at hc
  split at hc
  all_goals first
    | (simp at hc; done)
    | ((repeat' split at hc) <;> simp at hc; done)
    | skip
  rename_i t x y ho
  split at hc
  · rename_i k1 k2 k3
    simp only [Option.some.injEq, I.store.injEq] at hc
    obtain ⟨rfl, rfl, rfl⟩ := hc
    exact ⟨t, x, y, ho, k1, k2, k3⟩
  · simp at hc
theorem c_call {f : FuncId} {Xs : List X} (hc : compI P o = some (.call f Xs)) : ∃ c fn, o.op = .call c ∧ c.callee = .value (.func f) ∧ P.funcs[f]? = some fn ∧ fn.body.isSome = true ∧ (fn.name != "runtime.NumGoroutine") = true ∧ toXs c.args.toList = some Xs := by
  unfold compI at hc
  split at hc
  all_goals first
    | (simp at hc; done)
    | ((repeat' split at hc) <;> simp at hc; done)
    | skip
  rename_i c ho
  split at hc
  · rename_i f' hb
    split at hc
    · rename_i fn k1
      split at hc
      · rename_i k2
        obtain ⟨Ys, k3, k4⟩ := Option.map_eq_some_iff.1 hc
        simp only [I.call.injEq] at k4
        obtain ⟨rfl, rfl⟩ := k4
        simp only [Bool.and_eq_true] at k2
        exact ⟨c, fn, ho, hb, k1, k2.1, k2.2, k3⟩
      · simp at hc
    · simp at hc
  all_goals (exfalso; (repeat' split at hc) <;> simp at hc)
theorem c_callv {x : X} {Xs : List X} (hc : compI P o = some (.callv x Xs)) : ∃ c t, o.op = .call c ∧ c.callee = .value (.tmp t) ∧ x = .t t ∧ toXs c.args.toList = some Xs := by
  unfold compI at hc
  split at hc
  all_goals first
    | (simp at hc; done)
    | ((repeat' split at hc) <;> simp at hc; done)
    | skip
  rename_i c ho
  split at hc
  · exfalso; (repeat' split at hc) <;> simp at hc
  · rename_i t hb
    obtain ⟨Ys, k3, k4⟩ := Option.map_eq_some_iff.1 hc
    simp only [I.callv.injEq] at k4
    obtain ⟨rfl, rfl⟩ := k4
    exact ⟨c, t, ho, hb, rfl, k3⟩
  all_goals (exfalso; (repeat' split at hc) <;> simp at hc)
def AppC (P : Program) (o : Oper) (st bytes : Nat) (z : List H) (x y : X) : Prop := ∃ c x' y' t tx e i, o.op = .call c ∧ c.callee = .builtin .append ∧ c.args = #[x', y'] ∧ c.argTypes[0]? = some t ∧ c.argTypes[1]? = some tx ∧ P.underlying t = some (.slice e) ∧ ((∃ e', P.underlying tx = some (.slice e')) ∨ P.underlying tx = some .string) ∧ P.info? e = some i ∧ i.size = st ∧ i.bytes = bytes ∧ zeroOf P e = some z ∧ toX x' = some x ∧ toX y' = some y
theorem c_app {st bytes : Nat} {z : List H} {x y : X} (hc : compI P o = some (.app st bytes z x y)) : AppC P o st bytes z x y := by
  unfold compI at hc
  split at hc
  all_goals first
    | (simp at hc; done)
    | ((repeat' split at hc) <;> simp at hc; done)
    | skip
  rename_i c ho
  split at hc
  · exfalso; (repeat' split at hc) <;> simp at hc
  · exfalso; simp at hc
  · exfalso; (repeat' split at hc) <;> simp at hc
  · rename_i hb
    have fin : ∀ {x' y' : Operand} {e : TypeId} {d : TypeDesc}, c.args.toList = [x', y'] → c.argTypes[0]?.bind (slOf P) = some e → c.argTypes[1]?.bind P.underlying = some d → ((∃ e', d = .slice e') ∨ d = .string) →
        (match P.info? e, zeroOf P e, toX x', toX y' with | some i, some z, some x, some y => some (I.app i.size i.bytes z x y) | _, _, _, _ => none) = some (.app st bytes z x y) → AppC P o st bytes z x y := by
      intro x' y' e d h1 h2 h3 h4 h5
      obtain ⟨t, g1, g2⟩ := Option.bind_eq_some_iff.1 h2
      obtain ⟨tx, g3, g4⟩ := Option.bind_eq_some_iff.1 h3
      split at h5
      · rename_i i _ _ _ k2 k3 k4 k5
        simp only [Option.some.injEq, I.app.injEq] at h5
        obtain ⟨rfl, rfl, rfl, rfl, rfl⟩ := h5
        exact ⟨c, x', y', t, tx, e, i, ho, hb, by rw [← Array.toList_inj]; simpa using h1, g1, g3, slOf_eq g2, h4.elim (fun ⟨e', h⟩ => .inl ⟨e', by rw [g4, h]⟩) (fun h => .inr (by rw [g4, h])), k2, rfl, rfl, k3, k4, k5⟩
      · simp at h5
    split at hc
    · rename_i q1 q2 q3; exact fin q1 q2 q3 (.inl ⟨_, rfl⟩) hc
    · rename_i q1 q2 q3; exact fin q1 q2 q3 (.inr rfl) hc
    · simp at hc
  all_goals (exfalso; (repeat' split at hc) <;> simp at hc)

theorem append_types (A : Array TypeId) (t tx ty : TypeId) (vs : Array Value) (h0 : A[0]? = some t) (h1 : A[1]? = some tx) : Builtin.append_ A ty vs = Builtin.append_ #[t, tx] ty vs := by
  unfold Builtin.append_
  rw [h0, h1]
  simp

theorem app_run {w : World} {a : Go.Act} {c : Call} {x y : Operand} {t tx : TypeId} (ho : o.op = .call c) (hb : c.callee = .builtin .append) (hargs : c.args = #[x, y]) (h0 : c.argTypes[0]? = some t) (h1 : c.argTypes[1]? = some tx) :
    (execOp a.eval o).run P w = ((Builtin.append_ #[t, tx] o.type #[a.eval x, a.eval y]).run P w).andThen fun v w' => .ok (.value v) w' := by
  simp only [execOp, ho, resolve, hb, hargs]
  simp [invoke, builtin, append_types _ t tx _ _ h0 h1, Sem.run_bind]

section
variable {nt : Nat} {w w0 : World} {ro0 : Nat → Prop} {s s' : St} {a : Go.Act} {args : List Value} {F0 : List Nat} {i : I}

theorem op_ok (hc : compI P o = some i) (hR : OpR P i o.dst s s') (hd : ∀ d, o.dst = some d → d < nt) (h : Ok nt w0 ro0 F0 args s a w) (Q : Exit → Go.Act → World → Prop) : o.wp P a w (Ok nt w0 ro0 F0 args s') Q := by
  obtain ⟨hdef, ro, hv, F, hI, hS, h1, h2, h3⟩ := h
  generalize hdst : o.dst = od at hR
  cases hR with
  | yld hY =>
    obtain ⟨x, hrun, hx⟩ := yld_run hI hc hY
    unfold Oper.wp
    rw [hrun, Oper.upon_value]
    exact Ok.step hdef hS h1 h2 h3 (ro' := ro) (hv' := hv) (F' := F) (by simp [Act.put, hdst, hdef]) (by simpa [Act.put, hdst] using hI.put (hd _ hdst) hx) ⟨[], Since.refl w [], by simp⟩ (fun _ h => h) (fun _ h => .inl h) (fun b hb => .inl hb)
  | alloc e1 e2 =>
    obtain ⟨e, ho, hz⟩ := c_alloc hc
    exact wp_made hdst hdef hS h1 h2 h3 (m_alloc hI (hd _ hdst) ho hz e1 e2)
  | box e1 e2 e3 e4 =>
    obtain ⟨e, x, ho, hx⟩ := c_box hc
    exact wp_made hdst hdef hS h1 h2 h3 (m_box hI (hd _ hdst) ho hx e1 e2 e3 e4)
  | boxR e1 e2 e3 e4 e5 =>
    obtain ⟨e, x, ho, hx⟩ := c_box hc
    exact wp_made hdst hdef hS h1 h2 h3 (m_boxR hI (hd _ hdst) ho hx e1 e2 e3 e4 e5)
  | lit e1 e2 e3 e4 e5 e6 e7 e8 =>
    obtain ⟨t, e, parts, ho, hu, hst, hz, hps, h24⟩ := c_lit hc
    exact wp_made hdst hdef hS h1 h2 h3 (m_lit hI (hd _ hdst) ho hu hst hz hps h24 e1 e2 e3 e4 e5 e6 e7 e8)
  | lit0 =>
    obtain ⟨t, e, parts, ho, hu, hst, hz, hps, h24⟩ := c_lit hc
    have hp : parts.toList = [] := by
      generalize hl : parts.toList = l at hps
      cases l with
      | nil => rfl
      | cons q l =>
        obtain ⟨i, x⟩ := q
        simp only [litOf] at hps
        cases k1 : toX x <;> cases k2 : litOf l <;> simp [k1, k2] at hps
    have hp2 : parts = #[] := by rw [← Array.toList_inj]; simpa using hp
    unfold szOf at hst
    obtain ⟨ie, hie, hsz⟩ := Option.map_eq_some_iff.1 hst
    have hrun : (execOp a.eval o).run P w = .ok (.value (.slice (some ⟨w.heap.size, 0, none⟩) 0 0)) (w.alloc (.cells #[] e)) := by
      subst hp2
      simp [execOp, ho, Instr.buildSlice, run_underlying hu, sizeOf, typeInfo, hie, newRow, Instr.fill, show Array.range 0 = #[] from rfl]
    unfold Oper.wp
    rw [hrun, Oper.upon_value]
    have hS2 := since_alloc w (.cells #[] e)
    have hI2 := hI.world hS2.size (fun k hk => hS2.block k hk (by simp))
    exact Ok.step hdef hS h1 h2 h3 (ro' := ro) (hv' := hv) (F' := F) (by simp [Act.put, hdst, hdef]) (by simpa [Act.put, hdst] using hI2.put (hd _ hdst) (v := .w (.one .nil)) (x := .slice (some ⟨w.heap.size, 0, none⟩) 0 0) ⟨_, rfl⟩) ⟨[], hS2, by simp⟩ (fun _ h => h) (fun _ h => .inl h) (fun b hb => .inl hb)
  | make e1 e2 e3 e4 e5 e6 e7 =>
    obtain ⟨t, e, lo, co, i, ho, hu, hi, rfl, rfl, hz, hl, hcc⟩ := c_make hc
    exact wp_made hdst hdef hS h1 h2 h3 (m_make hI (hd _ hdst) ho hu hi hz hl hcc e1 e2 e3 e4 e5 e6 e7)
  | cvb e1 e2 =>
    obtain ⟨src, dst, e, x, ho, k1, k2, k3, hx⟩ := c_cvb hc
    exact wp_made hdst hdef hS h1 h2 h3 (m_cvb hI (hd _ hdst) ho k1 k2 k3 hx e1 e2)
  | app0 e0 e1 e2 e3 e4 e5 e6 =>
    obtain ⟨c, x', y', t, tx, e, i, ho, hb, hargs, ht, htx, hu, hk, hi, rfl, rfl, hz, hx, hy⟩ := c_app hc
    have r1 := ev_rep hI hx e1
    have r2 := ev_rep hI hy e2
    simp only [VRep, WRep, HRep] at r1
    obtain ⟨A, r1⟩ := r1
    obtain ⟨F', Ft, news, k1, k2, k3, k4, k5⟩ := src_ok (P := P) (tx := tx) hI hk e3 r2
    unfold zeroOf at hz
    obtain ⟨z', hz1, hz2⟩ := Option.bind_eq_some_iff.1 hz
    obtain ⟨it, hi', hz3⟩ := Option.bind_eq_some_iff.1 hz1
    rw [hi] at hi'; obtain rfl := Option.some.inj hi'
    have hzl := constHs_len _ _ hz2
    rw [e0.1, Array.length_toList] at hzl
    have hrun := app_run (P := P) (w := w) (a := a) ho hb hargs ht htx
    rw [r1] at hrun
    have := app_own (P := P) (s := s) (F := F) (F1 := []) (G0 := []) (n := 0) (cs := []) (xv := .slice A 0 0) (y := a.eval y') (t := t) (tx := tx) (ty := o.type) (o := o) (hd _ hdst) (by simpa using k1) (by simp only [Rep]; exact .inl ⟨trivial, trivial, trivial, A, rfl⟩) k2 k3 e6 hu hi hz3 rfl e0.2 hzl.symm (by omega) (by simpa using e5) hrun k4 (by simpa using k5)
    exact wp_made hdst hdef hS h1 h2 h3 (by simpa using this)
  | app e0 e1 e2 e3 e4 e5 e6 e7 =>
    obtain ⟨c, x', y', t, tx, e, i, ho, hb, hargs, ht, htx, hu, hk, hi, rfl, rfl, hz, hx, hy⟩ := c_app hc
    have r1 := ev_rep hI hx e1
    have r2 := ev_rep hI hy e2
    simp only [VRep, WRep] at r1
    obtain ⟨F1, Ft, q1, q2, q3, q4, q5⟩ := take_ok hI e3 r1
    obtain ⟨F', Ft2, news, k1, k2, k3, k4, k5⟩ := src_ok (P := P) (tx := tx) q1 hk e4 (VRep_ren q5 _ _ r2)
    unfold zeroOf at hz
    obtain ⟨z', hz1, hz2⟩ := Option.bind_eq_some_iff.1 hz
    obtain ⟨it, hi', hz3⟩ := Option.bind_eq_some_iff.1 hz1
    rw [hi] at hi'; obtain rfl := Option.some.inj hi'
    have hzl := constHs_len _ _ hz2
    rw [e0.1, Array.length_toList] at hzl
    have hrun := app_run (P := P) (w := w) (a := a) ho hb hargs ht htx
    have back := fun r t b (h : get _ r = some t) hb => take_back e3 q3 r t b h hb
    have := app_own (P := P) (s := s) (F := F) (F1 := Ft) (G0 := []) (t := t) (tx := tx) (ty := o.type) (o := o) (hd _ hdst) (by simpa using k1) q2 k2 k3 e7 hu hi hz3 rfl e0.2 hzl.symm (by omega) e6 hrun (fun r t b h1 h2 => by
      obtain ⟨r', t', g1, g2⟩ := k4 r t b h1 h2
      exact back r' t' b g1 g2) (fun b hb => by
      rcases List.mem_append.1 hb with hb | hb
      · obtain ⟨r', t', g1, g2⟩ := k5 b hb
        exact back r' t' b g1 g2
      · exact q4 b hb)
    exact wp_made hdst hdef hS h1 h2 h3 this
  | store e1 e2 e3 e4 e5 e6 e7 =>
    obtain ⟨t, x, y, ho, hk, hx, hy⟩ := c_store hc
    obtain ⟨w', hv', F', hrun, hF, hI', hR'⟩ := m_store hI ho hk hx hy e1 e2 e3 e4 e5 e6 e7
    unfold Oper.wp
    rw [hrun, Oper.upon_skip]
    exact Ok.step hdef hS h1 h2 h3 (ro' := ro) (hv' := hv') (F' := F') (by simp [Act.put, hdst, hdef]) (by simpa [Act.put, hdst] using hI') hF (fun _ h => h) (fun _ h => .inl h) (fun b ⟨r, t, ht, hb⟩ => hR' r t b ht hb)
  | same e1 e2 e3 e4 e5 =>
    obtain ⟨t, x, y, ho, hk, hx, hy⟩ := c_store hc
    obtain ⟨w', hv', F', hrun, hF, hI', hR'⟩ := m_same hI ho hk hx hy e1 e2 e3 e4 e5
    unfold Oper.wp
    rw [hrun, Oper.upon_skip]
    exact Ok.step hdef hS h1 h2 h3 (ro' := ro) (hv' := hv') (F' := F') (by simp [Act.put, hdst, hdef]) (by simpa [Act.put, hdst] using hI') hF (fun _ h => h) (fun _ h => .inl h) (fun b ⟨r, t, ht, hb⟩ => hR' r t b ht hb)
  | call e1 e2 e3 e4 e5 e6 e7 =>
    rename_i ff xs ws A ts ls res outs gs z1 z2 z3
    obtain ⟨c, fn, ho, hb, hfn, hbody, hname, hXs⟩ := c_call hc
    have hws := toXs_ev hI _ _ _ hXs e1
    have hcall := call_ok hI hws e2 e3 e4 e5 e6 e7
    have hrun : (execOp a.eval o).run P w = .ok (.enter ff (c.args.toList.map a.eval).toArray) w := by
      have hn : fn.name ≠ "runtime.NumGoroutine" := by simpa [bne] using hname
      have hbn : fn.body ≠ none := fun h => by simp [h] at hbody
      simp [execOp, ho, resolve, hb, Act.eval, Deferred.ofValue, invoke, callFunc, hfn, hn, hbn]
      apply Array.ext'
      simp
    unfold Oper.wp
    rw [hrun, Oper.upon_enter]
    refine hcall.mono ?_
    rintro e w' ⟨v, rfl, ro', hv', F', q1, q2, q3, q4, q5, q6, q7⟩
    refine Ok.step hdef hS h1 h2 h3 (ro' := ro') (hv' := hv') (F' := F') ?_ ?_ q3 q4 q5 ?_
    · cases hdo : o.dst <;> simp [Act.put, hdo, hdef]
    · cases hdo : o.dst with
      | none => rw [hdo] at hdst; subst hdst; simpa [Act.put, putO] using q1
      | some d => rw [hdo] at hdst; subst hdst; simpa [Act.put, putO] using q1.put (hd d hdo) q2
    · intro b ⟨r, t, ht, hb⟩
      refine q6 b ⟨r, t, ?_, hb⟩
      cases od <;> exact ht
  | callK e1 e2 e3 e4 e5 e6 e7 e8 e9 =>
    rename_i ff xs ws A ts ls res outs gs z1 z2 z3 ks kv
    obtain ⟨c, fn, ho, hb, hfn, hbody, hname, hXs⟩ := c_call hc
    have hws := toXs_ev hI _ _ _ hXs e1
    have hcall := call_ok hI hws e2 e3 e4 e5 e6 e7
    have hrun : (execOp a.eval o).run P w = .ok (.enter ff (c.args.toList.map a.eval).toArray) w := by
      have hn : fn.name ≠ "runtime.NumGoroutine" := by simpa [bne] using hname
      have hbn : fn.body ≠ none := fun h => by simp [h] at hbody
      simp [execOp, ho, resolve, hb, Act.eval, Deferred.ofValue, invoke, callFunc, hfn, hn, hbn]
      apply Array.ext'
      simp
    unfold Oper.wp
    rw [hrun, Oper.upon_enter]
    refine hcall.mono ?_
    rintro e w' ⟨v, rfl, ro', hv', F', q1, q2, q3, q4, q5, q6, q7⟩
    have q8 := hI.keep q1 q7 e8 (fun i v hv => (e9 i v hv).1)
    refine Ok.step hdef hS h1 h2 h3 (ro' := ro') (hv' := hv') (F' := F') ?_ ?_ q3 q4 q5 ?_
    · cases hdo : o.dst <;> simp [Act.put, hdo, hdef]
    · cases hdo : o.dst with
      | none => rw [hdo] at hdst; subst hdst; simpa [Act.put, putO] using q8
      | some d => rw [hdo] at hdst; subst hdst; simpa [Act.put, putO] using q8.put (hd d hdo) q2
    · intro b ⟨r, t, ht, hb⟩
      refine q6 b ⟨r, t, ?_, hb⟩
      cases od <;> exact ht
  | callv e1 e2 e3 e4 e5 e6 e7 e8 e9 =>
    rename_i ff xx xs caps ws A ts ls res outs gs z1 z2 z3
    obtain ⟨c, t, ho, hb, rfl, hXs⟩ := c_callv hc
    obtain ⟨fn, hfn, hbody, hname⟩ := e2
    have hx := ev_rep hI (x := .tmp t) rfl e1
    simp only [VRep, WRep, HRep] at hx
    obtain ⟨cvs, hx1, hx2⟩ := hx
    have hws := toXs_ev hI _ _ _ hXs e3
    have happ : ∀ (ws : List W) (caps : List H) (vs us : List Value), WRepL w s.roots hv ws vs → HRepL w s.roots hv caps us → WRepL w s.roots hv (ws ++ caps.map W.one) (vs ++ us) := by
      intro ws
      induction ws with
      | nil =>
        intro caps vs us h1 h2
        simp only [WRepL] at h1; subst h1
        induction caps generalizing us with
        | nil => simp only [HRepL] at h2; subst h2; rfl
        | cons g caps ih => simp only [HRepL] at h2; obtain ⟨v, us', rfl, h3, h4⟩ := h2; exact ⟨v, us', rfl, h3, ih us' h4⟩
      | cons x ws ih =>
        intro caps vs us h1 h2
        obtain ⟨v, vs', rfl, h3, h4⟩ := h1
        exact ⟨v, vs' ++ us, rfl, h3, ih caps vs' us h4 h2⟩
    have hcall := call_ok hI (happ _ _ _ _ hws hx2) e4 e5 e6 e7 e8 e9
    have hrun : (execOp a.eval o).run P w = .ok (.enter ff (c.args.toList.map a.eval ++ cvs).toArray) w := by
      have hn : fn.name ≠ "runtime.NumGoroutine" := by simpa [bne] using hname
      have hbn : fn.body ≠ none := fun h => by simp [h] at hbody
      have hx1' : a.eval (.tmp t) = .func (.func ff) #[] cvs.toArray := hx1
      simp only [execOp, ho, resolve, hb, hx1']
      simp [Deferred.ofValue, invoke, callFunc, hfn, hn, hbn]
    unfold Oper.wp
    rw [hrun, Oper.upon_enter]
    refine hcall.mono ?_
    rintro e w' ⟨v, rfl, ro', hv', F', q1, q2, q3, q4, q5, q6, q7⟩
    refine Ok.step hdef hS h1 h2 h3 (ro' := ro') (hv' := hv') (F' := F') ?_ ?_ q3 q4 q5 ?_
    · cases hdo : o.dst <;> simp [Act.put, hdo, hdef]
    · cases hdo : o.dst with
      | none => rw [hdo] at hdst; subst hdst; simpa [Act.put, putO] using q1
      | some d => rw [hdo] at hdst; subst hdst; simpa [Act.put, putO] using q1.put (hd d hdo) q2
    · intro b ⟨r, t, ht, hb⟩
      refine q6 b ⟨r, t, ?_, hb⟩
      cases od <;> exact ht
end
end
end Go.Proofs.YtplhecjngmkngaaT

/- Trees: code on states; a function meets what is asked of it. No condition. -/
set_option linter.unusedVariables false
set_option linter.unusedSimpArgs false
set_option linter.unusedSectionVars false
namespace Go.Proofs.YtplhecjngmkngaaT
open Go

/-- an operation with its guard -/
structure Gop where
  g : Option (Nat × Bool)
  d : Option Nat
  i : I

inductive Ir where
  | skip
  | seq (a b : Ir)
  | region (ops : List Gop)
  | cond (x : X) (a b : Ir)
  | block (id : Nat) (b : Ir)
  | loop (b : Ir)
  | exit (id : Nat)
  | ret
  | mark (a : Ir)
  | draw (es : List (List Nat)) (ops : List Gop)

/-- a guard, as the temporary that it looks at -/
def guardOf (ops : Array Oper) : Option (Nat × Bool) → Option (Option (Nat × Bool))
  | none => some none
  | some (j, want) => match (ops[j]?).bind (·.dst) with | some d => some (some (d, want)) | none => none

def compO (P : Program) (nt : Nat) (ops : Array Oper) (o : Oper) : Option Gop :=
  match compI P o, guardOf ops o.guard with
  | some i, some g => match o.dst with
    | some d => if d < nt then some ⟨g, some d, i⟩ else none
    | none => some ⟨g, none, i⟩
  | _, _ => none
def compOs (P : Program) (nt : Nat) (ops : Array Oper) : List Oper → Option (List Gop)
  | [] => some []
  | o :: os => match compO P nt ops o, compOs P nt ops os with | some g, some gs => some (g :: gs) | _, _ => none

/-- the operations that one must come behind, in every order -/
def edgesOf (o : Oper) : List Nat := (o.after.toList.filter (Region.binds .any)).map (·.on)

def comp (P : Program) (nt : Nat) : Code → Option Ir
  | .skip => some .skip
  | .seq a b => match comp P nt a, comp P nt b with | some x, some y => some (.seq x y) | _, _ => none
  | .region _ ops false => (compOs P nt ops ops.toList).map .region
  | .region _ ops true => if P.follows .mixedOrders then (compOs P nt ops ops.toList).map (.draw (ops.toList.map edgesOf)) else none
  | .cond c a b => match toX c, comp P nt a, comp P nt b with | some c, some x, some y => some (.cond c x y) | _, _, _ => none
  | .block id b => (comp P nt b).map (.block id)
  | .loop b => (comp P nt b).map .loop
  | .exit id => some (.exit id)
  | .ret => some .ret
  | _ => none

/-- what a guard does not want: the other answer, or none -/
def Unw (want : Bool) (v : V) : Prop := v = .w (.one (.bool (!want))) ∨ v = .tup []
/-- operations one behind the other -/
inductive Ops (P : Program) : List Gop → St → St → Prop
  | nil (s : St) : Ops P [] s s
  | cons {g gs s s1 s2} : (match g.g with | none => True | some (t, want) => get s.env t = some (.w (.one (.bool want)))) → OpR P g.i g.d s s1 → Ops P gs s1 s2 → Ops P (g :: gs) s s2
  | pass {g gs s s2 t want v} : g.g = some (t, want) → get s.env t = some v → Unw want v → Ops P gs (putO s g.d (.tup [])) s2 → Ops P (g :: gs) s s2

/-- an operation with its guard -/
inductive GStep (P : Program) (g : Gop) (s : St) : St → Prop
  | run {s1} : (match g.g with | none => True | some (t, want) => get s.env t = some (.w (.one (.bool want)))) → OpR P g.i g.d s s1 → GStep P g s s1
  | pass {t want v} : g.g = some (t, want) → get s.env t = some v → Unw want v → GStep P g s (putO s g.d (.tup []))
/-- one state implies another -/
def Imp0 (s s' : St) : Prop := ∀ nt w ro tm args hv F, Inv nt w ro s tm args hv F [] → ∃ hv' F', Inv nt w ro s' tm args hv' F' [] ∧ ∀ b, Rest s' F' b → Rest s F b
/-- the same, where what was one's own may be read alone from then on -/
def Imp (s s' : St) : Prop := ∀ nt w ro tm args hv F, Inv nt w ro s tm args hv F [] → ∃ ro' hv' F', Inv nt w ro' s' tm args hv' F' [] ∧ (∀ b, Rest s' F' b → Rest s F b) ∧ (∀ b, ro b → ro' b) ∧ ∀ b, ro' b → ro b ∨ Rest s F b
theorem Imp.of0 {s s' : St} (h : Imp0 s s') : Imp s s' := fun nt w ro tm args hv F hi => by
  obtain ⟨hv', F', h1, h2⟩ := h nt w ro tm args hv F hi
  exact ⟨ro, hv', F', h1, h2, fun _ h => h, fun _ h => .inl h⟩

/-- those whose turn it can be -/
def rd (es : List (List Nat)) (listed : Array Bool) : List Nat := (List.range es.length).filter fun i => !listed.getD i true && ((es[i]?).map (·.all fun j => listed.getD j false)).getD false
/-- in whatever order -/
def AnyT (P : Program) (es : List (List Nat)) (gs : List Gop) (K : St → Prop) : Nat → Array Bool → St → Prop
  | 0, listed, s => rd es listed = [] ∧ K s
  | n + 1, listed, s => (rd es listed = [] → K s) ∧ ∀ i ∈ rd es listed, ∃ g s0 s1, gs[i]? = some g ∧ Imp s s0 ∧ GStep P g s0 s1 ∧ AnyT P es gs K n (listed.setIfInBounds i true) s1

inductive Ex' where
  | normal
  | exit (id : Nat)
  | ret

inductive Big (P : Program) : Ir → St → Ex' → St → Prop
  | skip (s : St) : Big P .skip s .normal s
  | seq {a b s s1 e s2} : Big P a s .normal s1 → Big P b s1 e s2 → Big P (.seq a b) s e s2
  | seqX {a b s e s1} : e ≠ .normal → Big P a s e s1 → Big P (.seq a b) s e s1
  | region {ops s s1} : Ops P ops s s1 → Big P (.region ops) s .normal s1
  | draw {es ops s s1} : AnyT P es ops (fun s' => Imp s' s1) es.length (Array.replicate es.length false) s → Big P (.draw es ops) s .normal s1
  | condT {x a b s e s1} : ev s x = some (.w (.one (.bool true))) → Big P a s e s1 → Big P (.cond x a b) s e s1
  | condF {x a b s e s1} : ev s x = some (.w (.one (.bool false))) → Big P b s e s1 → Big P (.cond x a b) s e s1
  | block {id b s s1} : Big P b s .normal s1 → Big P (.block id b) s .normal s1
  | blockX {id b s s1} : Big P b s (.exit id) s1 → Big P (.block id b) s .normal s1
  | blockO {id id' b s s1} : id' ≠ id → Big P b s (.exit id') s1 → Big P (.block id b) s (.exit id') s1
  | blockR {id b s s1} : Big P b s .ret s1 → Big P (.block id b) s .ret s1
  | loop {b s s1 e s2} : Big P b s .normal s1 → Big P (.loop b) s1 e s2 → Big P (.loop b) s e s2
  | loopX {b s e s1} : e ≠ .normal → Big P b s e s1 → Big P (.loop b) s e s1
  | exit {id} (s : St) : Big P (.exit id) s (.exit id) s
  | ret (s : St) : Big P .ret s .ret s
  | imp {ir s s' e s2} : Imp s s' → Big P ir s' e s2 → Big P ir s e s2

def exOf : Ex' → Exit
  | .normal => .normal
  | .exit id => .exit id
  | .ret => .ret

section
variable {P : Program} {nt : Nat} {w0 : World} {ro0 : Nat → Prop} {args : List Value} {F0 : List Nat}

theorem Ok.imp {s s' : St} {a : Go.Act} {w : World} (hi : Imp s s') (h : Ok nt w0 ro0 F0 args s a w) : Ok nt w0 ro0 F0 args s' a w := by
  obtain ⟨h1, ro, hv, F, h2, h3, h4, h5, h6⟩ := h
  obtain ⟨ro', hv', F', k1, k2, k3, k4⟩ := hi _ _ _ _ _ _ _ h2
  exact ⟨h1, ro', hv', F', k1, h3, fun b hb => k3 b (h4 b hb), fun b hb => (k4 b hb).elim (h5 b) (fun hr => .inr (h6 b hr)), fun b hb => h6 b (k2 b hb)⟩

theorem wp_weaken {o : Oper} {a : Go.Act} {w : World} {K K' : Go.Act → World → Prop} {Q : Exit → Go.Act → World → Prop} (h : ∀ a w, K a w → K' a w) (hw : o.wp P a w K Q) : o.wp P a w K' Q := by
  unfold Oper.wp at hw ⊢
  generalize (execOp a.eval o).run P w = r at hw ⊢
  unfold Oper.upon at hw ⊢
  split at hw
  · exact h _ _ hw
  · exact h _ _ hw
  · exact h _ _ hw
  · refine Calls.mono hw (fun e w' he => ?_)
    cases e with
    | returned v => exact h _ _ he
    | panicked c => exact he
    | outgrown => exact he
  · exact Rows.mono hw (fun v w' he => h _ _ he)
  · exact hw
  · exact hw.elim

theorem ops_ok {ops : Array Oper} {Q : Exit → Go.Act → World → Prop} : ∀ (l : List Nat) (os : List Oper) (gs : List Gop) (s s' : St) (a : Go.Act) (w : World), l.map (ops[·]?) = os.map some → compOs P nt ops os = some gs → Ops P gs s s' → Ok nt w0 ro0 F0 args s a w → (∀ a w, Ok nt w0 ro0 F0 args s' a w → Q .normal a w) → wpOps P ops Q l a w
  | [], os, gs, s, s', a, w, hl, hc, hO, h, hQ => by
    cases os with
    | cons => simp at hl
    | nil =>
      simp only [compOs, Option.some.injEq] at hc; subst hc
      cases hO
      exact hQ a w h
  | i :: l, os, gs, s, s', a, w, hl, hc, hO, h, hQ => by
    cases os with
    | nil => simp at hl
    | cons o os =>
      simp only [List.map_cons, List.cons.injEq] at hl
      simp only [compOs] at hc
      cases k1 : compO P nt ops o with
      | none => simp [k1] at hc
      | some g =>
        cases k2 : compOs P nt ops os with
        | none => simp [k1, k2] at hc
        | some gs' =>
          simp only [k1, k2, Option.some.injEq] at hc; subst hc
          have hg : compI P o = some g.i ∧ guardOf ops o.guard = some g.g ∧ g.d = o.dst ∧ ∀ d, o.dst = some d → d < nt := by
            unfold compO at k1
            split at k1
            · rename_i k3 k4
              split at k1
              · rename_i k5
                split at k1
                · rename_i k6
                  simp only [Option.some.injEq] at k1; subst k1
                  exact ⟨k3, k4, k5.symm, fun d' hd' => by rw [k5] at hd'; simp only [Option.some.injEq] at hd'; subst hd'; exact k6⟩
                · simp at k1
              · rename_i k5
                simp only [Option.some.injEq] at k1; subst k1
                exact ⟨k3, k4, k5.symm, fun d' hd' => by rw [k5] at hd'; simp at hd'⟩
            · simp at k1
          have hy : ∀ t want b, g.g = some (t, want) → get s.env t = some (.w (.one (.bool b))) → Region.wanted o (yielded ops a.tmps) = (b == want) := by
            intro t want b hgg hb
            obtain ⟨_, ro, hv, F, hI, _⟩ := h
            obtain ⟨x, hx1, hx2⟩ := hI.env t _ hb
            simp only [VRep, WRep, HRep] at hx2; subst hx2
            cases ho : o.guard with
            | none => rw [ho] at hg; simp only [guardOf, Option.some.injEq] at hg; rw [← hg.2.1] at hgg; simp at hgg
            | some jw =>
              obtain ⟨j, w'⟩ := jw
              have h2 := hg.2.1
              rw [ho] at h2
              simp only [guardOf] at h2
              cases hj : (ops[j]?).bind (·.dst) with
              | none => simp [hj] at h2
              | some d =>
                simp only [hj, Option.some.injEq] at h2
                rw [← h2] at hgg
                simp only [Option.some.injEq, Prod.mk.injEq] at hgg
                obtain ⟨rfl, rfl⟩ := hgg
                simp [Region.wanted, ho, yielded, hj, hx1]
          have hu : ∀ t want, g.g = some (t, want) → get s.env t = some (.tup []) → Region.wanted o (yielded ops a.tmps) = false := by
            intro t want hgg hb
            obtain ⟨_, ro, hv, F, hI, _⟩ := h
            obtain ⟨x, hx1, vs, rfl, hx2⟩ := hI.env t _ hb
            cases ho : o.guard with
            | none => rw [ho] at hg; simp only [guardOf, Option.some.injEq] at hg; rw [← hg.2.1] at hgg; simp at hgg
            | some jw =>
              obtain ⟨j, w'⟩ := jw
              have h2 := hg.2.1
              rw [ho] at h2
              simp only [guardOf] at h2
              cases hj : (ops[j]?).bind (·.dst) with
              | none => simp [hj] at h2
              | some d =>
                simp only [hj, Option.some.injEq] at h2
                rw [← h2] at hgg
                simp only [Option.some.injEq, Prod.mk.injEq] at hgg
                obtain ⟨rfl, rfl⟩ := hgg
                simp [Region.wanted, ho, yielded, hj, hx1]
          simp only [wpOps, hl.1]
          cases hO with
          | cons g1 g2 g3 =>
            have hw : Region.wanted o (yielded ops a.tmps) = true := by
              cases hgg : g.g with
              | none =>
                have h2 := hg.2.1
                rw [hgg] at h2
                cases ho : o.guard with
                | none => simp [Region.wanted, ho]
                | some jw => obtain ⟨j, w'⟩ := jw; rw [ho] at h2; simp only [guardOf] at h2; cases hj : (ops[j]?).bind (·.dst) <;> simp [hj] at h2
              | some tw =>
                obtain ⟨t, want⟩ := tw
                rw [hgg] at g1
                simpa using hy t want want hgg g1
            rw [if_pos hw]
            left
            have hop := op_ok (P := P) (nt := nt) (w0 := w0) (ro0 := ro0) (args := args) (F0 := F0) hg.1 (by rw [← hg.2.2.1]; exact g2) hg.2.2.2 h Q
            refine wp_weaken (fun a' w' h' => ?_) hop
            exact ops_ok l os gs' _ s' a' w' hl.2 k2 g3 h' hQ
          | pass g1 g2 gu g3 =>
            have hw : Region.wanted o (yielded ops a.tmps) = false := by
              rcases gu with rfl | rfl
              · have := hy _ _ _ g1 g2
                rename_i t want
                cases want <;> simpa using this
              · exact hu _ _ g1 g2
            rw [if_neg (by simp [hw])]
            refine ops_ok l os gs' _ s' _ w hl.2 k2 g3 ?_ hQ
            obtain ⟨h1, ro, hv, F, h2, h3, h4, h5, h6⟩ := h
            rw [hg.2.2.1]
            cases hdo : o.dst with
            | none => exact ⟨by simp [Act.put, h1], ro, hv, F, by simpa [Act.put, putO] using h2, h3, h4, h5, h6⟩
            | some d => exact ⟨by simp [Act.put, h1], ro, hv, F, by simpa [Act.put, putO] using h2.put (hg.2.2.2 d hdo) (v := .tup []) (x := undef) ⟨[], rfl, rfl⟩, h3, h4, h5, h6⟩

theorem compO_hg {ops : Array Oper} {o : Oper} {g : Gop} (k1 : compO P nt ops o = some g) : compI P o = some g.i ∧ guardOf ops o.guard = some g.g ∧ g.d = o.dst ∧ ∀ d, o.dst = some d → d < nt := by
  unfold compO at k1
  split at k1
  · rename_i k3 k4
    split at k1
    · rename_i k5
      split at k1
      · rename_i k6
        simp only [Option.some.injEq] at k1; subst k1
        exact ⟨k3, k4, k5.symm, fun d' hd' => by rw [k5] at hd'; simp only [Option.some.injEq] at hd'; subst hd'; exact k6⟩
      · simp at k1
    · rename_i k5
      simp only [Option.some.injEq] at k1; subst k1
      exact ⟨k3, k4, k5.symm, fun d' hd' => by rw [k5] at hd'; simp at hd'⟩
  · simp at k1
theorem gstep_ok {ops : Array Oper} {Q : Exit → Go.Act → World → Prop} {K : Go.Act → World → Prop} {i : Nat} {o : Oper} {g : Gop} {s s1 : St} {a : Go.Act} {w : World} (hi : ops[i]? = some o) (k1 : compO P nt ops o = some g) (hs : GStep P g s s1) (h : Ok nt w0 ro0 F0 args s a w) (hK : ∀ a w, Ok nt w0 ro0 F0 args s1 a w → K a w) : wpOp P ops Q i K a w := by
  have hg := compO_hg k1
  have hy : ∀ t want b, g.g = some (t, want) → get s.env t = some (.w (.one (.bool b))) → Region.wanted o (yielded ops a.tmps) = (b == want) := by
    intro t want b hgg hb
    obtain ⟨_, ro, hv, F, hI, _⟩ := h
    obtain ⟨x, hx1, hx2⟩ := hI.env t _ hb
    simp only [VRep, WRep, HRep] at hx2; subst hx2
    cases ho : o.guard with
    | none => rw [ho] at hg; simp only [guardOf, Option.some.injEq] at hg; rw [← hg.2.1] at hgg; simp at hgg
    | some jw =>
      obtain ⟨j, w'⟩ := jw
      have h2 := hg.2.1
      rw [ho] at h2
      simp only [guardOf] at h2
      cases hj : (ops[j]?).bind (·.dst) with
      | none => simp [hj] at h2
      | some d =>
        simp only [hj, Option.some.injEq] at h2
        rw [← h2] at hgg
        simp only [Option.some.injEq, Prod.mk.injEq] at hgg
        obtain ⟨rfl, rfl⟩ := hgg
        simp [Region.wanted, ho, yielded, hj, hx1]
  have hu : ∀ t want, g.g = some (t, want) → get s.env t = some (.tup []) → Region.wanted o (yielded ops a.tmps) = false := by
    intro t want hgg hb
    obtain ⟨_, ro, hv, F, hI, _⟩ := h
    obtain ⟨x, hx1, vs, rfl, hx2⟩ := hI.env t _ hb
    cases ho : o.guard with
    | none => rw [ho] at hg; simp only [guardOf, Option.some.injEq] at hg; rw [← hg.2.1] at hgg; simp at hgg
    | some jw =>
      obtain ⟨j, w'⟩ := jw
      have h2 := hg.2.1
      rw [ho] at h2
      simp only [guardOf] at h2
      cases hj : (ops[j]?).bind (·.dst) with
      | none => simp [hj] at h2
      | some d =>
        simp only [hj, Option.some.injEq] at h2
        rw [← h2] at hgg
        simp only [Option.some.injEq, Prod.mk.injEq] at hgg
        obtain ⟨rfl, rfl⟩ := hgg
        simp [Region.wanted, ho, yielded, hj, hx1]
  simp only [wpOp, hi]
  cases hs with
  | run g1 g2 =>
    have hw : Region.wanted o (yielded ops a.tmps) = true := by
      cases hgg : g.g with
      | none =>
        have h2 := hg.2.1
        rw [hgg] at h2
        cases ho : o.guard with
        | none => simp [Region.wanted, ho]
        | some jw => obtain ⟨j, w'⟩ := jw; rw [ho] at h2; simp only [guardOf] at h2; cases hj : (ops[j]?).bind (·.dst) <;> simp [hj] at h2
      | some tw =>
        obtain ⟨t, want⟩ := tw
        rw [hgg] at g1
        simpa using hy t want want hgg g1
    rw [if_pos hw]
    left
    have hop := op_ok (P := P) (nt := nt) (w0 := w0) (ro0 := ro0) (args := args) (F0 := F0) hg.1 (by rw [← hg.2.2.1]; exact g2) hg.2.2.2 h Q
    exact wp_weaken (fun a' w' h' => hK a' w' h') hop
  | pass g1 g2 gu =>
    have hw : Region.wanted o (yielded ops a.tmps) = false := by
      rcases gu with rfl | rfl
      · have := hy _ _ _ g1 g2
        rename_i t want
        cases want <;> simpa using this
      · exact hu _ _ g1 g2
    rw [if_neg (by simp [hw])]
    refine hK _ _ ?_
    obtain ⟨h1, ro, hv, F, h2, h3, h4, h5, h6⟩ := h
    rw [hg.2.2.1]
    cases hdo : o.dst with
    | none => exact ⟨by simp [Act.put, h1], ro, hv, F, by simpa [Act.put, putO] using h2, h3, h4, h5, h6⟩
    | some d => exact ⟨by simp [Act.put, h1], ro, hv, F, by simpa [Act.put, putO] using h2.put (hg.2.2.2 d hdo) (v := .tup []) (x := undef) ⟨[], rfl, rfl⟩, h3, h4, h5, h6⟩

theorem compOs_get {ops : Array Oper} : ∀ (l : List Oper) (gs : List Gop), compOs P nt ops l = some gs → ∀ (i : Nat) (g : Gop), gs[i]? = some g → ∃ o, l[i]? = some o ∧ compO P nt ops o = some g
  | [], gs, h, i, g, hg => by simp only [compOs, Option.some.injEq] at h; subst h; simp at hg
  | o :: l, gs, h, i, g, hg => by
    simp only [compOs] at h
    cases k1 : compO P nt ops o with
    | none => simp [k1] at h
    | some g' =>
      cases k2 : compOs P nt ops l with
      | none => simp [k1, k2] at h
      | some gs' =>
        simp only [k1, k2, Option.some.injEq] at h; subst h
        cases i with
        | zero => simp only [List.getElem?_cons_zero, Option.some.injEq] at hg; subst hg; exact ⟨o, rfl, k1⟩
        | succ i => simp only [List.getElem?_cons_succ] at hg ⊢; exact compOs_get l gs' k2 i g hg
theorem rd_ready (ops : Array Oper) (listed : Array Bool) : Region.ready .any ops listed = rd (ops.toList.map edgesOf) listed := by
  unfold Region.ready rd
  rw [List.length_map, Array.length_toList]
  congr 1
  funext i
  congr 1
  rw [List.getElem?_map]
  rw [Array.getElem?_toList]
  cases ops[i]? with
  | none => rfl
  | some o =>
    simp only [Option.map_some, Option.getD_some, edgesOf]
    rw [List.all_map, List.all_filter, ← Array.all_toList]
    congr 1
theorem any_ok {ops : Array Oper} {gs : List Gop} {K : St → Prop} {Q : Exit → Go.Act → World → Prop} (hc : compOs P nt ops ops.toList = some gs) (hK : ∀ s a w, K s → Ok nt w0 ro0 F0 args s a w → Q .normal a w) : ∀ (n : Nat) (listed : Array Bool) (s : St) (a : Go.Act) (w : World), AnyT P (ops.toList.map edgesOf) gs K n listed s → Ok nt w0 ro0 F0 args s a w → wpAny P .any ops Q n listed a w
  | 0, listed, s, a, w, h, ho => ⟨by rw [rd_ready]; exact h.1, hK s a w h.2 ho⟩
  | n + 1, listed, s, a, w, h, ho => by
    refine ⟨fun hr => hK s a w (h.1 (by rw [← rd_ready]; exact hr)) ho, fun i hi => ?_⟩
    rw [rd_ready] at hi
    obtain ⟨g, s0, s1, h1, h0, h2, h3⟩ := h.2 i hi
    obtain ⟨o, k1, k2⟩ := compOs_get _ _ hc i g h1
    exact gstep_ok (by simpa using k1) k2 h2 (ho.imp h0) (fun a w h' => any_ok hc hK n _ s1 a w h3 h')
theorem Ok.drew {s : St} {a : Go.Act} {w : World} (h : Ok nt w0 ro0 F0 args s a w) : Ok nt w0 ro0 F0 args s a { w with drawn := w.drawn + 1 } := by
  obtain ⟨h1, ro, hv, F, h2, h3, h4, h5, h6⟩ := h
  exact ⟨h1, ro, hv, F, h2.drew, ⟨h3.os, h3.tape, h3.output, h3.size, h3.block, h3.shape⟩, h4, h5, h6⟩

/-- within a loop -/
def LW (P : Program) (c : Code) (Q : Exit → Go.Act → World → Prop) (a : Go.Act) (w : World) : Prop :=
  ∀ (b : Frame) (k : List Item) (cs : List Frame), ∃ e a' w', Q e a' w' ∧ Arrives P (lone (b.at a (.code c :: .inLoop c :: k)) cs w) b k cs e a' w'
theorem LW.loop {c : Code} {Q : Exit → Go.Act → World → Prop} {a : Go.Act} {w : World} (h : LW P c Q a w) : (Code.loop c).wp P Q a w := fun b k cs =>
  let ⟨e, a', w', q, r⟩ := h b k cs; ⟨e, a', w', q, .of_steps (.one step_loop) r⟩
theorem LW.round {c : Code} {Q : Exit → Go.Act → World → Prop} {a : Go.Act} {w : World} (h : c.wp P (Exit.then (LW P c Q) Q) a w) : LW P c Q a w := by
  intro b k cs
  obtain ⟨e, a1, w1, hq, harr⟩ := h b (.inLoop c :: k) cs
  cases e with
  | normal =>
    obtain ⟨e2, a2, w2, hq2, harr2⟩ := hq b k cs
    exact ⟨e2, a2, w2, hq2, .of_steps (Steps.trans harr (.one step_inLoop)) harr2⟩
  | exit id => exact ⟨_, a1, w1, hq, .pass (x := .inLoop c) rfl (fun _ _ => .inl (by simp)) harr⟩
  | goto l => exact ⟨_, a1, w1, hq, .pass (x := .inLoop c) rfl (fun _ _ => .inl (by simp)) harr⟩
  | ret => exact ⟨_, a1, w1, hq, .pass (x := .inLoop c) rfl (fun _ _ => .inl (by simp)) harr⟩
  | panic ch => exact ⟨_, a1, w1, hq, .pass (x := .inLoop c) rfl (fun _ _ => .inl (by simp)) harr⟩
  | outgrown => exact ⟨_, a1, w1, hq, .pass (x := .inLoop c) rfl (fun _ _ => .inl (by simp)) harr⟩

theorem comp_seq {c : Code} {x y : Ir} (h : comp P nt c = some (.seq x y)) : ∃ a b, c = .seq a b ∧ comp P nt a = some x ∧ comp P nt b = some y := by
  cases c with
  | seq a b =>
    simp only [comp] at h
    cases k1 : comp P nt a <;> cases k2 : comp P nt b <;> simp [k1, k2] at h
    exact ⟨a, b, rfl, by rw [k1, h.1], by rw [k2, h.2]⟩
  | region id ops d => cases d <;> simp only [comp] at h <;> (try split at h) <;> simp at h
  | cond c a b => simp only [comp] at h; cases k0 : toX c <;> cases k1 : comp P nt a <;> cases k2 : comp P nt b <;> simp [k0, k1, k2] at h
  | _ => simp [comp] at h
theorem comp_region {c : Code} {gs : List Gop} (h : comp P nt c = some (.region gs)) : ∃ id ops, c = .region id ops false ∧ compOs P nt ops ops.toList = some gs := by
  cases c with
  | region id ops d =>
    cases d with
    | true => simp only [comp] at h; split at h <;> simp at h
    | false => simp only [comp, Option.map_eq_some_iff, Ir.region.injEq, exists_eq_right] at h; exact ⟨id, ops, rfl, h⟩
  | seq a b => simp only [comp] at h; cases k1 : comp P nt a <;> cases k2 : comp P nt b <;> simp [k1, k2] at h
  | cond c a b => simp only [comp] at h; cases k0 : toX c <;> cases k1 : comp P nt a <;> cases k2 : comp P nt b <;> simp [k0, k1, k2] at h
  | _ => simp [comp] at h
theorem comp_draw {c : Code} {es : List (List Nat)} {gs : List Gop} (h : comp P nt c = some (.draw es gs)) : ∃ id ops, c = .region id ops true ∧ compOs P nt ops ops.toList = some gs ∧ es = ops.toList.map edgesOf ∧ P.follows .mixedOrders = true := by
  cases c with
  | region id ops d =>
    cases d with
    | false => simp [comp] at h
    | true =>
      simp only [comp] at h
      split at h
      · rename_i hm
        simp only [Option.map_eq_some_iff, Ir.draw.injEq] at h
        obtain ⟨gs', h1, h2, rfl⟩ := h
        exact ⟨id, ops, rfl, h1, h2.symm, hm⟩
      · simp at h
  | seq a b => simp only [comp] at h; cases k1 : comp P nt a <;> cases k2 : comp P nt b <;> simp [k1, k2] at h
  | cond c a b => simp only [comp] at h; cases k0 : toX c <;> cases k1 : comp P nt a <;> cases k2 : comp P nt b <;> simp [k0, k1, k2] at h
  | _ => simp [comp] at h
theorem comp_cond {c : Code} {x : X} {y z : Ir} (h : comp P nt c = some (.cond x y z)) : ∃ o a b, c = .cond o a b ∧ toX o = some x ∧ comp P nt a = some y ∧ comp P nt b = some z := by
  cases c with
  | cond o a b =>
    simp only [comp] at h
    cases k0 : toX o <;> cases k1 : comp P nt a <;> cases k2 : comp P nt b <;> simp [k0, k1, k2] at h
    exact ⟨o, a, b, rfl, by rw [k0, h.1], by rw [k1, h.2.1], by rw [k2, h.2.2]⟩
  | region id ops d => cases d <;> simp only [comp] at h <;> (try split at h) <;> simp at h
  | seq a b => simp only [comp] at h; cases k1 : comp P nt a <;> cases k2 : comp P nt b <;> simp [k1, k2] at h
  | _ => simp [comp] at h
theorem comp_block {c : Code} {id : Nat} {x : Ir} (h : comp P nt c = some (.block id x)) : ∃ b, c = .block id b ∧ comp P nt b = some x := by
  cases c with
  | block id' b => simp only [comp, Option.map_eq_some_iff, Ir.block.injEq] at h; obtain ⟨y, h1, rfl, rfl⟩ := h; exact ⟨b, rfl, h1⟩
  | region id ops d => cases d <;> simp only [comp] at h <;> (try split at h) <;> simp at h
  | seq a b => simp only [comp] at h; cases k1 : comp P nt a <;> cases k2 : comp P nt b <;> simp [k1, k2] at h
  | cond c a b => simp only [comp] at h; cases k0 : toX c <;> cases k1 : comp P nt a <;> cases k2 : comp P nt b <;> simp [k0, k1, k2] at h
  | _ => simp [comp] at h
theorem comp_loop {c : Code} {x : Ir} (h : comp P nt c = some (.loop x)) : ∃ b, c = .loop b ∧ comp P nt b = some x := by
  cases c with
  | loop b => simp only [comp, Option.map_eq_some_iff, Ir.loop.injEq, exists_eq_right] at h; exact ⟨b, rfl, h⟩
  | region id ops d => cases d <;> simp only [comp] at h <;> (try split at h) <;> simp at h
  | seq a b => simp only [comp] at h; cases k1 : comp P nt a <;> cases k2 : comp P nt b <;> simp [k1, k2] at h
  | cond c a b => simp only [comp] at h; cases k0 : toX c <;> cases k1 : comp P nt a <;> cases k2 : comp P nt b <;> simp [k0, k1, k2] at h
  | _ => simp [comp] at h
theorem comp_exit {c : Code} {id : Nat} (h : comp P nt c = some (.exit id)) : c = .exit id := by
  cases c with
  | exit id' => simp only [comp, Option.some.injEq, Ir.exit.injEq] at h; rw [h]
  | region id ops d => cases d <;> simp only [comp] at h <;> (try split at h) <;> simp at h
  | seq a b => simp only [comp] at h; cases k1 : comp P nt a <;> cases k2 : comp P nt b <;> simp [k1, k2] at h
  | cond c a b => simp only [comp] at h; cases k0 : toX c <;> cases k1 : comp P nt a <;> cases k2 : comp P nt b <;> simp [k0, k1, k2] at h
  | _ => simp [comp] at h
theorem comp_ret {c : Code} (h : comp P nt c = some .ret) : c = .ret := by
  cases c with
  | ret => rfl
  | region id ops d => cases d <;> simp only [comp] at h <;> (try split at h) <;> simp at h
  | seq a b => simp only [comp] at h; cases k1 : comp P nt a <;> cases k2 : comp P nt b <;> simp [k1, k2] at h
  | cond c a b => simp only [comp] at h; cases k0 : toX c <;> cases k1 : comp P nt a <;> cases k2 : comp P nt b <;> simp [k0, k1, k2] at h
  | _ => simp [comp] at h
theorem comp_skip {c : Code} (h : comp P nt c = some .skip) : c = .skip := by
  cases c with
  | skip => rfl
  | region id ops d => cases d <;> simp only [comp] at h <;> (try split at h) <;> simp at h
  | seq a b => simp only [comp] at h; cases k1 : comp P nt a <;> cases k2 : comp P nt b <;> simp [k1, k2] at h
  | cond c a b => simp only [comp] at h; cases k0 : toX c <;> cases k1 : comp P nt a <;> cases k2 : comp P nt b <;> simp [k0, k1, k2] at h
  | _ => simp [comp] at h

/-- what the end of code is -/
def At (nt : Nat) (w0 : World) (ro0 : Nat → Prop) (F0 : List Nat) (args : List Value) (e : Ex') (s : St) : Exit → Go.Act → World → Prop := fun e' a w => e' = exOf e ∧ Ok nt w0 ro0 F0 args s a w

theorem cond_ev {s : St} {a : Go.Act} {w : World} {o : Operand} {x : X} {b : Bool} (h : Ok nt w0 ro0 F0 args s a w) (hx : toX o = some x) (he : ev s x = some (.w (.one (.bool b)))) : a.eval o = .bool b := by
  obtain ⟨_, ro, hv, F, hI, _⟩ := h
  have := ev_rep hI hx he
  simpa only [VRep, WRep, HRep] using this

theorem big_ok {ir : Ir} {s s' : St} {e : Ex'} (hb : Big P ir s e s') : ∀ (c : Code), comp P nt c = some ir → ∀ (a : Go.Act) (w : World), Ok nt w0 ro0 F0 args s a w →
    c.wp P (At nt w0 ro0 F0 args e s') a w ∧ ∀ body, c = .loop body → LW P body (At nt w0 ro0 F0 args e s') a w := by
  induction hb with
  | skip s =>
    intro c hc a w h
    obtain rfl := comp_skip hc
    exact ⟨wp_skip ⟨rfl, h⟩, fun body hb => by simp at hb⟩
  | seq h1 h2 ih1 ih2 =>
    intro c hc a w h
    obtain ⟨x, y, rfl, hx, hy⟩ := comp_seq hc
    refine ⟨wp_seq (wp_mono (ih1 x hx a w h).1 fun e' a' w' he => ?_), fun body hb => by simp at hb⟩
    obtain ⟨rfl, he⟩ := he
    exact (ih2 y hy a' w' he).1
  | seqX hne h1 ih1 =>
    intro c hc a w h
    obtain ⟨x, y, rfl, hx, hy⟩ := comp_seq hc
    refine ⟨wp_seq (wp_mono (ih1 x hx a w h).1 fun e' a' w' he => ?_), fun body hb => by simp at hb⟩
    obtain ⟨rfl, he⟩ := he
    rename_i _ _ _ e _
    cases e with
    | normal => exact absurd rfl hne
    | exit id => exact ⟨rfl, he⟩
    | ret => exact ⟨rfl, he⟩
  | region h1 =>
    intro c hc a w h
    obtain ⟨id, ops, rfl, hx⟩ := comp_region hc
    refine ⟨wp_region (ops_ok _ _ _ _ _ a w ?_ hx h1 h (fun a w h => ⟨rfl, h⟩)), fun body hb => by simp at hb⟩
    apply List.ext_getElem?
    intro i
    by_cases hi : i < ops.size
    · simp [hi]
    · simp [hi]
  | draw h1 =>
    intro c hc a w h
    obtain ⟨id, ops, rfl, hx, rfl, hm⟩ := comp_draw hc
    refine ⟨wp_region_any hm ?_, fun body hb => by simp at hb⟩
    simp only [List.length_map, Array.length_toList] at h1
    exact any_ok hx (fun s a w hi ho => ⟨rfl, ho.imp hi⟩) _ _ _ _ _ h1 h.drew
  | condT he h1 ih =>
    intro c hc a w h
    obtain ⟨o, x, y, rfl, ho, hx, hy⟩ := comp_cond hc
    exact ⟨wp_cond_true (cond_ev h ho he) (ih x hx a w h).1, fun body hb => by simp at hb⟩
  | condF he h1 ih =>
    intro c hc a w h
    obtain ⟨o, x, y, rfl, ho, hx, hy⟩ := comp_cond hc
    exact ⟨wp_cond_false (cond_ev h ho he) (ih y hy a w h).1, fun body hb => by simp at hb⟩
  | block h1 ih =>
    intro c hc a w h
    obtain ⟨b, rfl, hx⟩ := comp_block hc
    refine ⟨wp_block (wp_mono (ih b hx a w h).1 fun e' a' w' he => ?_), fun body hb => by simp at hb⟩
    obtain ⟨rfl, he⟩ := he
    exact ⟨rfl, he⟩
  | blockX h1 ih =>
    intro c hc a w h
    obtain ⟨b, rfl, hx⟩ := comp_block hc
    refine ⟨wp_block (wp_mono (ih b hx a w h).1 fun e' a' w' he => ?_), fun body hb => by simp at hb⟩
    obtain ⟨rfl, he⟩ := he
    simp only [exOf, Exit.inBlock, if_true]
    exact ⟨rfl, he⟩
  | blockO hne h1 ih =>
    intro c hc a w h
    obtain ⟨b, rfl, hx⟩ := comp_block hc
    refine ⟨wp_block (wp_mono (ih b hx a w h).1 fun e' a' w' he => ?_), fun body hb => by simp at hb⟩
    obtain ⟨rfl, he⟩ := he
    simp only [exOf, Exit.inBlock, if_neg hne]
    exact ⟨rfl, he⟩
  | blockR h1 ih =>
    intro c hc a w h
    obtain ⟨b, rfl, hx⟩ := comp_block hc
    refine ⟨wp_block (wp_mono (ih b hx a w h).1 fun e' a' w' he => ?_), fun body hb => by simp at hb⟩
    obtain ⟨rfl, he⟩ := he
    exact ⟨rfl, he⟩
  | loop h1 h2 ih1 ih2 =>
    intro c hc a w h
    have hc' := hc
    obtain ⟨b, rfl, hx⟩ := comp_loop hc
    have hlw : LW P b (At nt w0 ro0 F0 args _ _) a w := LW.round (wp_mono (ih1 b hx a w h).1 fun e' a' w' he => by
      obtain ⟨rfl, he⟩ := he
      exact (ih2 _ hc' a' w' he).2 b rfl)
    exact ⟨hlw.loop, fun body hb => by simp at hb; subst hb; exact hlw⟩
  | loopX hne h1 ih1 =>
    intro c hc a w h
    obtain ⟨b, rfl, hx⟩ := comp_loop hc
    rename_i _ _ e _
    have hlw : LW P b (At nt w0 ro0 F0 args e _) a w := LW.round (wp_mono (ih1 b hx a w h).1 fun e' a' w' he => by
      obtain ⟨rfl, he⟩ := he
      cases e with
      | normal => exact absurd rfl hne
      | exit id => exact ⟨rfl, he⟩
      | ret => exact ⟨rfl, he⟩)
    exact ⟨hlw.loop, fun body hb => by simp at hb; subst hb; exact hlw⟩
  | exit s =>
    intro c hc a w h
    obtain rfl := comp_exit hc
    exact ⟨wp_exit ⟨rfl, h⟩, fun body hb => by simp at hb⟩
  | ret s =>
    intro c hc a w h
    obtain rfl := comp_ret hc
    exact ⟨wp_ret ⟨rfl, h⟩, fun body hb => by simp at hb⟩
  | imp hi h1 ih =>
    intro c hc a w h
    exact ih c hc a w (h.imp hi)
end
end Go.Proofs.YtplhecjngmkngaaT

/- Trees: a function's frame: what it begins with, what it ends with. No condition. -/
set_option linter.unusedVariables false
set_option linter.unusedSimpArgs false
set_option linter.unusedSectionVars false
namespace Go.Proofs.YtplhecjngmkngaaT
open Go

inductive Rx where
  | tmp (t : Nat)
  | cell (t : Nat) (k : Option Nat)
def compR (P : Program) : List ResultVar → Option (List Rx)
  | [] => some []
  | .tmp t :: rs => (compR P rs).map (.tmp t :: ·)
  | .cell t ty :: rs => match kOf P ty, compR P rs with | some k, some l => some (.cell t k :: l) | _, _ => none

/-- a result, told of the state -/
inductive ResW (s : St) : Rx → W → Prop
  | tmp {t x} : get s.env t = some (.w x) → ResW s (.tmp t) x
  | cell1 {t r p off tr c g} : get s.env t = some (.w (.one (.hp r p off))) → get s.roots r = some tr → sub tr (p ++ [off]) = some c → hOf r (p ++ [off]) c = some g → ResW s (.cell t none) (.one g)
  | cellK {t k r p off tr ob gs} : get s.env t = some (.w (.one (.hp r p off))) → get s.roots r = some tr → sub tr p = some ob → hsOf r p (cells ob) off k = some gs → ResW s (.cell t (some k)) (.agg gs)
inductive ResWs (s : St) : List Rx → List W → Prop
  | nil : ResWs s [] []
  | cons {x xs y ys} : ResW s x y → ResWs s xs ys → ResWs s (x :: xs) (y :: ys)

/-- what is left of what came in -/
inductive Outs : St → List H → List T → St → Prop
  | nil (z : St) : Outs z [] [] z
  | hole {z z' : St} {g gs ts} : Outs z gs ts z' → Outs z (g :: gs) (.hole :: ts) z'
  | take {z z1 z' : St} {g t gs ts f} : Take z g t z1 f → Outs z1 (renHL f gs) ts z' → Outs z (g :: gs) (t :: ts) z'

def envOf : Nat → List W → List (Nat × V)
  | _, [] => []
  | i, x :: xs => (i, .w x) :: envOf (i + 1) xs

/-- a frame's first state -/
def Enter (targs : List TW) (s : St) : Prop := ∃ gs z, Bring ⟨[], [], []⟩ (targs.flatMap TW.cells) gs z ∧ s = ⟨envOf 0 (wsOf targs gs), z.roots, wsOf targs gs⟩

def tvOf : List W → List T → TV
  | ws, ts => if ws.length = 1 then .w ((tws ws ts).headD (.agg [])) else .tup (tws ws ts)

/-- a frame's last state yields res and leaves outs -/
def Leave (rx : List Rx) (s : St) (res : TV) (outs : List TW) : Prop :=
  ∃ ws ts s1 ts' s2, ResWs s rx ws ∧ (∀ w ∈ ws, ∀ g, w = .one g → live s.roots g = true) ∧ Grab s ((ws.flatMap W.cells)) ts s1 ∧ res = tvOf ws ts ∧ Outs s1 (s1.par.flatMap W.cells) ts' s2 ∧ outs = tws s1.par ts'

section
variable {P : Program} {nt : Nat} {w w0 : World} {ro ro0 : Nat → Prop} {s : St} {a : Go.Act} {args : List Value} {hv : Nat → Value} {F : Nat → List Nat} {F0 G : List Nat}

theorem res_run (h : Inv nt w ro s a.tmps args hv F G) {g : ResultVar → Sem Value} (hg1 : ∀ t, g (.tmp t) = pure (a.tmps.getD t undef)) (hg2 : ∀ b t, g (.cell b t) = (do loadVar t (← asAddr (a.tmps.getD b undef)))) : ∀ (rs : List ResultVar) (rx : List Rx) (ws : List W), compR P rs = some rx → ResWs s rx ws → ∃ vs : List Value, WRepL w s.roots hv ws vs ∧ vs.length = ws.length ∧
    (rs.mapM g).run P w = .ok vs w
  | [], rx, ws, hc, hr => by
    simp only [compR, Option.some.injEq] at hc; subst hc
    cases hr
    exact ⟨[], rfl, rfl, by simp⟩
  | .tmp t :: rs, rx, ws, hc, hr => by
    simp only [compR, Option.map_eq_some_iff] at hc
    obtain ⟨rx', hc, rfl⟩ := hc
    cases hr with
    | cons h1 h2 =>
      cases h1 with
      | tmp e1 =>
        obtain ⟨vs, k1, k2, k3⟩ := res_run h hg1 hg2 rs rx' _ hc h2
        obtain ⟨x, e2, e3⟩ := h.env t _ e1
        refine ⟨x :: vs, ⟨x, vs, rfl, e3, k1⟩, by simp [k2], ?_⟩
        rw [List.mapM_cons, hg1]
        simp only [Array.getD_eq_getD_getElem?, e2, Option.getD_some]
        simp [k3]
  | .cell b t :: rs, rx, ws, hc, hr => by
    simp only [compR] at hc
    cases hk : kOf P t with
    | none => simp [hk] at hc
    | some k =>
      cases hl : compR P rs with
      | none => simp [hk, hl] at hc
      | some rx' =>
        simp only [hk, hl, Option.some.injEq] at hc; subst hc
        cases hr with
        | cons h1 h2 =>
          rename_i y ys
          obtain ⟨vs, k1, k2, k3⟩ := res_run h hg1 hg2 rs rx' _ hl h2
          have key : ∃ x, WRep w s.roots hv y x ∧ (do loadVar t (← asAddr (a.tmps.getD b undef)) : Sem Value).run P w = .ok x w := by
            have hload : ∀ (v : V), Yld (.load k (.t b)) s v → ∃ x, VRep w s.roots hv v x ∧ (do loadVar t (← asAddr (a.tmps.getD b undef)) : Sem Value).run P w = .ok x w := by
              intro v hy
              have := r_load (P := P) h (o := { dst := none, op := .load t (.tmp b), type := 0, pos := "", after := #[], guard := none }) rfl hk (x := .tmp b) rfl hy
              obtain ⟨x, q1, q2⟩ := this
              refine ⟨x, q2, ?_⟩
              simp only [execOp, Instr.loadAt, Act.eval] at q1
              have hp : ∃ ad, a.tmps.getD b undef = .pointer (some ad) := by
                cases hy with
                | load1 e1 e2 e3 e4 =>
                  have := ev_rep h (x := .tmp b) rfl e1
                  simp only [VRep, WRep, HRep] at this
                  obtain ⟨_, _, b', o', _, _, _, r3⟩ := this.2 _ e2
                  exact ⟨_, r3⟩
                | loadK e1 e2 e3 e4 =>
                  have := ev_rep h (x := .tmp b) rfl e1
                  simp only [VRep, WRep, HRep] at this
                  obtain ⟨_, _, b', o', _, _, _, r3⟩ := this.2 _ e2
                  exact ⟨_, r3⟩
              obtain ⟨ad, hp⟩ := hp
              rw [hp] at q1 ⊢
              simp only [Instr.sureAddr, asAddr] at q1 ⊢
              cases hr : (loadVar t ad).run P w with
              | ok y w2 => simp [hr] at q1 ⊢; exact q1
              | halt y w2 => simp [hr] at q1
            cases h1 with
            | cell1 e1 e2 e3 e4 => obtain ⟨x, q1, q2⟩ := hload _ (.load1 (a := .t b) e1 e2 e3 e4); exact ⟨x, q1, q2⟩
            | cellK e1 e2 e3 e4 => obtain ⟨x, q1, q2⟩ := hload _ (.loadK (a := .t b) e1 e2 e3 e4); exact ⟨x, q1, q2⟩
          obtain ⟨x, q1, q2⟩ := key
          refine ⟨x :: vs, ⟨x, vs, rfl, q1, k1⟩, by simp [k2], ?_⟩
          rw [List.mapM_cons, hg2, Sem.run_bind, q2]
          simp [k3]

def resG (a : Go.Act) : ResultVar → Sem Value
  | .tmp t => pure (a.tmps.getD t undef)
  | .cell b t => do loadVar t (← asAddr (a.tmps.getD b undef))
theorem results_of {fn : Func} {vs : List Value} (h : (fn.results.toList.mapM (resG a)).run P w = .ok vs w) : (results fn a.tmps).run P w = .ok (if h : vs.toArray.size = 1 then vs.toArray[0] else .tuple vs.toArray) w := by
  have e : results fn a.tmps = (do let vs ← fn.results.mapM (resG a); pure (if h : vs.size = 1 then vs[0] else .tuple vs)) := by
    unfold results
    congr 1
    first | done | (congr 1; done) | (funext r; cases r <;> rfl)
  rw [e, Sem.run_bind, Array.mapM_eq_mapM_toList, Sem.run_map, h]
  rfl

theorem outs_ok : ∀ {z z' : St} {gs : List H} {ts : List T}, Outs z gs ts z' → ∀ {F : Nat → List Nat} {G : List Nat} {vs : List Value}, Inv nt w ro z a.tmps args hv F G → HRepL w z.roots hv gs vs →
    ∃ F' Ft, Inv nt w ro z' a.tmps args hv F' (Ft ++ G) ∧ RepV w ro ts vs Ft ∧ (∀ b, Rest z' F' b → Rest z F b) ∧ (∀ b ∈ Ft, Rest z F b) := by
  intro z z' gs ts ho
  induction ho with
  | nil z =>
    intro F G vs h hr
    simp only [HRepL] at hr; subst hr
    exact ⟨F, [], by simpa using h, by simp [RepV], fun _ h => h, by simp⟩
  | hole h1 ih =>
    intro F G vs h hr
    simp only [HRepL] at hr
    obtain ⟨v, vs', rfl, r1, r2⟩ := hr
    obtain ⟨F', Ft, k1, k2, k3, k4⟩ := ih h r2
    refine ⟨F', Ft, k1, ?_, k3, k4⟩
    simp only [RepV]
    exact ⟨v, vs', [], Ft, rfl, by simp [Rep], k2, rfl⟩
  | take h1 h2 ih =>
    intro F G vs h hr
    simp only [HRepL] at hr
    obtain ⟨v, vs', rfl, r1, r2⟩ := hr
    obtain ⟨F1, Ft1, k1, k2, k3, k4, k5⟩ := take_ok h h1 r1
    obtain ⟨F', Ft, m1, m2, m3, m4⟩ := ih k1 (HRepL_ren k5 _ _ r2)
    have back : ∀ b, Rest _ F1 b → Rest _ F b := fun b ⟨r, t, e1, e2⟩ => take_back h1 k3 r t b e1 e2
    refine ⟨F', Ft1 ++ Ft, m1.hand (fun x hx => by simp only [List.mem_append] at hx ⊢; rcases hx with (hx | hx) | hx <;> simp [hx]) ?_, ?_, fun b hb => back b (m3 b hb), fun b hb => ?_⟩
    · rw [List.append_assoc]; exact (List.perm_append_comm_assoc Ft Ft1 _).nodup_iff.1 m1.gnd
    · simp only [RepV]
      exact ⟨v, vs', Ft1, Ft, rfl, k2, m2, rfl⟩
    · rcases List.mem_append.1 hb with hb | hb
      · exact k4 b hb
      · exact back b (m4 b hb)

theorem RTWL_len : ∀ (xs : List TW) (vs : List Value) (F : List Nat), RTWL w ro xs vs F → vs.length = xs.length
  | [], vs, F, h => by simp only [RTWL] at h; simp [h.1]
  | x :: xs, vs, F, h => by
    simp only [RTWL] at h
    obtain ⟨v, vs', F1, F2, rfl, _, h3, rfl⟩ := h
    simp [RTWL_len xs vs' F2 h3]

theorem envOf_get {roots : List (Nat × T)} : ∀ (ws : List W) (vs : List Value) (k i : Nat) (v : V), WRepL w roots hv ws vs → get (envOf k ws) i = some v → ∃ j x, i = k + j ∧ vs[j]? = some x ∧ VRep w roots hv v x
  | [], vs, k, i, v, h, hg => by simp [envOf, get] at hg
  | x :: ws, vs, k, i, v, ⟨u, vs', e, h1, h2⟩, hg => by
    subst e
    simp only [envOf, get] at hg
    split at hg
    · simp only [Option.some.injEq] at hg; subst hg
      exact ⟨0, u, by omega, rfl, h1⟩
    · obtain ⟨j, y, e1, e2, e3⟩ := envOf_get ws vs' (k + 1) i v h2 hg
      exact ⟨j + 1, y, by omega, by simpa using e2, e3⟩

theorem meets {f : FuncId} {fn : Func} {c : Code} {ir : Ir} {rx : List Rx} {targs : List TW} {s0 s1 : St} {e : Ex'} {res : TV} {outs : List TW} (hf : P.funcs[f]? = some fn) (hb : fn.body = some c) (hc : comp P fn.ntmps c = some ir) (hn : targs.length ≤ fn.ntmps) (hrx : compR P fn.results.toList = some rx)
    (hen : Enter targs s0) (hbig : Big P ir s0 e s1) (he : e = .normal ∨ e = .ret) (hl : Leave rx s1 res outs) : Meets P f targs res outs := by
  intro w ro args F hargs hnd hnro hlt
  obtain ⟨gs, z, hbr, rfl⟩ := hen
  have hlen := RTWL_len _ _ _ hargs
  have hsz : (args.toArray ++ Array.replicate (fn.ntmps - args.toArray.size) undef).size = fn.ntmps := by simp; omega
  generalize htm : args.toArray ++ Array.replicate (fn.ntmps - args.toArray.size) undef = tm at hsz
  have h00 : Inv fn.ntmps w ro ⟨[], [], []⟩ tm [] (fun _ => undef) (fun _ => []) (F ++ []) :=
    { rep := fun r t h => by simp [get] at h
      nd := fun r t h => by simp [get] at h
      dis := fun r t _ _ h => by simp [get] at h
      nro := fun r t h => by simp [get] at h
      gnd := by simpa using hnd
      gdis := fun r t h => by simp [get] at h
      gnro := fun b hb => hnro b (by simpa using hb)
      glt := fun b hb => RepV.lt _ _ _ (RTWL_flat _ _ _ hargs) b (by simpa using hb)
      rolt := hlt
      sz := hsz
      env := fun i v h => by simp [get] at h
      par := rfl }
  obtain ⟨hv, F', k1, _, k3, k4⟩ := bring_ok hbr h00 (RTWL_flat _ _ _ hargs)
  have hws := wsOf_rep _ _ _ _ hargs k3
  have h0 : Ok fn.ntmps w ro F args ⟨envOf 0 (wsOf targs gs), z.roots, wsOf targs gs⟩ { tmps := tm, defers := [] } w := by
    refine ⟨rfl, ro, hv, F', ?_, Since.refl w F, fun _ h => h, fun _ h => .inl h, fun b hb => ?_⟩
    · exact { rep := k1.rep, nd := k1.nd, dis := k1.dis, nro := k1.nro, gnd := k1.gnd, gdis := k1.gdis, gnro := k1.gnro, glt := k1.glt, rolt := k1.rolt, sz := k1.sz
              env := fun i v hi => by
                obtain ⟨j, x, e1, e2, e3⟩ := envOf_get _ _ _ _ _ hws hi
                refine ⟨x, ?_, e3⟩
                have hj : j < args.length := (List.getElem?_eq_some_iff.1 e2).1
                rw [← htm, e1, Nat.zero_add, Array.getElem?_append_left (by simpa using hj)]
                simpa using e2
              par := hws }
    · rcases k4 b hb with ⟨r, t, ht, _⟩ | hb
      · simp [get] at ht
      · exact .inl hb
  have hwp := (big_ok (nt := fn.ntmps) (w0 := w) (ro0 := ro) (args := args) (F0 := F) hbig c hc _ w h0).1
  refine calls_of_wp hf hb ?_
  rw [htm]
  refine wp_mono hwp fun e' a' w' hA => ?_
  obtain ⟨rfl, hdef, ro1, hv1, F1, hI, hS, q1, q2, q3⟩ := hA
  obtain ⟨ws, ts, s2, ts', s3, hrw, hlive, hgr, rfl, hout, rfl⟩ := hl
  obtain ⟨vs, r1, r2, r3⟩ := res_run hI (g := resG a') (fun _ => rfl) (fun _ _ => rfl) _ _ _ hrx hrw
  obtain ⟨us, u1, u2⟩ := WRepL_flat ws vs r1
  obtain ⟨F2, Fr, g1, g2, g3, g4⟩ := grab_ok hgr hI u1
  obtain ⟨us', p1, p2⟩ := WRepL_flat s2.par args g1.par
  obtain ⟨F3, Fo, o1, o2, o3, o4⟩ := outs_ok hout g1 p1
  have hresv := (u2 ro1 ts Fr g2).1
  have houtv := (p2 ro1 ts' Fo o2).1
  have hmine : ∀ b, Rest s1 F1 b → b ∈ F ∨ w.heap.size ≤ b := q3
  have hFr : ∀ b ∈ Fr, b ∈ F ∨ w.heap.size ≤ b := fun b hb => hmine b (g4 b hb)
  have hFo : ∀ b ∈ Fo, b ∈ F ∨ w.heap.size ≤ b := fun b hb => by
    obtain ⟨r, t, ht, hb⟩ := o4 b hb
    exact hmine b (g3 r t b ht hb)
  have hgnd := o1.gnd
  have hfin : ∀ v, RTV w' ro1 (tvOf ws ts) v Fr → a'.defers = [] ∧ (results fn a'.tmps).run P w' = .ok v w' → bodyPost P fn (fun e w' => ∃ v ro' Fr Fo, e = .returned v ∧ RTV w' ro' (tvOf ws ts) v Fr ∧ RTWL w' ro' (tws s2.par ts') args Fo ∧ (Fr ++ Fo).Nodup ∧ (∀ b ∈ Fr ++ Fo, ¬ ro' b) ∧
      (∀ b ∈ Fr ++ Fo, b ∈ F ∨ w.heap.size ≤ b) ∧ (∀ b, ro b → ro' b) ∧ (∀ b, ro' b → ro b ∨ b ∈ F ∨ w.heap.size ≤ b) ∧ (∀ b, ro' b → b < w'.heap.size) ∧ Since w F w') (exOf e) a' w' := by
    intro v hv' hr
    have hpost : a'.defers = [] ∧ ∃ v, (results fn a'.tmps).run P w' = .ok v w' ∧ ∃ v_1 ro' Fr Fo, Ending.returned v = .returned v_1 ∧ RTV w' ro' (tvOf ws ts) v_1 Fr ∧ RTWL w' ro' (tws s2.par ts') args Fo ∧ (Fr ++ Fo).Nodup ∧ (∀ b ∈ Fr ++ Fo, ¬ ro' b) ∧
      (∀ b ∈ Fr ++ Fo, b ∈ F ∨ w.heap.size ≤ b) ∧ (∀ b, ro b → ro' b) ∧ (∀ b, ro' b → ro b ∨ b ∈ F ∨ w.heap.size ≤ b) ∧ (∀ b, ro' b → b < w'.heap.size) ∧ Since w F w' := by
      refine ⟨hr.1, v, hr.2, v, ro1, Fr, Fo, rfl, hv', houtv, ?_, fun b hb => ?_, fun b hb => ?_, q1, q2, o1.rolt, hS⟩
      · have := (List.perm_append_comm (l₁ := Fo) (l₂ := Fr ++ [])).nodup_iff.1 hgnd
        simpa using this
      · exact o1.gnro b (by simp only [List.mem_append] at hb ⊢; rcases hb with hb | hb <;> simp [hb])
      · rcases List.mem_append.1 hb with hb | hb
        · exact hFr b hb
        · exact hFo b hb
    rcases he with rfl | rfl
    · exact hpost
    · exact hpost
  have hmap := results_of (fn := fn) (a := a') (P := P) (w := w') (vs := vs) r3
  have hvs : (tws ws ts).length = vs.length := (RTWL_len _ _ _ hresv).symm
  by_cases h1 : ws.length = 1
  · have hv1' : ∃ v, vs = [v] := by
      match vs, r2 with
      | [v], _ => exact ⟨v, rfl⟩
      | [], h => simp at h; omega
      | _ :: _ :: _, h => simp at h; omega
    obtain ⟨v, rfl⟩ := hv1'
    refine hfin v ?_ ⟨hdef, ?_⟩
    · simp only [tvOf, if_pos h1]
      cases hx : tws ws ts with
      | nil => rw [hx] at hvs; simp at hvs
      | cons x xs =>
        rw [hx] at hresv hvs
        have hxs : xs = [] := List.eq_nil_of_length_eq_zero (by simpa using hvs)
        subst hxs
        simp only [RTWL] at hresv
        obtain ⟨v', vs', Fa, Fb, e1, e2, ⟨e3, e4⟩, e5⟩ := hresv
        simp only [List.cons.injEq] at e1
        obtain ⟨rfl, rfl⟩ := e1
        subst e4 e5
        simpa [RTV] using e2
    · rw [hmap]; simp
  · refine hfin (.tuple vs.toArray) ?_ ⟨hdef, ?_⟩
    · simp only [tvOf, if_neg h1]
      exact ⟨vs, rfl, hresv⟩
    · have : ¬ vs.length = 1 := by omega
      rw [hmap]; simp [this]
end
end Go.Proofs.YtplhecjngmkngaaT
