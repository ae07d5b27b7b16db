/- A program's values as trees, and its code as steps on them. No condition. -/
import Derived.Test.YtplhecjngmkngaaTree2
set_option linter.all false
set_option linter.unusedVariables false
set_option linter.unusedSimpArgs false
set_option linter.unusedSectionVars false
set_option linter.unnecessarySimpa false
set_option linter.deprecated false
/- Trees: append. No condition. -/
set_option linter.unusedVariables false
set_option linter.unusedSimpArgs false
set_option linter.unusedSectionVars false
namespace Go.Proofs.YtplhecjngmkngaaT
open Go

def flatT : T → Bool
  | .int .. => true
  | .bool .. => true
  | .str .. => true
  | .nptr => true
  | _ => false
def noHole : T → Bool
  | .hole => false
  | _ => true

/-- what is appended: m elements, their cells -/
inductive SrcT (st : Nat) : St → V → Nat → List T → St → Prop
  | text {z : St} {b : ByteArray} : st = 1 → SrcT st z (.w (.one (.str b))) b.size (b.data.toList.map fun c : UInt8 => T.int .u8 c.toNat) z
  | nil {z : St} : SrcT st z (.w (.one .nil)) 0 [] z
  | ro {z : St} {r p off m t n0 cs} : get z.roots r = some t → sub t p = some (.sl false st n0 cs) → ((cs.drop off).take (m * st)).all noHole = true → SrcT st z (.w (.one (.hs r p off st m))) m ((cs.drop off).take (m * st)) z
  | flat {z : St} {r p off m t own n0 cs} : get z.roots r = some t → sub t p = some (.sl own st n0 cs) → ((cs.drop off).take (m * st)).all flatT = true → SrcT st z (.w (.one (.hs r p off st m))) m ((cs.drop off).take (m * st)) z
  | take {z z1 : St} {g m ts f} : Take z g (.sl true st m ts) z1 f → ts.all noHole = true → SrcT st z (.w (.one g)) m ts z1

theorem flat_rep {w w' : World} {ro ro' : Nat → Prop} : ∀ (t : T) (v : Value) (F : List Nat), flatT t = true → Rep w ro t v F → F = [] ∧ Rep w' ro' t v []
  | .int .., v, F, _, h => by simp only [Rep] at h ⊢; exact ⟨h.2, h.1, trivial⟩
  | .bool .., v, F, _, h => by simp only [Rep] at h ⊢; exact ⟨h.2, h.1, trivial⟩
  | .str .., v, F, _, h => by simp only [Rep] at h ⊢; exact ⟨h.2, h.1, trivial⟩
  | .nptr, v, F, _, h => by simp only [Rep] at h ⊢; exact ⟨h.2, h.1, trivial⟩
  | .sl .., v, F, h, _ => by simp [flatT] at h
  | .bx .., v, F, h, _ => by simp [flatT] at h
  | .fn .., v, F, h, _ => by simp [flatT] at h
  | .hole, v, F, h, _ => by simp [flatT] at h

theorem rep_one {w : World} {ro : Nat → Prop} : ∀ (t : T) (v : Value) (F : List Nat), noHole t = true → Rep w ro t v F → v.oneCell' = true
  | .int .., v, F, _, h => by simp only [Rep] at h; obtain ⟨rfl, _⟩ := h; rfl
  | .bool .., v, F, _, h => by simp only [Rep] at h; obtain ⟨rfl, _⟩ := h; rfl
  | .str .., v, F, _, h => by simp only [Rep] at h; obtain ⟨rfl, _⟩ := h; rfl
  | .nptr, v, F, _, h => by simp only [Rep] at h; obtain ⟨rfl, _⟩ := h; rfl
  | .sl .., v, F, _, h => by simp only [Rep] at h; rcases h with ⟨_, _, _, A, rfl⟩ | ⟨b, o, cap, F', rfl, _⟩ <;> rfl
  | .bx .., v, F, _, h => by simp only [Rep] at h; obtain ⟨b, o, F', rfl, _⟩ := h; rfl
  | .fn .., v, F, _, h => by simp only [Rep] at h; obtain ⟨vs, rfl, _⟩ := h; rfl
  | .hole, v, F, h, _ => by simp [noHole] at h

theorem flat_noHole {ts : List T} (h : ts.all flatT = true) : ts.all noHole = true := by
  rw [List.all_eq_true] at h ⊢
  intro t ht
  have := h t ht
  cases t <;> simp_all [flatT, noHole]

theorem RepV.one {w : World} {ro : Nat → Prop} : ∀ (ts : List T) (vs : List Value) (F : List Nat), ts.all noHole = true → RepV w ro ts vs F → ∀ u ∈ vs, u.oneCell' = true
  | [], vs, F, _, h, u, hu => by simp only [RepV] at h; simp [h.1] at hu
  | t :: ts, vs, F, hn, h, u, hu => by
    simp only [List.all_cons, Bool.and_eq_true] at hn
    simp only [RepV] at h
    obtain ⟨v, vs', F1, F2, rfl, h2, h3, rfl⟩ := h
    rcases List.mem_cons.1 hu with rfl | hu
    · exact rep_one t u F1 hn.1 h2
    · exact RepV.one ts vs' F2 hn.2 h3 u hu

theorem RepL.toV {w : World} {ro : Nat → Prop} {b : Nat} : ∀ (cs : List T) (o : Nat) (F : List Nat), RepL w ro b o cs F → ∃ vs, RepV w ro cs vs F ∧ ∀ j v, vs[j]? = some v → w.cell? ⟨b, o + j, none⟩ = some v
  | [], o, F, h => by simp only [RepL] at h; subst h; exact ⟨[], by simp [RepV], by simp⟩
  | c :: cs, o, F, h => by
    simp only [RepL] at h
    obtain ⟨v, F1, F2, h1, h2, h3, rfl⟩ := h
    obtain ⟨vs, k1, k2⟩ := RepL.toV cs (o + 1) F2 h3
    refine ⟨v :: vs, by simp only [RepV]; exact ⟨v, vs, F1, F2, rfl, h2, k1, rfl⟩, fun j u hj => ?_⟩
    cases j with
    | zero => simp at hj; subst hj; exact h1
    | succ j => simp at hj; have := k2 j u hj; rwa [show o + 1 + j = o + (j + 1) by omega] at this

theorem RepV.flat {w w' : World} {ro ro' : Nat → Prop} : ∀ (ts : List T) (vs : List Value) (F : List Nat), ts.all flatT = true → RepV w ro ts vs F → F = [] ∧ RepV w' ro' ts vs []
  | [], vs, F, _, h => by simp only [RepV] at h ⊢; exact ⟨h.2, h.1, trivial⟩
  | t :: ts, vs, F, hn, h => by
    simp only [List.all_cons, Bool.and_eq_true] at hn
    simp only [RepV] at h ⊢
    obtain ⟨v, vs', F1, F2, rfl, h2, h3, rfl⟩ := h
    obtain ⟨rfl, k1⟩ := flat_rep (w' := w') (ro' := ro') t v F1 hn.1 h2
    obtain ⟨rfl, k2⟩ := RepV.flat (w' := w') (ro' := ro') ts vs' F2 hn.2 h3
    exact ⟨rfl, v, vs', [], [], rfl, k1, k2, rfl⟩

section
variable {P : Program} {nt : Nat} {w : World} {ro : Nat → Prop} {s : St} {tm : Array Value} {args : List Value} {hv : Nat → Value} {F : Nat → List Nat} {G : List Nat}

theorem srcEmpty {size : Nat} {tx : TypeId} (hk : (∃ e', P.underlying tx = some (.slice e')) ∨ P.underlying tx = some .string) (A : Option Addr) : Src P size tx (.slice A 0 0) 0 [] w :=
  ⟨hk, fun _ => rfl, by cases A <;> simp [Builtin.firstCells, loadCells, loadCellsFrom], by cases A <;> simp [Builtin.firstCells, loadCells, loadCellsFrom], by simp, by simp⟩

theorem srcSlice {size : Nat} {tx : TypeId} (hk : (∃ e', P.underlying tx = some (.slice e')) ∨ P.underlying tx = some .string) (b o n c : Nat) (news : List Value) (hl : news.length = n * size) (hnews : ∀ j u, news[j]? = some u → w.cell? ⟨b, o + j, none⟩ = some u) (h1 : ∀ u ∈ news, u.oneCell' = true) :
    Src P size tx (.slice (some ⟨b, o, none⟩) n c) n news w :=
  ⟨hk, fun _ => rfl, run_firstCells_some w size n _ n c news hl (fun j u hj => by rw [Addr.add_mid]; exact hnews j u hj), run_firstCells_some w.drew size n _ n c news hl (fun j u hj => by rw [Addr.add_mid]; simpa using hnews j u hj), hl, h1⟩

theorem src_ok (h : Inv nt w ro s tm args hv F G) {st : Nat} {v : V} {m : Nat} {ts : List T} {s' : St} {tx : TypeId} {x : Value} (hk : (∃ e', P.underlying tx = some (.slice e')) ∨ P.underlying tx = some .string) (hs : SrcT st s v m ts s') (hx : VRep w s.roots hv v x) :
    ∃ F' Ft news, Inv nt w ro s' tm args hv F' (Ft ++ G) ∧ RepV w ro ts news Ft ∧ Src P st tx x m news w ∧ (∀ r t b, get s'.roots r = some t → b ∈ F' r → ∃ r t, get s.roots r = some t ∧ b ∈ F r) ∧ (∀ b ∈ Ft, ∃ r t, get s.roots r = some t ∧ b ∈ F r) := by
  cases hs with
  | text hst =>
    rename_i b
    subst hst
    simp only [VRep, WRep, HRep] at hx; subst hx
    refine ⟨F, [], byteCells b, by simpa using h, ?_, ⟨hk, fun _ => rfl, firstCells_string b w, firstCells_string b w.drew, by rw [byteCells_length, Nat.mul_one], fun u hu => ?_⟩, fun r t b ht hb => ⟨r, t, ht, hb⟩, by simp⟩
    · unfold byteCells
      generalize b.data.toList = l
      induction l with
      | nil => simp [RepV]
      | cons c l ih => simp only [List.map_cons, RepV]; exact ⟨_, _, [], [], rfl, by simp [Rep], ih, rfl⟩
    · unfold byteCells at hu
      obtain ⟨_, _, rfl⟩ := List.mem_map.1 hu
      rfl
  | nil =>
    simp only [VRep, WRep, HRep] at hx
    obtain ⟨A, rfl⟩ := hx
    exact ⟨F, [], [], by simpa using h, by simp [RepV], srcEmpty hk A, fun r t b ht hb => ⟨r, t, ht, hb⟩, by simp⟩
  | ro e1 e2 e3 =>
    simp only [VRep, WRep] at hx
    rcases hs_tree h e1 e2 hx with ⟨rfl, A, rfl⟩ | ⟨b, o, cap, F1, F2, rfl, k2, k3, _, k4, _, k5, k6, _⟩
    · exact ⟨F, [], [], by simpa using h, by simp [RepV], srcEmpty hk A, fun r t b ht hb => ⟨r, t, ht, hb⟩, by simp⟩
    · simp only [Blk, Bool.false_eq_true, if_false] at k5
      obtain ⟨_, rfl, _, _⟩ := k5
      obtain rfl : F2 = [] := List.eq_nil_iff_forall_not_mem.2 (fun y hy => by simpa using k4 y hy)
      obtain ⟨news, n1, n2⟩ := RepL.toV _ _ _ k6
      have hl := RepV.len _ _ _ n1
      exact ⟨F, [], news, by simpa using h, n1, srcSlice hk b o _ cap news (by omega) n2 (RepV.one _ _ _ e3 n1), fun r t b ht hb => ⟨r, t, ht, hb⟩, by simp⟩
  | flat e1 e2 e3 =>
    simp only [VRep, WRep] at hx
    rcases hs_tree h e1 e2 hx with ⟨rfl, A, rfl⟩ | ⟨b, o, cap, F1, F2, rfl, k2, k3, _, k4, _, k5, k6, _⟩
    · exact ⟨F, [], [], by simpa using h, by simp [RepV], srcEmpty hk A, fun r t b ht hb => ⟨r, t, ht, hb⟩, by simp⟩
    · obtain ⟨news, n1, n2⟩ := RepL.toV _ _ _ k6
      have hl := RepV.len _ _ _ n1
      obtain ⟨rfl, n3⟩ := RepV.flat (w' := w) (ro' := ro) _ _ _ e3 n1
      exact ⟨F, [], news, by simpa using h, n3, srcSlice hk b o _ cap news (by omega) n2 (RepV.one _ _ _ (flat_noHole e3) n1), fun r t b ht hb => ⟨r, t, ht, hb⟩, by simp⟩
  | take e1 e2 =>
    simp only [VRep, WRep] at hx
    obtain ⟨F', Ft, k1, k2, k3, k4, k5⟩ := take_ok h e1 hx
    simp only [Rep] at k2
    rcases k2 with ⟨rfl, rfl, rfl, A, rfl⟩ | ⟨b, o, cap, F'', rfl, h2, h3, h4, h5⟩
    · exact ⟨F', [], [], k1, by simp [RepV], srcEmpty hk A, take_back e1 k3, k4⟩
    · obtain ⟨news, n1, n2⟩ := RepL.toV _ _ _ h5
      have hl := RepV.len _ _ _ n1
      simp only [Blk, if_true] at h4
      obtain ⟨a1, rfl, a3⟩ := h4
      exact ⟨F', F'', news, k1.hand (fun x hx => by simp only [List.cons_append, List.mem_cons]; exact .inr hx) (by have := k1.gnd; simp only [List.cons_append, List.nodup_cons] at this; exact this.2), n1,
        srcSlice hk b o _ cap news (by omega) n2 (RepV.one _ _ _ e2 n1), take_back e1 k3, fun x hx => k4 x (List.mem_cons_of_mem _ hx)⟩

theorem Same.setCells {w : World} {ro : Nat → Prop} {Ft : List Nat} {b o : Nat} (hb : b ∉ Ft) (hr : ¬ ro b) (vs : List Value) : Same w (w.setCells b o vs) Ft ro := by
  have key : ∀ (vs : List Value) (o : Nat) (w : World) (k : Nat), k ≠ b → (w.setCells b o vs).heap[k]? = w.heap[k]? := by
    intro vs
    induction vs with
    | nil => intro o w k hk; rfl
    | cons v vs ih =>
      intro o w k hk
      rw [World.setCells, ih _ _ _ hk]
      simp [World.setCell, Array.getElem?_modify, Ne.symm hk]
  intro k hk
  exact key vs o w k (fun e => by subst e; exact hk.elim hb hr)

theorem shape_setCell (w : World) (p : Addr) (v : Value) (k : Nat) : (w.setCell p v).shape? k = w.shape? k := by
  unfold World.shape? World.setCell
  simp only [Array.getElem?_modify]
  by_cases h : p.block = k
  · simp only [h, if_true]
    cases w.heap[k]? with
    | none => rfl
    | some x => cases x <;> simp
                split <;> simp
  · simp [h]

theorem since_setCell (w : World) (b o : Nat) (v : Value) : Since w [b] (w.setCell ⟨b, o, none⟩ v) :=
  ⟨rfl, rfl, rfl, by simp, fun k hk hb => by
    simp only [List.mem_cons, List.not_mem_nil, or_false] at hb
    simp [World.setCell, Array.getElem?_modify, Ne.symm hb], fun k hk => shape_setCell w _ _ k⟩

theorem since_setCells (b : Nat) : ∀ (vs : List Value) (o : Nat) (w : World), Since w [b] (w.setCells b o vs)
  | [], o, w => Since.refl w [b]
  | v :: vs, o, w => by
    rw [World.setCells]
    exact (since_setCell w b o v).trans (since_setCells b vs (o + 1) _) (fun x hx => .inl hx)

theorem Blk.setCells {own : Bool} {b o ext : Nat} {F F' : List Nat} (b' : Nat) : ∀ (vs : List Value) (o' : Nat) (w : World), Blk w ro own b o ext F F' → Blk (w.setCells b' o' vs) ro own b o ext F F'
  | [], o', w, h => h
  | v :: vs, o', w, h => by
    rw [World.setCells]
    exact Blk.setCells b' vs (o' + 1) _ (h.setCell _ _)

/-- what is in the hand may turn -/
theorem Inv.later (h : Inv nt w ro s tm args hv F G) {w' : World} {Fs : List Nat} (hS : Since w Fs w') (hF : ∀ b ∈ Fs, b ∈ G) : Inv nt w' ro s tm args hv F G := by
  have hs : ∀ r t, get s.roots r = some t → Same w w' (F r) ro := fun r t ht b hb => hS.block b (hb.elim (fun hm => Rep.lt _ _ _ (h.rep r t ht) b hm) (h.rolt b)) (fun hf => hb.elim (fun hm => h.gdis r t ht b hm (hF b hf)) (h.gnro b (hF b hf)))
  have := Inv.move0 (roots' := s.roots) h (w' := w') (ro' := ro) (hv' := hv) (F' := F) (G' := G) (fun r p r' p' e => by
      simp only [idRen, Option.some.injEq, Prod.mk.injEq] at e
      obtain ⟨rfl, rfl⟩ := e
      refine ⟨fun h => ⟨h, rfl⟩, fun t' ht' => ⟨t', ht', fun x hx ho => ⟨x, hx, Alike.refl x, fun g hg => ?_⟩⟩⟩
      rw [walk_same p t' x (hv r) (F r) (h.rep r t' ht') (hs r t' ht') hx]; exact hg)
    (fun r t ht => Rep.same (hs r t ht) (fun _ h => h) hS.size _ _ _ (h.rep r t ht) (fun _ h => h)) h.nd h.dis h.nro h.gnd h.gdis h.gnro (fun b hb' => Nat.lt_of_lt_of_le (h.glt b hb') hS.size) (fun b hb' => Nat.lt_of_lt_of_le (h.rolt b hb') hS.size)
  exact this

theorem RepL.append {b : Nat} : ∀ (cs ts : List T) (o : Nat) (F1 F2 : List Nat), RepL w ro b o cs F1 → RepL w ro b (o + cs.length) ts F2 → RepL w ro b o (cs ++ ts) (F1 ++ F2)
  | [], ts, o, F1, F2, h, k => by simp only [RepL] at h; subst h; simpa using k
  | c :: cs, ts, o, F1, F2, h, k => by
    simp only [RepL] at h
    obtain ⟨v, G1, G2, h1, h2, h3, rfl⟩ := h
    simp only [List.cons_append, RepL]
    exact ⟨v, G1, G2 ++ F2, h1, h2, RepL.append cs ts (o + 1) G2 F2 h3 (by simp only [List.length_cons] at k; rwa [show o + 1 + cs.length = o + (cs.length + 1) by omega]), by simp⟩

/-- what append does to a slice of one's own -/
theorem app_own {G0 F1 F2 : List Nat} {s1 : St} {d n m st : Nat} {cs ts : List T} {news : List Value} {xv y : Value} {t tx ty e : TypeId} {i : TypeInfo} {z : Value} {F' : Nat → List Nat} {r : Nat} {a : Go.Act} {o : Oper} (hd : d < nt)
    (h : Inv nt w ro s1 a.tmps args hv F' (F2 ++ (F1 ++ G0))) (hx : Rep w ro (.sl true st n cs) xv F1) (hy : RepV w ro ts news F2) (hsrc : Src P st tx y m news w) (hf : fresh s1 r = true)
    (ht : P.underlying t = some (.slice e)) (hi : P.info? e = some i) (hz : i.zero = some z) (hst : i.size = st) (hst0 : 0 < st) (hzs : z.cells.size = st) (h63 : n + m ≤ 9223372036854775807) (hb : (n + m) * i.bytes ≤ 140737488355328)
    (hrun : (execOp a.eval o).run P w = ((Builtin.append_ #[t, tx] ty #[xv, y]).run P w).andThen fun v w' => .ok (.value v) w')
    (k3 : ∀ r t b, get s1.roots r = some t → b ∈ F' r → ∃ r t, get s.roots r = some t ∧ b ∈ F r) (k4 : ∀ b ∈ F2 ++ F1, ∃ r t, get s.roots r = some t ∧ b ∈ F r) :
    Made P nt w ro F args s ((s1.new r (.sl true st (n + m) (cs ++ ts))).put d (.w (.one (.hs r [] 0 st (n + m))))) a o d G0 := by
  subst hst
  have hlen := RepV.len _ _ _ hy
  have hnl := hsrc.newsLen
  -- a new row
  have grow : ∀ (base : Option Addr) (cap : Nat) (olds : List Value) (F1' : List Nat), xv = .slice base n cap → cap < n + m → (∀ x ∈ F1', x ∈ F1) → F1'.Nodup → RepV w ro cs olds F1' → olds.length = n * i.size → (Builtin.firstCells i.size n (.slice base n cap)).run P w.drew = .ok olds.toArray w.drew →
      Made P nt w ro F args s ((s1.new r (.sl true i.size (n + m) (cs ++ ts))).put d (.w (.one (.hs r [] 0 i.size (n + m))))) a o d G0 := by
    intro base cap olds F1' hxv hcap hsub hnd hro hol hfirst
    have hr := run_append_grow_src (P := P) w t tx ty e i z ht hi hz base n cap olds hfirst y m news hsrc hcap (by omega) (growslice_fits hcap hb)
    generalize hgc : grownCap w (n + m) cap e = gc at hr
    have hgc' : n + m ≤ gc := by rw [← hgc]; exact grownCap_ge w (n + m) cap e
    have hS : Since w [] (w.drew.alloc (.cells ((olds ++ news).toArray ++ Builtin.zeroCells z.cells (gc - (n + m))) e)) := (since_drew w).trans (since_alloc w.drew _) (by simp)
    have h1 : Inv nt w ro s1 a.tmps args hv F' ((F1' ++ F2) ++ G0) := by
      refine h.hand (fun x hx => ?_) ?_
      · simp only [List.mem_append] at hx ⊢
        rcases hx with (hx | hx) | hx
        · exact .inr (.inl (hsub x hx))
        · exact .inl hx
        · exact .inr (.inr hx)
      · have := h.gnd
        simp only [List.nodup_append, List.mem_append] at this ⊢
        refine ⟨⟨hnd, this.1, fun x hx y hy e => this.2.2 y hy x (.inl (hsub x hx)) e.symm⟩, this.2.1.2.1, fun x hx y hy => ?_⟩
        rcases hx with hx | hx
        · exact this.2.1.2.2 x (hsub x hx) y hy
        · exact this.2.2 x hx y (.inr hy)
    have hsame : Same w (w.drew.alloc (.cells ((olds ++ news).toArray ++ Builtin.zeroCells z.cells (gc - (n + m))) e)) (F1' ++ F2) ro := same_old h1 (fun k hk => hS.block k hk (by simp)) (fun b hb => by simp only [List.mem_append] at hb ⊢; exact .inl hb)
    have hvl := RepV.len _ _ _ hro
    have hzl : (Builtin.zeroCells z.cells (gc - (n + m))).size = (gc - (n + m)) * i.size := by simp [Builtin.zeroCells, hzs]
    have hmul : (n + m) * i.size + (gc - (n + m)) * i.size = gc * i.size := by rw [← Nat.add_mul]; congr 1; omega
    have hmul2 : (n + m) * i.size = n * i.size + m * i.size := Nat.add_mul _ _ _
    have hR : Rep (w.drew.alloc (.cells ((olds ++ news).toArray ++ Builtin.zeroCells z.cells (gc - (n + m))) e)) ro (.sl true i.size (n + m) (cs ++ ts)) (.slice (some ⟨w.heap.size, 0, none⟩) (n + m) gc) (w.heap.size :: (F1' ++ F2)) := by
      refine rep_row (w := w) (vs := olds ++ news) (rest := (Builtin.zeroCells z.cells (gc - (n + m))).toList) (e := e) (fr := (0, 0)) hst0 ?_ hgc' (by simp; omega) (by simp only [List.length_append, Array.length_toList]; omega) (fun j hj => ?_) (by simp) (RepV.append _ _ _ _ _ _ hro hy) hsame
      · have := alloc_new w.drew (.cells ((olds ++ news).toArray ++ Builtin.zeroCells z.cells (gc - (n + m))) e)
        rw [show w.heap.size = w.drew.heap.size from rfl, this]
        simp
      · exact World.frozen?_alloc_new w.drew _ e j
    refine made_ok hd h1 k3 (fun b hb => k4 b (by simp only [List.mem_append] at hb ⊢; exact hb.elim (fun h => .inr (hsub b h)) .inl)) ?_ hS (by simp) hf hR (.inr ⟨_, _, _, rfl, rfl⟩)
    rw [hrun, hxv, hr]; rfl
  simp only [Rep] at hx
  rcases hx with ⟨rfl, rfl, rfl, A, rfl⟩ | ⟨b, o', cap, F1', rfl, h2, h3, h4, h5⟩
  · by_cases hm : m = 0
    · subst hm
      obtain rfl : news = [] := List.eq_nil_of_length_eq_zero (by rw [hnl]; simp)
      obtain rfl : ts = [] := List.eq_nil_of_length_eq_zero (by simpa using hlen.symm)
      simp only [RepV] at hy
      obtain ⟨_, rfl⟩ := hy
      have hr : (Builtin.append_ #[t, tx] ty #[.slice A 0 0, y]).run P w = .ok (.slice A 0 0) w := by
        have hz' := hsrc.cells
        rcases hsrc.kind with ⟨e', hk⟩ | hk <;> cases A <;> simp [Builtin.append_, run_underlying ht, run_underlying hk, sizeOf, typeInfo, hi, hsrc.len, hz', storeCells]
      have h1 := h.new (r := r) (t := .sl true i.size 0 []) (v := .slice A 0 0) (Ft := []) (G' := G0) (by simp) (by have := h.gnd; simpa using this) hf (by simp only [Rep]; exact .inl ⟨trivial, trivial, trivial, A, rfl⟩)
      refine ⟨.slice A 0 0, w, _, _, by rw [hrun, hr]; rfl, ⟨[], Since.refl w [], by simp⟩, h1.put hd ?_, ?_⟩
      · simp only [VRep, WRep, HRep, St.new, get_set, if_true]
        exact newH (w' := w) (ro := ro) (cs := []) (Ft := []) (by simp only [Rep]; exact .inl ⟨trivial, trivial, trivial, A, rfl⟩)
      · intro r' t' b ht' hb
        simp only [St.put, St.new] at ht'
        by_cases e1 : r' = r
        · simp [e1] at hb
        · rw [get_set, if_neg (Ne.symm e1)] at ht'
          simp only [e1, if_false] at hb; exact .inl (k3 r' t' b ht' hb)
    · refine grow A 0 [] [] rfl (by omega) (by simp) (by simp) (by simp [RepV]) (by simp) ?_
      cases A <;> simp [Builtin.firstCells, loadCells, loadCellsFrom]
  · have h4' := h4
    simp only [Blk, if_true] at h4
    obtain ⟨hlt, rfl, arr, e2, fr, ha, hext, hfz⟩ := h4
    have hndG := h.gnd
    by_cases hroom : n + m ≤ cap
    · have hin : ∀ j, j < news.length → o' + n * i.size + j < arr.size := by
        intro j hj
        have : (n + m) * i.size ≤ cap * i.size := Nat.mul_le_mul_right _ hroom
        rw [Nat.add_mul] at this
        omega
      have hc : ∀ j, j < news.length → (w.cell? ⟨b, o' + n * i.size + j, none⟩).isSome = true := by
        intro j hj
        have := hin j hj
        simp [World.cell?, ha, this]
      have hr := run_append_room_src (P := P) w t tx ty e i ht hi b o' n cap y m news hsrc hroom hc (fun j hj => hfz _ (hin j hj))
      have hS := since_setCells b news (o' + n * i.size) w
      have hbG : b ∈ F2 ++ (b :: F1' ++ G0) := by simp
      have h1 := h.later hS (fun x hx => by simp only [List.mem_cons, List.not_mem_nil, or_false] at hx; subst hx; exact hbG)
      have hnb : b ∉ F1' ∧ b ∉ F2 ∧ F1'.Nodup := by
        simp only [List.nodup_append, List.mem_append, List.cons_append, List.nodup_cons, List.mem_cons, not_or] at hndG
        exact ⟨hndG.2.1.1.1, fun hb2 => hndG.2.2 b hb2 b (.inl rfl) rfl, hndG.2.1.2.1⟩
      have hrb : ¬ ro b := h.gnro b hbG
      have hR : Rep (w.setCells b (o' + n * i.size) news) ro (.sl true i.size (n + m) (cs ++ ts)) (.slice (some ⟨b, o', none⟩) (n + m) cap) (b :: (F1' ++ F2)) := by
        simp only [Rep]
        refine .inr ⟨b, o', cap, F1' ++ F2, rfl, ⟨hroom, hst0⟩, by simp [Nat.add_mul]; omega, ?_, ?_⟩
        · have := Blk.setCells (ro := ro) b news (o' + n * i.size) w h4'
          simp only [Blk, if_true] at this ⊢
          exact ⟨this.1, trivial, this.2.2⟩
        · refine RepL.append cs ts o' F1' F2 (RepL.keep hS.size cs o' F1' h5 (fun j hj => World.cell?_setCells_out b news _ w _ (fun _ _ => .inl (by simp; omega))) (Same.setCells hnb.1 hrb news)) ?_
          rw [h3]
          refine RepL.ofV hS.size ts news F2 _ hy (fun j v hj => ?_) (Same.setCells hnb.2.1 hrb news)
          have hj' : j < news.length := (List.getElem?_eq_some_iff.1 hj).1
          rw [World.cell?_setCells_in b news _ w hc j hj']
          rw [List.getElem?_eq_getElem hj'] at hj
          exact hj
      have h2 := h1.new (r := r) (Ft := b :: (F1' ++ F2)) (G' := G0) (fun x hx => by simp only [List.mem_cons, List.mem_append] at hx ⊢; rcases hx with (hx | hx | hx) | hx <;> simp [hx]) (by
        simp only [List.nodup_append, List.mem_append, List.cons_append, List.nodup_cons, List.mem_cons, not_or] at hndG ⊢
        obtain ⟨g1, ⟨⟨g2, g3⟩, g4, g5, g6⟩, g7⟩ := hndG
        refine ⟨⟨⟨g2, hnb.2.1⟩, g3⟩, ⟨g4, g1, fun x hx y hy e => g7 y hy x (.inr (.inl hx)) e.symm⟩, g5, fun x hx y hy => ?_⟩
        rcases hx with hx | hx
        · exact g6 x hx y hy
        · exact g7 x hx y (.inr (.inr hy))) hf hR
      refine ⟨.slice (some ⟨b, o', none⟩) (n + m) cap, _, _, _, by rw [hrun, hr]; rfl, ⟨[b], hS, fun x hx => by simp only [List.mem_cons, List.not_mem_nil, or_false] at hx; subst hx; exact k4 x (by simp)⟩, h2.put hd ?_, ?_⟩
      · simp only [VRep, WRep, HRep, St.new, get_set, if_true]
        exact newH hR
      · intro r' t' x ht' hb
        simp only [St.put, St.new] at ht'
        by_cases e1 : r' = r
        · simp only [e1, if_true] at hb; exact .inl (k4 x (by simp only [List.mem_cons, List.mem_append] at hb ⊢; rcases hb with hb | hb | hb <;> simp [hb]))
        · rw [get_set, if_neg (Ne.symm e1)] at ht'
          simp only [e1, if_false] at hb; exact .inl (k3 r' t' x ht' hb)
    · obtain ⟨olds, n1, n2⟩ := RepL.toV _ _ _ h5
      have hl := RepV.len _ _ _ n1
      refine grow (some ⟨b, o', none⟩) cap olds F1' rfl (by omega) (by simp +contextual) (by
        simp only [List.nodup_append, List.mem_append, List.cons_append, List.nodup_cons, List.mem_cons, not_or] at hndG
        exact hndG.2.1.2.1) n1 (by omega) ?_
      exact run_firstCells_some w.drew i.size n _ n cap olds (by omega) (fun j u hj => by rw [Addr.add_mid]; simpa using n2 j u hj)
end
end Go.Proofs.YtplhecjngmkngaaT

/- Trees: a store. No condition. -/
set_option linter.unusedVariables false
set_option linter.unusedSimpArgs false
set_option linter.unusedSectionVars false
namespace Go.Proofs.YtplhecjngmkngaaT
open Go

theorem RepL.two {w : World} {ro : Nat → Prop} {b : Nat} : ∀ (cs : List T) (o : Nat) (F : List Nat) (i j : Nat) (c d : T), RepL w ro b o cs F → F.Nodup → i ≠ j → cs[i]? = some c → cs[j]? = some d →
    ∃ vi Fi vj Fj, w.cell? ⟨b, o + i, none⟩ = some vi ∧ Rep w ro c vi Fi ∧ w.cell? ⟨b, o + j, none⟩ = some vj ∧ Rep w ro d vj Fj ∧ (∀ x ∈ Fi, x ∈ F) ∧ (∀ x ∈ Fj, x ∈ F) ∧ Fi.Nodup ∧ (∀ x ∈ Fi, x ∉ Fj)
  | [], o, F, i, j, c, d, h, hn, hij, hi, hj => by simp at hi
  | t :: ts, o, F, 0, 0, c, d, h, hn, hij, hi, hj => absurd rfl hij
  | t :: ts, o, F, 0, j + 1, c, d, h, hn, hij, hi, hj => by
    simp at hi hj; subst hi
    simp only [RepL] at h
    obtain ⟨v, F1, F2, h1, h2, h3, rfl⟩ := h
    obtain ⟨vj, pre, Fj, post, g1, g2, rfl, _⟩ := RepL.at ts (o + 1) F2 j d h3 hj
    simp only [List.nodup_append, List.mem_append] at hn
    refine ⟨v, F1, vj, Fj, h1, h2, by rw [← g1]; congr 2; omega, g2, by simp +contextual, by simp +contextual, hn.1, fun x hx hx2 => hn.2.2 x hx x (.inl (.inr hx2)) rfl⟩
  | t :: ts, o, F, i + 1, 0, c, d, h, hn, hij, hi, hj => by
    simp at hi hj; subst hj
    simp only [RepL] at h
    obtain ⟨v, F1, F2, h1, h2, h3, rfl⟩ := h
    obtain ⟨vi, pre, Fi, post, g1, g2, rfl, _⟩ := RepL.at ts (o + 1) F2 i c h3 hi
    simp only [List.nodup_append, List.mem_append] at hn
    refine ⟨vi, Fi, v, F1, by rw [← g1]; congr 2; omega, g2, h1, h2, by simp +contextual, by simp +contextual, hn.2.1.1.2.1, fun x hx hx2 => hn.2.2 x hx2 x (.inl (.inr hx)) rfl⟩
  | t :: ts, o, F, i + 1, j + 1, c, d, h, hn, hij, hi, hj => by
    simp at hi hj
    simp only [RepL] at h
    obtain ⟨v, F1, F2, h1, h2, h3, rfl⟩ := h
    simp only [List.nodup_append] at hn
    obtain ⟨vi, Fi, vj, Fj, g1, g2, g3, g4, g5, g6, g7, g8⟩ := RepL.two ts (o + 1) F2 i j c d h3 hn.2.1 (by omega) hi hj
    exact ⟨vi, Fi, vj, Fj, by rw [← g1]; congr 2; omega, g2, by rw [← g3]; congr 2; omega, g4, fun x hx => by simp [g5 x hx], fun x hx => by simp [g6 x hx], g7, g8⟩

theorem walk_store {w : World} {ro : Nat → Prop} {j : Nat} {hd : Value} {ot : T} {b o : Nat} (ha : adr hd = some (b, o)) (u : Value) : ∀ (p : List Nat) (t : T) (v : Value) (F : List Nat), Rep w ro t v F → F.Nodup → (∀ b ∈ F, ¬ ro b) → sub t (p ++ [j]) = some ot → (upd ot t (p ++ [j])).isSome → walk w v p = some hd →
    ∀ (p' : List Nat) (x' : T), sub t p' = some x' → (p ++ [j]).isPrefixOf p' = false → walk (w.setCell ⟨b, o + j, none⟩ u) v p' = walk w v p'
  | [], .sl own st n cs, v, F, hR, hn, hr, hs, hu, hw, [], x', hp', hq => rfl
  | [], .sl own st n cs, v, F, hR, hn, hr, hs, hu, hw, i :: p', x', hp', hq => by
    have hij : j ≠ i := fun e => by subst e; simp at hq
    simp only [walk, Option.some.injEq] at hw; subst hw
    simp only [sub] at hp'
    obtain ⟨c, hc, hp'⟩ := Option.bind_eq_some_iff.1 hp'
    simp only [Rep] at hR
    rcases hR with ⟨_, rfl, _⟩ | ⟨b', o', cap, F', rfl, h2, h3, h4, h5⟩
    · simp at hc
    simp only [adr, Option.some.injEq, Prod.mk.injEq] at ha
    obtain ⟨rfl, rfl⟩ := ha
    obtain ⟨vc, pr, Fj, po, g1, g2, rfl, _⟩ := RepL.at cs _ F' i c h5 hc
    cases own with
    | false => simp only [List.nil_append, sub] at hs; obtain ⟨_, e1, _⟩ := Option.bind_eq_some_iff.1 hs; simp [upd] at hu
    | true =>
      simp only [Blk, if_true] at h4
      obtain ⟨_, rfl, _⟩ := h4
      simp only [List.nodup_cons] at hn
      simp only [walk]
      rw [World.cell?_setCell_other _ _ _ _ (by simp [hij]), g1, Option.bind_some, Option.bind_some]
      exact walk_same p' c x' vc Fj g2 (same_setCell (fun hm => hn.1 (by simp [hm])) (hr _ (by simp))) hp'
  | [], .bx own cs, v, F, hR, hn, hr, hs, hu, hw, [], x', hp', hq => rfl
  | [], .bx own cs, v, F, hR, hn, hr, hs, hu, hw, i :: p', x', hp', hq => by
    have hij : j ≠ i := fun e => by subst e; simp at hq
    simp only [walk, Option.some.injEq] at hw; subst hw
    simp only [sub] at hp'
    obtain ⟨c, hc, hp'⟩ := Option.bind_eq_some_iff.1 hp'
    simp only [Rep] at hR
    obtain ⟨b', o', F', rfl, h4, h5⟩ := hR
    simp only [adr, Option.some.injEq, Prod.mk.injEq] at ha
    obtain ⟨rfl, rfl⟩ := ha
    obtain ⟨vc, pr, Fj, po, g1, g2, rfl, _⟩ := RepL.at cs _ F' i c h5 hc
    cases own with
    | false => simp only [List.nil_append, sub] at hs; obtain ⟨_, e1, _⟩ := Option.bind_eq_some_iff.1 hs; simp [upd] at hu
    | true =>
      simp only [Blk, if_true] at h4
      obtain ⟨_, rfl, _⟩ := h4
      simp only [List.nodup_cons] at hn
      simp only [walk]
      rw [World.cell?_setCell_other _ _ _ _ (by simp [hij]), g1, Option.bind_some, Option.bind_some]
      exact walk_same p' c x' vc Fj g2 (same_setCell (fun hm => hn.1 (by simp [hm])) (hr _ (by simp))) hp'
  | i0 :: p, .sl own st n cs, v, F, hR, hn, hr, hs, hu, hw, [], x', hp', hq => rfl
  | i0 :: p, .sl own st n cs, v, F, hR, hn, hr, hs, hu, hw, i :: p', x', hp', hq => by
    simp only [List.cons_append, sub] at hs
    obtain ⟨c0, hc0, hs⟩ := Option.bind_eq_some_iff.1 hs
    simp only [sub] at hp'
    obtain ⟨c, hc, hp'⟩ := Option.bind_eq_some_iff.1 hp'
    simp only [Rep] at hR
    rcases hR with ⟨_, rfl, _⟩ | ⟨b', o', cap, F', rfl, h2, h3, h4, h5⟩
    · simp at hc
    cases own with
    | false => simp [upd] at hu
    | true =>
      simp only [Blk, if_true] at h4
      obtain ⟨_, rfl, _⟩ := h4
      simp only [List.nodup_cons] at hn
      simp only [List.cons_append, upd, hc0, Option.bind_some, Option.isSome_map] at hu
      have inF : ∀ (v0 : Value) (F0 : List Nat), w.cell? ⟨b', o' + i0, none⟩ = some v0 → Rep w ro c0 v0 F0 → F0.Nodup → (∀ x ∈ F0, x ∈ F') → walk w v0 p = some hd ∧ b ∈ F0 := by
        intro v0 F0 g1 g2 g3 g4
        simp only [walk, g1, Option.bind_some] at hw
        obtain ⟨hd3, b3, o3, pre3, Fo3, post3, vo3, m1, m2, m3, m4, m5, m6, m7, _⟩ := Rep.store p c0 v0 F0 j ot g2 g3 (fun x hx => hr x (by simp [g4 x hx])) hs hu
        rw [hw] at m1; obtain rfl := Option.some.inj m1
        rw [ha] at m2; simp only [Option.some.injEq, Prod.mk.injEq] at m2; obtain ⟨rfl, rfl⟩ := m2
        exact ⟨hw, by rw [m7]; simp [m6]⟩
      by_cases e : i0 = i
      · subst e
        rw [hc0] at hc; obtain rfl := Option.some.inj hc
        obtain ⟨v0, pr0, F0, po0, g1, g2, rfl, _⟩ := RepL.at cs _ F' i0 c0 h5 hc0
        have hn0 : F0.Nodup := by have := hn.2; simp only [List.nodup_append] at this; exact this.1.2.1
        obtain ⟨hw2, hb0⟩ := inF v0 F0 g1 g2 hn0 (by simp +contextual)
        have hne : b ≠ b' := fun e => hn.1 (by subst e; simp [hb0])
        simp only [walk]
        rw [World.cell?_setCell_other _ _ _ _ (by simp [hne]), g1, Option.bind_some, Option.bind_some]
        exact walk_store ha u p c0 v0 F0 g2 hn0 (fun x hx => hr x (by simp [hx])) hs hu hw2 p' x' hp' (by simpa using hq)
      · obtain ⟨v0, F0, vi, Fi, g1, g2, g3, g4, g5, g6, g7, g8⟩ := RepL.two cs _ F' i0 i c0 c h5 hn.2 e hc0 hc
        obtain ⟨hw2, hb0⟩ := inF v0 F0 g1 g2 g7 g5
        have hne : b ≠ b' := fun e => hn.1 (by subst e; exact g5 b hb0)
        simp only [walk]
        rw [World.cell?_setCell_other _ _ _ _ (by simp [hne]), g3, Option.bind_some, Option.bind_some]
        exact walk_same p' c x' vi Fi g4 (same_setCell (g8 b hb0) (hr b (by simp [g5 b hb0]))) hp'
  | i0 :: p, .bx own cs, v, F, hR, hn, hr, hs, hu, hw, [], x', hp', hq => rfl
  | i0 :: p, .bx own cs, v, F, hR, hn, hr, hs, hu, hw, i :: p', x', hp', hq => by
    simp only [List.cons_append, sub] at hs
    obtain ⟨c0, hc0, hs⟩ := Option.bind_eq_some_iff.1 hs
    simp only [sub] at hp'
    obtain ⟨c, hc, hp'⟩ := Option.bind_eq_some_iff.1 hp'
    simp only [Rep] at hR
    obtain ⟨b', o', F', rfl, h4, h5⟩ := hR
    cases own with
    | false => simp [upd] at hu
    | true =>
      simp only [Blk, if_true] at h4
      obtain ⟨_, rfl, _⟩ := h4
      simp only [List.nodup_cons] at hn
      simp only [List.cons_append, upd, hc0, Option.bind_some, Option.isSome_map] at hu
      have inF : ∀ (v0 : Value) (F0 : List Nat), w.cell? ⟨b', o' + i0, none⟩ = some v0 → Rep w ro c0 v0 F0 → F0.Nodup → (∀ x ∈ F0, x ∈ F') → walk w v0 p = some hd ∧ b ∈ F0 := by
        intro v0 F0 g1 g2 g3 g4
        simp only [walk, g1, Option.bind_some] at hw
        obtain ⟨hd3, b3, o3, pre3, Fo3, post3, vo3, m1, m2, m3, m4, m5, m6, m7, _⟩ := Rep.store p c0 v0 F0 j ot g2 g3 (fun x hx => hr x (by simp [g4 x hx])) hs hu
        rw [hw] at m1; obtain rfl := Option.some.inj m1
        rw [ha] at m2; simp only [Option.some.injEq, Prod.mk.injEq] at m2; obtain ⟨rfl, rfl⟩ := m2
        exact ⟨hw, by rw [m7]; simp [m6]⟩
      by_cases e : i0 = i
      · subst e
        rw [hc0] at hc; obtain rfl := Option.some.inj hc
        obtain ⟨v0, pr0, F0, po0, g1, g2, rfl, _⟩ := RepL.at cs _ F' i0 c0 h5 hc0
        have hn0 : F0.Nodup := by have := hn.2; simp only [List.nodup_append] at this; exact this.1.2.1
        obtain ⟨hw2, hb0⟩ := inF v0 F0 g1 g2 hn0 (by simp +contextual)
        have hne : b ≠ b' := fun e => hn.1 (by subst e; simp [hb0])
        simp only [walk]
        rw [World.cell?_setCell_other _ _ _ _ (by simp [hne]), g1, Option.bind_some, Option.bind_some]
        exact walk_store ha u p c0 v0 F0 g2 hn0 (fun x hx => hr x (by simp [hx])) hs hu hw2 p' x' hp' (by simpa using hq)
      · obtain ⟨v0, F0, vi, Fi, g1, g2, g3, g4, g5, g6, g7, g8⟩ := RepL.two cs _ F' i0 i c0 c h5 hn.2 e hc0 hc
        obtain ⟨hw2, hb0⟩ := inF v0 F0 g1 g2 g7 g5
        have hne : b ≠ b' := fun e => hn.1 (by subst e; exact g5 b hb0)
        simp only [walk]
        rw [World.cell?_setCell_other _ _ _ _ (by simp [hne]), g3, Option.bind_some, Option.bind_some]
        exact walk_same p' c x' vi Fi g4 (same_setCell (g8 b hb0) (hr b (by simp [g5 b hb0]))) hp'
  | [], .int _ _, v, F, hR, hn, hr, hs, hu, hw, _, _, _, _ => by simp [sub] at hs
  | _ :: _, .int _ _, v, F, hR, hn, hr, hs, hu, hw, _, _, _, _ => by simp [sub] at hs
  | [], .bool _, v, F, hR, hn, hr, hs, hu, hw, _, _, _, _ => by simp [sub] at hs
  | _ :: _, .bool _, v, F, hR, hn, hr, hs, hu, hw, _, _, _, _ => by simp [sub] at hs
  | [], .str _, v, F, hR, hn, hr, hs, hu, hw, _, _, _, _ => by simp [sub] at hs
  | _ :: _, .str _, v, F, hR, hn, hr, hs, hu, hw, _, _, _, _ => by simp [sub] at hs
  | [], .nptr, v, F, hR, hn, hr, hs, hu, hw, _, _, _, _ => by simp [sub] at hs
  | _ :: _, .nptr, v, F, hR, hn, hr, hs, hu, hw, _, _, _, _ => by simp [sub] at hs
  | [], .fn _ _, v, F, hR, hn, hr, hs, hu, hw, _, _, _, _ => by simp [sub] at hs
  | _ :: _, .fn _ _, v, F, hR, hn, hr, hs, hu, hw, _, _, _, _ => by simp [sub] at hs
  | [], .hole, v, F, hR, hn, hr, hs, hu, hw, _, _, _, _ => by simp [sub] at hs
  | _ :: _, .hole, v, F, hR, hn, hr, hs, hu, hw, _, _, _, _ => by simp [sub] at hs

theorem sub_self_upd : ∀ (q : List Nat) (t c t2 : T), upd c t q = some t2 → ∃ old, sub t q = some old
  | [], t, c, t2, h => ⟨t, by simp [sub]⟩
  | j :: q, .sl own st n cs, c, t2, h => by
    cases own with
    | false => simp [upd] at h
    | true =>
      simp only [upd] at h
      obtain ⟨d, hd, h⟩ := Option.bind_eq_some_iff.1 h
      obtain ⟨c2, h2, rfl⟩ := Option.map_eq_some_iff.1 h
      obtain ⟨old, ho⟩ := sub_self_upd q d c c2 h2
      exact ⟨old, by simp [sub, hd, ho]⟩
  | j :: q, .bx own cs, c, t2, h => by
    cases own with
    | false => simp [upd] at h
    | true =>
      simp only [upd] at h
      obtain ⟨d, hd, h⟩ := Option.bind_eq_some_iff.1 h
      obtain ⟨c2, h2, rfl⟩ := Option.map_eq_some_iff.1 h
      obtain ⟨old, ho⟩ := sub_self_upd q d c c2 h2
      exact ⟨old, by simp [sub, hd, ho]⟩
  | _ :: _, .int .., _, _, h => by simp [upd] at h
  | _ :: _, .bool .., _, _, h => by simp [upd] at h
  | _ :: _, .str .., _, _, h => by simp [upd] at h
  | _ :: _, .nptr, _, _, h => by simp [upd] at h
  | _ :: _, .fn .., _, _, h => by simp [upd] at h
  | _ :: _, .hole, _, _, h => by simp [upd] at h

theorem sub_append : ∀ (p q : List Nat) (t : T), sub t (p ++ q) = (sub t p).bind (sub · q)
  | [], q, t => by simp [sub]
  | i :: p, q, t => by
    have ih := sub_append p q
    cases t <;> simp [sub, ih, Option.bind_assoc]

/-- a tree put in at a cell -/
inductive PutC (s : St) (r : Nat) (q : List Nat) (c : T) : St → Prop
  | flat {t old t2} : get s.roots r = some t → sub t q = some old → isOb old = false → upd c t q = some t2 → PutC s r q c { s with roots := set s.roots r t2 }
  | kill {t t2} : get s.roots r = some t → upd c t q = some t2 → PutC s r q c (s.kill r q (set s.roots r t2))

section
variable {P : Program} {nt : Nat} {w : World} {ro : Nat → Prop} {s : St} {tm : Array Value} {args : List Value} {hv : Nat → Value} {F : Nat → List Nat} {G : List Nat}

/-- one cell is stored: its tree comes from the hand -/
theorem put_ok (h : Inv nt w ro s tm args hv F G) {r : Nat} {p : List Nat} {j b o : Nat} {c : T} {s' : St} {x hd : Value} {Fc G' : List Nat} (hp : PutC s r (p ++ [j]) c s') (hw : walk w (hv r) p = some hd) (ha : adr hd = some (b, o)) (hG : ∀ y, y ∈ Fc ∨ y ∈ G' → y ∈ G) (hnd : (Fc ++ G').Nodup) (hx : Rep w ro c x Fc) :
    (w.cell? ⟨b, o + j, none⟩).isSome ∧ w.frozen? ⟨b, o + j, none⟩ = false ∧ b ∈ F r ∧ ∃ F', Inv nt (w.setCell ⟨b, o + j, none⟩ x) ro s' tm args hv F' G' ∧ (∀ r' y, y ∈ F' r' → y ∈ F r' ∨ (r' = r ∧ y ∈ Fc)) := by
  obtain ⟨t, t2, hr, hu, hs'⟩ : ∃ t t2, get s.roots r = some t ∧ upd c t (p ++ [j]) = some t2 ∧ s'.roots = set s.roots r t2 := by
    cases hp with
    | flat e1 e2 e3 e4 => exact ⟨_, _, e1, e4, rfl⟩
    | kill e1 e4 => exact ⟨_, _, e1, e4, rfl⟩
  obtain ⟨old, hold⟩ := sub_self_upd _ _ _ _ hu
  have hus := upd_some _ _ _ old _ hu
  obtain ⟨hd2, b2, o2, pre, Fo, post, vo, k1, k2, k3, k4, k5, k6, k7, k8⟩ := Rep.store p t (hv r) (F r) j old (h.rep r t hr) (h.nd r t hr) (h.nro r t hr) hold hus
  rw [hw] at k1; obtain rfl := Option.some.inj k1
  rw [ha] at k2; simp only [Option.some.injEq, Prod.mk.injEq] at k2; obtain ⟨rfl, rfl⟩ := k2
  have hbF : b ∈ F r := by rw [k7]; simp [k6]
  refine ⟨by simp [k3], k5, hbF, fun r' => if r' = r then pre ++ Fc ++ post else F r', ?_, fun r' y hy => ?_⟩
  rotate_left
  · dsimp only at hy
    split at hy
    · subst_vars
      simp only [List.mem_append] at hy
      rcases hy with (hy | hy) | hy
      · exact .inl (by rw [k7]; simp [hy])
      · exact .inr ⟨rfl, hy⟩
      · exact .inl (by rw [k7]; simp [hy])
    · exact .inl hy
  have hS := since_setCell w b (o + j) x
  have hsame : ∀ (Fx : List Nat), b ∉ Fx → Same w (w.setCell ⟨b, o + j, none⟩ x) Fx ro := fun Fx hb => same_setCell hb (h.nro r t hr b hbF)
  have hbG : b ∉ G := h.gdis r t hr b hbF
  obtain ⟨t3, u1, u2⟩ := k8 x c Fc (Rep.same (hsame Fc (fun hb => hbG (hG b (.inl hb)))) (fun _ h => h) hS.size _ _ _ hx (fun _ h => h))
  rw [hu] at u1; obtain rfl := Option.some.inj u1
  have hnF := h.nd r t hr
  rw [k7] at hnF
  simp only [List.nodup_append, List.mem_append] at hnF hnd
  have hFG : ∀ y ∈ F r, y ∉ G := fun y hy => h.gdis r t hr y hy
  have hpre : ∀ y ∈ pre, y ∈ F r := fun y hy => by rw [k7]; simp [hy]
  have hpost : ∀ y ∈ post, y ∈ F r := fun y hy => by rw [k7]; simp [hy]
  have hget : ∀ r' t', get (set s.roots r t2) r' = some t' → (r' = r ∧ t' = t2) ∨ (r' ≠ r ∧ get s.roots r' = some t') := by
    intro r' t' h'
    rw [get_set] at h'
    split at h'
    · simp only [Option.some.injEq] at h'; exact .inl ⟨(‹r = r'›).symm, h'.symm⟩
    · exact .inr ⟨Ne.symm ‹_›, h'⟩
  -- what is told of each root
  have hrep : ∀ r' t', get (set s.roots r t2) r' = some t' → Rep (w.setCell ⟨b, o + j, none⟩ x) ro t' (hv r') (if r' = r then pre ++ Fc ++ post else F r') := by
    intro r' t' h'
    rcases hget _ _ h' with ⟨rfl, rfl⟩ | ⟨hne, h'⟩
    · simpa using u2
    · simp only [hne, if_false]
      exact Rep.same (hsame _ (fun hb => h.dis r' t' r t h' hr hne b hb hbF)) (fun _ h => h) hS.size _ _ _ (h.rep r' t' h') (fun _ h => h)
  have hndr : ∀ r' t', get (set s.roots r t2) r' = some t' → (if r' = r then pre ++ Fc ++ post else F r').Nodup := by
    intro r' t' h'
    rcases hget _ _ h' with ⟨rfl, rfl⟩ | ⟨hne, h'⟩
    · simp only [if_true, List.nodup_append, List.mem_append]
      refine ⟨⟨hnF.1.1, hnd.1, fun y hy z hz e => hFG y (hpre y hy) (e ▸ hG z (.inl hz))⟩, hnF.2.1, fun y hy z hz => ?_⟩
      rcases hy with hy | hy
      · exact hnF.2.2 y (.inl hy) z hz
      · exact fun e => hFG z (hpost z hz) (e ▸ hG y (.inl hy))
    · simpa [hne] using h.nd r' t' h'
  have hdis : ∀ r1 t1 r3 t3, get (set s.roots r t2) r1 = some t1 → get (set s.roots r t2) r3 = some t3 → r1 ≠ r3 → ∀ y ∈ (if r1 = r then pre ++ Fc ++ post else F r1), y ∉ (if r3 = r then pre ++ Fc ++ post else F r3) := by
    have half : ∀ r3 t3, get s.roots r3 = some t3 → r3 ≠ r → ∀ y, y ∈ pre ++ Fc ++ post → y ∉ F r3 := by
      intro r3 t3 h3 hne y hy hy3
      simp only [List.mem_append] at hy
      rcases hy with (hy | hy) | hy
      · exact h.dis r t r3 t3 hr h3 (Ne.symm hne) y (hpre y hy) hy3
      · exact h.gdis r3 t3 h3 y hy3 (hG y (.inl hy))
      · exact h.dis r t r3 t3 hr h3 (Ne.symm hne) y (hpost y hy) hy3
    intro r1 t1 r3 t3 h1 h3 hne y hy hy3
    rcases hget _ _ h1 with ⟨e1, _⟩ | ⟨hn1, h1⟩
    · rcases hget _ _ h3 with ⟨e3, _⟩ | ⟨hn3, h3⟩
      · exact hne (e1.trans e3.symm)
      · simp only [e1, if_true] at hy
        simp only [hn3, if_false] at hy3
        exact half r3 t3 h3 hn3 y hy hy3
    · simp only [hn1, if_false] at hy
      rcases hget _ _ h3 with ⟨e3, _⟩ | ⟨hn3, h3⟩
      · simp only [e3, if_true] at hy3
        exact half r1 t1 h1 hn1 y hy3 hy
      · simp only [hn3, if_false] at hy3
        exact h.dis r1 t1 r3 t3 h1 h3 hne y hy hy3
  have hnro : ∀ r' t', get (set s.roots r t2) r' = some t' → ∀ y ∈ (if r' = r then pre ++ Fc ++ post else F r'), ¬ ro y := by
    intro r' t' h' y hy
    rcases hget _ _ h' with ⟨e, _⟩ | ⟨hne, h'⟩
    · simp only [e, if_true, List.mem_append] at hy
      rcases hy with (hy | hy) | hy
      · exact h.nro r t hr y (hpre y hy)
      · exact h.gnro y (hG y (.inl hy))
      · exact h.nro r t hr y (hpost y hy)
    · simp only [hne, if_false] at hy; exact h.nro r' t' h' y hy
  have hgdis : ∀ r' t', get (set s.roots r t2) r' = some t' → ∀ y ∈ (if r' = r then pre ++ Fc ++ post else F r'), y ∉ G' := by
    intro r' t' h' y hy hyG
    rcases hget _ _ h' with ⟨e, _⟩ | ⟨hne, h'⟩
    · simp only [e, if_true, List.mem_append] at hy
      rcases hy with (hy | hy) | hy
      · exact hFG y (hpre y hy) (hG y (.inr hyG))
      · exact hnd.2.2 y hy y hyG rfl
      · exact hFG y (hpost y hy) (hG y (.inr hyG))
    · simp only [hne, if_false] at hy; exact h.gdis r' t' h' y hy (hG y (.inr hyG))
  have hgnro : ∀ y ∈ G', ¬ ro y := fun y hy => h.gnro y (hG y (.inr hy))
  have hglt : ∀ y ∈ G', y < (w.setCell ⟨b, o + j, none⟩ x).heap.size := fun y hy => by simpa using h.glt y (hG y (.inr hy))
  have hrolt : ∀ y, ro y → y < (w.setCell ⟨b, o + j, none⟩ x).heap.size := fun y hy => by simpa using h.rolt y hy
  -- a way that does not lead through the cell
  have hway : ∀ (r1 : Nat) (q : List Nat) (t' : T), get (set s.roots r t2) r1 = some t' → (r1 = r → (p ++ [j]).isPrefixOf q = false) → ∃ t, get s.roots r1 = some t ∧ ∀ x', sub t q = some x' → isOb x' = true → ∃ x'', sub t' q = some x'' ∧ Alike x' x'' ∧ ∀ g, walk w (hv r1) q = some g → walk (w.setCell ⟨b, o + j, none⟩ x) (hv r1) q = some g := by
    intro r1 q t' ht' hq
    rcases hget _ _ ht' with ⟨rfl, rfl⟩ | ⟨hne, ht'⟩
    · refine ⟨t, hr, fun x' hx' ho => ?_⟩
      obtain ⟨x'', e4, e5⟩ := sub_upd _ q t _ _ x' hu (hq rfl) hx'
      refine ⟨x'', e4, e5, fun g hg => ?_⟩
      rw [walk_store ha x p t _ _ (h.rep _ t hr) (h.nd _ t hr) (h.nro _ t hr) hold hus hw q x' hx' (hq rfl)]; exact hg
    · refine ⟨t', ht', fun x' hx' ho => ⟨x', hx', Alike.refl x', fun g hg => ?_⟩⟩
      rw [walk_same q t' x' _ _ (h.rep r1 t' ht') (hsame _ (fun hb => h.dis r1 t' r t ht' hr hne b hb hbF)) hx']; exact hg
  cases hp with
  | flat e1 e2 e3 e4 =>
    rw [hr] at e1; obtain rfl := Option.some.inj e1
    rw [hu] at e4; obtain rfl := Option.some.inj e4
    rw [hold] at e2; obtain rfl := Option.some.inj e2
    refine Inv.move0 (F' := fun r' => if r' = r then pre ++ Fc ++ post else F r') (G' := G') h (fun r1 q r2 q' e => ?_) hrep hndr hdis hnro ((List.nodup_append.1 (List.nodup_append.2 ⟨hnd.1, hnd.2.1, hnd.2.2⟩)).2.1) hgdis hgnro hglt hrolt
    simp only [idRen, Option.some.injEq, Prod.mk.injEq] at e
    obtain ⟨rfl, rfl⟩ := e
    refine ⟨fun h => ⟨h, rfl⟩, fun t' ht' => ?_⟩
    by_cases hq : r1 = r ∧ (p ++ [j]).isPrefixOf q = true
    · obtain ⟨rfl, hq⟩ := hq
      refine ⟨t, hr, fun x' hx' ho => ?_⟩
      exfalso
      obtain ⟨q2, rfl⟩ := List.isPrefixOf_iff_prefix.1 hq
      rw [sub_append, hold, Option.bind_some] at hx'
      cases q2 with
      | nil => simp only [sub, Option.some.injEq] at hx'; subst hx'; simp [e3] at ho
      | cons i q2 => cases old <;> simp [sub] at hx' <;> simp [isOb] at e3
    · exact hway r1 q t' ht' (fun e => by
        cases hh : (p ++ [j]).isPrefixOf q
        · rfl
        · exact absurd ⟨e, hh⟩ hq)
  | kill e1 e4 =>
    rw [hr] at e1; obtain rfl := Option.some.inj e1
    rw [hu] at e4; obtain rfl := Option.some.inj e4
    refine Inv.move (F' := fun r' => if r' = r then pre ++ Fc ++ post else F r') (G' := G') h (f := killR r (p ++ [j])) (fun r1 q r2 q' e => ?_) hrep hndr hdis hnro hnd.2.1 hgdis hgnro hglt hrolt
    simp only [killR] at e
    split at e
    · simp at e
    · rename_i hq
      simp only [Option.some.injEq, Prod.mk.injEq] at e
      obtain ⟨rfl, rfl⟩ := e
      exact ⟨fun h => ⟨h, rfl⟩, fun t' ht' => hway r1 q t' ht' (fun e => by
        cases hh : (p ++ [j]).isPrefixOf q
        · rfl
        · exact absurd ⟨e, hh⟩ hq)⟩
end
end Go.Proofs.YtplhecjngmkngaaT

/- Trees: the store operation. No condition. -/
set_option linter.unusedVariables false
set_option linter.unusedSimpArgs false
set_option linter.unusedSectionVars false
namespace Go.Proofs.YtplhecjngmkngaaT
open Go

/-- trees put in at cells, one behind the other -/
inductive PutL : St → Nat → List Nat → Nat → List T → St → Prop
  | nil (z : St) {r p off} : PutL z r p off [] z
  | cons {z z1 z2 : St} {r p off c cs} : PutC z r (p ++ [off]) c z1 → PutL z1 r p (off + 1) cs z2 → PutL z r p off (c :: cs) z2

section
variable {P : Program} {nt : Nat} {w : World} {ro : Nat → Prop} {s : St} {tm : Array Value} {args : List Value} {hv : Nat → Value} {F : Nat → List Nat} {G : List Nat}

theorem putC_root {r r' : Nat} {q : List Nat} {c : T} {s' : St} (h : PutC s r q c s') {t : T} (ht : get s'.roots r' = some t) : ∃ t, get s.roots r' = some t := by
  have : s'.roots = set s.roots r t ∨ ∃ t2, s'.roots = set s.roots r t2 ∧ ∃ t, get s.roots r = some t := by
    cases h with
    | flat e1 e2 e3 e4 => exact .inr ⟨_, rfl, _, e1⟩
    | kill e1 e4 => exact .inr ⟨_, rfl, _, e1⟩
  obtain ⟨t2, h2, t0, h0⟩ : ∃ t2, s'.roots = set s.roots r t2 ∧ ∃ t, get s.roots r = some t := by
    cases h with
    | flat e1 e2 e3 e4 => exact ⟨_, rfl, _, e1⟩
    | kill e1 e4 => exact ⟨_, rfl, _, e1⟩
  rw [h2, get_set] at ht
  split at ht
  · subst_vars; exact ⟨t0, h0⟩
  · exact ⟨t, ht⟩

theorem putL_ok {r b o : Nat} {p : List Nat} {hd : Value} (ha : adr hd = some (b, o)) : ∀ {z z' : St} {off : Nat} {ts : List T}, PutL z r p off ts z' → ∀ {w : World} {F : Nat → List Nat} {Ft G' : List Nat} {vs : List Value}, Inv nt w ro z tm args hv F (Ft ++ G') → walk w (hv r) p = some hd → RepV w ro ts vs Ft →
    (∀ j, j < vs.length → (w.cell? ⟨b, o + off + j, none⟩).isSome = true) ∧ (∀ j, j < vs.length → w.frozen? ⟨b, o + off + j, none⟩ = false) ∧ (vs = [] ∨ b ∈ F r ∧ ∃ t, get z.roots r = some t) ∧
    ∃ F', Inv nt (w.setCells b (o + off) vs) ro z' tm args hv F' G' ∧ (∀ r' y, y ∈ F' r' → y ∈ F r' ∨ (r' = r ∧ y ∈ Ft)) := by
  intro z z' off ts hp
  induction hp with
  | nil z =>
    intro w F Ft G' vs h hw hr
    simp only [RepV] at hr
    obtain ⟨rfl, rfl⟩ := hr
    exact ⟨by simp, by simp, .inl rfl, F, by simpa [World.setCells] using h, fun r' y hy => .inl hy⟩
  | cons h1 h2 ih =>
    rename_i z z1 z2 r p off c cs
    intro w F Ft G' vs h hw hr
    simp only [RepV] at hr
    obtain ⟨v, vs', F1, F2, rfl, r1, r2, rfl⟩ := hr
    have hnd := h.gnd
    obtain ⟨k1, k2, k3, F', k4, k5⟩ := put_ok (Fc := F1) (G' := F2 ++ G') h h1 hw ha (fun y hy => by simp only [List.mem_append] at hy ⊢; rcases hy with hy | hy | hy <;> simp [hy]) (by simpa using hnd) r1
    have hbG : b ∉ F1 ++ F2 ++ G' := by
      intro hb
      cases h1 with
      | flat e1 e2 e3 e4 => exact h.gdis _ _ e1 b k3 hb
      | kill e1 e4 => exact h.gdis _ _ e1 b k3 hb
    have hrb : ¬ ro b := by
      cases h1 with
      | flat e1 e2 e3 e4 => exact h.nro _ _ e1 b k3
      | kill e1 e4 => exact h.nro _ _ e1 b k3
    have hroot : ∃ t, get z.roots r = some t := by
      cases h1 with
      | flat e1 e2 e3 e4 => exact ⟨_, e1⟩
      | kill e1 e4 => exact ⟨_, e1⟩
    have hw2 : walk (w.setCell ⟨b, o + off, none⟩ v) (hv r) p = some hd := by
      obtain ⟨t, t2, e1, e4⟩ : ∃ t t2, get z.roots r = some t ∧ upd c t (p ++ [off]) = some t2 := by
        cases h1 with
        | flat e1 e2 e3 e4 => exact ⟨_, _, e1, e4⟩
        | kill e1 e4 => exact ⟨_, _, e1, e4⟩
      obtain ⟨old, hold⟩ := sub_self_upd _ _ _ _ e4
      have hsp := hold
      rw [sub_snoc] at hsp
      obtain ⟨ob, hob, _⟩ := Option.bind_eq_some_iff.1 hsp
      rw [walk_store ha v p t _ _ (h.rep _ t e1) (h.nd _ t e1) (h.nro _ t e1) hold (upd_some _ _ _ old _ e4) hw p ob hob ?_]
      · exact hw
      · cases hh : (p ++ [off]).isPrefixOf p
        · rfl
        · exfalso
          have := (List.isPrefixOf_iff_prefix.1 hh).length_le
          simp only [List.length_append, List.length_cons, List.length_nil] at this
          omega
    have hrv : ∀ (ts : List T) (us : List Value) (Fx : List Nat), RepV w ro ts us Fx → (∀ y ∈ Fx, y ∈ F2) → RepV (w.setCell ⟨b, o + off, none⟩ v) ro ts us Fx := fun ts us Fx hh hs =>
      RepV.same (same_setCell (fun hb => hbG (by simp [hs b hb])) hrb) (fun _ h => h) (by simp) ts us Fx hh (fun _ h => h)
    obtain ⟨m1, m2, m3, F'', m4, m5⟩ := ih k4 hw2 (hrv _ _ _ r2 (fun _ h => h))
    refine ⟨fun j hj => ?_, fun j hj => ?_, .inr ⟨k3, hroot⟩, F'', ?_, fun r' y hy => ?_⟩
    · cases j with
      | zero => simpa using k1
      | succ j =>
        have := m1 j (by simpa using hj)
        rw [World.cell?_setCell_other _ _ _ _ (by simp)] at this
        rwa [show o + off + (j + 1) = o + (off + 1) + j by omega]
    · cases j with
      | zero => simpa using k2
      | succ j =>
        have := m2 j (by simpa using hj)
        rw [World.frozen?_setCell] at this
        rwa [show o + off + (j + 1) = o + (off + 1) + j by omega]
    · rw [World.setCells]
      rwa [show o + (off + 1) = o + off + 1 by omega] at m4
    · rcases m5 r' y hy with hy | ⟨e, hy⟩
      · rcases k5 r' y hy with hy | ⟨e, hy⟩
        · exact .inl hy
        · exact .inr ⟨e, by simp [hy]⟩
      · exact .inr ⟨e, by simp [hy]⟩

/-- a store, run, and what it leaves -/
def Stored (P : Program) (nt : Nat) (w : World) (ro : Nat → Prop) (F : Nat → List Nat) (args : List Value) (s s' : St) (a : Go.Act) (o : Oper) (G0 : List Nat) : Prop :=
  ∃ w' hv' F', (execOp a.eval o).run P w = .ok .skip w' ∧ (∃ Fs, Since w Fs w' ∧ ∀ b ∈ Fs, ∃ r t, get s.roots r = some t ∧ b ∈ F r) ∧ Inv nt w' ro s' a.tmps args hv' F' G0 ∧ (∀ r t b, get s'.roots r = some t → b ∈ F' r → (∃ r t, get s.roots r = some t ∧ b ∈ F r) ∨ w.heap.size ≤ b)

theorem putL_root {z z' : St} {r off : Nat} {p : List Nat} {ts : List T} (h : PutL z r p off ts z') {r' : Nat} {t : T} (ht : get z'.roots r' = some t) : ∃ t, get z.roots r' = some t := by
  induction h with
  | nil => exact ⟨t, ht⟩
  | cons h1 _ ih => obtain ⟨t', ht'⟩ := ih ht; exact putC_root h1 ht'

theorem m_store {a : Go.Act} (h : Inv nt w ro s a.tmps args hv F G) {o : Oper} {t : TypeId} {x y : Operand} {A X' : X} {k r off : Nat} {p : List Nat} {v : W} {s1 s2 : St} {ts : List T} {t0 : T}
    (ho : o.op = .store t x y) (hk : szOf P t = some k) (hx : toX x = some A) (hy : toX y = some X') (e1 : ev s A = some (.w (.one (.hp r p off)))) (e2 : ev s X' = some (.w v)) (hr : get s.roots r = some t0) (hl : v.cells.all (live s.roots) = true) (hkl : v.cells.length = k)
    (hg : Grab s v.cells ts s1) (hp : PutL s1 r p off ts s2) : Stored P nt w ro F args s s2 a o G := by
  have r1 := ev_rep h hx e1
  have r2 := ev_rep h hy e2
  simp only [VRep, WRep] at r1 r2
  simp only [HRep] at r1
  obtain ⟨t', hd, b, o', ⟨q1, q1'⟩, q2, q3, q4⟩ := r1.2 t0 hr
  have hcells : HRepL w s.roots hv v.cells (a.eval y).cells.toList ∧ ∀ u ∈ (a.eval y).cells.toList, u.oneCell' = true := by
    have all1 : ∀ (gs : List H) (vs : List Value), gs.all (live s.roots) = true → HRepL w s.roots hv gs vs → ∀ u ∈ vs, u.oneCell' = true := by
      intro gs
      induction gs with
      | nil => intro vs _ hh u hu; simp only [HRepL] at hh; subst hh; simp at hu
      | cons g gs ih =>
        intro vs hall hh u hu
        simp only [List.all_cons, Bool.and_eq_true] at hall
        simp only [HRepL] at hh
        obtain ⟨v1, vs', rfl, h1, h2⟩ := hh
        rcases List.mem_cons.1 hu with rfl | hu
        · exact (cell_one hall.1 h1).2
        · exact ih vs' hall.2 h2 u hu
    have hc : HRepL w s.roots hv v.cells (a.eval y).cells.toList := by
      cases v with
      | one g => exact wcells_rep r2 (fun g' hg' => by cases hg'; exact (cell_one (by simpa [W.cells] using hl) r2).1)
      | agg gs => exact wcells_rep r2 (fun g' hg' => by cases hg')
    exact ⟨hc, all1 _ _ hl hc⟩
  obtain ⟨F1, Ft, k1, k2, k3, k4⟩ := grab_ok hg h hcells.1
  obtain ⟨m1, m2, m3, F', m4, m5⟩ := putL_ok q3 hp k1 q2 k2
  have hsz : (a.eval y).cells.size = k := by
    have := HRepL_len _ _ hcells.1
    rw [Array.length_toList] at this; omega
  unfold szOf at hk
  obtain ⟨inf, hinf, hks⟩ := Option.map_eq_some_iff.1 hk
  refine ⟨_, hv, F', ?_, ?_, m4, fun r' t' y' ht' hy' => ?_⟩
  · have hst := run_storeCells_cells (P := P) b (o' + off) (a.eval y).cells.toList 0 w (by simpa using m1) (by simpa using m2) hcells.2
    simp only [Nat.add_zero] at hst
    simp [execOp, ho, q4, Instr.storeAt, Instr.sureAddr, storeVar, sizeOf, typeInfo, hinf, hks, hsz, hst]
  · rcases m3 with m3 | ⟨m3, t1, m3'⟩
    · rw [m3]; exact ⟨[], Since.refl w [], by simp⟩
    · exact ⟨[b], since_setCells b _ _ w, fun y hy => by simp only [List.mem_cons, List.not_mem_nil, or_false] at hy; subst hy; exact k3 r t1 y m3' m3⟩
  · obtain ⟨t1, ht1⟩ := putL_root hp ht'
    rcases m5 r' y' hy' with hy' | ⟨_, hy'⟩
    · exact .inl (k3 r' t1 y' ht1 hy')
    · exact .inl (k4 y' hy')
/-- a store of what lies there already: a header of one's own, put where it is -/
theorem setCell_self {w : World} {b o : Nat} {v : Value} (h : w.cell? ⟨b, o, none⟩ = some v) : w.setCell ⟨b, o, none⟩ v = w := by
  unfold World.setCell
  unfold World.cell? at h
  have : (w.heap.modify b fun
      | .cells c elem frozen => .cells (if (none : Option Nat).isSome then c else c.setIfInBounds o v) elem frozen
      | x => x) = w.heap := by
    apply Array.ext_getElem?
    intro i
    rw [Array.getElem?_modify]
    split
    · rename_i e; subst e
      simp only at h
      cases hb : w.heap[b]? with
      | none => rfl
      | some x =>
        rw [hb] at h
        cases x with
        | cells c elem fr =>
          simp only [Option.isSome_none, Bool.false_eq_true, if_false] at h ⊢
          simp only [Option.map_some]
          congr 2
          apply Array.ext_getElem?
          intro j
          rw [Array.getElem?_setIfInBounds]
          split
          · rename_i e; subst e
            split
            · exact h.symm
            · rename_i hq; rw [Array.getElem?_eq_none (by omega)] at h; simp at h
          · rfl
        | _ => simp at h
    · rfl
  exact congrArg (fun h => ({ w with heap := h } : World)) this
theorem m_same {a : Go.Act} (h : Inv nt w ro s a.tmps args hv F G) {o : Oper} {t : TypeId} {x y : Operand} {A X' : X} {r off st n : Nat} {p : List Nat} {t0 : T} {cs : List T}
    (ho : o.op = .store t x y) (hk : szOf P t = some 1) (hx : toX x = some A) (hy : toX y = some X') (e1 : ev s A = some (.w (.one (.hp r p off)))) (e2 : ev s X' = some (.w (.one (.hs r (p ++ [off]) 0 st n)))) (hr : get s.roots r = some t0) (hs : sub t0 (p ++ [off]) = some (.sl true st n cs)) (hu : (upd .hole t0 (p ++ [off])).isSome) : Stored P nt w ro F args s s a o G := by
  have r1 := ev_rep h hx e1
  have r2 := ev_rep h hy e2
  simp only [VRep, WRep] at r1 r2
  have r2' := r2
  simp only [HRep] at r1 r2
  obtain ⟨t', hd, b, o', ⟨q1, q1'⟩, q2, q3, q4⟩ := r1.2 t0 hr
  obtain ⟨own, n0, cs', hv0, p1, p2, ⟨p3, p3'⟩, p4⟩ := r2.2 t0 hr
  obtain ⟨t2, hu⟩ := Option.isSome_iff_exists.1 hu
  obtain ⟨hd2, b2, o2, pre, Fo, post, vo, k1, k2, k3, k4, k5, k6, k7, k8⟩ := Rep.store p t0 (hv r) (F r) off _ (h.rep r t0 hr) (h.nd r t0 hr) (h.nro r t0 hr) hs (upd_some _ _ _ _ _ hu)
  rw [q2] at k1; obtain rfl := Option.some.inj k1
  rw [q3] at k2; simp only [Option.some.injEq, Prod.mk.injEq] at k2; obtain ⟨rfl, rfl⟩ := k2
  have e0 : hv0 = vo := by
    rw [walk_snoc, q2, Option.bind_some] at p2
    have hw : walk w hd [off] = w.cell? ⟨b, o' + off, none⟩ := by
      cases hd with
      | slice A n1 c =>
        cases A with
        | none => simp [adr] at q3
        | some A => simp only [adr, Option.some.injEq, Prod.mk.injEq] at q3; obtain ⟨rfl, rfl⟩ := q3; simp [walk]
      | pointer A =>
        cases A with
        | none => simp [adr] at q3
        | some A => simp only [adr, Option.some.injEq, Prod.mk.injEq] at q3; obtain ⟨rfl, rfl⟩ := q3; simp [walk]
      | _ => simp [adr] at q3
    rw [hw, k3] at p2
    exact (Option.some.inj p2).symm
  subst e0
  have e3 : a.eval y = hv0 := by
    simp only [Rep] at k4
    rcases k4 with ⟨rfl, _, _, A, rfl⟩ | ⟨b3, o3, cap, F', rfl, _⟩
    · exact p3' rfl _ _ rfl
    · exact p3' rfl _ _ rfl
  have hone := cell_one (roots := s.roots) (hv := hv) (w := w) (g := .hs r (p ++ [off]) 0 st n) (v := a.eval y) (by simp [live, hr]) r2'
  have z1 : ∀ j, j < [a.eval y].length → (w.cell? ⟨b, o' + off + 0 + j, none⟩).isSome = true := fun j hj => by
    obtain rfl : j = 0 := by simpa using hj
    simp [k3]
  have z2 : ∀ j, j < [a.eval y].length → w.frozen? ⟨b, o' + off + 0 + j, none⟩ = false := fun j hj => by
    obtain rfl : j = 0 := by simpa using hj
    simpa using k5
  have hst := run_storeCells_cells (P := P) b (o' + off) [a.eval y] 0 w (by simpa using z1) (by simpa using z2) (by intro u hu; simp only [List.mem_cons, List.not_mem_nil, or_false] at hu; subst hu; exact hone.2)
  simp only [Nat.add_zero, World.setCells] at hst
  rw [setCell_self (by rw [e3]; exact k3)] at hst
  unfold szOf at hk
  obtain ⟨inf, hinf, hks⟩ := Option.map_eq_some_iff.1 hk
  refine ⟨w, hv, F, ?_, ⟨[], Since.refl w [], by simp⟩, h, fun r' t' y' ht' hy' => .inl ⟨r', t', ht', hy'⟩⟩
  simp [execOp, ho, q4, Instr.storeAt, Instr.sureAddr, storeVar, sizeOf, typeInfo, hinf, hks, hone.1, hst]
end
end Go.Proofs.YtplhecjngmkngaaT

/- Trees: what is handed to a call: read, taken or lent. No condition. -/
set_option linter.unusedVariables false
set_option linter.unusedSimpArgs false
set_option linter.unusedSectionVars false
namespace Go.Proofs.YtplhecjngmkngaaT
open Go

mutual
/-- what is read: where `A`, what is one's own, too -/
inductive LookT (A : Bool) (roots : List (Nat × T)) : H → T → Prop
  | int {k n} : LookT A roots (.int k n) (.int k n)
  | bool {b} : LookT A roots (.bool b) (.bool b)
  | str {b} : LookT A roots (.str b) (.str b)
  | nptr : LookT A roots .nptr .nptr
  | nil {own st} : LookT A roots .nil (.sl own st 0 [])
  | ro {r p off st n t n0 cs} : get roots r = some t → sub t p = some (.sl false st n0 cs) → LookT A roots (.hs r p off st n) (.sl false st n ((cs.drop off).take (n * st)))
  | roBx {r p t cs} : get roots r = some t → sub t p = some (.bx false cs) → LookT A roots (.hp r p 0) (.bx false cs)
  | own {r p off st n t n0 cs} : A = true → get roots r = some t → sub t p = some (.sl true st n0 cs) → LookT A roots (.hs r p off st n) (.sl false st n (((cs.drop off).take (n * st)).map toRo))
  | ownBx {r p t cs} : A = true → get roots r = some t → sub t p = some (.bx true cs) → LookT A roots (.hp r p 0) (.bx false (cs.map toRo))
  | fn {f caps ts} : LookTL A roots caps ts → LookT A roots (.fn f caps) (.fn f ts)
inductive LookTL (A : Bool) (roots : List (Nat × T)) : List H → List T → Prop
  | nil : LookTL A roots [] []
  | cons {h t hs ts} : LookT A roots h t → LookTL A roots hs ts → LookTL A roots (h :: hs) (t :: ts)
end

/-- lent: it comes back to where it was -/
inductive Lend (s : St) : H → T → St → Ren → Prop
  | root {r st n cs} : get s.roots r = some (.sl true st n cs) → Lend s (.hs r [] 0 st n) (.sl true st n cs) { s with roots := del s.roots r } idRen
  | path {r p j st n cs t t2} : get s.roots r = some t → sub t (p ++ [j]) = some (.sl true st n cs) → upd .hole t (p ++ [j]) = some t2 →
      Lend s (.hs r (p ++ [j]) 0 st n) (.sl true st n cs) (s.kill r (p ++ [j]) (set s.roots r t2)) (killR r (p ++ [j]))
  | rootBx {r cs} : get s.roots r = some (.bx true cs) → Lend s (.hp r [] 0) (.bx true cs) { s with roots := del s.roots r } idRen

inductive Args (A : Bool) : St → List H → List T → List (Option H) → St → Prop
  | nil (z : St) : Args A z [] [] [] z
  | late {z z' : St} {g t gs ts ls} : Args A z gs ts ls z' → LookT A z'.roots g t → Args A z (g :: gs) (t :: ts) (none :: ls) z'
  | take {z z1 z' : St} {g t gs ts ls} {f : Ren} : Take z g t z1 f → Args A z1 (renHL f gs) ts ls z' → Args A z (g :: gs) (t :: ts) (none :: ls) z'
  | lend {z z1 z' : St} {g t gs ts ls} {f : Ren} : Lend z g t z1 f → Args A z1 (renHL f gs) ts ls z' → Args A z (g :: gs) (t :: ts) (some g :: ls) z'

/-- where a loan came from -/
def Loan (w : World) (hv : Nat → Value) (v : Value) : H → Prop
  | .hs r p _ _ _ => walk w (hv r) p = some v
  | .hp r p _ => walk w (hv r) p = some v
  | _ => False
def Loans (w : World) (hv : Nat → Value) : List (Option H) → List Value → Prop
  | [], vs => vs = []
  | l :: ls, vs => ∃ v vs', vs = v :: vs' ∧ (∀ g, l = some g → Loan w hv v g) ∧ Loans w hv ls vs'

section
variable {P : Program} {nt : Nat} {w : World} {ro : Nat → Prop} {s : St} {tm : Array Value} {args : List Value} {hv : Nat → Value} {F : Nat → List Nat} {G : List Nat}

/-- what is one's own and not in the hand -/
def Rest (s : St) (F : Nat → List Nat) (b : Nat) : Prop := ∃ r t, get s.roots r = some t ∧ b ∈ F r

mutual
theorem look_rep (h : Inv nt w ro s tm args hv F G) {A : Bool} {ro' : Nat → Prop} (hro : ∀ b, ro b → ro' b) (hA : A = true → ∀ b, Rest s F b → ro' b) : ∀ (g : H) (t : T) (v : Value), LookT A s.roots g t → HRep w s.roots hv g v → Rep w ro' t v []
  | _, _, v, .int, hr => by simp only [HRep] at hr; simp only [Rep]; exact ⟨hr, trivial⟩
  | _, _, v, .bool, hr => by simp only [HRep] at hr; simp only [Rep]; exact ⟨hr, trivial⟩
  | _, _, v, .str, hr => by simp only [HRep] at hr; simp only [Rep]; exact ⟨hr, trivial⟩
  | _, _, v, .nptr, hr => by simp only [HRep] at hr; simp only [Rep]; exact ⟨hr, trivial⟩
  | _, _, v, .nil, hr => by simp only [HRep] at hr; simp only [Rep]; exact .inl ⟨trivial, trivial, trivial, hr⟩
  | _, _, v, .ro e1 e2, hr => Rep.same (fun _ _ => rfl) hro (Nat.le_refl _) _ _ _ (cellT_rep h _ _ v (.ro e1 e2) hr) (fun _ h => h) (G := [])
  | _, _, v, .roBx e1 e2, hr => Rep.same (fun _ _ => rfl) hro (Nat.le_refl _) _ _ _ (cellT_rep h _ _ v (.roBx e1 e2) hr) (fun _ h => h) (G := [])
  | _, _, v, .own (r := r) (off := off) (st := st) (n := n) (cs := cs) hAt e1 e2, hr => by
    obtain ⟨Ft, Fo, k1, k2, k3, v', pre, post, k4, k5, k6, _⟩ := hs_own h e1 e2 hr
    have := Rep.toRo hro _ _ _ k1 (fun b hb => hA hAt b ⟨r, _, e1, by rw [k5]; simp [k3 b hb]⟩)
    simpa using this
  | _, _, v, .ownBx (r := r) (p := p) (cs := cs) hAt e1 e2, hr => by
    simp only [HRep] at hr
    obtain ⟨t', hh, b, o, ⟨q1, _⟩, q2, q3, rfl⟩ := hr.2 _ e1
    obtain ⟨v', pre, F', post, k1, k2, k3, _⟩ := Rep.sub p _ _ _ _ (h.rep _ _ e1) e2
    rw [q2] at k1; obtain rfl := Option.some.inj k1
    have k4 := Rep.toRo hro _ _ _ k2 (fun b hb => hA hAt b ⟨r, _, e1, by rw [k3]; simp [hb]⟩)
    simp only [Rep] at k2
    obtain ⟨b', o', F'', rfl, k5, k6⟩ := k2
    simp only [adr, Option.some.injEq, Prod.mk.injEq] at q3
    obtain ⟨rfl, rfl⟩ := q3
    simpa using k4
  | _, _, v, .fn hc, hr => by
    simp only [HRep] at hr
    obtain ⟨vs, rfl, hr⟩ := hr
    simp only [Rep]
    exact ⟨vs, rfl, lookL_rep h hro hA _ _ vs hc hr⟩
theorem lookL_rep (h : Inv nt w ro s tm args hv F G) {A : Bool} {ro' : Nat → Prop} (hro : ∀ b, ro b → ro' b) (hA : A = true → ∀ b, Rest s F b → ro' b) : ∀ (gs : List H) (ts : List T) (vs : List Value), LookTL A s.roots gs ts → HRepL w s.roots hv gs vs → RepV w ro' ts vs []
  | _, _, vs, .nil, hr => by simp only [HRepL] at hr; simp only [RepV]; exact ⟨hr, trivial⟩
  | _, _, vs, .cons h1 h2, hr => by
    simp only [HRepL] at hr
    obtain ⟨v, vs', rfl, r1, r2⟩ := hr
    simp only [RepV]
    exact ⟨v, vs', [], [], rfl, look_rep h hro hA _ _ v h1 r1, lookL_rep h hro hA _ _ vs' h2 r2, rfl⟩
end

/-- back over a taking: an object that is there was there -/
theorem sub_upd_back : ∀ (q p : List Nat) (t t2 x : T), upd .hole t q = some t2 → sub t2 p = some x → isOb x = true → ∃ x0, sub t p = some x0 ∧ Alike x x0 ∧ isOb x0 = true
  | [], p, t, t2, x, h, hx, ho => by
    simp only [upd, Option.some.injEq] at h; subst h
    cases p with
    | nil => simp only [sub, Option.some.injEq] at hx; subst hx; simp [isOb] at ho
    | cons i p => simp [sub] at hx
  | j :: q, p, .sl own st n cs, t2, x, h, hx, ho => by
    cases own with
    | false => simp [upd] at h
    | true =>
      simp only [upd] at h
      obtain ⟨c, hc, h⟩ := Option.bind_eq_some_iff.1 h
      obtain ⟨c2, h2, rfl⟩ := Option.map_eq_some_iff.1 h
      cases p with
      | nil => simp only [sub, Option.some.injEq] at hx; subst hx; exact ⟨_, rfl, ⟨_, _, rfl, by simp⟩, rfl⟩
      | cons i p =>
        simp only [sub] at hx ⊢
        obtain ⟨d, hd, hx⟩ := Option.bind_eq_some_iff.1 hx
        by_cases e : j = i
        · subst e
          have hj : j < cs.length := (List.getElem?_eq_some_iff.1 hc).1
          simp [hj] at hd; subst hd
          obtain ⟨x0, h3, h4, h5⟩ := sub_upd_back q p c c2 x h2 hx ho
          exact ⟨x0, by simp [hc, h3], h4, h5⟩
        · rw [List.getElem?_set_ne e] at hd
          exact ⟨x, by simp [hd, hx], Alike.refl x, ho⟩
  | j :: q, p, .bx own cs, t2, x, h, hx, ho => by
    cases own with
    | false => simp [upd] at h
    | true =>
      simp only [upd] at h
      obtain ⟨c, hc, h⟩ := Option.bind_eq_some_iff.1 h
      obtain ⟨c2, h2, rfl⟩ := Option.map_eq_some_iff.1 h
      cases p with
      | nil => simp only [sub, Option.some.injEq] at hx; subst hx; exact ⟨_, rfl, fun _ => rfl, rfl⟩
      | cons i p =>
        simp only [sub] at hx ⊢
        obtain ⟨d, hd, hx⟩ := Option.bind_eq_some_iff.1 hx
        by_cases e : j = i
        · subst e
          have hj : j < cs.length := (List.getElem?_eq_some_iff.1 hc).1
          simp [hj] at hd; subst hd
          obtain ⟨x0, h3, h4, h5⟩ := sub_upd_back q p c c2 x h2 hx ho
          exact ⟨x0, by simp [hc, h3], h4, h5⟩
        · rw [List.getElem?_set_ne e] at hd
          exact ⟨x, by simp [hd, hx], Alike.refl x, ho⟩
  | _ :: _, _, .int .., _, _, h, _, _ => by simp [upd] at h
  | _ :: _, _, .bool .., _, _, h, _, _ => by simp [upd] at h
  | _ :: _, _, .str .., _, _, h, _, _ => by simp [upd] at h
  | _ :: _, _, .nptr, _, _, h, _, _ => by simp [upd] at h
  | _ :: _, _, .fn .., _, _, h, _, _ => by simp [upd] at h
  | _ :: _, _, .hole, _, _, h, _, _ => by simp [upd] at h

/-- roots that bear no more than others did -/
def Less (roots' roots : List (Nat × T)) : Prop := ∀ r t', get roots' r = some t' → ∃ t, get roots r = some t ∧ ∀ p x, sub t' p = some x → isOb x = true → ∃ x0, sub t p = some x0 ∧ Alike x x0 ∧ isOb x0 = true

theorem Less.refl (roots : List (Nat × T)) : Less roots roots := fun r t h => ⟨t, h, fun p x hx ho => ⟨x, hx, Alike.refl x, ho⟩⟩
theorem Alike.trans {x y z : T} (h : Alike x y) (k : Alike y z) (hx : isOb x = true) : Alike x z := by
  cases x with
  | sl own st n cs =>
    obtain ⟨o1, c1, rfl, l1⟩ := h
    obtain ⟨o2, c2, rfl, l2⟩ := k
    exact ⟨o2, c2, rfl, l2.trans l1⟩
  | bx own cs =>
    have hy : isOb y = true := h rfl
    intro _
    cases y with
    | sl o1 st n c1 => obtain ⟨o2, c2, rfl, _⟩ := k; rfl
    | bx o1 c1 => exact k rfl
    | _ => simp [isOb] at hy
  | _ => simp [isOb] at hx
theorem Less.trans {a b c : List (Nat × T)} (h : Less a b) (k : Less b c) : Less a c := by
  intro r t ht
  obtain ⟨t1, h1, h2⟩ := h r t ht
  obtain ⟨t2, k1, k2⟩ := k r t1 h1
  refine ⟨t2, k1, fun p x hx ho => ?_⟩
  obtain ⟨x1, m1, m2, m3⟩ := h2 p x hx ho
  obtain ⟨x2, m4, m5, m6⟩ := k2 p x1 m1 m3
  exact ⟨x2, m4, m2.trans m5 ho, m6⟩
theorem Less.del (roots : List (Nat × T)) (r : Nat) : Less (Go.Proofs.YtplhecjngmkngaaT.del roots r) roots := by
  intro r' t' h
  rw [get_del] at h
  split at h
  · simp at h
  · exact ⟨t', h, fun p x hx ho => ⟨x, hx, Alike.refl x, ho⟩⟩
theorem Less.hole {roots : List (Nat × T)} {r : Nat} {q : List Nat} {t t2 : T} (h1 : get roots r = some t) (h2 : upd .hole t q = some t2) : Less (set roots r t2) roots := by
  intro r' t' h
  rw [get_set] at h
  split at h
  · simp only [Option.some.injEq] at h; subst h; subst_vars
    exact ⟨t, h1, fun p x hx ho => sub_upd_back q p t _ x h2 hx ho⟩
  · exact ⟨t', h, fun p x hx ho => ⟨x, hx, Alike.refl x, ho⟩⟩

theorem less_hs {roots roots' : List (Nat × T)} (L : Less roots' roots) {r off st n n0 : Nat} {p : List Nat} {t : T} {own : Bool} {cs : List T} {v : Value} (e1 : get roots' r = some t) (e2 : sub t p = some (.sl own st n0 cs)) (hr : HRep w roots hv (.hs r p off st n) v) : HRep w roots' hv (.hs r p off st n) v := by
  simp only [HRep] at hr ⊢
  refine ⟨hr.1, fun t' ht' => ?_⟩
  rw [e1] at ht'; obtain rfl := Option.some.inj ht'
  obtain ⟨t0, h0, hb⟩ := L r t e1
  obtain ⟨x0, k1, k2, _⟩ := hb p _ e2 rfl
  obtain ⟨own', n1, cs', hh, q1, q2, q3, q4⟩ := hr.2 t0 h0
  obtain ⟨o2, c2, rfl, hl⟩ := k2
  rw [k1] at q1
  simp only [Option.some.injEq, T.sl.injEq] at q1
  obtain ⟨rfl, _, rfl, rfl⟩ := q1
  exact ⟨own, n0, cs, hh, e2, q2, ⟨by omega, q3.2⟩, q4⟩
theorem less_hp {roots roots' : List (Nat × T)} (L : Less roots' roots) {r off : Nat} {p : List Nat} {t ob : T} {v : Value} (e1 : get roots' r = some t) (e2 : sub t p = some ob) (ho : isOb ob = true) (hr : HRep w roots hv (.hp r p off) v) : HRep w roots' hv (.hp r p off) v := by
  simp only [HRep] at hr ⊢
  refine ⟨hr.1, fun t' ht' => ?_⟩
  rw [e1] at ht'; obtain rfl := Option.some.inj ht'
  obtain ⟨t0, h0, hb⟩ := L r t e1
  obtain ⟨x0, k1, k2, k3⟩ := hb p _ e2 ho
  obtain ⟨t1, hh, b, o, q1, q2, q3, q4⟩ := hr.2 t0 h0
  exact ⟨ob, hh, b, o, ⟨e2, ho⟩, q2, q3, q4⟩

mutual
/-- a way that leads to an object still, tells what it told -/
theorem less_rep {roots roots' : List (Nat × T)} (L : Less roots' roots) {A : Bool} : ∀ (g : H) (t : T) (v : Value), LookT A roots' g t → HRep w roots hv g v → HRep w roots' hv g v
  | _, _, v, .int, hr => by simpa only [HRep] using hr
  | _, _, v, .bool, hr => by simpa only [HRep] using hr
  | _, _, v, .str, hr => by simpa only [HRep] using hr
  | _, _, v, .nptr, hr => by simpa only [HRep] using hr
  | _, _, v, .nil, hr => by simpa only [HRep] using hr
  | _, _, v, .ro e1 e2, hr => less_hs L e1 e2 hr
  | _, _, v, .own _ e1 e2, hr => less_hs L e1 e2 hr
  | _, _, v, .roBx e1 e2, hr => less_hp L e1 e2 rfl hr
  | _, _, v, .ownBx _ e1 e2, hr => less_hp L e1 e2 rfl hr
  | _, _, v, .fn hc, hr => by
    simp only [HRep] at hr ⊢
    obtain ⟨vs, rfl, hr⟩ := hr
    exact ⟨vs, rfl, lessL_rep L _ _ vs hc hr⟩
theorem lessL_rep {roots roots' : List (Nat × T)} (L : Less roots' roots) {A : Bool} : ∀ (gs : List H) (ts : List T) (vs : List Value), LookTL A roots' gs ts → HRepL w roots hv gs vs → HRepL w roots' hv gs vs
  | _, _, vs, .nil, hr => by simpa only [HRepL] using hr
  | _, _, vs, .cons h1 h2, hr => by
    simp only [HRepL] at hr ⊢
    obtain ⟨v, vs', rfl, r1, r2⟩ := hr
    exact ⟨v, vs', rfl, less_rep L _ _ v h1 r1, lessL_rep L _ _ vs' h2 r2⟩
end
end
end Go.Proofs.YtplhecjngmkngaaT

/- Trees: what is handed to a call, told of memory. No condition. -/
set_option linter.unusedVariables false
set_option linter.unusedSimpArgs false
set_option linter.unusedSectionVars false
namespace Go.Proofs.YtplhecjngmkngaaT
open Go

section
variable {P : Program} {nt : Nat} {w : World} {ro : Nat → Prop} {s : St} {tm : Array Value} {args : List Value} {hv : Nat → Value} {F : Nat → List Nat} {G : List Nat}

theorem take_less {z z1 : St} {g : H} {t : T} {f : Ren} (h : Take z g t z1 f) : Less z1.roots z.roots := by
  cases h with
  | root e1 => exact Less.del _ _
  | rootBx e1 => exact Less.del _ _
  | path e1 e2 e3 => exact Less.hole e1 e3

theorem sl_full {st n : Nat} {cs : List T} {v : Value} {Ft : List Nat} (h : Rep w ro (.sl true st n cs) v Ft) : (cs.drop 0).take (n * st) = cs ∧ ∃ A c, v = .slice A n c := by
  simp only [Rep] at h
  rcases h with ⟨rfl, rfl, _, A, rfl⟩ | ⟨b, o, cap, F', rfl, h2, h3, _⟩
  · exact ⟨by simp, _, _, rfl⟩
  · exact ⟨by rw [List.drop_zero, ← h3, List.take_length], _, _, rfl⟩

theorem lend_ok (h : Inv nt w ro s tm args hv F G) {g : H} {t : T} {s' : St} {v : Value} {f : Ren} (ht : Lend s g t s' f) (hg : HRep w s.roots hv g v) : Take s g t s' f ∧ Loan w hv v g := by
  cases ht with
  | root e1 =>
    rename_i r st n cs
    have hf := sl_full (h.rep _ _ e1)
    refine ⟨?_, ?_⟩
    · have := Take.root (s := s) (off := 0) (n := n) e1
      rwa [hf.1] at this
    · simp only [HRep] at hg
      obtain ⟨A, c, e⟩ := hf.2
      simp only [Loan, walk, (hg.1 trivial).2.2 rfl A c e]
  | rootBx e1 =>
    refine ⟨Take.rootBx e1, ?_⟩
    have hr := h.rep _ _ e1
    simp only [Rep] at hr
    obtain ⟨b, o, F', e, _⟩ := hr
    simp only [HRep] at hg
    obtain ⟨b', o', h1, h2⟩ := hg.1 trivial
    rw [e] at h1
    simp only [adr, Option.some.injEq, Prod.mk.injEq] at h1
    obtain ⟨rfl, rfl⟩ := h1
    simp only [Loan, walk, e, h2, Nat.add_zero]
  | path e1 e2 e3 =>
    rename_i r p j st n cs t t2
    obtain ⟨v', pre, F', post, k1, k2, k3, _⟩ := Rep.sub (p ++ [j]) t _ (hv r) (F r) (h.rep r t e1) e2
    have hf := sl_full k2
    refine ⟨?_, ?_⟩
    · have := Take.path (s := s) (off := 0) (n := n) e1 e2 e3
      rwa [hf.1] at this
    · simp only [HRep] at hg
      obtain ⟨own, n0, cs', hh, q1, q2, q3, q4⟩ := hg.2 t e1
      rw [k1] at q2; obtain rfl := Option.some.inj q2
      obtain ⟨A, c, e⟩ := hf.2
      simp only [Loan, k1, q3.2 rfl A c e]

theorem args_ok {A : Bool} : ∀ {z z' : St} {gs : List H} {ts : List T} {ls : List (Option H)}, Args A z gs ts ls z' → ∀ {F : Nat → List Nat} {G : List Nat} {vs : List Value}, Inv nt w ro z tm args hv F G → HRepL w z.roots hv gs vs →
    ∃ F' Ft, Inv nt w ro z' tm args hv F' (Ft ++ G) ∧ Less z'.roots z.roots ∧ (∀ ro' : Nat → Prop, (∀ b, ro b → ro' b) → (A = true → ∀ b, Rest z' F' b → ro' b) → RepV w ro' ts vs Ft) ∧ Loans w hv ls vs ∧ (∀ b, Rest z' F' b → Rest z F b) ∧ (∀ b ∈ Ft, Rest z F b) := by
  intro z z' gs ts ls ha
  induction ha with
  | nil z =>
    intro F G vs h hr
    simp only [HRepL] at hr; subst hr
    exact ⟨F, [], by simpa using h, Less.refl _, fun _ _ _ => by simp [RepV], rfl, fun _ h => h, by simp⟩
  | late h1 h2 ih =>
    intro F G vs h hr
    simp only [HRepL] at hr
    obtain ⟨v, vs', rfl, r1, r2⟩ := hr
    obtain ⟨F', Ft, k1, k2, k3, k4, k5, k6⟩ := ih h r2
    refine ⟨F', Ft, k1, k2, fun ro' hro hA => ?_, ⟨v, vs', rfl, fun g hg => by simp at hg, k4⟩, k5, k6⟩
    simp only [RepV]
    exact ⟨v, vs', [], Ft, rfl, look_rep k1 hro hA _ _ v h2 (less_rep k2 _ _ v h2 r1), k3 ro' hro hA, rfl⟩
  | take h1 h2 ih =>
    intro F G vs h hr
    simp only [HRepL] at hr
    obtain ⟨v, vs', rfl, r1, r2⟩ := hr
    obtain ⟨F1, Ft1, k1, k2, k3, k4, k5⟩ := take_ok h h1 r1
    obtain ⟨F', Ft, m1, m2, m3, m4, m5, m6⟩ := ih k1 (HRepL_ren k5 _ _ r2)
    have back : ∀ b, Rest _ F1 b → Rest _ F b := fun b ⟨r, t, e1, e2⟩ => take_back h1 k3 r t b e1 e2
    refine ⟨F', Ft1 ++ Ft, m1.hand (fun x hx => by simp only [List.mem_append] at hx ⊢; rcases hx with (hx | hx) | hx <;> simp [hx]) ?_, m2.trans (take_less h1), fun ro' hro hA => ?_, ⟨v, vs', rfl, fun g hg => by simp at hg, m4⟩, fun b hb => back b (m5 b hb), fun b hb => ?_⟩
    · rw [List.append_assoc]; exact (List.perm_append_comm_assoc Ft Ft1 _).nodup_iff.1 m1.gnd
    · simp only [RepV]
      exact ⟨v, vs', Ft1, Ft, rfl, Rep.same (fun _ _ => rfl) hro (Nat.le_refl _) _ _ _ k2 (fun _ h => h), m3 ro' hro hA, rfl⟩
    · rcases List.mem_append.1 hb with hb | hb
      · exact k4 b hb
      · exact back b (m6 b hb)
  | lend h1 h2 ih =>
    intro F G vs h hr
    simp only [HRepL] at hr
    obtain ⟨v, vs', rfl, r1, r2⟩ := hr
    obtain ⟨h1, hl⟩ := lend_ok h h1 r1
    obtain ⟨F1, Ft1, k1, k2, k3, k4, k5⟩ := take_ok h h1 r1
    obtain ⟨F', Ft, m1, m2, m3, m4, m5, m6⟩ := ih k1 (HRepL_ren k5 _ _ r2)
    have back : ∀ b, Rest _ F1 b → Rest _ F b := fun b ⟨r, t, e1, e2⟩ => take_back h1 k3 r t b e1 e2
    refine ⟨F', Ft1 ++ Ft, m1.hand (fun x hx => by simp only [List.mem_append] at hx ⊢; rcases hx with (hx | hx) | hx <;> simp [hx]) ?_, m2.trans (take_less h1), fun ro' hro hA => ?_, ⟨v, vs', rfl, fun g hg => by obtain rfl := Option.some.inj hg; exact hl, m4⟩, fun b hb => back b (m5 b hb), fun b hb => ?_⟩
    · rw [List.append_assoc]; exact (List.perm_append_comm_assoc Ft Ft1 _).nodup_iff.1 m1.gnd
    · simp only [RepV]
      exact ⟨v, vs', Ft1, Ft, rfl, Rep.same (fun _ _ => rfl) hro (Nat.le_refl _) _ _ _ k2 (fun _ h => h), m3 ro' hro hA, rfl⟩
    · rcases List.mem_append.1 hb with hb | hb
      · exact k4 b hb
      · exact back b (m6 b hb)

mutual
/-- all of one's own -/
def noRo : T → Bool
  | .sl own _ _ cs => own && noRoL cs
  | .bx own cs => own && noRoL cs
  | .fn _ cs => noRoL cs
  | _ => true
def noRoL : List T → Bool
  | [] => true
  | t :: ts => noRo t && noRoL ts
end
mutual
theorem Rep.noRo {ro ro' : Nat → Prop} : ∀ (t : T) (v : Value) (F : List Nat), Go.Proofs.YtplhecjngmkngaaT.noRo t = true → Rep w ro t v F → Rep w ro' t v F
  | .int .., v, F, _, h => by simpa only [Rep] using h
  | .bool .., v, F, _, h => by simpa only [Rep] using h
  | .str .., v, F, _, h => by simpa only [Rep] using h
  | .nptr, v, F, _, h => by simpa only [Rep] using h
  | .hole, v, F, _, h => by simpa only [Rep] using h
  | .sl own st n cs, v, F, hn, h => by
    simp only [Go.Proofs.YtplhecjngmkngaaT.noRo, Bool.and_eq_true] at hn
    obtain ⟨rfl, hn⟩ := hn
    simp only [Rep] at h ⊢
    refine h.imp id ?_
    rintro ⟨b, o, cap, F', h1, h2, h3, h4, h5⟩
    exact ⟨b, o, cap, F', h1, h2, h3, by simpa only [Blk, if_true] using h4, RepL.noRo b o cs F' hn h5⟩
  | .bx own cs, v, F, hn, h => by
    simp only [Go.Proofs.YtplhecjngmkngaaT.noRo, Bool.and_eq_true] at hn
    obtain ⟨rfl, hn⟩ := hn
    simp only [Rep] at h ⊢
    obtain ⟨b, o, F', h1, h4, h5⟩ := h
    exact ⟨b, o, F', h1, by simpa only [Blk, if_true] using h4, RepL.noRo b o cs F' hn h5⟩
  | .fn f cs, v, F, hn, h => by
    simp only [Go.Proofs.YtplhecjngmkngaaT.noRo] at hn
    simp only [Rep] at h ⊢
    obtain ⟨vs, h1, h2⟩ := h
    exact ⟨vs, h1, RepV.noRo cs vs F hn h2⟩
theorem RepL.noRo {ro ro' : Nat → Prop} (b o : Nat) : ∀ (cs : List T) (F : List Nat), noRoL cs = true → RepL w ro b o cs F → RepL w ro' b o cs F
  | [], F, _, h => by simpa only [RepL] using h
  | c :: cs, F, hn, h => by
    simp only [noRoL, Bool.and_eq_true] at hn
    simp only [RepL] at h ⊢
    obtain ⟨v, F1, F2, h1, h2, h3, rfl⟩ := h
    exact ⟨v, F1, F2, h1, Rep.noRo c v F1 hn.1 h2, RepL.noRo b (o + 1) cs F2 hn.2 h3, rfl⟩
theorem RepV.noRo {ro ro' : Nat → Prop} : ∀ (ts : List T) (vs : List Value) (F : List Nat), noRoL ts = true → RepV w ro ts vs F → RepV w ro' ts vs F
  | [], vs, F, _, h => by simpa only [RepV] using h
  | c :: cs, vs, F, hn, h => by
    simp only [noRoL, Bool.and_eq_true] at hn
    simp only [RepV] at h ⊢
    obtain ⟨v, vs', F1, F2, rfl, h2, h3, rfl⟩ := h
    exact ⟨v, vs', F1, F2, rfl, Rep.noRo c v F1 hn.1 h2, RepV.noRo cs vs' F2 hn.2 h3, rfl⟩
end
/-- flat and back -/
def TW.cells : TW → List T
  | .one t => [t]
  | .agg ts => ts
def TV.cells : TV → List T
  | .w x => x.cells
  | .tup xs => xs.flatMap TW.cells
/-- the cells of values in a row -/
def flatV : List TW → List Value → List Value
  | .one _ :: xs, v :: vs => v :: flatV xs vs
  | .agg _ :: xs, .agg cs :: vs => cs.toList ++ flatV xs vs
  | _, _ => []
theorem RTWL_flat {ro : Nat → Prop} : ∀ (xs : List TW) (vs : List Value) (F : List Nat), RTWL w ro xs vs F → RepV w ro (xs.flatMap TW.cells) (flatV xs vs) F
  | [], vs, F, h => by simp only [RTWL] at h; simp only [List.flatMap_nil, RepV, flatV]; exact ⟨trivial, h.2⟩
  | .one t :: xs, vs, F, h => by
    simp only [RTWL] at h
    obtain ⟨v, vs', F1, F2, rfl, h2, h3, rfl⟩ := h
    simp only [List.flatMap_cons, TW.cells, List.cons_append, List.nil_append, flatV, RepV]
    exact ⟨v, _, F1, F2, rfl, h2, RTWL_flat xs vs' F2 h3, rfl⟩
  | .agg ts :: xs, vs, F, h => by
    simp only [RTWL] at h
    obtain ⟨v, vs', F1, F2, rfl, ⟨cs, rfl, h2⟩, h3, rfl⟩ := h
    simp only [List.flatMap_cons, TW.cells, flatV]
    exact RepV.append _ _ _ _ _ _ h2 (RTWL_flat xs vs' F2 h3)

/-- the values of arguments, as their cells -/
def tws : List W → List T → List TW
  | [], _ => []
  | .one _ :: ws, t :: ts => .one t :: tws ws ts
  | .one _ :: ws, [] => []
  | .agg gs :: ws, ts => .agg (ts.take gs.length) :: tws ws (ts.drop gs.length)
theorem WRepL_flat {roots : List (Nat × T)} : ∀ (ws : List W) (vs : List Value), WRepL w roots hv ws vs → ∃ us, HRepL w roots hv (ws.flatMap W.cells) us ∧ ∀ (ro : Nat → Prop) (ts : List T) (F : List Nat), RepV w ro ts us F → RTWL w ro (tws ws ts) vs F ∧ flatV (tws ws ts) vs = us
  | [], vs, h => by
    subst h
    refine ⟨[], by simp [HRepL], fun ro ts F hr => ?_⟩
    cases ts with
    | nil => simp only [RepV] at hr; simp only [tws, RTWL, flatV]; exact ⟨⟨trivial, hr.2⟩, trivial⟩
    | cons t ts => simp only [RepV] at hr; obtain ⟨v, vs', _, _, e, _⟩ := hr; simp at e
  | .one g :: ws, vs, ⟨v, vs', e, h1, h2⟩ => by
    subst e
    obtain ⟨us, k1, k2⟩ := WRepL_flat ws vs' h2
    refine ⟨v :: us, by simp only [List.flatMap_cons, W.cells, List.cons_append, List.nil_append, HRepL]; exact ⟨v, us, rfl, h1, k1⟩, fun ro ts F hr => ?_⟩
    cases ts with
    | nil => simp only [RepV] at hr; simp at hr
    | cons t ts =>
      simp only [RepV] at hr
      obtain ⟨v', us', F1, F2, e, r1, r2, rfl⟩ := hr
      simp only [List.cons.injEq] at e
      obtain ⟨rfl, rfl⟩ := e
      obtain ⟨k3, k4⟩ := k2 ro ts F2 r2
      simp only [tws, RTWL, flatV, k4]
      exact ⟨⟨v, vs', F1, F2, rfl, r1, k3, rfl⟩, trivial⟩
  | .agg gs :: ws, vs, ⟨v, vs', e, ⟨cs, e2, h1⟩, h2⟩ => by
    subst e; subst e2
    obtain ⟨us, k1, k2⟩ := WRepL_flat ws vs' h2
    have hl := HRepL_len _ _ h1
    refine ⟨cs ++ us, by simp only [List.flatMap_cons, W.cells]; exact HRepL_append _ _ _ _ h1 k1, fun ro ts F hr => ?_⟩
    have hsplit : ∀ (cs us : List Value) (ts : List T) (F : List Nat), RepV w ro ts (cs ++ us) F → ∃ F1 F2, F = F1 ++ F2 ∧ RepV w ro (ts.take cs.length) cs F1 ∧ RepV w ro (ts.drop cs.length) us F2 := by
      intro cs
      induction cs with
      | nil => intro us ts F hr; exact ⟨[], F, rfl, by simp [RepV], by simpa using hr⟩
      | cons c cs ih =>
        intro us ts F hr
        cases ts with
        | nil => simp only [RepV] at hr; simp at hr
        | cons t ts =>
          simp only [List.cons_append, RepV] at hr
          obtain ⟨v', us', F1, F2, e, r1, r2, rfl⟩ := hr
          simp only [List.cons.injEq] at e
          obtain ⟨rfl, rfl⟩ := e
          obtain ⟨F3, F4, rfl, k5, k6⟩ := ih us ts F2 r2
          refine ⟨F1 ++ F3, F4, by simp, ?_, by simpa using k6⟩
          simp only [List.length_cons, List.take_succ_cons, RepV]
          exact ⟨_, _, F1, F3, rfl, r1, k5, rfl⟩
    obtain ⟨F1, F2, rfl, m1, m2⟩ := hsplit cs us ts F hr
    rw [hl] at m1 m2
    obtain ⟨k3, k4⟩ := k2 ro _ F2 m2
    simp only [tws, RTWL, flatV, k4]
    exact ⟨⟨_, vs', F1, F2, rfl, ⟨cs, rfl, m1⟩, k3, rfl⟩, by simp⟩
end
end Go.Proofs.YtplhecjngmkngaaT

/- Trees: what comes back from a call. No condition. -/
set_option linter.unusedVariables false
set_option linter.unusedSimpArgs false
set_option linter.unusedSectionVars false
namespace Go.Proofs.YtplhecjngmkngaaT
open Go

mutual
/-- all ways to the root r lead to it itself -/
def topH (r : Nat) (st : Option Nat) : H → Bool
  | .hs r' p _ st' _ => r' != r || (p.isEmpty && some st' == st)
  | .hp r' p _ => r' != r || p.isEmpty
  | .fn _ caps => topHL r st caps
  | _ => true
def topHL (r : Nat) (st : Option Nat) : List H → Bool
  | [] => true
  | g :: gs => topH r st g && topHL r st gs
end
def topW (r : Nat) (st : Option Nat) : W → Bool
  | .one g => topH r st g
  | .agg gs => topHL r st gs
def topV (r : Nat) (st : Option Nat) : V → Bool
  | .w x => topW r st x
  | .tup xs => xs.all (topW r st)
def topE (r : Nat) (st : Option Nat) : List (Nat × V) → Bool
  | [] => true
  | (_, v) :: l => topV r st v && topE r st l
def tops (s : St) (r : Nat) (st : Option Nat) : Bool := (get s.roots r).isNone && topE r st s.env && s.par.all (topW r st)

theorem topE_get {r : Nat} {st : Option Nat} : ∀ (l : List (Nat × V)) (i : Nat) (v : V), topE r st l = true → get l i = some v → topV r st v = true
  | [], i, v, _, h => by simp [get] at h
  | (k, u) :: l, i, v, hn, h => by
    simp only [topE, Bool.and_eq_true] at hn
    simp only [get] at h
    split at h
    · obtain rfl := Option.some.inj h; exact hn.1
    · exact topE_get l i v hn.2 h

inductive Gives (z0 : St) : St → List (Option H) → List T → St → Prop
  | nil (z : St) : Gives z0 z [] [] z
  | skip {z z' : St} {l t ls ts} : Gives z0 z ls ts z' → Gives z0 z (l :: ls) (t :: ts) z'
  | root {z z' : St} {r st n cs ls ts} : tops z r (some st) = true → Gives z0 (z.new r (.sl true st n cs)) ls ts z' → Gives z0 z (some (.hs r [] 0 st n) :: ls) (.sl true st n cs :: ts) z'
  | rootBx {z z' : St} {r cs ls ts} : tops z r none = true → Gives z0 (z.new r (.bx true cs)) ls ts z' → Gives z0 z (some (.hp r [] 0) :: ls) (.bx true cs :: ts) z'
  | path {z z' : St} {r p j st n cs t t2 t0 ls ts} : get z0.roots r = some t0 → sub t0 (p ++ [j]) = some .hole → get z.roots r = some t → sub t (p ++ [j]) = some .hole → upd (.sl true st n cs) t (p ++ [j]) = some t2 →
      Gives z0 { z with roots := set z.roots r t2 } ls ts z' → Gives z0 z (some (.hs r (p ++ [j]) 0 st n) :: ls) (.sl true st n cs :: ts) z'

section
variable {P : Program} {nt : Nat} {w : World} {ro : Nat → Prop} {s : St} {tm : Array Value} {args : List Value} {hv : Nat → Value} {F : Nat → List Nat} {G : List Nat}

section
variable {r : Nat} {st : Option Nat} {t : T} (hn : get s.roots r = none) (ht : isOb t = true) (hst : ∀ st', some st' = st → ∃ own n cs, t = .sl own st' n cs) (hlen : ∀ own st' n cs, t = .sl own st' n cs → cs.length = n * st' ∧ ∃ A c, hv r = .slice A n c)
include hn ht hst hlen
mutual
theorem top_rep : ∀ (g : H) (v : Value), topH r st g = true → HRep w s.roots hv g v → HRep w (set s.roots r t) hv g v
  | .int k n, v, _, h => by simpa only [HRep] using h
  | .bool b, v, _, h => by simpa only [HRep] using h
  | .str b, v, _, h => by simpa only [HRep] using h
  | .nil, v, _, h => by simpa only [HRep] using h
  | .nptr, v, _, h => by simpa only [HRep] using h
  | .un, v, _, h => by simp only [HRep]
  | .hs r' p off st' n, v, hp, h => by
    simp only [HRep] at h ⊢
    refine ⟨h.1, fun t' ht' => ?_⟩
    rw [get_set] at ht'
    by_cases e : r = r'
    · subst e
      simp only [if_true, Option.some.injEq] at ht'; subst ht'
      simp only [topH, bne_self_eq_false, Bool.false_or, Bool.and_eq_true, List.isEmpty_iff, beq_iff_eq] at hp
      obtain ⟨rfl, hp⟩ := hp
      obtain ⟨u1, u2, u3⟩ := h.1 rfl
      obtain ⟨own, n2, cs, rfl⟩ := hst st' hp
      obtain ⟨l1, A, c, l2⟩ := hlen _ _ _ _ rfl
      exact ⟨own, n2, cs, hv r, by simp [sub], by simp [walk], ⟨by have := u2 A n2 c l2; omega, u3⟩, u1⟩
    · rw [if_neg e] at ht'; exact h.2 t' ht'
  | .hp r' p off, v, hp, h => by
    simp only [HRep] at h ⊢
    refine ⟨h.1, fun t' ht' => ?_⟩
    rw [get_set] at ht'
    by_cases e : r = r'
    · subst e
      simp only [if_true, Option.some.injEq] at ht'; subst ht'
      simp only [topH, bne_self_eq_false, Bool.false_or, List.isEmpty_iff] at hp
      subst hp
      obtain ⟨b, o, u1, u2⟩ := h.1 rfl
      exact ⟨t, hv r, b, o, ⟨by cases t <;> simp [sub], ht⟩, by cases hv r <;> simp [walk], u1, u2⟩
    · rw [if_neg e] at ht'; exact h.2 t' ht'
  | .fn f caps, v, hp, h => by
    simp only [topH] at hp
    simp only [HRep] at h ⊢
    obtain ⟨vs, h1, h2⟩ := h
    exact ⟨vs, h1, topL_rep caps vs hp h2⟩
theorem topL_rep : ∀ (gs : List H) (vs : List Value), topHL r st gs = true → HRepL w s.roots hv gs vs → HRepL w (set s.roots r t) hv gs vs
  | [], vs, _, h => by simpa only [HRepL] using h
  | g :: gs, vs, hp, h => by
    simp only [topHL, Bool.and_eq_true] at hp
    simp only [HRepL] at h ⊢
    obtain ⟨v, vs', rfl, h1, h2⟩ := h
    exact ⟨v, vs', rfl, top_rep g v hp.1 h1, topL_rep gs vs' hp.2 h2⟩
end
theorem topW_rep : ∀ (x : W) (v : Value), topW r st x = true → WRep w s.roots hv x v → WRep w (set s.roots r t) hv x v
  | .one g, v, hp, h => top_rep hn ht hst hlen g v hp h
  | .agg gs, v, hp, ⟨vs, h1, h2⟩ => ⟨vs, h1, topL_rep hn ht hst hlen gs vs hp h2⟩
theorem topWL_rep : ∀ (xs : List W) (vs : List Value), xs.all (topW r st) = true → WRepL w s.roots hv xs vs → WRepL w (set s.roots r t) hv xs vs
  | [], vs, _, h => h
  | x :: xs, vs, hp, ⟨v, vs', h1, h2, h3⟩ => by
    simp only [List.all_cons, Bool.and_eq_true] at hp
    exact ⟨v, vs', h1, topW_rep hn ht hst hlen x v hp.1 h2, topWL_rep xs vs' hp.2 h3⟩
theorem topV_rep : ∀ (x : V) (v : Value), topV r st x = true → VRep w s.roots hv x v → VRep w (set s.roots r t) hv x v
  | .w x, v, hp, h => topW_rep hn ht hst hlen x v hp h
  | .tup xs, v, hp, ⟨vs, h1, h2⟩ => ⟨vs, h1, topWL_rep hn ht hst hlen xs vs hp h2⟩
end

/-- a root comes back -/
theorem Inv.renew (h : Inv nt w ro s tm args hv F G) {r : Nat} {st : Option Nat} {t : T} {Ft G' : List Nat} (hf : tops s r st = true) (hob : isOb t = true) (hst : ∀ st', some st' = st → ∃ own n cs, t = .sl own st' n cs) (hG : ∀ b, b ∈ Ft ∨ b ∈ G' → b ∈ G) (hd : (Ft ++ G').Nodup) (ht : Rep w ro t (hv r) Ft) :
    Inv nt w ro (s.new r t) tm args hv (fun x => if x = r then Ft else F x) G' := by
  simp only [tops, Bool.and_eq_true, Option.isNone_iff_eq_none] at hf
  obtain ⟨⟨hf1, hf2⟩, hf3⟩ := hf
  have hlen : ∀ own st' n cs, t = .sl own st' n cs → cs.length = n * st' ∧ ∃ A c, hv r = .slice A n c := by
    rintro own st' n cs rfl
    simp only [Rep] at ht
    rcases ht with ⟨rfl, rfl, _, A, e⟩ | ⟨b, o, cap, F', e, h2, h3, _⟩
    · exact ⟨by simp, _, _, e⟩
    · exact ⟨h3, _, _, e⟩
  simp only [List.nodup_append] at hd
  constructor
  · intro r' t' ht'
    simp only [St.new, get_set] at ht'
    by_cases e : r = r'
    · subst e; simp only [if_true, Option.some.injEq] at ht' ⊢; subst ht'; exact ht
    · simp only [e, if_false, Ne.symm e] at ht' ⊢; exact h.rep r' t' ht'
  · intro r' t' ht'
    simp only [St.new, get_set] at ht'
    by_cases e : r = r'
    · subst e; simp only [if_true]; exact hd.1
    · simp only [e, if_false, Ne.symm e] at ht' ⊢; exact h.nd r' t' ht'
  · intro r1 t1 r2 t2 h1 h2 hne b hb
    simp only [St.new, get_set] at h1 h2
    by_cases e1 : r = r1
    · subst e1
      simp only [if_true] at hb
      simp only [hne, if_false, Ne.symm hne] at h2 ⊢
      exact fun hb2 => h.gdis r2 t2 h2 b hb2 (hG b (.inl hb))
    · simp only [e1, if_false, Ne.symm e1] at h1 hb
      by_cases e2 : r = r2
      · subst e2; simp only [if_true]
        exact fun hb2 => h.gdis r1 t1 h1 b hb (hG b (.inl hb2))
      · simp only [e2, if_false, Ne.symm e2] at h2 ⊢; exact h.dis r1 t1 r2 t2 h1 h2 hne b hb
  · intro r' t' ht' b hb
    simp only [St.new, get_set] at ht'
    by_cases e : r = r'
    · subst e; simp only [if_true] at hb; exact h.gnro b (hG b (.inl hb))
    · simp only [e, if_false, Ne.symm e] at ht' hb; exact h.nro r' t' ht' b hb
  · exact hd.2.1
  · intro r' t' ht' b hb
    simp only [St.new, get_set] at ht'
    by_cases e : r = r'
    · subst e; simp only [if_true] at hb; exact fun hb2 => hd.2.2 b hb b hb2 rfl
    · simp only [e, if_false, Ne.symm e] at ht' hb; exact fun hb2 => h.gdis r' t' ht' b hb (hG b (.inr hb2))
  · exact fun b hb => h.gnro b (hG b (.inr hb))
  · exact fun b hb => h.glt b (hG b (.inr hb))
  · exact h.rolt
  · exact h.sz
  · intro i u hu
    obtain ⟨x, h1, h2⟩ := h.env i u hu
    exact ⟨x, h1, topV_rep hf1 hob hst hlen u x (topE_get _ _ _ hf2 hu) h2⟩
  · exact topWL_rep hf1 hob hst hlen _ _ hf3 h.par

/-- a tree comes back to its place in a root -/
theorem Inv.refill (h : Inv nt w ro s tm args hv F G) {r j : Nat} {p : List Nat} {c t t2 : T} {v : Value} {Fc G' : List Nat} (hr : get s.roots r = some t) (hs : sub t (p ++ [j]) = some .hole) (hu : upd c t (p ++ [j]) = some t2) (hw : walk w (hv r) (p ++ [j]) = some v) (hG : ∀ y, y ∈ Fc ∨ y ∈ G' → y ∈ G) (hnd : (Fc ++ G').Nodup) (hx : Rep w ro c v Fc) :
    ∃ F', Inv nt w ro { s with roots := set s.roots r t2 } tm args hv F' G' ∧ ∀ r' y, y ∈ F' r' → y ∈ F r' ∨ (r' = r ∧ y ∈ Fc) := by
  obtain ⟨v', pre, Fo, post, k1, k2, k7, k8⟩ := Rep.sub (p ++ [j]) t _ (hv r) (F r) (h.rep r t hr) hs
  rw [hw] at k1; obtain rfl := Option.some.inj k1
  obtain ⟨t3, u1, u2⟩ := k8 (upd_some _ _ _ _ _ hu) c Fc hx
  rw [hu] at u1; obtain rfl := Option.some.inj u1
  have hnF := h.nd r t hr
  rw [k7] at hnF
  simp only [List.nodup_append, List.mem_append] at hnF hnd
  have hFG : ∀ y ∈ F r, y ∉ G := fun y hy => h.gdis r t hr y hy
  have hpre : ∀ y ∈ pre, y ∈ F r := fun y hy => by rw [k7]; simp [hy]
  have hpost : ∀ y ∈ post, y ∈ F r := fun y hy => by rw [k7]; simp [hy]
  have hget : ∀ r' t', get (set s.roots r t2) r' = some t' → (r' = r ∧ t' = t2) ∨ (r' ≠ r ∧ get s.roots r' = some t') := by
    intro r' t' h'
    rw [get_set] at h'
    split at h'
    · simp only [Option.some.injEq] at h'; exact .inl ⟨(‹r = r'›).symm, h'.symm⟩
    · exact .inr ⟨Ne.symm ‹_›, h'⟩
  refine ⟨fun r' => if r' = r then pre ++ Fc ++ post else F r', Inv.move0 h (fun r1 q r2 q' e => ?_) (fun r' t' h' => ?_) (fun r' t' h' => ?_) (fun r1 t1 r3 t3 h1 h3 hne y hy => ?_) (fun r' t' h' y hy => ?_) hnd.2.1 (fun r' t' h' y hy hyG => ?_) (fun y hy => h.gnro y (hG y (.inr hy))) (fun y hy => h.glt y (hG y (.inr hy))) h.rolt, fun r' y hy => ?_⟩
  · simp only [idRen, Option.some.injEq, Prod.mk.injEq] at e
    obtain ⟨rfl, rfl⟩ := e
    refine ⟨fun h => ⟨h, rfl⟩, fun t' ht' => ?_⟩
    rcases hget _ _ ht' with ⟨rfl, rfl⟩ | ⟨hne, ht'⟩
    · refine ⟨t, hr, fun x' hx' ho => ?_⟩
      cases hq : (p ++ [j]).isPrefixOf q with
      | false =>
        obtain ⟨x'', e4, e5⟩ := sub_upd _ q t _ _ x' hu hq hx'
        exact ⟨x'', e4, e5, fun g hg => hg⟩
      | true =>
        exfalso
        obtain ⟨q2, rfl⟩ := List.isPrefixOf_iff_prefix.1 hq
        rw [sub_append, hs, Option.bind_some] at hx'
        cases q2 with
        | nil => simp only [sub, Option.some.injEq] at hx'; subst hx'; simp [isOb] at ho
        | cons i q2 => simp [sub] at hx'
    · exact ⟨t', ht', fun x' hx' ho => ⟨x', hx', Alike.refl x', fun g hg => hg⟩⟩
  · rcases hget _ _ h' with ⟨rfl, rfl⟩ | ⟨hne, h'⟩
    · simpa using u2
    · simpa [hne] using h.rep r' t' h'
  · rcases hget _ _ h' with ⟨rfl, rfl⟩ | ⟨hne, h'⟩
    · simp only [if_true, List.nodup_append, List.mem_append]
      refine ⟨⟨hnF.1.1, hnd.1, fun y hy z hz e => hFG y (hpre y hy) (e ▸ hG z (.inl hz))⟩, hnF.2.1, fun y hy z hz => ?_⟩
      rcases hy with hy | hy
      · exact hnF.2.2 y (.inl hy) z hz
      · exact fun e => hFG z (hpost z hz) (e ▸ hG y (.inl hy))
    · simpa [hne] using h.nd r' t' h'
  · have half : ∀ r3 t3, get s.roots r3 = some t3 → r3 ≠ r → ∀ y, y ∈ pre ++ Fc ++ post → y ∉ F r3 := by
      intro r3 t3 h3 hne y hy hy3
      simp only [List.mem_append] at hy
      rcases hy with (hy | hy) | hy
      · exact h.dis r t r3 t3 hr h3 (Ne.symm hne) y (hpre y hy) hy3
      · exact h.gdis r3 t3 h3 y hy3 (hG y (.inl hy))
      · exact h.dis r t r3 t3 hr h3 (Ne.symm hne) y (hpost y hy) hy3
    rcases hget _ _ h1 with ⟨e1, _⟩ | ⟨hn1, h1⟩
    · rcases hget _ _ h3 with ⟨e3, _⟩ | ⟨hn3, h3⟩
      · exact absurd (e1.trans e3.symm) hne
      · simp only [e1, if_true] at hy
        simp only [hn3, if_false]
        exact half r3 t3 h3 hn3 y hy
    · simp only [hn1, if_false] at hy
      rcases hget _ _ h3 with ⟨e3, _⟩ | ⟨hn3, h3⟩
      · simp only [e3, if_true]
        exact fun hy3 => half r1 t1 h1 hn1 y hy3 hy
      · simp only [hn3, if_false]
        exact h.dis r1 t1 r3 t3 h1 h3 hne y hy
  · rcases hget _ _ h' with ⟨e, _⟩ | ⟨hne, h'⟩
    · simp only [e, if_true, List.mem_append] at hy
      rcases hy with (hy | hy) | hy
      · exact h.nro r t hr y (hpre y hy)
      · exact h.gnro y (hG y (.inl hy))
      · exact h.nro r t hr y (hpost y hy)
    · simp only [hne, if_false] at hy; exact h.nro r' t' h' y hy
  · rcases hget _ _ h' with ⟨e, _⟩ | ⟨hne, h'⟩
    · simp only [e, if_true, List.mem_append] at hy
      rcases hy with (hy | hy) | hy
      · exact hFG y (hpre y hy) (hG y (.inr hyG))
      · exact hnd.2.2 y hy y hyG rfl
      · exact hFG y (hpost y hy) (hG y (.inr hyG))
    · simp only [hne, if_false] at hy; exact h.gdis r' t' h' y hy (hG y (.inr hyG))
  · dsimp only at hy
    split at hy
    · subst_vars
      simp only [List.mem_append] at hy
      rcases hy with (hy | hy) | hy
      · exact .inl (by rw [k7]; simp [hy])
      · exact .inr ⟨rfl, hy⟩
      · exact .inl (by rw [k7]; simp [hy])
    · exact .inl hy

theorem rest_new {z : St} {F : Nat → List Nat} {r : Nat} {t : T} {Ft : List Nat} {y : Nat} (h : Rest (z.new r t) (fun x => if x = r then Ft else F x) y) : Rest z F y ∨ y ∈ Ft := by
  obtain ⟨r', t', ht', hy⟩ := h
  simp only [St.new, get_set] at ht'
  by_cases e : r' = r
  · simp only [e, if_true] at hy; exact .inr hy
  · rw [if_neg (Ne.symm e)] at ht'
    simp only [e, if_false] at hy; exact .inl ⟨r', t', ht', hy⟩

/-- loans come back -/
theorem gives_ok {z0 : St} {w0 : World} {hv : Nat → Value} (hW : ∀ r t0 q, get z0.roots r = some t0 → (sub t0 q).isSome → walk w (hv r) q = walk w0 (hv r) q) : ∀ {z z' : St} {ls : List (Option H)} {ts : List T}, Gives z0 z ls ts z' → ∀ {F : Nat → List Nat} {Fo G0 : List Nat} {vs : List Value}, Inv nt w ro z tm args hv F (Fo ++ G0) → Loans w0 hv ls vs → RepV w ro ts vs Fo →
    ∃ F', Inv nt w ro z' tm args hv F' G0 ∧ ∀ y, Rest z' F' y → Rest z F y ∨ y ∈ Fo := by
  intro z z' ls ts hg
  induction hg with
  | nil z =>
    intro F Fo G0 vs h hl hr
    simp only [Loans] at hl; subst hl
    simp only [RepV] at hr
    obtain ⟨_, rfl⟩ := hr
    exact ⟨F, by simpa using h, fun y hy => .inl hy⟩
  | skip h1 ih =>
    intro F Fo G0 vs h hl hr
    obtain ⟨v, vs', rfl, _, hl⟩ := hl
    simp only [RepV] at hr
    obtain ⟨v', vs'', F1, F2, e, r1, r2, rfl⟩ := hr
    simp only [List.cons.injEq] at e
    obtain ⟨rfl, rfl⟩ := e
    have hnd := h.gnd
    obtain ⟨F', k1, k2⟩ := ih (h.hand (G' := F2 ++ G0) (fun x hx => by simp only [List.mem_append] at hx ⊢; rcases hx with hx | hx <;> simp [hx]) (by simp only [List.append_assoc, List.nodup_append, List.mem_append] at hnd ⊢; exact ⟨hnd.2.1.1, hnd.2.1.2.1, hnd.2.1.2.2⟩)) hl r2
    exact ⟨F', k1, fun y hy => (k2 y hy).imp id (fun hy => by simp [hy])⟩
  | root e1 h1 ih =>
    rename_i z1 z2 rr st n cs ls1 ts1
    intro F Fo G0 vs h hl hr
    obtain ⟨v, vs', rfl, hv1, hl⟩ := hl
    simp only [RepV] at hr
    obtain ⟨v', vs'', F1, F2, e, r1, r2, rfl⟩ := hr
    simp only [List.cons.injEq] at e
    obtain ⟨rfl, rfl⟩ := e
    have hL := hv1 _ rfl
    simp only [Loan, walk, Option.some.injEq] at hL
    have hnd := h.gnd
    have h2 := h.renew (t := .sl true st n cs) (Ft := F1) (G' := F2 ++ G0) e1 rfl (fun st' e => by simp only [Option.some.injEq] at e; subst e; exact ⟨_, _, _, rfl⟩) (fun b hb => by simp only [List.mem_append] at hb ⊢; rcases hb with hb | hb | hb <;> simp [hb]) (by simpa using hnd) (by rw [hL]; exact r1)
    obtain ⟨F', k1, k2⟩ := ih h2 hl r2
    refine ⟨F', k1, fun y hy => ?_⟩
    rcases k2 y hy with hy | hy
    · exact (rest_new hy).imp id (fun hy => by simp [hy])
    · exact .inr (by simp [hy])
  | rootBx e1 h1 ih =>
    rename_i z1 z2 rr cs ls1 ts1
    intro F Fo G0 vs h hl hr
    obtain ⟨v, vs', rfl, hv1, hl⟩ := hl
    simp only [RepV] at hr
    obtain ⟨v', vs'', F1, F2, e, r1, r2, rfl⟩ := hr
    simp only [List.cons.injEq] at e
    obtain ⟨rfl, rfl⟩ := e
    have hL := hv1 _ rfl
    simp only [Loan, walk, Option.some.injEq] at hL
    have hnd := h.gnd
    have h2 := h.renew (t := .bx true cs) (Ft := F1) (G' := F2 ++ G0) e1 rfl (fun st' e => by simp at e) (fun b hb => by simp only [List.mem_append] at hb ⊢; rcases hb with hb | hb | hb <;> simp [hb]) (by simpa using hnd) (by rw [hL]; exact r1)
    obtain ⟨F', k1, k2⟩ := ih h2 hl r2
    refine ⟨F', k1, fun y hy => ?_⟩
    rcases k2 y hy with hy | hy
    · exact (rest_new hy).imp id (fun hy => by simp [hy])
    · exact .inr (by simp [hy])
  | path e1 e2 e3 e4 e5 h1 ih =>
    intro F Fo G0 vs h hl hr
    obtain ⟨v, vs', rfl, hv1, hl⟩ := hl
    simp only [RepV] at hr
    obtain ⟨v', vs'', F1, F2, e, r1, r2, rfl⟩ := hr
    simp only [List.cons.injEq] at e
    obtain ⟨rfl, rfl⟩ := e
    have hL := hv1 _ rfl
    simp only [Loan] at hL
    rw [← hW _ _ _ e1 (by simp [e2])] at hL
    have hnd := h.gnd
    obtain ⟨F1', k1, k2⟩ := h.refill (Fc := F1) (G' := F2 ++ G0) e3 e4 e5 hL (fun b hb => by simp only [List.mem_append] at hb ⊢; rcases hb with hb | hb | hb <;> simp [hb]) (by simpa using hnd) r1
    obtain ⟨F', k3, k4⟩ := ih k1 hl r2
    refine ⟨F', k3, fun y hy => ?_⟩
    rcases k4 y hy with ⟨r', t', ht', hy⟩ | hy
    · rcases k2 r' y hy with hy | ⟨_, hy⟩
      · simp only [get_set] at ht'
        split at ht'
        · subst_vars; exact .inl ⟨_, _, e3, hy⟩
        · exact .inl ⟨_, _, ht', hy⟩
      · exact .inr (by simp [hy])
    · exact .inr (by simp [hy])
end
end Go.Proofs.YtplhecjngmkngaaT
