/- Contracts of functions of the translation, written by a program of this repo (a changed copy of the printer). Not trusted: Lean checks it. -/
-- squeezed
-- compact
import Derived.Test.YtnafnpoflheonaaCc
import Derived.Test.YtnafnpoflheonaaPFnVersionsx0
import Derived.Test.YtnafnpoflheonaaPFnVersionsx1
import Derived.Test.YtnafnpoflheonaaPFnVersionsx2
import Derived.Test.YtnafnpoflheonaaPFnVersionsx3
import Derived.Test.YtnafnpoflheonaaPFnVersionsx4
import Derived.Test.YtnafnpoflheonaaPFnVersionsx5
import Derived.Test.YtnafnpoflheonaaPFnVersionsx6
import Derived.Test.YtnafnpoflheonaaPFnVersionsx7
import Derived.Test.YtnafnpoflheonaaPFnVersionsx10
import Derived.Test.YtnafnpoflheonaaPFnVersionsx11
import Derived.Test.YtnafnpoflheonaaPFnVersionsx12
namespace Go.Proofs.Ytnafnpoflheonaa.PFnVersions
open Go.RowKit Go.Proofs.YtnafnpoflheonaaW.PrintWords Go.Proofs.YtnafnpoflheonaaW.PrintLast Go.Proofs.YtnafnpoflheonaaW.PrintMore
attribute [local go_sem] max2_int min2_int max_two min_two max_three min_three max_four min_four   -- for this text's walks alone
set_option linter.unusedVariables false
set_option linter.unusedSimpArgs false

/-! ### laws_FnVersions: function 10 -/
mutual
def laws_FnVersions.j0 : Nat → List Int → Int → Int → Int → Bool → Bool → List (S65) → List Int → List (S65) → List Int → Option (Bool)
 | 0, _, _, _, _, _, _, _, _, _, _ => none
 | k + 1, x1, x6, x7, x8, x10, x84, x498000, x498001, x506000, x506001 => if x84 = true then (some false) else (if x10 = true then ((impl_GoodPool.f x506000 x506001).bind fun t517 => (if t517 = true then (if (x506001.length : Int) = (wrap64 ((x498001.length : Int) + 1)) then (laws_FnVersions.j1 k x1 x6 x7 x8 (x498001.length : Int) ((x506000.length : Int) != (wrap64 ((x498000.length : Int) + 2))) x498000 x498001 x506000 x506001) else (laws_FnVersions.j1 k x1 x6 x7 x8 (x498001.length : Int) true x498000 x498001 x506000 x506001)) else (laws_FnVersions.j1 k x1 x6 x7 x8 (x498001.length : Int) true x498000 x498001 x506000 x506001))) else (laws_FnVersions.j3 k x1))
def laws_FnVersions.j3 : Nat → List Int → Option (Bool)
 | 0, _ => none
 | k + 1, x1 => (spec_DrawDiffIn.f k x1).bind fun bt536 => ((impl_DiffIn.f k bt536.1 bt536.2.1 bt536.2.2.1 bt536.2.2.2).bind fun bt545 => ((spec_DiffIn.f k bt536.1 bt536.2.1 bt536.2.2.1 bt536.2.2.2).bind fun bt549 => ((spec_DrawCloneOf.f k x1).bind fun bt553 => ((impl_CloneOf.f k bt553.1 bt553.2.1 bt553.2.2).bind fun bt561 => ((spec_CloneOf.f k bt553.1 bt553.2.1 bt553.2.2).bind fun bt569 => (if (bt545.2 != bt549.2) = true then (laws_FnVersions.j4 k bt553.2.2 bt561.2.2 true bt561.1 bt561.2.1) else ((laws_sameInts.f k bt545.1 bt549.1).bind fun t577 => (if t577 = true then (if (bt561.2.2 != bt569.2.2) = true then (laws_FnVersions.j4 k bt553.2.2 bt561.2.2 true bt561.1 bt561.2.1) else ((laws_samePools.f k bt561.1 bt561.2.1 bt569.1 bt569.2.1).bind fun t578 => (laws_FnVersions.j4 k bt553.2.2 bt561.2.2 (!t578) bt561.1 bt561.2.1))) else (laws_FnVersions.j4 k bt553.2.2 bt561.2.2 true bt561.1 bt561.2.1)))))))))
def laws_FnVersions.j4 : Nat → Int → Bool → Bool → List (S65) → List Int → Option (Bool)
 | 0, _, _, _, _, _ => none
 | k + 1, x33, x35, x257, x569000, x569001 => if x257 = true then (some false) else (if x35 = true then ((impl_DiffIn.f k x569000 x569001 x33 (wrap64 ((x569001.length : Int) - 1))).bind fun bt579 => (if bt579.2 = true then (some ((bt579.1.length : Int) == 0)) else (some false))) else (some true))
def laws_FnVersions.j1 : Nat → List Int → Int → Int → Int → Int → Bool → List (S65) → List Int → List (S65) → List Int → Option (Bool)
 | 0, _, _, _, _, _, _, _, _, _, _ => none
 | k + 1, x1, x6, x7, x8, x13, x109, x498000, x498001, x506000, x506001 => if x109 = true then (some false) else (laws_FnVersions.l0 k x1 x6 x7 x8 x13 0 x498000 x498001 x506000 x506001)
def laws_FnVersions.l0 : Nat → List Int → Int → Int → Int → Int → Int → List (S65) → List Int → List (S65) → List Int → Option (Bool)
 | 0, _, _, _, _, _, _, _, _, _, _ => none
 | k + 1, x1, x6, x7, x8, x13, x14, x498000, x498001, x506000, x506001 => if x14 < x13 then ((impl_AllIn.f k x498000 x498001 x14).bind fun bt518 => ((impl_AllIn.f k x506000 x506001 x14).bind fun bt522 => (if bt518.2 = true then (if bt522.2 = true then ((laws_sameInts.f k bt518.1 bt522.1).bind fun t526 => (if t526 = true then (laws_FnVersions.l0 k x1 x6 x7 x8 x13 (wrap64 (x14 + 1)) x498000 x498001 x506000 x506001) else (some false))) else (some false)) else (some false)))) else ((impl_DiffIn.f k x506000 x506001 x6 x13).bind fun bt527 => ((impl_GetIn.f x498000 x498001 x6 x7).bind fun bt531 => ((impl_GetIn.f x506000 x506001 x13 x7).bind fun bt533 => (if bt527.2 = true then (if bt531.2 = true then (if bt533.2 = true then (if bt533.1 = x8 then (if (bt527.1.length : Int) > 1 then (some false) else (if (bt527.1.length : Int) = 1 then (if 0 < (bt527.1.length : Int) then (if (rd bt527.1 0) = x7 then (if ((bt531.1 == x8) != ((bt527.1.length : Int) == 0)) = true then (some false) else (laws_FnVersions.j3 k x1)) else (some false)) else (none)) else (if ((bt531.1 == x8) != ((bt527.1.length : Int) == 0)) = true then (some false) else (laws_FnVersions.j3 k x1)))) else (some false)) else (some false)) else (some false)) else (some false)))))
end
def laws_FnVersions.f (k : Nat) (l0 : List Int) (l1 : List Int) : Option (Bool) := if (wrap64 ((l0.length : Int) + (l1.length : Int))) > 1048576 then (some true) else ((spec_DrawPutIn.f k l0).bind fun bt488 => ((impl_PutIn.f k bt488.1 bt488.2.1 bt488.2.2.1 bt488.2.2.2.1 bt488.2.2.2.2).bind fun bt498 => ((spec_PutIn.f k bt488.1 bt488.2.1 bt488.2.2.1 bt488.2.2.2.1 bt488.2.2.2.2).bind fun bt506 => (if (bt498.2.2 != bt506.2.2) = true then (laws_FnVersions.j0 k l1 bt488.2.2.1 bt488.2.2.2.1 bt488.2.2.2.2 bt498.2.2 true bt488.1 bt488.2.1 bt498.1 bt498.2.1) else ((laws_samePools.f k bt498.1 bt498.2.1 bt506.1 bt506.2.1).bind fun t514 => (if t514 = true then ((impl_GoodPool.f bt488.1 bt488.2.1).bind fun t515 => ((spec_GoodPool.f k bt488.1 bt488.2.1).bind fun t516 => (laws_FnVersions.j0 k l1 bt488.2.2.1 bt488.2.2.2.1 bt488.2.2.2.2 bt498.2.2 (t515 != t516) bt488.1 bt488.2.1 bt498.1 bt498.2.1))) else (laws_FnVersions.j0 k l1 bt488.2.2.1 bt488.2.2.2.1 bt488.2.2.2.2 bt498.2.2 true bt488.1 bt488.2.1 bt498.1 bt498.2.1)))))))
theorem laws_FnVersions.mono_l : ∀ k, (∀ y0 y1 y2 y3 y4 y5 y6 y7 y8 y9, LeO (laws_FnVersions.j0 k y0 y1 y2 y3 y4 y5 y6 y7 y8 y9) (laws_FnVersions.j0 (k + 1) y0 y1 y2 y3 y4 y5 y6 y7 y8 y9)) ∧ (∀ y0, LeO (laws_FnVersions.j3 k y0) (laws_FnVersions.j3 (k + 1) y0)) ∧ (∀ y0 y1 y2 y3 y4, LeO (laws_FnVersions.j4 k y0 y1 y2 y3 y4) (laws_FnVersions.j4 (k + 1) y0 y1 y2 y3 y4)) ∧ (∀ y0 y1 y2 y3 y4 y5 y6 y7 y8 y9, LeO (laws_FnVersions.j1 k y0 y1 y2 y3 y4 y5 y6 y7 y8 y9) (laws_FnVersions.j1 (k + 1) y0 y1 y2 y3 y4 y5 y6 y7 y8 y9)) ∧ (∀ y0 y1 y2 y3 y4 y5 y6 y7 y8 y9, LeO (laws_FnVersions.l0 k y0 y1 y2 y3 y4 y5 y6 y7 y8 y9) (laws_FnVersions.l0 (k + 1) y0 y1 y2 y3 y4 y5 y6 y7 y8 y9))
 | 0 => ⟨fun _ _ _ _ _ _ _ _ _ _ r h => by simp [laws_FnVersions.j0] at h, fun _ r h => by simp [laws_FnVersions.j3] at h, fun _ _ _ _ _ r h => by simp [laws_FnVersions.j4] at h, fun _ _ _ _ _ _ _ _ _ _ r h => by simp [laws_FnVersions.j1] at h, fun _ _ _ _ _ _ _ _ _ _ r h => by simp [laws_FnVersions.l0] at h⟩
 | k + 1 => by
  obtain ⟨ih0, ih1, ih2, ih3, ih4⟩ := laws_FnVersions.mono_l k
  refine ⟨?_, ?_, ?_, ?_, ?_⟩
  ·intro y0 y1 y2 y3 y4 y5 y6 y7 y8 y9
   unfold laws_FnVersions.j0
   repeat' first
   | (with_reducible exact ih0 _ _ _ _ _ _ _ _ _ _)
   | (with_reducible exact ih1 _)
   | (with_reducible exact ih2 _ _ _ _ _)
   | (with_reducible exact ih3 _ _ _ _ _ _ _ _ _ _)
   | (with_reducible exact ih4 _ _ _ _ _ _ _ _ _ _)
   | (with_reducible exact impl_AllIn.mono _ _ _ _)
   | (with_reducible exact impl_CloneOf.mono _ _ _ _)
   | (with_reducible exact impl_DiffIn.mono _ _ _ _ _)
   | (with_reducible exact impl_PutIn.mono _ _ _ _ _ _)
   | (with_reducible exact laws_sameInts.mono _ _ _)
   | (with_reducible exact laws_samePools.mono _ _ _ _ _)
   | (with_reducible exact spec_CloneOf.mono _ _ _ _)
   | (with_reducible exact spec_DiffIn.mono _ _ _ _ _)
   | (with_reducible exact spec_DrawCloneOf.mono _ _)
   | (with_reducible exact spec_DrawDiffIn.mono _ _)
   | (with_reducible exact spec_DrawPutIn.mono _ _)
   | (with_reducible exact spec_GoodPool.mono _ _ _)
   | (with_reducible exact spec_PutIn.mono _ _ _ _ _ _)
   | (with_reducible exact LeO.refl _)
   | (with_reducible exact LeO.none _)
   | (with_reducible refine LeO.ite ?_ ?_)
   | (with_reducible refine LeO.bind ?_ (fun _ => ?_))
   | exact ih0 _ _ _ _ _ _ _ _ _ _
   | exact ih1 _
   | exact ih2 _ _ _ _ _
   | exact ih3 _ _ _ _ _ _ _ _ _ _
   | exact ih4 _ _ _ _ _ _ _ _ _ _
   | exact impl_AllIn.mono _ _ _ _
   | exact impl_CloneOf.mono _ _ _ _
   | exact impl_DiffIn.mono _ _ _ _ _
   | exact impl_PutIn.mono _ _ _ _ _ _
   | exact laws_sameInts.mono _ _ _
   | exact laws_samePools.mono _ _ _ _ _
   | exact spec_CloneOf.mono _ _ _ _
   | exact spec_DiffIn.mono _ _ _ _ _
   | exact spec_DrawCloneOf.mono _ _
   | exact spec_DrawDiffIn.mono _ _
   | exact spec_DrawPutIn.mono _ _
   | exact spec_GoodPool.mono _ _ _
   | exact spec_PutIn.mono _ _ _ _ _ _
   | exact LeO.none _
   | refine LeO.ite ?_ ?_
   | refine LeO.bind ?_ (fun _ => ?_)
  ·intro y0
   unfold laws_FnVersions.j3
   repeat' first
   | (with_reducible exact ih0 _ _ _ _ _ _ _ _ _ _)
   | (with_reducible exact ih1 _)
   | (with_reducible exact ih2 _ _ _ _ _)
   | (with_reducible exact ih3 _ _ _ _ _ _ _ _ _ _)
   | (with_reducible exact ih4 _ _ _ _ _ _ _ _ _ _)
   | (with_reducible exact impl_AllIn.mono _ _ _ _)
   | (with_reducible exact impl_CloneOf.mono _ _ _ _)
   | (with_reducible exact impl_DiffIn.mono _ _ _ _ _)
   | (with_reducible exact impl_PutIn.mono _ _ _ _ _ _)
   | (with_reducible exact laws_sameInts.mono _ _ _)
   | (with_reducible exact laws_samePools.mono _ _ _ _ _)
   | (with_reducible exact spec_CloneOf.mono _ _ _ _)
   | (with_reducible exact spec_DiffIn.mono _ _ _ _ _)
   | (with_reducible exact spec_DrawCloneOf.mono _ _)
   | (with_reducible exact spec_DrawDiffIn.mono _ _)
   | (with_reducible exact spec_DrawPutIn.mono _ _)
   | (with_reducible exact spec_GoodPool.mono _ _ _)
   | (with_reducible exact spec_PutIn.mono _ _ _ _ _ _)
   | (with_reducible exact LeO.refl _)
   | (with_reducible exact LeO.none _)
   | (with_reducible refine LeO.ite ?_ ?_)
   | (with_reducible refine LeO.bind ?_ (fun _ => ?_))
   | exact ih0 _ _ _ _ _ _ _ _ _ _
   | exact ih1 _
   | exact ih2 _ _ _ _ _
   | exact ih3 _ _ _ _ _ _ _ _ _ _
   | exact ih4 _ _ _ _ _ _ _ _ _ _
   | exact impl_AllIn.mono _ _ _ _
   | exact impl_CloneOf.mono _ _ _ _
   | exact impl_DiffIn.mono _ _ _ _ _
   | exact impl_PutIn.mono _ _ _ _ _ _
   | exact laws_sameInts.mono _ _ _
   | exact laws_samePools.mono _ _ _ _ _
   | exact spec_CloneOf.mono _ _ _ _
   | exact spec_DiffIn.mono _ _ _ _ _
   | exact spec_DrawCloneOf.mono _ _
   | exact spec_DrawDiffIn.mono _ _
   | exact spec_DrawPutIn.mono _ _
   | exact spec_GoodPool.mono _ _ _
   | exact spec_PutIn.mono _ _ _ _ _ _
   | exact LeO.none _
   | refine LeO.ite ?_ ?_
   | refine LeO.bind ?_ (fun _ => ?_)
  ·intro y0 y1 y2 y3 y4
   unfold laws_FnVersions.j4
   repeat' first
   | (with_reducible exact ih0 _ _ _ _ _ _ _ _ _ _)
   | (with_reducible exact ih1 _)
   | (with_reducible exact ih2 _ _ _ _ _)
   | (with_reducible exact ih3 _ _ _ _ _ _ _ _ _ _)
   | (with_reducible exact ih4 _ _ _ _ _ _ _ _ _ _)
   | (with_reducible exact impl_AllIn.mono _ _ _ _)
   | (with_reducible exact impl_CloneOf.mono _ _ _ _)
   | (with_reducible exact impl_DiffIn.mono _ _ _ _ _)
   | (with_reducible exact impl_PutIn.mono _ _ _ _ _ _)
   | (with_reducible exact laws_sameInts.mono _ _ _)
   | (with_reducible exact laws_samePools.mono _ _ _ _ _)
   | (with_reducible exact spec_CloneOf.mono _ _ _ _)
   | (with_reducible exact spec_DiffIn.mono _ _ _ _ _)
   | (with_reducible exact spec_DrawCloneOf.mono _ _)
   | (with_reducible exact spec_DrawDiffIn.mono _ _)
   | (with_reducible exact spec_DrawPutIn.mono _ _)
   | (with_reducible exact spec_GoodPool.mono _ _ _)
   | (with_reducible exact spec_PutIn.mono _ _ _ _ _ _)
   | (with_reducible exact LeO.refl _)
   | (with_reducible exact LeO.none _)
   | (with_reducible refine LeO.ite ?_ ?_)
   | (with_reducible refine LeO.bind ?_ (fun _ => ?_))
   | exact ih0 _ _ _ _ _ _ _ _ _ _
   | exact ih1 _
   | exact ih2 _ _ _ _ _
   | exact ih3 _ _ _ _ _ _ _ _ _ _
   | exact ih4 _ _ _ _ _ _ _ _ _ _
   | exact impl_AllIn.mono _ _ _ _
   | exact impl_CloneOf.mono _ _ _ _
   | exact impl_DiffIn.mono _ _ _ _ _
   | exact impl_PutIn.mono _ _ _ _ _ _
   | exact laws_sameInts.mono _ _ _
   | exact laws_samePools.mono _ _ _ _ _
   | exact spec_CloneOf.mono _ _ _ _
   | exact spec_DiffIn.mono _ _ _ _ _
   | exact spec_DrawCloneOf.mono _ _
   | exact spec_DrawDiffIn.mono _ _
   | exact spec_DrawPutIn.mono _ _
   | exact spec_GoodPool.mono _ _ _
   | exact spec_PutIn.mono _ _ _ _ _ _
   | exact LeO.none _
   | refine LeO.ite ?_ ?_
   | refine LeO.bind ?_ (fun _ => ?_)
  ·intro y0 y1 y2 y3 y4 y5 y6 y7 y8 y9
   unfold laws_FnVersions.j1
   repeat' first
   | (with_reducible exact ih0 _ _ _ _ _ _ _ _ _ _)
   | (with_reducible exact ih1 _)
   | (with_reducible exact ih2 _ _ _ _ _)
   | (with_reducible exact ih3 _ _ _ _ _ _ _ _ _ _)
   | (with_reducible exact ih4 _ _ _ _ _ _ _ _ _ _)
   | (with_reducible exact impl_AllIn.mono _ _ _ _)
   | (with_reducible exact impl_CloneOf.mono _ _ _ _)
   | (with_reducible exact impl_DiffIn.mono _ _ _ _ _)
   | (with_reducible exact impl_PutIn.mono _ _ _ _ _ _)
   | (with_reducible exact laws_sameInts.mono _ _ _)
   | (with_reducible exact laws_samePools.mono _ _ _ _ _)
   | (with_reducible exact spec_CloneOf.mono _ _ _ _)
   | (with_reducible exact spec_DiffIn.mono _ _ _ _ _)
   | (with_reducible exact spec_DrawCloneOf.mono _ _)
   | (with_reducible exact spec_DrawDiffIn.mono _ _)
   | (with_reducible exact spec_DrawPutIn.mono _ _)
   | (with_reducible exact spec_GoodPool.mono _ _ _)
   | (with_reducible exact spec_PutIn.mono _ _ _ _ _ _)
   | (with_reducible exact LeO.refl _)
   | (with_reducible exact LeO.none _)
   | (with_reducible refine LeO.ite ?_ ?_)
   | (with_reducible refine LeO.bind ?_ (fun _ => ?_))
   | exact ih0 _ _ _ _ _ _ _ _ _ _
   | exact ih1 _
   | exact ih2 _ _ _ _ _
   | exact ih3 _ _ _ _ _ _ _ _ _ _
   | exact ih4 _ _ _ _ _ _ _ _ _ _
   | exact impl_AllIn.mono _ _ _ _
   | exact impl_CloneOf.mono _ _ _ _
   | exact impl_DiffIn.mono _ _ _ _ _
   | exact impl_PutIn.mono _ _ _ _ _ _
   | exact laws_sameInts.mono _ _ _
   | exact laws_samePools.mono _ _ _ _ _
   | exact spec_CloneOf.mono _ _ _ _
   | exact spec_DiffIn.mono _ _ _ _ _
   | exact spec_DrawCloneOf.mono _ _
   | exact spec_DrawDiffIn.mono _ _
   | exact spec_DrawPutIn.mono _ _
   | exact spec_GoodPool.mono _ _ _
   | exact spec_PutIn.mono _ _ _ _ _ _
   | exact LeO.none _
   | refine LeO.ite ?_ ?_
   | refine LeO.bind ?_ (fun _ => ?_)
  ·intro y0 y1 y2 y3 y4 y5 y6 y7 y8 y9
   unfold laws_FnVersions.l0
   repeat' first
   | (with_reducible exact ih0 _ _ _ _ _ _ _ _ _ _)
   | (with_reducible exact ih1 _)
   | (with_reducible exact ih2 _ _ _ _ _)
   | (with_reducible exact ih3 _ _ _ _ _ _ _ _ _ _)
   | (with_reducible exact ih4 _ _ _ _ _ _ _ _ _ _)
   | (with_reducible exact impl_AllIn.mono _ _ _ _)
   | (with_reducible exact impl_CloneOf.mono _ _ _ _)
   | (with_reducible exact impl_DiffIn.mono _ _ _ _ _)
   | (with_reducible exact impl_PutIn.mono _ _ _ _ _ _)
   | (with_reducible exact laws_sameInts.mono _ _ _)
   | (with_reducible exact laws_samePools.mono _ _ _ _ _)
   | (with_reducible exact spec_CloneOf.mono _ _ _ _)
   | (with_reducible exact spec_DiffIn.mono _ _ _ _ _)
   | (with_reducible exact spec_DrawCloneOf.mono _ _)
   | (with_reducible exact spec_DrawDiffIn.mono _ _)
   | (with_reducible exact spec_DrawPutIn.mono _ _)
   | (with_reducible exact spec_GoodPool.mono _ _ _)
   | (with_reducible exact spec_PutIn.mono _ _ _ _ _ _)
   | (with_reducible exact LeO.refl _)
   | (with_reducible exact LeO.none _)
   | (with_reducible refine LeO.ite ?_ ?_)
   | (with_reducible refine LeO.bind ?_ (fun _ => ?_))
   | exact ih0 _ _ _ _ _ _ _ _ _ _
   | exact ih1 _
   | exact ih2 _ _ _ _ _
   | exact ih3 _ _ _ _ _ _ _ _ _ _
   | exact ih4 _ _ _ _ _ _ _ _ _ _
   | exact impl_AllIn.mono _ _ _ _
   | exact impl_CloneOf.mono _ _ _ _
   | exact impl_DiffIn.mono _ _ _ _ _
   | exact impl_PutIn.mono _ _ _ _ _ _
   | exact laws_sameInts.mono _ _ _
   | exact laws_samePools.mono _ _ _ _ _
   | exact spec_CloneOf.mono _ _ _ _
   | exact spec_DiffIn.mono _ _ _ _ _
   | exact spec_DrawCloneOf.mono _ _
   | exact spec_DrawDiffIn.mono _ _
   | exact spec_DrawPutIn.mono _ _
   | exact spec_GoodPool.mono _ _ _
   | exact spec_PutIn.mono _ _ _ _ _ _
   | exact LeO.none _
   | refine LeO.ite ?_ ?_
   | refine LeO.bind ?_ (fun _ => ?_)
theorem laws_FnVersions.mono : ∀ a0 a1 k, LeO (laws_FnVersions.f k a0 a1) (laws_FnVersions.f (k + 1) a0 a1) := by
 intro a0 a1 k
 obtain ⟨ih0, ih1, ih2, ih3, ih4⟩ := laws_FnVersions.mono_l k
 unfold laws_FnVersions.f
 repeat' first
   | (with_reducible exact ih0 _ _ _ _ _ _ _ _ _ _)
   | (with_reducible exact ih1 _)
   | (with_reducible exact ih2 _ _ _ _ _)
   | (with_reducible exact ih3 _ _ _ _ _ _ _ _ _ _)
   | (with_reducible exact ih4 _ _ _ _ _ _ _ _ _ _)
   | (with_reducible exact impl_AllIn.mono _ _ _ _)
   | (with_reducible exact impl_CloneOf.mono _ _ _ _)
   | (with_reducible exact impl_DiffIn.mono _ _ _ _ _)
   | (with_reducible exact impl_PutIn.mono _ _ _ _ _ _)
   | (with_reducible exact laws_sameInts.mono _ _ _)
   | (with_reducible exact laws_samePools.mono _ _ _ _ _)
   | (with_reducible exact spec_CloneOf.mono _ _ _ _)
   | (with_reducible exact spec_DiffIn.mono _ _ _ _ _)
   | (with_reducible exact spec_DrawCloneOf.mono _ _)
   | (with_reducible exact spec_DrawDiffIn.mono _ _)
   | (with_reducible exact spec_DrawPutIn.mono _ _)
   | (with_reducible exact spec_GoodPool.mono _ _ _)
   | (with_reducible exact spec_PutIn.mono _ _ _ _ _ _)
   | (with_reducible exact LeO.refl _)
   | (with_reducible exact LeO.none _)
   | (with_reducible refine LeO.ite ?_ ?_)
   | (with_reducible refine LeO.bind ?_ (fun _ => ?_))
   | exact ih0 _ _ _ _ _ _ _ _ _ _
   | exact ih1 _
   | exact ih2 _ _ _ _ _
   | exact ih3 _ _ _ _ _ _ _ _ _ _
   | exact ih4 _ _ _ _ _ _ _ _ _ _
   | exact impl_AllIn.mono _ _ _ _
   | exact impl_CloneOf.mono _ _ _ _
   | exact impl_DiffIn.mono _ _ _ _ _
   | exact impl_PutIn.mono _ _ _ _ _ _
   | exact laws_sameInts.mono _ _ _
   | exact laws_samePools.mono _ _ _ _ _
   | exact spec_CloneOf.mono _ _ _ _
   | exact spec_DiffIn.mono _ _ _ _ _
   | exact spec_DrawCloneOf.mono _ _
   | exact spec_DrawDiffIn.mono _ _
   | exact spec_DrawPutIn.mono _ _
   | exact spec_GoodPool.mono _ _ _
   | exact spec_PutIn.mono _ _ _ _ _ _
   | exact LeO.none _
   | refine LeO.ite ?_ ?_
   | refine LeO.bind ?_ (fun _ => ?_)
def laws_FnVersions.T6 : Bool × List (List Nat × List Nat) := (true, [([], []), ([], []), ([0, 1], [0, 1]), ([2], [2]), ([3], [3]), ([3], [3]), ([4, 5, 3, 3], [3, 4, 5]), ([6, 3], [3, 6]), ([3, 7], [3, 7]), ([8, 6], [8]), ([9], [9]), ([10, 9, 9], [9, 10]), ([9], [9]), ([12, 11, 9], [9, 12]), ([11, 13, 9], [9, 11, 13]), ([9, 14], [9, 14])])
def laws_FnVersions.B6 : List Nat := [0, 0, 3, 7, 15, 15, 63, 127, 255, 511, 1023, 2047, 1023, 8191, 16383, 32767]
theorem laws_FnVersions.tab6 : rtab .any (opsOf Try.f10 6) = laws_FnVersions.T6 := by kernel_rfl
theorem laws_FnVersions.bits6 : waitsOk laws_FnVersions.T6.2 laws_FnVersions.B6 = true := by kernel_rfl
set_option maxHeartbeats 8000000 in
set_option maxRecDepth 100000 in
theorem laws_FnVersions.calls (k : Nat) (A0 : Option Addr) (c0 : Nat) (l0 : List Int) (A1 : Option Addr) (c1 : Nat) (l1 : List Int) (r : Bool) (w : World) (hr0 : Kd.C (Kd.int .u8) w A0 l0.length l0) (hc0 : l0.length ≤ c0) (hr1 : Kd.C (Kd.int .u8) w A1 l1.length l1) (hc1 : l1.length ≤ c1) (h : laws_FnVersions.f k l0 l1 = some true) :
  Calls Try.prog 10 #[.slice A0 l0.length c0, .slice A1 l1.length c1] w fun e w' => e = .returned (.bool true) ∧ Below w.heap.size w w' := by
 have hu25 := Try.underlying25
 have HR0 := Op.k hr0
 have HC0 := Op.k hc0
 clear hr0 hc0
 have HR1 := Op.k hr1
 have HC1 := Op.k hc1
 clear hr1 hc1
 have HB := Op.k (Below.refl w.heap.size w)
 have H : (if (wrap64 ((l0.length : Int) + (l1.length : Int))) > 1048576 then (some true) else ((spec_DrawPutIn.f k l0).bind fun bt488 => ((impl_PutIn.f k bt488.1 bt488.2.1 bt488.2.2.1 bt488.2.2.2.1 bt488.2.2.2.2).bind fun bt498 => ((spec_PutIn.f k bt488.1 bt488.2.1 bt488.2.2.1 bt488.2.2.2.1 bt488.2.2.2.2).bind fun bt506 => (if (bt498.2.2 != bt506.2.2) = true then (laws_FnVersions.j0 k l1 bt488.2.2.1 bt488.2.2.2.1 bt488.2.2.2.2 bt498.2.2 true bt488.1 bt488.2.1 bt498.1 bt498.2.1) else ((laws_samePools.f k bt498.1 bt498.2.1 bt506.1 bt506.2.1).bind fun t514 => (if t514 = true then ((impl_GoodPool.f bt488.1 bt488.2.1).bind fun t515 => ((spec_GoodPool.f k bt488.1 bt488.2.1).bind fun t516 => (laws_FnVersions.j0 k l1 bt488.2.2.1 bt488.2.2.2.1 bt488.2.2.2.2 bt498.2.2 (t515 != t516) bt488.1 bt488.2.1 bt498.1 bt498.2.1))) else (laws_FnVersions.j0 k l1 bt488.2.2.1 bt488.2.2.2.1 bt488.2.2.2.2 bt498.2.2 true bt488.1 bt488.2.1 bt498.1 bt498.2.1)))))))) = some true := h
 clear h
 by_cases c3 : (wrap64 ((l0.length : Int) + (l1.length : Int))) > 1048576
 ·rw [if_pos c3] at H
  have c3b0 : decide (1048576 < (wrap64 ((l0.length : Int) + (l1.length : Int)))) = true := decide_eq_true c3
  clear c3
  have hR_ := Option.some.inj H
  clear H
  go_enter Try.func10, Try.ntmps10
  go_wp2
  go_ret
  exact ⟨by first | rfl | (simp [errW_none, errW_some] <;> rfl) | (simp [*, errW_none, errW_some] <;> rfl), Op.ht HB.out⟩
 ·rw [if_neg c3] at H
  have c3b0 : decide (1048576 < (wrap64 ((l0.length : Int) + (l1.length : Int)))) = false := decide_eq_false c3
  clear c3
  replace H := Option.bind_eq_some_iff.mp H
  obtain ⟨⟨t488, t491, t494, t495, t496⟩, A40, H⟩ := H
  try dsimp only at H
  have A4 := Op.k A40
  clear A40
  replace H := Option.bind_eq_some_iff.mp H
  obtain ⟨⟨t498, t501, t504⟩, A50, H⟩ := H
  try dsimp only at H
  have A5 := Op.k A50
  clear A50
  replace H := Option.bind_eq_some_iff.mp H
  obtain ⟨⟨t506, t509, t512⟩, A60, H⟩ := H
  try dsimp only at H
  have A6 := Op.k A60
  clear A60
  have HC7 := Op.k H
  clear H
  go_enter Try.func10, Try.ntmps10
  go_upto_region 6 with (first | ((with_reducible refine gate_callee (f := 35) rfl ?_); refine goesL_ (some 48) rfl rfl Try.func35 (by kernel_rfl) rfl #[.slice A0 l0.length c0] rfl (by (try simp only [List.map_toArray, List.map_cons, List.map_nil]); first | done | rfl | (simp only [List.length_drop, List.length_take]; rfl)) ?_; (with_reducible refine (spec_DrawPutIn.calls k _ _ l0 t488 t491 t494 t495 t496 _ ?side1 ?side2 A4.out).mono ?_); (case side1 => repeat (first | exact HR0.out | (with_reducible refine Kd.C_alloc ?_ _) | (with_reducible refine Kd.C_drewN ?_ _) | (with_reducible refine Kd.C_drew ?_))); (case side2 => exact HC0.out); rintro e w8 ⟨v489, v492, rfl, ho0, ho1, hb⟩; refine ⟨_, rfl, ?_⟩; have HO490 := Op.k (Kd.S_lower ho0 (Op.a6 (Op.ht HB.out))); have HO493 := Op.k (Kd.R_lower ho1 (Op.a6 (Op.ht HB.out))); replace HB := Op.k (Op.a5 (Op.ht HB.out) hb); (try clear hb); (try clear hb2); (try clear hk); (try clear hi); (try clear ho0); (try clear ho1)) | ((with_reducible refine gate_dst (N := 5) rfl ?_); (try (refine gate_guard (by rfl) ?_; dsimp only)); refine box_event ?hg (N := 5) ?hd (cs := #[.slice none 0 0, .slice none 0 0]) (t := 25) ?hr ?_; (case hd => rfl); (case hg => rfl); (case hr => first | (go_simp; done) | (go_simp; rfl)); intro gb497 hg w9 hbox hb; replace HO490 := Op.k (Kd.S_below (Op.st HO490.out) hb); replace HO493 := Op.k (Kd.R_below (Op.rt HO493.out) hb); have BK497 := Op.k (hbox); have GW497 := Op.k ((Op.nz hg (Op.ht HB.out) : w.heap.size ≤ gb497)); have GE497 := Op.k ((Op.nz hg (Op.ht HB.out) : w.heap.size ≤ gb497)); replace HB := Op.k (Op.a5 (Op.ht HB.out) hb); clear hb hbox hg; obtain ⟨Ao10, co10, eo10⟩ := Kd.S_slice HO490.out; subst eo10; have hcz11_0 := Op.c0 BK497.out; have hcz11_1 := Op.c1 BK497.out; have hfz11_0 := Op.bf BK497.out 0; have hfz11_1 := Op.bf BK497.out 1; obtain ⟨Ao12, co12, eo12⟩ := Kd.R_slice HO493.out; subst eo12) | ((with_reducible refine gate_callee (f := 34) rfl ?_); refine goesL_ (some 58) rfl rfl Try.func34 (by kernel_rfl) rfl #[.agg #[.slice Ao10 t488.length co10, .slice Ao12 t491.length co12], .int .i64 t494, .int .i64 t495, .int .i64 t496] rfl (by (try simp only [List.map_toArray, List.map_cons, List.map_nil]); first | done | rfl | (simp only [List.length_drop, List.length_take]; rfl)) ?_; (with_reducible refine (impl_PutIn.calls k _ _ t488 _ _ t491 t494 t495 t496 t498 t501 t504 _ ?side1 ?side2 ?side3 ?side4 A5.out).mono ?_); (case side1 => exact (Kd.S_reads' (Op.sf HO490.out BK497.out)).2.2); (case side2 => exact (Kd.S_reads' HO490.out).2.1); (case side3 => exact (Kd.R_reads' (Op.rf HO493.out BK497.out)).2.2); (case side4 => exact (Kd.R_reads' HO493.out).2.1); rintro e w13 ⟨v499, v502, rfl, ho0, ho1, hb⟩; refine ⟨_, rfl, ?_⟩; have HO500 := Op.k (Kd.S_lower (Kd.S_new' (Kd.S_new' ho0 (Kd.S_lt (Op.sf HO490.out BK497.out))) (Kd.R_lt (Op.rf HO493.out BK497.out))) (Op.a6 (Op.ht HB.out))); replace HO490 := Op.k (Kd.S_mono (Kd.S_told (Kd.S_told (Kd.S_old (Op.sf HO490.out BK497.out) hb) (Kd.S_base ho0)) (Kd.R_base ho1)) (fun _ h_ => h_.1)); have HO503 := Op.k (Kd.R_lower (Kd.R_new' ho1 (Kd.R_lt (Op.rf HO493.out BK497.out))) (Op.a6 (Op.ht HB.out))); replace HO493 := Op.k (Kd.R_elder' (Op.rf HO493.out BK497.out) (Kd.R_base ho1) hb); replace BK497 := Op.k (Op.b4 (g := gb497) (o := .cells #[.slice Ao10 t488.length co10, .slice Ao12 t491.length co12] 25 (0, 0)) (Op.bv BK497.out) hb); replace HB := Op.k (Op.a5 (Op.ht HB.out) hb); (try clear hb); (try clear hb2); (try clear hk); (try clear hi); (try clear ho0); (try clear ho1)) | ((with_reducible refine gate_dst (N := 9) rfl ?_); (try (refine gate_guard (by rfl) ?_; dsimp only)); refine box_event ?hg (N := 9) ?hd (cs := #[.slice none 0 0, .slice none 0 0]) (t := 25) ?hr ?_; (case hd => rfl); (case hg => rfl); (case hr => first | (go_simp; done) | (go_simp; rfl)); intro gb505 hg w14 hbox hb; replace HO490 := Op.k (Kd.S_below (Op.st HO490.out) hb); replace HO493 := Op.k (Kd.R_below (Op.rt HO493.out) hb); replace HO500 := Op.k (Kd.S_below (Op.st HO500.out) hb); replace HO503 := Op.k (Kd.R_below (Op.rt HO503.out) hb); have BK505 := Op.k (hbox); have GW505 := Op.k ((Op.nz hg (Op.ht HB.out) : w.heap.size ≤ gb505)); have GE505 := Op.k ((Op.nz hg (Op.ht HB.out) : w.heap.size ≤ gb505)); replace HB := Op.k (Op.a5 (Op.ht HB.out) hb); have NB497_505 := Op.k ((Op.nl hg (Op.bt BK497.out) : gb497 ≠ gb505)); have NB505_497 := Op.k ((Op.ng hg (Op.bt BK497.out) : gb505 ≠ gb497)); replace BK497 := Op.k (Op.b4 (Op.bt BK497.out) hb); clear hb hbox hg; obtain ⟨Ao15, co15, eo15⟩ := Kd.S_slice HO500.out; subst eo15; have hnb16 := NB505_497.out; have hnc16 := NB497_505.out; have hcz17_0 := Op.c0 BK505.out; have hcz17_1 := Op.c1 BK505.out; have hfz17_0 := Op.bf BK505.out 0; have hfz17_1 := Op.bf BK505.out 1; obtain ⟨Ao18, co18, eo18⟩ := Kd.R_slice HO503.out; subst eo18; have hcz19_0 := Op.c0 BK497.out; have hcz19_1 := Op.c1 BK497.out; have hfz19_0 := Op.bf BK497.out 0; have hfz19_1 := Op.bf BK497.out 1) | ((with_reducible refine gate_callee (f := 33) rfl ?_); refine goesL_ (some 66) rfl rfl Try.func33 (by kernel_rfl) rfl #[.agg #[.slice Ao10 t488.length co10, .slice Ao12 t491.length co12], .int .i64 t494, .int .i64 t495, .int .i64 t496] rfl (by (try simp only [List.map_toArray, List.map_cons, List.map_nil]); first | done | rfl | (simp only [List.length_drop, List.length_take]; rfl)) ?_; (with_reducible refine (spec_PutIn.calls k _ _ t488 _ _ t491 t494 t495 t496 t506 t509 t512 _ ?side1 ?side2 ?side3 ?side4 A6.out).mono ?_); (case side1 => exact (Kd.S_reads' (Op.sf HO490.out BK505.out)).2.2); (case side2 => exact (Kd.S_reads' HO490.out).2.1); (case side3 => exact (Kd.R_reads' (Op.rf HO493.out BK505.out)).2.2); (case side4 => exact (Kd.R_reads' HO493.out).2.1); rintro e w20 ⟨v507, v510, rfl, ho0, ho1, hb⟩; refine ⟨_, rfl, ?_⟩; have HO508 := Op.k (Kd.S_lower (Kd.S_new' (Kd.S_new' (Kd.S_new' (Kd.S_new' ho0 (Kd.S_lt (Op.sf HO490.out BK505.out))) (Kd.R_lt (Op.rf HO493.out BK505.out))) (Kd.S_lt (Op.sf HO500.out BK505.out))) (Kd.R_lt (Op.rf HO503.out BK505.out))) (Op.a6 (Op.ht HB.out))); replace HO490 := Op.k (Kd.S_mono (Kd.S_told (Kd.S_told (Kd.S_old (Op.sf HO490.out BK505.out) hb) (Kd.S_base ho0)) (Kd.R_base ho1)) (fun _ h_ => h_.1)); replace HO500 := Op.k (Kd.S_mono (Kd.S_told (Kd.S_told (Kd.S_old (Op.sf HO500.out BK505.out) hb) (Kd.S_base ho0)) (Kd.R_base ho1)) (fun _ h_ => h_.1)); have HO511 := Op.k (Kd.R_lower (Kd.R_new' (Kd.R_new' ho1 (Kd.R_lt (Op.rf HO493.out BK505.out))) (Kd.R_lt (Op.rf HO503.out BK505.out))) (Op.a6 (Op.ht HB.out))); replace HO493 := Op.k (Kd.R_elder' (Op.rf HO493.out BK505.out) (Kd.R_base ho1) hb); replace HO503 := Op.k (Kd.R_elder' (Op.rf HO503.out BK505.out) (Kd.R_base ho1) hb); replace BK497 := Op.k (Op.b4 (Op.bt BK497.out) hb); replace BK505 := Op.k (Op.b4 (g := gb505) (o := .cells #[.slice Ao15 t498.length co15, .slice Ao18 t501.length co18] 25 (0, 0)) (Op.bv BK505.out) hb); replace HB := Op.k (Op.a5 (Op.ht HB.out) hb); (try clear hb); (try clear hb2); (try clear hk); (try clear hi); (try clear ho0); (try clear ho1)) | ((with_reducible refine gate_dst (N := 11) rfl ?_); (try (refine gate_guard (by rfl) ?_; dsimp only)); refine box_event ?hg (N := 11) ?hd (cs := #[.slice none 0 0, .slice none 0 0]) (t := 25) ?hr ?_; (case hd => rfl); (case hg => rfl); (case hr => first | (go_simp; done) | (go_simp; rfl)); intro gb513 hg w21 hbox hb; replace HO490 := Op.k (Kd.S_below (Op.st HO490.out) hb); replace HO493 := Op.k (Kd.R_below (Op.rt HO493.out) hb); replace HO500 := Op.k (Kd.S_below (Op.st HO500.out) hb); replace HO503 := Op.k (Kd.R_below (Op.rt HO503.out) hb); replace HO508 := Op.k (Kd.S_below (Op.st HO508.out) hb); replace HO511 := Op.k (Kd.R_below (Op.rt HO511.out) hb); have BK513 := Op.k (hbox); have GW513 := Op.k ((Op.nz hg (Op.ht HB.out) : w.heap.size ≤ gb513)); have GE513 := Op.k ((Op.nz hg (Op.ht HB.out) : w.heap.size ≤ gb513)); replace HB := Op.k (Op.a5 (Op.ht HB.out) hb); have NB497_513 := Op.k ((Op.nl hg (Op.bt BK497.out) : gb497 ≠ gb513)); have NB513_497 := Op.k ((Op.ng hg (Op.bt BK497.out) : gb513 ≠ gb497)); replace BK497 := Op.k (Op.b4 (Op.bt BK497.out) hb); have NB505_513 := Op.k ((Op.nl hg (Op.bt BK505.out) : gb505 ≠ gb513)); have NB513_505 := Op.k ((Op.ng hg (Op.bt BK505.out) : gb513 ≠ gb505)); replace BK505 := Op.k (Op.b4 (Op.bt BK505.out) hb); clear hb hbox hg; obtain ⟨Ao22, co22, eo22⟩ := Kd.S_slice HO508.out; subst eo22; have hnb23 := NB513_497.out; have hnc23 := NB497_513.out; have hnb24 := NB513_505.out; have hnc24 := NB505_513.out; have hcz25_0 := Op.c0 BK513.out; have hcz25_1 := Op.c1 BK513.out; have hfz25_0 := Op.bf BK513.out 0; have hfz25_1 := Op.bf BK513.out 1; obtain ⟨Ao26, co26, eo26⟩ := Kd.R_slice HO511.out; subst eo26))
  (try simp only [Act.put, List.setIfInBounds_toArray, List.set_cons_zero, List.set_cons_succ])
  go_cut [84] (fun v84 wc => ∃ (kq : Nat) (x84_6 : Bool), v84 = .bool x84_6 ∧ Aside0 (laws_FnVersions.j0 kq l1 t494 t495 t496 t504 x84_6 t488 t491 t498 t501 = some true) ∧ Aside0 (kq ≤ k) ∧ Aside0 (Kd.S k65 65 wc w.heap.size (fun k_ => some k_ ≠ ((.slice Ao12 t491.length co12) : Value).ownBlock ∧ some k_ ≠ ((.slice Ao15 t498.length co15) : Value).ownBlock ∧ some k_ ≠ ((.slice Ao18 t501.length co18) : Value).ownBlock ∧ some k_ ≠ ((.slice Ao22 t506.length co22) : Value).ownBlock ∧ some k_ ≠ ((.slice Ao26 t509.length co26) : Value).ownBlock) (.slice Ao10 t488.length co10) t488) ∧ Aside0 (Kd.R (Kd.int .i64) 3 wc w.heap.size (fun k_ => some k_ ≠ ((.slice Ao18 t501.length co18) : Value).ownBlock ∧ some k_ ≠ ((.slice Ao26 t509.length co26) : Value).ownBlock) (.slice Ao12 t491.length co12) t491) ∧ Aside0 (Kd.S k65 65 wc w.heap.size (fun k_ => some k_ ≠ ((.slice Ao10 t488.length co10) : Value).ownBlock ∧ some k_ ≠ ((.slice Ao12 t491.length co12) : Value).ownBlock ∧ some k_ ≠ ((.slice Ao18 t501.length co18) : Value).ownBlock ∧ some k_ ≠ ((.slice Ao22 t506.length co22) : Value).ownBlock ∧ some k_ ≠ ((.slice Ao26 t509.length co26) : Value).ownBlock) (.slice Ao15 t498.length co15) t498) ∧ Aside0 (Kd.R (Kd.int .i64) 3 wc w.heap.size (fun k_ => some k_ ≠ ((.slice Ao12 t491.length co12) : Value).ownBlock ∧ some k_ ≠ ((.slice Ao26 t509.length co26) : Value).ownBlock) (.slice Ao18 t501.length co18) t501) ∧ Aside0 (Kd.S k65 65 wc w.heap.size (fun k_ => some k_ ≠ ((.slice Ao10 t488.length co10) : Value).ownBlock ∧ some k_ ≠ ((.slice Ao12 t491.length co12) : Value).ownBlock ∧ some k_ ≠ ((.slice Ao15 t498.length co15) : Value).ownBlock ∧ some k_ ≠ ((.slice Ao18 t501.length co18) : Value).ownBlock ∧ some k_ ≠ ((.slice Ao26 t509.length co26) : Value).ownBlock) (.slice Ao22 t506.length co22) t506) ∧ Aside0 (Kd.R (Kd.int .i64) 3 wc w.heap.size (fun k_ => some k_ ≠ ((.slice Ao12 t491.length co12) : Value).ownBlock ∧ some k_ ≠ ((.slice Ao18 t501.length co18) : Value).ownBlock) (.slice Ao26 t509.length co26) t509) ∧ Aside0 (wc.heap[gb497]? = some (.cells #[(.slice Ao10 t488.length co10), (.slice Ao12 t491.length co12)] 25 (0, 0))) ∧ Aside0 (wc.heap[gb505]? = some (.cells #[(.slice Ao15 t498.length co15), (.slice Ao18 t501.length co18)] 25 (0, 0))) ∧ Aside0 (wc.heap[gb513]? = some (.cells #[(.slice Ao22 t506.length co22), (.slice Ao26 t509.length co26)] 25 (0, 0))) ∧ Aside0 (Below w.heap.size w wc))
  case first =>
   as_aux_lemma =>
   have H := HC7.out
   clear HC7
   by_cases c27 : (t504 != t512) = true
   ·rw [if_pos c27] at H
    have c27b0 : (t504 != t512) = true := c27
    (try (have c27b1 : decide (t504 = t512) = false := by simpa using c27))
    (try (have c27b2 : (t504 == t512) = false := by simpa using c27))
    (try (have c27b3 : ¬ (t504 = t512) := by simpa using c27))
    clear c27
    (first | rw [c27b0] | (simp only [i64_w, i32_w]; rw [c27b0]) | skip)
    exact absurd H (by unfold laws_FnVersions.j0; split <;> simp)
   ·rw [if_neg c27] at H
    have c27b0 : (t504 != t512) = false := by simpa using c27
    (try (have c27b1 : decide (t504 = t512) = true := by simpa using c27))
    (try (have c27b2 : (t504 == t512) = true := by simpa using c27))
    clear c27
    (first | rw [c27b0] | (simp only [i64_w, i32_w]; rw [c27b0]) | skip)
    replace H := Option.bind_eq_some_iff.mp H
    obtain ⟨t514, A300, H⟩ := H
    try dsimp only at H
    have A30 := Op.k A300
    clear A300
    by_cases c31 : t514 = true
    ·subst c31
     have H1 : ((impl_GoodPool.f t488 t491).bind fun t515 => ((spec_GoodPool.f k t488 t491).bind fun t516 => (laws_FnVersions.j0 k l1 t494 t495 t496 t504 (t515 != t516) t488 t491 t498 t501))) = some true := by rw [if_pos rfl] at H; exact H
     clear H
     have H := H1
     clear H1
     replace H := Option.bind_eq_some_iff.mp H
     obtain ⟨t515, A320, H⟩ := H
     try dsimp only at H
     have A32 := Op.k A320
     clear A320
     replace H := Option.bind_eq_some_iff.mp H
     obtain ⟨t516, A330, H⟩ := H
     try dsimp only at H
     have A33 := Op.k A330
     clear A330
     have H' := Op.k H
     clear H
     try go_wp2
     have n0_ : Aside0 (Kd.S k65 65 ((w21.setCell ⟨gb513, 0, none⟩ (.slice Ao22 t506.length co22)).setCell ⟨gb513, 1, none⟩ (.slice Ao26 t509.length co26)) w.heap.size (fun k_ => some k_ ≠ (.slice Ao12 t491.length co12 : Value).ownBlock ∧ some k_ ≠ (.slice Ao15 t498.length co15 : Value).ownBlock ∧ some k_ ≠ (.slice Ao18 t501.length co18 : Value).ownBlock ∧ some k_ ≠ (.slice Ao22 t506.length co22 : Value).ownBlock ∧ some k_ ≠ (.slice Ao26 t509.length co26 : Value).ownBlock) (.slice Ao10 t488.length co10) t488) := ⟨Kd.S_mono (Op.sf HO490.out BK513.out) (fun _ hk => ⟨hk.1.1.1.1, ⟨hk.1.1.1.2, ⟨hk.1.1.2, ⟨hk.1.2, hk.2⟩⟩⟩⟩)⟩
     have n1_ : Aside0 (Kd.R (Kd.int .i64) 3 ((w21.setCell ⟨gb513, 0, none⟩ (.slice Ao22 t506.length co22)).setCell ⟨gb513, 1, none⟩ (.slice Ao26 t509.length co26)) w.heap.size (fun k_ => some k_ ≠ (.slice Ao18 t501.length co18 : Value).ownBlock ∧ some k_ ≠ (.slice Ao26 t509.length co26 : Value).ownBlock) (.slice Ao12 t491.length co12) t491) := ⟨Kd.R_mono (Op.rf HO493.out BK513.out) (fun _ hk => ⟨hk.1.2, hk.2⟩)⟩
     have n2_ : Aside0 (Kd.S k65 65 ((w21.setCell ⟨gb513, 0, none⟩ (.slice Ao22 t506.length co22)).setCell ⟨gb513, 1, none⟩ (.slice Ao26 t509.length co26)) w.heap.size (fun k_ => some k_ ≠ (.slice Ao10 t488.length co10 : Value).ownBlock ∧ some k_ ≠ (.slice Ao12 t491.length co12 : Value).ownBlock ∧ some k_ ≠ (.slice Ao18 t501.length co18 : Value).ownBlock ∧ some k_ ≠ (.slice Ao22 t506.length co22 : Value).ownBlock ∧ some k_ ≠ (.slice Ao26 t509.length co26 : Value).ownBlock) (.slice Ao15 t498.length co15) t498) := ⟨Kd.S_mono (Op.sf HO500.out BK513.out) (fun _ hk => ⟨hk.1.1.1.2, ⟨hk.1.1.2, ⟨hk.1.1.1.1, ⟨hk.1.2, hk.2⟩⟩⟩⟩)⟩
     have n3_ : Aside0 (Kd.R (Kd.int .i64) 3 ((w21.setCell ⟨gb513, 0, none⟩ (.slice Ao22 t506.length co22)).setCell ⟨gb513, 1, none⟩ (.slice Ao26 t509.length co26)) w.heap.size (fun k_ => some k_ ≠ (.slice Ao12 t491.length co12 : Value).ownBlock ∧ some k_ ≠ (.slice Ao26 t509.length co26 : Value).ownBlock) (.slice Ao18 t501.length co18) t501) := ⟨Kd.R_mono (Op.rf HO503.out BK513.out) (fun _ hk => ⟨hk.1.2, hk.2⟩)⟩
     have n4_ : Aside0 (Kd.S k65 65 ((w21.setCell ⟨gb513, 0, none⟩ (.slice Ao22 t506.length co22)).setCell ⟨gb513, 1, none⟩ (.slice Ao26 t509.length co26)) w.heap.size (fun k_ => some k_ ≠ (.slice Ao10 t488.length co10 : Value).ownBlock ∧ some k_ ≠ (.slice Ao12 t491.length co12 : Value).ownBlock ∧ some k_ ≠ (.slice Ao15 t498.length co15 : Value).ownBlock ∧ some k_ ≠ (.slice Ao18 t501.length co18 : Value).ownBlock ∧ some k_ ≠ (.slice Ao26 t509.length co26 : Value).ownBlock) (.slice Ao22 t506.length co22) t506) := ⟨Kd.S_mono (Op.sf HO508.out BK513.out) (fun _ hk => ⟨hk.1.1.1.2, ⟨hk.1.1.2, ⟨hk.1.2, ⟨hk.2, hk.1.1.1.1⟩⟩⟩⟩)⟩
     have n5_ : Aside0 (Kd.R (Kd.int .i64) 3 ((w21.setCell ⟨gb513, 0, none⟩ (.slice Ao22 t506.length co22)).setCell ⟨gb513, 1, none⟩ (.slice Ao26 t509.length co26)) w.heap.size (fun k_ => some k_ ≠ (.slice Ao12 t491.length co12 : Value).ownBlock ∧ some k_ ≠ (.slice Ao18 t501.length co18 : Value).ownBlock) (.slice Ao26 t509.length co26) t509) := ⟨Kd.R_mono (Op.rf HO511.out BK513.out) (fun _ hk => ⟨hk.1.2, hk.2⟩)⟩
     have n6_ : Aside0 (((w21.setCell ⟨gb513, 0, none⟩ (.slice Ao22 t506.length co22)).setCell ⟨gb513, 1, none⟩ (.slice Ao26 t509.length co26)).heap[gb497]? = some (.cells #[.slice Ao10 t488.length co10, .slice Ao12 t491.length co12] 25 (0, 0))) := ⟨Op.bt BK497.out⟩
     have n7_ : Aside0 (((w21.setCell ⟨gb513, 0, none⟩ (.slice Ao22 t506.length co22)).setCell ⟨gb513, 1, none⟩ (.slice Ao26 t509.length co26)).heap[gb505]? = some (.cells #[.slice Ao15 t498.length co15, .slice Ao18 t501.length co18] 25 (0, 0))) := ⟨Op.bt BK505.out⟩
     have n8_ : Aside0 (((w21.setCell ⟨gb513, 0, none⟩ (.slice Ao22 t506.length co22)).setCell ⟨gb513, 1, none⟩ (.slice Ao26 t509.length co26)).heap[gb513]? = some (.cells #[.slice Ao22 t506.length co22, .slice Ao26 t509.length co26] 25 (0, 0))) := ⟨Op.bv BK513.out⟩
     have n9_ : Aside0 (Below w.heap.size w ((w21.setCell ⟨gb513, 0, none⟩ (.slice Ao22 t506.length co22)).setCell ⟨gb513, 1, none⟩ (.slice Ao26 t509.length co26))) := ⟨Op.ht HB.out⟩
     (try clear HO490)
     (try clear HO493)
     (try clear HO500)
     (try clear HO503)
     (try clear HO508)
     (try clear HO511)
     (try clear BK497)
     (try clear BK505)
     (try clear BK513)
     (try clear HB)
     generalize ((w21.setCell ⟨gb513, 0, none⟩ (.slice Ao22 t506.length co22)).setCell ⟨gb513, 1, none⟩ (.slice Ao26 t509.length co26)) = w34 at n0_ n1_ n2_ n3_ n4_ n5_ n6_ n7_ n8_ n9_ ⊢
     have HO490 := n0_
     have HO493 := n1_
     have HO500 := n2_
     have HO503 := n3_
     have HO508 := n4_
     have HO511 := n5_
     have BK497 := n6_
     have BK505 := n7_
     have BK513 := n8_
     have HB := n9_
     clear n0_ n1_ n2_ n3_ n4_ n5_ n6_ n7_ n8_ n9_
     replace HO490 := Op.k (Kd.S_drew HO490.out)
     replace HO493 := Op.k (Kd.R_drew HO493.out)
     replace HO500 := Op.k (Kd.S_drew HO500.out)
     replace HO503 := Op.k (Kd.R_drew HO503.out)
     replace HO508 := Op.k (Kd.S_drew HO508.out)
     replace HO511 := Op.k (Kd.R_drew HO511.out)
     replace BK497 := Op.k (Op.b2 BK497.out)
     replace BK505 := Op.k (Op.b2 BK505.out)
     replace BK513 := Op.k (Op.b2 BK513.out)
     replace HB := Op.k (Op.a3 HB.out)
     refine start_ (n := 16) (S := fun w' => w'.cell? ⟨gb505, 0, none⟩ = some (.slice Ao15 t498.length co15) ∧ w'.cell? ⟨gb505, 1, none⟩ = some (.slice Ao18 t501.length co18) ∧ w'.cell? ⟨gb513, 0, none⟩ = some (.slice Ao22 t506.length co22) ∧ w'.cell? ⟨gb513, 1, none⟩ = some (.slice Ao26 t509.length co26) ∧ w'.cell? ⟨gb497, 0, none⟩ = some (.slice Ao10 t488.length co10) ∧ w'.cell? ⟨gb497, 1, none⟩ = some (.slice Ao12 t491.length co12)) (ds := []) #[false, false, false, false, false, false, false, false, false, false, false, false, false, false, false, false] (by kernel_rfl) rfl rfl ⟨(blk_cell BK505.out 0).trans rfl, (blk_cell BK505.out 1).trans rfl, (blk_cell BK513.out 0).trans rfl, (blk_cell BK513.out 1).trans rfl, (blk_cell BK497.out 0).trans rfl, (blk_cell BK497.out 1).trans rfl⟩ (fun hHeld => ?_); refine with_tabW laws_FnVersions.tab6 laws_FnVersions.bits6 (fun HT_ HW_ => ?_)
     generalize w34.drew = w35 at HO490 HO493 HO500 HO503 HO508 HO511 BK497 BK505 BK513 HB hHeld ⊢
     refine pure_ (i := 0) (N := some 69) (v := ?_) (a' := ?_) #[true, false, false, false, false, false, false, false, false, false, false, false, false, false, false, false] rfl rfl (any_of HT_.out (by kernel_rfl)) (fun _ _ _ h => h) (Or.inl ⟨by rfl, ?_⟩) ?_ ?_
     rotate_left
     ·intro w'
      go_simp
      with_reducible rfl
     rotate_left
     ·simp only [Act.put, List.setIfInBounds_toArray, List.set_cons_zero, List.set_cons_succ, i64_w, i32_w]
      rfl
     refine pure_ (i := 1) (N := some 70) (v := ?_) (a' := ?_) #[true, true, false, false, false, false, false, false, false, false, false, false, false, false, false, false] rfl rfl (any_of HT_.out (by kernel_rfl)) (fun _ _ _ h => h) (Or.inl ⟨by rfl, ?_⟩) ?_ ?_
     rotate_left
     ·intro w'
      go_simp
      with_reducible rfl
     rotate_left
     ·simp only [Act.put, List.setIfInBounds_toArray, List.set_cons_zero, List.set_cons_succ, i64_w, i32_w]
      rfl
     refine pure_ (i := 2) (N := some 71) (v := ?_) (a' := ?_) #[true, true, true, false, false, false, false, false, false, false, false, false, false, false, false, false] rfl rfl (any_of HT_.out (by kernel_rfl)) (fun _ _ _ h => h) (Or.inl ⟨by rfl, ?_⟩) ?_ ?_
     rotate_left
     ·intro w'
      go_simp
      with_reducible rfl
     rotate_left
     ·simp only [Act.put, List.setIfInBounds_toArray, List.set_cons_zero, List.set_cons_succ, i64_w, i32_w]
      rfl
     refine pure_ (i := 3) (N := some 72) (v := ?_) (a' := ?_) #[true, true, true, true, false, false, false, false, false, false, false, false, false, false, false, false] rfl rfl (any_of HT_.out (by kernel_rfl)) (fun _ _ _ h => h) (Or.inl ⟨by rfl, ?_⟩) ?_ ?_
     rotate_left
     ·intro w'
      go_simp
      with_reducible rfl
     rotate_left
     ·simp only [Act.put, List.setIfInBounds_toArray, List.set_cons_zero, List.set_cons_succ, i64_w, i32_w]
      rfl
     refine take_ (i := 4) (N := some 73) (v := ?_) (a' := ?_) #[true, true, true, true, true, false, false, false, false, false, false, false, false, false, false, false] rfl rfl (take_ofW HT_.out HW_.out (by kernel_rfl)) (fun _ _ _ h => h) (Or.inl ⟨by rfl, ?_⟩) hHeld ?_ ?_
     rotate_left
     ·rintro w' ⟨s0, s1, s2, s3, s4, s5⟩
      go_simp
      with_reducible rfl
     rotate_left
     ·simp only [Act.put, List.setIfInBounds_toArray, List.set_cons_zero, List.set_cons_succ, i64_w, i32_w]
      rfl
     refine take_ (i := 5) (N := some 74) (v := ?_) (a' := ?_) #[true, true, true, true, true, true, false, false, false, false, false, false, false, false, false, false] rfl rfl (take_ofW HT_.out HW_.out (by kernel_rfl)) (fun _ _ _ h => h) (Or.inl ⟨by rfl, ?_⟩) hHeld ?_ ?_
     rotate_left
     ·rintro w' ⟨s0, s1, s2, s3, s4, s5⟩
      go_simp
      with_reducible rfl
     rotate_left
     ·simp only [Act.put, List.setIfInBounds_toArray, List.set_cons_zero, List.set_cons_succ, i64_w, i32_w]
      rfl
     refine one_ (i := 6) (N := some 75) #[true, true, true, true, true, true, true, false, false, false, false, false, false, false, false, false] rfl rfl (one_of HT_.out (by kernel_rfl)) (by decide) (fun K hK => ?_)
     refine goes_ Try.func36 (by kernel_rfl) rfl #[.agg #[.slice Ao15 t498.length co15, .slice Ao18 t501.length co18], .agg #[.slice Ao22 t506.length co22, .slice Ao26 t509.length co26]] (by rfl) rfl rfl (by (try simp only [List.map_toArray, List.map_cons, List.map_nil]); first | done | rfl | (simp only [List.length_drop, List.length_take]; rfl)) ?_
     with_reducible refine (laws_samePools.calls k _ _ t498 _ _ t501 _ _ t506 _ _ t509 true _ ?side1 ?side2 ?side3 ?side4 ?side5 ?side6 ?side7 ?side8 A30.out).mono ?_
     (case side1 => exact Op.ct (Kd.S_reads' HO500.out).2.2)
     (case side2 => exact (Kd.S_reads' HO500.out).2.1)
     (case side3 => exact Op.ct (Kd.R_reads' HO503.out).2.2)
     (case side4 => exact (Kd.R_reads' HO503.out).2.1)
     (case side5 => exact Op.ct (Kd.S_reads' HO508.out).2.2)
     (case side6 => exact (Kd.S_reads' HO508.out).2.1)
     (case side7 => exact Op.ct (Kd.R_reads' HO511.out).2.2)
     (case side8 => exact (Kd.R_reads' HO511.out).2.1)
     rintro e w36 ⟨rfl, hb⟩
     refine ⟨_, rfl, ?_⟩
     replace HO490 := Op.k (Kd.S_below (Op.st HO490.out) hb)
     replace HO493 := Op.k (Kd.R_below (Op.rt HO493.out) hb)
     replace HO500 := Op.k (Kd.S_below (Op.st HO500.out) hb)
     replace HO503 := Op.k (Kd.R_below (Op.rt HO503.out) hb)
     replace HO508 := Op.k (Kd.S_below (Op.st HO508.out) hb)
     replace HO511 := Op.k (Kd.R_below (Op.rt HO511.out) hb)
     replace BK497 := Op.k (Op.b4 (Op.bt BK497.out) hb)
     replace BK505 := Op.k (Op.b4 (Op.bt BK505.out) hb)
     replace BK513 := Op.k (Op.b4 (Op.bt BK513.out) hb)
     replace HB := Op.k (Op.a5 (Op.ht HB.out) hb)
     (try clear hb)
     (try clear hb2)
     (try clear hk)
     (try clear hi)
     refine hK.out _ _ ⟨(blk_cell BK505.out 0).trans rfl, (blk_cell BK505.out 1).trans rfl, (blk_cell BK513.out 0).trans rfl, (blk_cell BK513.out 1).trans rfl, (blk_cell BK497.out 0).trans rfl, (blk_cell BK497.out 1).trans rfl⟩ (fun hHeld => ?_)
     clear hK K
     refine norm_ (a' := ?_) ?_ ?_
     rotate_left
     ·show Act.put _ (some 75) _ = _
      simp only [Act.put, List.setIfInBounds_toArray, List.set_cons_zero, List.set_cons_succ, i64_w, i32_w]
      rfl
     refine pure_ (i := 7) (N := some 76) (v := ?_) (a' := ?_) #[true, true, true, true, true, true, true, true, false, false, false, false, false, false, false, false] rfl rfl (any_of HT_.out (by kernel_rfl)) (fun _ _ _ h => h) (Or.inl ⟨by rfl, ?_⟩) ?_ ?_
     rotate_left
     ·intro w'
      go_simp
      with_reducible rfl
     rotate_left
     ·simp only [Act.put, List.setIfInBounds_toArray, List.set_cons_zero, List.set_cons_succ, i64_w, i32_w]
      rfl
     refine pure_ (i := 8) (N := some 77) (v := ?_) (a' := ?_) #[true, true, true, true, true, true, true, true, true, false, false, false, false, false, false, false] rfl rfl (any_of HT_.out (by kernel_rfl)) (fun _ _ _ h => h) (Or.inl ⟨by rfl, ?_⟩) ?_ ?_
     rotate_left
     ·intro w'
      go_simp
      with_reducible rfl
     rotate_left
     ·simp only [Act.put, List.setIfInBounds_toArray, List.set_cons_zero, List.set_cons_succ, i64_w, i32_w]
      rfl
     refine pure_ (i := 9) (N := some 78) (v := ?_) (a' := ?_) #[true, true, true, true, true, true, true, true, true, true, false, false, false, false, false, false] rfl rfl (any_of HT_.out (by kernel_rfl)) (fun _ _ _ h => h) (Or.inl ⟨by rfl, ?_⟩) ?_ ?_
     rotate_left
     ·intro w'
      go_simp
      with_reducible rfl
     rotate_left
     ·simp only [Act.put, List.setIfInBounds_toArray, List.set_cons_zero, List.set_cons_succ, i64_w, i32_w]
      rfl
     refine take_ (i := 10) (N := some 79) (v := ?_) (a' := ?_) #[true, true, true, true, true, true, true, true, true, true, true, false, false, false, false, false] rfl rfl (take_ofW HT_.out HW_.out (by kernel_rfl)) (fun _ _ _ h => h) (Or.inl ⟨by rfl, ?_⟩) hHeld ?_ ?_
     rotate_left
     ·rintro w' ⟨s0, s1, s2, s3, s4, s5⟩
      go_simp
      with_reducible rfl
     rotate_left
     ·simp only [Act.put, List.setIfInBounds_toArray, List.set_cons_zero, List.set_cons_succ, i64_w, i32_w]
      rfl
     refine take_ (i := 12) (N := some 81) (v := ?_) (a' := ?_) #[true, true, true, true, true, true, true, true, true, true, true, false, true, false, false, false] rfl rfl (take_ofW HT_.out HW_.out (by kernel_rfl)) (fun _ _ _ h => h) (Or.inl ⟨by rfl, ?_⟩) hHeld ?_ ?_
     rotate_left
     ·rintro w' ⟨s0, s1, s2, s3, s4, s5⟩
      go_simp
      with_reducible rfl
     rotate_left
     ·simp only [Act.put, List.setIfInBounds_toArray, List.set_cons_zero, List.set_cons_succ, i64_w, i32_w]
      rfl
     refine one_ (i := 11) (N := some 80) #[true, true, true, true, true, true, true, true, true, true, true, true, true, false, false, false] rfl rfl (one_of HT_.out (by kernel_rfl)) (by decide) (fun K hK => ?_)
     refine goes_ Try.func21 (by kernel_rfl) rfl #[.agg #[.slice Ao10 t488.length co10, .slice Ao12 t491.length co12]] (by rfl) rfl rfl (by (try simp only [List.map_toArray, List.map_cons, List.map_nil]); first | done | rfl | (simp only [List.length_drop, List.length_take]; rfl)) ?_
     with_reducible refine (impl_GoodPool.calls _ _ t488 _ _ t491 t515 _ ?side1 ?side2 ?side3 ?side4 A32.out).mono ?_
     (case side1 => exact Op.ct (Kd.S_reads' HO490.out).2.2)
     (case side2 => exact (Kd.S_reads' HO490.out).2.1)
     (case side3 => exact Op.ct (Kd.R_reads' HO493.out).2.2)
     (case side4 => exact (Kd.R_reads' HO493.out).2.1)
     rintro e w37 ⟨rfl, hb⟩
     refine ⟨_, rfl, ?_⟩
     replace HO490 := Op.k (Kd.S_below (Op.st HO490.out) hb)
     replace HO493 := Op.k (Kd.R_below (Op.rt HO493.out) hb)
     replace HO500 := Op.k (Kd.S_below (Op.st HO500.out) hb)
     replace HO503 := Op.k (Kd.R_below (Op.rt HO503.out) hb)
     replace HO508 := Op.k (Kd.S_below (Op.st HO508.out) hb)
     replace HO511 := Op.k (Kd.R_below (Op.rt HO511.out) hb)
     replace BK497 := Op.k (Op.b4 (Op.bt BK497.out) hb)
     replace BK505 := Op.k (Op.b4 (Op.bt BK505.out) hb)
     replace BK513 := Op.k (Op.b4 (Op.bt BK513.out) hb)
     replace HB := Op.k (Op.a5 (Op.ht HB.out) hb)
     (try clear hb)
     (try clear hb2)
     (try clear hk)
     (try clear hi)
     refine hK.out _ _ ⟨(blk_cell BK505.out 0).trans rfl, (blk_cell BK505.out 1).trans rfl, (blk_cell BK513.out 0).trans rfl, (blk_cell BK513.out 1).trans rfl, (blk_cell BK497.out 0).trans rfl, (blk_cell BK497.out 1).trans rfl⟩ (fun hHeld => ?_)
     clear hK K
     refine norm_ (a' := ?_) ?_ ?_
     rotate_left
     ·show Act.put _ (some 80) _ = _
      simp only [Act.put, List.setIfInBounds_toArray, List.set_cons_zero, List.set_cons_succ, i64_w, i32_w]
      rfl
     refine one_ (i := 13) (N := some 82) #[true, true, true, true, true, true, true, true, true, true, true, true, true, true, false, false] rfl rfl (one_of HT_.out (by kernel_rfl)) (by decide) (fun K hK => ?_)
     refine goes_ Try.func19 (by kernel_rfl) rfl #[.agg #[.slice Ao10 t488.length co10, .slice Ao12 t491.length co12]] (by rfl) rfl rfl (by (try simp only [List.map_toArray, List.map_cons, List.map_nil]); first | done | rfl | (simp only [List.length_drop, List.length_take]; rfl)) ?_
     with_reducible refine (spec_GoodPool.calls k _ _ t488 _ _ t491 t516 _ ?side1 ?side2 ?side3 ?side4 A33.out).mono ?_
     (case side1 => exact Op.ct (Kd.S_reads' HO490.out).2.2)
     (case side2 => exact (Kd.S_reads' HO490.out).2.1)
     (case side3 => exact Op.ct (Kd.R_reads' HO493.out).2.2)
     (case side4 => exact (Kd.R_reads' HO493.out).2.1)
     rintro e w38 ⟨rfl, hb⟩
     refine ⟨_, rfl, ?_⟩
     replace HO490 := Op.k (Kd.S_below (Op.st HO490.out) hb)
     replace HO493 := Op.k (Kd.R_below (Op.rt HO493.out) hb)
     replace HO500 := Op.k (Kd.S_below (Op.st HO500.out) hb)
     replace HO503 := Op.k (Kd.R_below (Op.rt HO503.out) hb)
     replace HO508 := Op.k (Kd.S_below (Op.st HO508.out) hb)
     replace HO511 := Op.k (Kd.R_below (Op.rt HO511.out) hb)
     replace BK497 := Op.k (Op.b4 (Op.bt BK497.out) hb)
     replace BK505 := Op.k (Op.b4 (Op.bt BK505.out) hb)
     replace BK513 := Op.k (Op.b4 (Op.bt BK513.out) hb)
     replace HB := Op.k (Op.a5 (Op.ht HB.out) hb)
     (try clear hb)
     (try clear hb2)
     (try clear hk)
     (try clear hi)
     refine hK.out _ _ ⟨(blk_cell BK505.out 0).trans rfl, (blk_cell BK505.out 1).trans rfl, (blk_cell BK513.out 0).trans rfl, (blk_cell BK513.out 1).trans rfl, (blk_cell BK497.out 0).trans rfl, (blk_cell BK497.out 1).trans rfl⟩ (fun hHeld => ?_)
     clear hK K
     refine norm_ (a' := ?_) ?_ ?_
     rotate_left
     ·show Act.put _ (some 82) _ = _
      simp only [Act.put, List.setIfInBounds_toArray, List.set_cons_zero, List.set_cons_succ, i64_w, i32_w]
      rfl
     refine pure_ (i := 14) (N := some 83) (v := ?_) (a' := ?_) #[true, true, true, true, true, true, true, true, true, true, true, true, true, true, true, false] rfl rfl (any_of HT_.out (by kernel_rfl)) (fun _ _ _ h => h) (Or.inl ⟨by rfl, ?_⟩) ?_ ?_
     rotate_left
     ·intro w'
      go_simp
      with_reducible rfl
     rotate_left
     ·simp only [Act.put, List.setIfInBounds_toArray, List.set_cons_zero, List.set_cons_succ, i64_w, i32_w]
      rfl
     refine pure_ (i := 15) (N := some 84) (v := ?_) (a' := ?_) #[true, true, true, true, true, true, true, true, true, true, true, true, true, true, true, true] rfl rfl (any_of HT_.out (by kernel_rfl)) (fun _ _ _ h => h) (Or.inl ⟨by rfl, ?_⟩) ?_ ?_
     rotate_left
     ·intro w'
      go_simp
      with_reducible rfl
     rotate_left
     ·simp only [Act.put, List.setIfInBounds_toArray, List.set_cons_zero, List.set_cons_succ, i64_w, i32_w]
      rfl
     refine done_ (done_of HT_.out (by kernel_rfl)) ?_
     try go_wp2
     go_meet
     case rel => exact ⟨_, ((t515 != t516)), (by first | rfl | (simp; done) | (simp [*]; done)), H', ⟨by first | omega | exact Nat.le_refl _⟩, ⟨Op.st HO490.out⟩, ⟨Op.rt HO493.out⟩, ⟨Op.st HO500.out⟩, ⟨Op.rt HO503.out⟩, ⟨Op.st HO508.out⟩, ⟨Op.rt HO511.out⟩, ⟨Op.bt BK497.out⟩, ⟨Op.bt BK505.out⟩, ⟨Op.bt BK513.out⟩, ⟨Op.ht HB.out⟩⟩
    ·replace c31 := Bool.eq_false_iff.mpr c31
     subst c31
     have H1 : (laws_FnVersions.j0 k l1 t494 t495 t496 t504 true t488 t491 t498 t501) = some true := by rw [if_neg (show ¬ (false = true) by decide)] at H; exact H
     clear H
     have H := H1
     clear H1
     exact absurd H (by unfold laws_FnVersions.j0; split <;> simp)
  case rest =>
   as_aux_lemma =>
   clear HC7
   try clear c1
   try clear c2
   try clear p2
   try clear c3
   try clear c19
   try clear c21
   try clear c27
   try clear c27b0
   try clear c27b1
   try clear c27b2
   try clear c31
   try clear c36
   obtain ⟨kq, x84_6, rfl, HA, HJ6, HO_498000, HO_498001, HO_506000, HO_506001, HO_514000, HO_514001, BK497, BK505, BK513, HB⟩ := hcut
   cases kq with
   | zero => exact absurd HA.out (by simp [laws_FnVersions.j0])
   | succ kj6 =>
    have H := HA.out
    clear HA
    simp only [laws_FnVersions.j0] at H
    by_cases c42 : x84_6 = true
    ·subst c42
     have H1 : (some false) = some true := by rw [if_pos rfl] at H; exact H
     clear H
     have H := H1
     clear H1
     exact absurd (Option.some.inj H) (by simp)
    ·replace c42 := Bool.eq_false_iff.mpr c42
     subst c42
     have H1 : (if t504 = true then ((impl_GoodPool.f t498 t501).bind fun t517 => (if t517 = true then (if (t501.length : Int) = (wrap64 ((t491.length : Int) + 1)) then (laws_FnVersions.j1 kj6 l1 t494 t495 t496 (t491.length : Int) ((t498.length : Int) != (wrap64 ((t488.length : Int) + 2))) t488 t491 t498 t501) else (laws_FnVersions.j1 kj6 l1 t494 t495 t496 (t491.length : Int) true t488 t491 t498 t501)) else (laws_FnVersions.j1 kj6 l1 t494 t495 t496 (t491.length : Int) true t488 t491 t498 t501))) else (laws_FnVersions.j3 kj6 l1)) = some true := by rw [if_neg (show ¬ (false = true) by decide)] at H; exact H
     clear H
     have H := H1
     clear H1
     have HC43 := Op.k H
     clear H
     go_upto_if 85 with (fail)
     go_cut [] (fun wc => ∃ (kq : Nat), Aside0 (laws_FnVersions.j3 kq l1 = some true) ∧ Aside0 (kq ≤ kj6) ∧ Aside0 (Kd.S k65 65 wc w.heap.size (fun k_ => some k_ ≠ ((.slice Ao12 t491.length co12) : Value).ownBlock ∧ some k_ ≠ ((.slice Ao15 t498.length co15) : Value).ownBlock ∧ some k_ ≠ ((.slice Ao18 t501.length co18) : Value).ownBlock ∧ some k_ ≠ ((.slice Ao22 t506.length co22) : Value).ownBlock ∧ some k_ ≠ ((.slice Ao26 t509.length co26) : Value).ownBlock) (.slice Ao10 t488.length co10) t488) ∧ Aside0 (Kd.R (Kd.int .i64) 3 wc w.heap.size (fun k_ => some k_ ≠ ((.slice Ao18 t501.length co18) : Value).ownBlock ∧ some k_ ≠ ((.slice Ao26 t509.length co26) : Value).ownBlock) (.slice Ao12 t491.length co12) t491) ∧ Aside0 (Kd.S k65 65 wc w.heap.size (fun k_ => some k_ ≠ ((.slice Ao10 t488.length co10) : Value).ownBlock ∧ some k_ ≠ ((.slice Ao12 t491.length co12) : Value).ownBlock ∧ some k_ ≠ ((.slice Ao18 t501.length co18) : Value).ownBlock ∧ some k_ ≠ ((.slice Ao22 t506.length co22) : Value).ownBlock ∧ some k_ ≠ ((.slice Ao26 t509.length co26) : Value).ownBlock) (.slice Ao15 t498.length co15) t498) ∧ Aside0 (Kd.R (Kd.int .i64) 3 wc w.heap.size (fun k_ => some k_ ≠ ((.slice Ao12 t491.length co12) : Value).ownBlock ∧ some k_ ≠ ((.slice Ao26 t509.length co26) : Value).ownBlock) (.slice Ao18 t501.length co18) t501) ∧ Aside0 (Kd.S k65 65 wc w.heap.size (fun k_ => some k_ ≠ ((.slice Ao10 t488.length co10) : Value).ownBlock ∧ some k_ ≠ ((.slice Ao12 t491.length co12) : Value).ownBlock ∧ some k_ ≠ ((.slice Ao15 t498.length co15) : Value).ownBlock ∧ some k_ ≠ ((.slice Ao18 t501.length co18) : Value).ownBlock ∧ some k_ ≠ ((.slice Ao26 t509.length co26) : Value).ownBlock) (.slice Ao22 t506.length co22) t506) ∧ Aside0 (Kd.R (Kd.int .i64) 3 wc w.heap.size (fun k_ => some k_ ≠ ((.slice Ao12 t491.length co12) : Value).ownBlock ∧ some k_ ≠ ((.slice Ao18 t501.length co18) : Value).ownBlock) (.slice Ao26 t509.length co26) t509) ∧ Aside0 (wc.heap[gb497]? = some (.cells #[(.slice Ao10 t488.length co10), (.slice Ao12 t491.length co12)] 25 (0, 0))) ∧ Aside0 (wc.heap[gb505]? = some (.cells #[(.slice Ao15 t498.length co15), (.slice Ao18 t501.length co18)] 25 (0, 0))) ∧ Aside0 (wc.heap[gb513]? = some (.cells #[(.slice Ao22 t506.length co22), (.slice Ao26 t509.length co26)] 25 (0, 0))) ∧ Aside0 (Below w.heap.size w wc))
     case first =>
      as_aux_lemma =>
      have H := HC43.out
      clear HC43
      by_cases c44 : t504 = true
      ·subst c44
       have H1 : ((impl_GoodPool.f t498 t501).bind fun t517 => (if t517 = true then (if (t501.length : Int) = (wrap64 ((t491.length : Int) + 1)) then (laws_FnVersions.j1 kj6 l1 t494 t495 t496 (t491.length : Int) ((t498.length : Int) != (wrap64 ((t488.length : Int) + 2))) t488 t491 t498 t501) else (laws_FnVersions.j1 kj6 l1 t494 t495 t496 (t491.length : Int) true t488 t491 t498 t501)) else (laws_FnVersions.j1 kj6 l1 t494 t495 t496 (t491.length : Int) true t488 t491 t498 t501))) = some true := by rw [if_pos rfl] at H; exact H
       clear H
       have H := H1
       clear H1
       have HC45 := Op.k H
       clear H
       have hnb46 := NB497_505.out
       have hnc46 := NB505_497.out
       have hnb47 := NB497_513.out
       have hnc47 := NB513_497.out
       have hcz48_0 := Op.c0 BK497.out
       have hcz48_1 := Op.c1 BK497.out
       have hfz48_0 := Op.bf BK497.out 0
       have hfz48_1 := Op.bf BK497.out 1
       go_upto_region 10 with (fail)
       go_cut [109] (fun v109 wc => ∃ (kq : Nat) (x109_44 : Bool), v109 = .bool x109_44 ∧ Aside0 (laws_FnVersions.j1 kq l1 t494 t495 t496 (t491.length : Int) x109_44 t488 t491 t498 t501 = some true) ∧ Aside0 (kq ≤ kj6) ∧ Aside0 (Kd.S k65 65 wc w.heap.size (fun k_ => some k_ ≠ ((.slice Ao12 t491.length co12) : Value).ownBlock ∧ some k_ ≠ ((.slice Ao15 t498.length co15) : Value).ownBlock ∧ some k_ ≠ ((.slice Ao18 t501.length co18) : Value).ownBlock ∧ some k_ ≠ ((.slice Ao22 t506.length co22) : Value).ownBlock ∧ some k_ ≠ ((.slice Ao26 t509.length co26) : Value).ownBlock) (.slice Ao10 t488.length co10) t488) ∧ Aside0 (Kd.R (Kd.int .i64) 3 wc w.heap.size (fun k_ => some k_ ≠ ((.slice Ao18 t501.length co18) : Value).ownBlock ∧ some k_ ≠ ((.slice Ao26 t509.length co26) : Value).ownBlock) (.slice Ao12 t491.length co12) t491) ∧ Aside0 (Kd.S k65 65 wc w.heap.size (fun k_ => some k_ ≠ ((.slice Ao10 t488.length co10) : Value).ownBlock ∧ some k_ ≠ ((.slice Ao12 t491.length co12) : Value).ownBlock ∧ some k_ ≠ ((.slice Ao18 t501.length co18) : Value).ownBlock ∧ some k_ ≠ ((.slice Ao22 t506.length co22) : Value).ownBlock ∧ some k_ ≠ ((.slice Ao26 t509.length co26) : Value).ownBlock) (.slice Ao15 t498.length co15) t498) ∧ Aside0 (Kd.R (Kd.int .i64) 3 wc w.heap.size (fun k_ => some k_ ≠ ((.slice Ao12 t491.length co12) : Value).ownBlock ∧ some k_ ≠ ((.slice Ao26 t509.length co26) : Value).ownBlock) (.slice Ao18 t501.length co18) t501) ∧ Aside0 (Kd.S k65 65 wc w.heap.size (fun k_ => some k_ ≠ ((.slice Ao10 t488.length co10) : Value).ownBlock ∧ some k_ ≠ ((.slice Ao12 t491.length co12) : Value).ownBlock ∧ some k_ ≠ ((.slice Ao15 t498.length co15) : Value).ownBlock ∧ some k_ ≠ ((.slice Ao18 t501.length co18) : Value).ownBlock ∧ some k_ ≠ ((.slice Ao26 t509.length co26) : Value).ownBlock) (.slice Ao22 t506.length co22) t506) ∧ Aside0 (Kd.R (Kd.int .i64) 3 wc w.heap.size (fun k_ => some k_ ≠ ((.slice Ao12 t491.length co12) : Value).ownBlock ∧ some k_ ≠ ((.slice Ao18 t501.length co18) : Value).ownBlock) (.slice Ao26 t509.length co26) t509) ∧ Aside0 (wc.heap[gb497]? = some (.cells #[(.slice Ao10 t488.length co10), (.slice Ao12 t491.length co12)] 25 (0, 0))) ∧ Aside0 (wc.heap[gb505]? = some (.cells #[(.slice Ao15 t498.length co15), (.slice Ao18 t501.length co18)] 25 (0, 0))) ∧ Aside0 (wc.heap[gb513]? = some (.cells #[(.slice Ao22 t506.length co22), (.slice Ao26 t509.length co26)] 25 (0, 0))) ∧ Aside0 (Below w.heap.size w wc))
       case first =>
        as_aux_lemma =>
        have H := HC45.out
        clear HC45
        replace H := Option.bind_eq_some_iff.mp H
        obtain ⟨t517, A490, H⟩ := H
        try dsimp only at H
        have A49 := Op.k A490
        clear A490
        by_cases c50 : t517 = true
        ·subst c50
         have H1 : (if (t501.length : Int) = (wrap64 ((t491.length : Int) + 1)) then (laws_FnVersions.j1 kj6 l1 t494 t495 t496 (t491.length : Int) ((t498.length : Int) != (wrap64 ((t488.length : Int) + 2))) t488 t491 t498 t501) else (laws_FnVersions.j1 kj6 l1 t494 t495 t496 (t491.length : Int) true t488 t491 t498 t501)) = some true := by rw [if_pos rfl] at H; exact H
         clear H
         have H := H1
         clear H1
         by_cases c51 : (t501.length : Int) = (wrap64 ((t491.length : Int) + 1))
         ·rw [if_pos c51] at H
          have c51b0 : ((t501.length : Int) == (wrap64 ((t491.length : Int) + 1))) = true := beq_iff_eq.mpr c51
          have c51b1 : ((t501.length : Int) != (wrap64 ((t491.length : Int) + 1))) = false := bne_eq_false_iff_eq.mpr c51
          clear c51
          (first | rw [c51b0] | (simp only [i64_w, i32_w]; rw [c51b0]) | skip)
          have H' := Op.k H
          clear H
          have hnb52 := NB505_497.out
          have hnc52 := NB497_505.out
          have hnb53 := NB505_513.out
          have hnc53 := NB513_505.out
          have hcz54_0 := Op.c0 BK505.out
          have hcz54_1 := Op.c1 BK505.out
          have hfz54_0 := Op.bf BK505.out 0
          have hfz54_1 := Op.bf BK505.out 1
          go_wp2_with (first | ((with_reducible refine gate_callee (f := 21) rfl ?_); refine goesL_ (some 90) rfl rfl Try.func21 (by kernel_rfl) rfl #[.agg #[.slice Ao15 t498.length co15, .slice Ao18 t501.length co18]] rfl (by (try simp only [List.map_toArray, List.map_cons, List.map_nil]); first | done | rfl | (simp only [List.length_drop, List.length_take]; rfl)) ?_; (with_reducible refine (impl_GoodPool.calls _ _ t498 _ _ t501 true _ ?side1 ?side2 ?side3 ?side4 A49.out).mono ?_); (case side1 => exact Op.ct (Kd.S_reads' HO_506000.out).2.2); (case side2 => exact (Kd.S_reads' HO_506000.out).2.1); (case side3 => exact Op.ct (Kd.R_reads' HO_506001.out).2.2); (case side4 => exact (Kd.R_reads' HO_506001.out).2.1); rintro e w55 ⟨rfl, hb⟩; refine ⟨_, rfl, ?_⟩; replace HO_498000 := Op.k (Kd.S_below (Op.st HO_498000.out) hb); replace HO_498001 := Op.k (Kd.R_below (Op.rt HO_498001.out) hb); replace HO_506000 := Op.k (Kd.S_below (Op.st HO_506000.out) hb); replace HO_506001 := Op.k (Kd.R_below (Op.rt HO_506001.out) hb); replace HO_514000 := Op.k (Kd.S_below (Op.st HO_514000.out) hb); replace HO_514001 := Op.k (Kd.R_below (Op.rt HO_514001.out) hb); replace BK497 := Op.k (Op.b4 (Op.bt BK497.out) hb); replace BK505 := Op.k (Op.b4 (Op.bt BK505.out) hb); replace BK513 := Op.k (Op.b4 (Op.bt BK513.out) hb); replace HB := Op.k (Op.a5 (Op.ht HB.out) hb); (try clear hb); (try clear hb2); (try clear hk); (try clear hi); have hcz56_0 := Op.c0 BK505.out; have hcz56_1 := Op.c1 BK505.out; have hfz56_0 := Op.bf BK505.out 0; have hfz56_1 := Op.bf BK505.out 1; have hnb57 := NB497_513.out; have hnc57 := NB513_497.out; have hcz58_0 := Op.c0 BK497.out; have hcz58_1 := Op.c1 BK497.out; have hfz58_0 := Op.bf BK497.out 0; have hfz58_1 := Op.bf BK497.out 1))
          go_meet
          case rel => exact ⟨_, (((t498.length : Int) != (wrap64 ((t488.length : Int) + 2)))), (by first | rfl | (simp; done) | (simp [*]; done)), H', ⟨by have := HJ6.out; first | omega | exact Nat.le_refl _⟩, ⟨Op.st HO_498000.out⟩, ⟨Op.rt HO_498001.out⟩, ⟨Op.st HO_506000.out⟩, ⟨Op.rt HO_506001.out⟩, ⟨Op.st HO_514000.out⟩, ⟨Op.rt HO_514001.out⟩, ⟨Op.bt BK497.out⟩, ⟨Op.bt BK505.out⟩, ⟨Op.bt BK513.out⟩, ⟨Op.ht HB.out⟩⟩
         ·rw [if_neg c51] at H
          have c51b0 : ((t501.length : Int) == (wrap64 ((t491.length : Int) + 1))) = false := beq_eq_false_iff_ne.mpr c51
          have c51b1 : ((t501.length : Int) != (wrap64 ((t491.length : Int) + 1))) = true := bne_iff_ne.mpr c51
          (first | rw [c51b0] | (simp only [i64_w, i32_w]; rw [c51b0]) | skip)
          exact absurd H (by unfold laws_FnVersions.j1; split <;> simp)
        ·replace c50 := Bool.eq_false_iff.mpr c50
         subst c50
         have H1 : (laws_FnVersions.j1 kj6 l1 t494 t495 t496 (t491.length : Int) true t488 t491 t498 t501) = some true := by rw [if_neg (show ¬ (false = true) by decide)] at H; exact H
         clear H
         have H := H1
         clear H1
         exact absurd H (by unfold laws_FnVersions.j1; split <;> simp)
       case rest =>
        as_aux_lemma =>
        clear HC45
        try clear c1
        try clear c2
        try clear p2
        try clear c3
        try clear c4
        try clear c5
        try clear c6
        try clear p6
        try clear c19
        try clear c21
        try clear c27
        try clear c27b0
        try clear c27b1
        try clear c27b2
        try clear c31
        try clear c36
        try clear c42
        try clear c44
        try clear c46
        try clear c47
        try clear c50
        try clear c51
        try clear c51b0
        try clear c51b1
        try clear c52
        try clear c53
        try clear c57
        try clear c59
        try clear c60
        try clear c64
        try clear p64
        try clear c65
        try clear hcz48_0
        try clear hcz48_1
        try clear hcz54_0
        try clear hcz54_1
        try clear hcz56_0
        try clear hcz56_1
        try clear hcz58_0
        try clear hcz58_1
        try clear hcz61_0
        try clear hcz61_1
        try clear hcz63_0
        try clear hcz63_1
        try clear hcz66_0
        try clear hcz66_1
        try clear hfz48_0
        try clear hfz48_1
        try clear hfz54_0
        try clear hfz54_1
        try clear hfz56_0
        try clear hfz56_1
        try clear hfz58_0
        try clear hfz58_1
        try clear hfz61_0
        try clear hfz61_1
        try clear hfz63_0
        try clear hfz63_1
        try clear hfz66_0
        try clear hfz66_1
        try clear p2
        obtain ⟨kq, x109_44, rfl, HA, HJ44, HO_498000, HO_498001, HO_506000, HO_506001, HO_514000, HO_514001, BK497, BK505, BK513, HB⟩ := hcut
        cases kq with
        | zero => exact absurd HA.out (by simp [laws_FnVersions.j1])
        | succ kj44 =>
         have H := HA.out
         clear HA
         simp only [laws_FnVersions.j1] at H
         by_cases c68 : x109_44 = true
         ·subst c68
          have H1 : (some false) = some true := by rw [if_pos rfl] at H; exact H
          clear H
          have H := H1
          clear H1
          exact absurd (Option.some.inj H) (by simp)
         ·replace c68 := Bool.eq_false_iff.mpr c68
          subst c68
          have H1 : (laws_FnVersions.l0 kj44 l1 t494 t495 t496 (t491.length : Int) 0 t488 t491 t498 t501) = some true := by rw [if_neg (show ¬ (false = true) by decide)] at H; exact H
          clear H
          have H := H1
          clear H1
          have H' := Op.k H
          clear H
          go_wp2
          go_loopg [14] kj44 (fun kq v14 w' => ∃ (x14_3 : Int), v14 = .int .i64 x14_3 ∧ Aside0 (laws_FnVersions.l0 kq l1 t494 t495 t496 (t491.length : Int) x14_3 t488 t491 t498 t501 = some true) ∧ Aside0 (kq ≤ kj44) ∧ Aside0 (Kd.S k65 65 w' w.heap.size (fun k_ => some k_ ≠ ((.slice Ao12 t491.length co12) : Value).ownBlock ∧ some k_ ≠ ((.slice Ao15 t498.length co15) : Value).ownBlock ∧ some k_ ≠ ((.slice Ao18 t501.length co18) : Value).ownBlock ∧ some k_ ≠ ((.slice Ao22 t506.length co22) : Value).ownBlock ∧ some k_ ≠ ((.slice Ao26 t509.length co26) : Value).ownBlock) (.slice Ao10 t488.length co10) t488) ∧ Aside0 (Kd.R (Kd.int .i64) 3 w' w.heap.size (fun k_ => some k_ ≠ ((.slice Ao18 t501.length co18) : Value).ownBlock ∧ some k_ ≠ ((.slice Ao26 t509.length co26) : Value).ownBlock) (.slice Ao12 t491.length co12) t491) ∧ Aside0 (Kd.S k65 65 w' w.heap.size (fun k_ => some k_ ≠ ((.slice Ao10 t488.length co10) : Value).ownBlock ∧ some k_ ≠ ((.slice Ao12 t491.length co12) : Value).ownBlock ∧ some k_ ≠ ((.slice Ao18 t501.length co18) : Value).ownBlock ∧ some k_ ≠ ((.slice Ao22 t506.length co22) : Value).ownBlock ∧ some k_ ≠ ((.slice Ao26 t509.length co26) : Value).ownBlock) (.slice Ao15 t498.length co15) t498) ∧ Aside0 (Kd.R (Kd.int .i64) 3 w' w.heap.size (fun k_ => some k_ ≠ ((.slice Ao12 t491.length co12) : Value).ownBlock ∧ some k_ ≠ ((.slice Ao26 t509.length co26) : Value).ownBlock) (.slice Ao18 t501.length co18) t501) ∧ Aside0 (Kd.S k65 65 w' w.heap.size (fun k_ => some k_ ≠ ((.slice Ao10 t488.length co10) : Value).ownBlock ∧ some k_ ≠ ((.slice Ao12 t491.length co12) : Value).ownBlock ∧ some k_ ≠ ((.slice Ao15 t498.length co15) : Value).ownBlock ∧ some k_ ≠ ((.slice Ao18 t501.length co18) : Value).ownBlock ∧ some k_ ≠ ((.slice Ao26 t509.length co26) : Value).ownBlock) (.slice Ao22 t506.length co22) t506) ∧ Aside0 (Kd.R (Kd.int .i64) 3 w' w.heap.size (fun k_ => some k_ ≠ ((.slice Ao12 t491.length co12) : Value).ownBlock ∧ some k_ ≠ ((.slice Ao18 t501.length co18) : Value).ownBlock) (.slice Ao26 t509.length co26) t509) ∧ Aside0 (w'.heap[gb497]? = some (.cells #[(.slice Ao10 t488.length co10), (.slice Ao12 t491.length co12)] 25 (0, 0))) ∧ Aside0 (w'.heap[gb505]? = some (.cells #[(.slice Ao15 t498.length co15), (.slice Ao18 t501.length co18)] 25 (0, 0))) ∧ Aside0 (w'.heap[gb513]? = some (.cells #[(.slice Ao22 t506.length co22), (.slice Ao26 t509.length co26)] 25 (0, 0))) ∧ Aside0 (Below w.heap.size w w'))
          case atStart => exact ⟨(0), (by first | rfl | (simp; done) | (simp [*]; done)), H', ⟨Nat.le_refl _⟩, ⟨Op.st HO_498000.out⟩, ⟨Op.rt HO_498001.out⟩, ⟨Op.st HO_506000.out⟩, ⟨Op.rt HO_506001.out⟩, ⟨Op.st HO_514000.out⟩, ⟨Op.rt HO_514001.out⟩, ⟨Op.bt BK497.out⟩, ⟨Op.bt BK505.out⟩, ⟨Op.bt BK513.out⟩, ⟨Op.ht HB.out⟩⟩
          case round =>
           as_aux_lemma =>
           clear H'
           try clear c1
           try clear c2
           try clear p2
           try clear c3
           try clear c4
           try clear c5
           try clear c6
           try clear p6
           try clear c19
           try clear c21
           try clear c27
           try clear c27b0
           try clear c27b1
           try clear c27b2
           try clear c31
           try clear c36
           try clear c42
           try clear c44
           try clear c46
           try clear c47
           try clear c50
           try clear c51
           try clear c51b0
           try clear c51b1
           try clear c52
           try clear c53
           try clear c57
           try clear c59
           try clear c60
           try clear c64
           try clear p64
           try clear c65
           try clear c68
           try clear hcz48_0
           try clear hcz48_1
           try clear hcz54_0
           try clear hcz54_1
           try clear hcz56_0
           try clear hcz56_1
           try clear hcz58_0
           try clear hcz58_1
           try clear hcz61_0
           try clear hcz61_1
           try clear hcz63_0
           try clear hcz63_1
           try clear hcz66_0
           try clear hcz66_1
           try clear hfz48_0
           try clear hfz48_1
           try clear hfz54_0
           try clear hfz54_1
           try clear hfz56_0
           try clear hfz56_1
           try clear hfz58_0
           try clear hfz58_1
           try clear hfz61_0
           try clear hfz61_1
           try clear hfz63_0
           try clear hfz63_1
           try clear hfz66_0
           try clear hfz66_1
           try clear p2
           try clear p6
           try clear p64
           obtain ⟨x14_3, rfl, HA, HK3, HO_498000, HO_498001, HO_506000, HO_506001, HO_514000, HO_514001, BK497, BK505, BK513, HB⟩ := hrel
           cases gk with
           | zero => exact absurd HA.out (by simp [laws_FnVersions.l0])
           | succ k3 =>
            have H := HA.out
            clear HA
            simp only [laws_FnVersions.l0] at H
            by_cases c69 : x14_3 < (t491.length : Int)
            ·rw [if_pos c69] at H
             have c69b0 : decide (x14_3 < (t491.length : Int)) = true := decide_eq_true c69
             clear c69
             replace H := Option.bind_eq_some_iff.mp H
             obtain ⟨⟨t518, t521⟩, A700, H⟩ := H
             try dsimp only at H
             have A70 := Op.k A700
             clear A700
             replace H := Option.bind_eq_some_iff.mp H
             obtain ⟨⟨t522, t525⟩, A710, H⟩ := H
             try dsimp only at H
             have A71 := Op.k A710
             clear A710
             by_cases c72 : t521 = true
             ·subst c72
              have H1 : (if t525 = true then ((laws_sameInts.f k3 t518 t522).bind fun t526 => (if t526 = true then (laws_FnVersions.l0 k3 l1 t494 t495 t496 (t491.length : Int) (wrap64 (x14_3 + 1)) t488 t491 t498 t501) else (some false))) else (some false)) = some true := by rw [if_pos rfl] at H; exact H
              clear H
              have H := H1
              clear H1
              by_cases c73 : t525 = true
              ·subst c73
               have H1 : ((laws_sameInts.f k3 t518 t522).bind fun t526 => (if t526 = true then (laws_FnVersions.l0 k3 l1 t494 t495 t496 (t491.length : Int) (wrap64 (x14_3 + 1)) t488 t491 t498 t501) else (some false))) = some true := by rw [if_pos rfl] at H; exact H
               clear H
               have H := H1
               clear H1
               replace H := Option.bind_eq_some_iff.mp H
               obtain ⟨t526, A740, H⟩ := H
               try dsimp only at H
               have A74 := Op.k A740
               clear A740
               by_cases c75 : t526 = true
               ·subst c75
                have H1 : (laws_FnVersions.l0 k3 l1 t494 t495 t496 (t491.length : Int) (wrap64 (x14_3 + 1)) t488 t491 t498 t501) = some true := by rw [if_pos rfl] at H; exact H
                clear H
                have H := H1
                clear H1
                have H' := Op.k H
                clear H
                have hnb76 := NB497_505.out
                have hnc76 := NB505_497.out
                have hnb77 := NB497_513.out
                have hnc77 := NB513_497.out
                have hcz78_0 := Op.c0 BK497.out
                have hcz78_1 := Op.c1 BK497.out
                have hfz78_0 := Op.bf BK497.out 0
                have hfz78_1 := Op.bf BK497.out 1
                go_wp2_with (first | ((with_reducible refine gate_callee (f := 25) rfl ?_); refine goesL_ (some 118) rfl rfl Try.func25 (by kernel_rfl) rfl #[.agg #[.slice Ao10 t488.length co10, .slice Ao12 t491.length co12], .int .i64 x14_3] rfl (by (try simp only [List.map_toArray, List.map_cons, List.map_nil]); first | done | rfl | (simp only [List.length_drop, List.length_take]; rfl)) ?_; (with_reducible refine (impl_AllIn.calls k3 _ _ t488 _ _ t491 x14_3 t518 true _ ?side1 ?side2 ?side3 ?side4 A70.out).mono ?_); (case side1 => exact Op.ct (Kd.S_reads' HO_498000.out).2.2); (case side2 => exact (Kd.S_reads' HO_498000.out).2.1); (case side3 => exact Op.ct (Kd.R_reads' HO_498001.out).2.2); (case side4 => exact (Kd.R_reads' HO_498001.out).2.1); rintro e w79 ⟨v519, rfl, ho0, hb⟩; refine ⟨_, rfl, ?_⟩; replace HO_498000 := Op.k (Kd.S_elder' (Op.st HO_498000.out) (Kd.R_base ho0) hb); replace HO_506000 := Op.k (Kd.S_elder' (Op.st HO_506000.out) (Kd.R_base ho0) hb); replace HO_514000 := Op.k (Kd.S_elder' (Op.st HO_514000.out) (Kd.R_base ho0) hb); have HO520 := Op.k (Kd.R_lower (Kd.R_new' (Kd.R_new' (Kd.R_new' ho0 (Kd.R_lt (Op.rt HO_498001.out))) (Kd.R_lt (Op.rt HO_506001.out))) (Kd.R_lt (Op.rt HO_514001.out))) (Op.a6 (Op.ht HB.out))); replace HO_498001 := Op.k (Kd.R_elder' (Op.rt HO_498001.out) (Kd.R_base ho0) hb); replace HO_506001 := Op.k (Kd.R_elder' (Op.rt HO_506001.out) (Kd.R_base ho0) hb); replace HO_514001 := Op.k (Kd.R_elder' (Op.rt HO_514001.out) (Kd.R_base ho0) hb); replace BK497 := Op.k (Op.b4 (Op.bt BK497.out) hb); replace BK505 := Op.k (Op.b4 (Op.bt BK505.out) hb); replace BK513 := Op.k (Op.b4 (Op.bt BK513.out) hb); replace HB := Op.k (Op.a5 (Op.ht HB.out) hb); (try clear hb); (try clear hb2); (try clear hk); (try clear hi); (try clear ho0); have hnb80 := NB505_513.out; have hnc80 := NB513_505.out; have hcz81_0 := Op.c0 BK505.out; have hcz81_1 := Op.c1 BK505.out; have hfz81_0 := Op.bf BK505.out 0; have hfz81_1 := Op.bf BK505.out 1) | ((with_reducible refine gate_callee (f := 25) rfl ?_); refine goesL_ (some 124) rfl rfl Try.func25 (by kernel_rfl) rfl #[.agg #[.slice Ao15 t498.length co15, .slice Ao18 t501.length co18], .int .i64 x14_3] rfl (by (try simp only [List.map_toArray, List.map_cons, List.map_nil]); first | done | rfl | (simp only [List.length_drop, List.length_take]; rfl)) ?_; (with_reducible refine (impl_AllIn.calls k3 _ _ t498 _ _ t501 x14_3 t522 true _ ?side1 ?side2 ?side3 ?side4 A71.out).mono ?_); (case side1 => exact Op.ct (Kd.S_reads' HO_506000.out).2.2); (case side2 => exact (Kd.S_reads' HO_506000.out).2.1); (case side3 => exact Op.ct (Kd.R_reads' HO_506001.out).2.2); (case side4 => exact (Kd.R_reads' HO_506001.out).2.1); rintro e w82 ⟨v523, rfl, ho0, hb⟩; refine ⟨_, rfl, ?_⟩; replace HO_498000 := Op.k (Kd.S_elder' (Op.st HO_498000.out) (Kd.R_base ho0) hb); replace HO_506000 := Op.k (Kd.S_elder' (Op.st HO_506000.out) (Kd.R_base ho0) hb); replace HO_514000 := Op.k (Kd.S_elder' (Op.st HO_514000.out) (Kd.R_base ho0) hb); have HO524 := Op.k (Kd.R_lower (Kd.R_new' (Kd.R_new' (Kd.R_new' (Kd.R_new' ho0 (Kd.R_lt (Op.rt HO_498001.out))) (Kd.R_lt (Op.rt HO_506001.out))) (Kd.R_lt (Op.rt HO_514001.out))) (Kd.R_lt (Op.rt HO520.out))) (Op.a6 (Op.ht HB.out))); replace HO_498001 := Op.k (Kd.R_elder' (Op.rt HO_498001.out) (Kd.R_base ho0) hb); replace HO_506001 := Op.k (Kd.R_elder' (Op.rt HO_506001.out) (Kd.R_base ho0) hb); replace HO_514001 := Op.k (Kd.R_elder' (Op.rt HO_514001.out) (Kd.R_base ho0) hb); replace HO520 := Op.k (Kd.R_elder' (Op.rt HO520.out) (Kd.R_base ho0) hb); replace BK497 := Op.k (Op.b4 (Op.bt BK497.out) hb); replace BK505 := Op.k (Op.b4 (Op.bt BK505.out) hb); replace BK513 := Op.k (Op.b4 (Op.bt BK513.out) hb); replace HB := Op.k (Op.a5 (Op.ht HB.out) hb); (try clear hb); (try clear hb2); (try clear hk); (try clear hi); (try clear ho0); obtain ⟨Ao83, co83, eo83⟩ := Kd.R_slice HO520.out; subst eo83; obtain ⟨Ao84, co84, eo84⟩ := Kd.R_slice HO524.out; subst eo84) | (go_at_call 37; (with_reducible refine (laws_sameInts.calls k3 _ _ t518 _ _ t522 true _ ?side1 ?side2 ?side3 ?side4 A74.out).mono ?_); (case side1 => exact Op.ct (Kd.R_reads' HO520.out).2.2); (case side2 => exact (Kd.R_reads' HO520.out).2.1); (case side3 => exact Op.ct (Kd.R_reads' HO524.out).2.2); (case side4 => exact (Kd.R_reads' HO524.out).2.1); rintro e w' ⟨rfl, ⟨nd, rfl⟩⟩))
                go_roundg k3
                case measure => have := HJ6.out; have := HJ44.out; have := HK3.out; omega
                case rel => exact ⟨(wrap64 (x14_3 + 1)), (by first | rfl | (simp; done) | (simp [*]; done)), H', ⟨by have := HJ6.out; have := HJ44.out; have := HK3.out; omega⟩, ⟨Kd.S_mono (Op.st HO_498000.out) (fun _ hk => ⟨hk.1.1.1, ⟨hk.1.1.2.1, ⟨hk.1.1.2.2.1, ⟨hk.1.1.2.2.2.1, hk.1.1.2.2.2.2⟩⟩⟩⟩)⟩, ⟨Kd.R_mono (Op.rt HO_498001.out) (fun _ hk => ⟨hk.1.1.1, hk.1.1.2⟩)⟩, ⟨Kd.S_mono (Op.st HO_506000.out) (fun _ hk => ⟨hk.1.1.1, ⟨hk.1.1.2.1, ⟨hk.1.1.2.2.1, ⟨hk.1.1.2.2.2.1, hk.1.1.2.2.2.2⟩⟩⟩⟩)⟩, ⟨Kd.R_mono (Op.rt HO_506001.out) (fun _ hk => ⟨hk.1.1.1, hk.1.1.2⟩)⟩, ⟨Kd.S_mono (Op.st HO_514000.out) (fun _ hk => ⟨hk.1.1.1, ⟨hk.1.1.2.1, ⟨hk.1.1.2.2.1, ⟨hk.1.1.2.2.2.1, hk.1.1.2.2.2.2⟩⟩⟩⟩)⟩, ⟨Kd.R_mono (Op.rt HO_514001.out) (fun _ hk => ⟨hk.1.1.1, hk.1.1.2⟩)⟩, ⟨Op.bt BK497.out⟩, ⟨Op.bt BK505.out⟩, ⟨Op.bt BK513.out⟩, ⟨Op.ht HB.out⟩⟩
               ·replace c75 := Bool.eq_false_iff.mpr c75
                subst c75
                have H1 : (some false) = some true := by rw [if_neg (show ¬ (false = true) by decide)] at H; exact H
                clear H
                have H := H1
                clear H1
                exact absurd (Option.some.inj H) (by simp)
              ·replace c73 := Bool.eq_false_iff.mpr c73
               subst c73
               have H1 : (some false) = some true := by rw [if_neg (show ¬ (false = true) by decide)] at H; exact H
               clear H
               have H := H1
               clear H1
               exact absurd (Option.some.inj H) (by simp)
             ·replace c72 := Bool.eq_false_iff.mpr c72
              subst c72
              have H1 : (some false) = some true := by rw [if_neg (show ¬ (false = true) by decide)] at H; exact H
              clear H
              have H := H1
              clear H1
              exact absurd (Option.some.inj H) (by simp)
            ·rw [if_neg c69] at H
             have c69b0 : decide (x14_3 < (t491.length : Int)) = false := decide_eq_false c69
             clear c69
             replace H := Option.bind_eq_some_iff.mp H
             obtain ⟨⟨t527, t530⟩, A850, H⟩ := H
             try dsimp only at H
             have A85 := Op.k A850
             clear A850
             replace H := Option.bind_eq_some_iff.mp H
             obtain ⟨⟨t531, t532⟩, A860, H⟩ := H
             try dsimp only at H
             have A86 := Op.k A860
             clear A860
             replace H := Option.bind_eq_some_iff.mp H
             obtain ⟨⟨t533, t534⟩, A870, H⟩ := H
             try dsimp only at H
             have A87 := Op.k A870
             clear A870
             by_cases c88 : t530 = true
             ·subst c88
              have H1 : (if t532 = true then (if t534 = true then (if t533 = t496 then (if (t527.length : Int) > 1 then (some false) else (if (t527.length : Int) = 1 then (if 0 < (t527.length : Int) then (if (rd t527 0) = t495 then (if ((t531 == t496) != ((t527.length : Int) == 0)) = true then (some false) else (laws_FnVersions.j3 k3 l1)) else (some false)) else (none)) else (if ((t531 == t496) != ((t527.length : Int) == 0)) = true then (some false) else (laws_FnVersions.j3 k3 l1)))) else (some false)) else (some false)) else (some false)) = some true := by rw [if_pos rfl] at H; exact H
              clear H
              have H := H1
              clear H1
              by_cases c89 : t532 = true
              ·subst c89
               have H1 : (if t534 = true then (if t533 = t496 then (if (t527.length : Int) > 1 then (some false) else (if (t527.length : Int) = 1 then (if 0 < (t527.length : Int) then (if (rd t527 0) = t495 then (if ((t531 == t496) != ((t527.length : Int) == 0)) = true then (some false) else (laws_FnVersions.j3 k3 l1)) else (some false)) else (none)) else (if ((t531 == t496) != ((t527.length : Int) == 0)) = true then (some false) else (laws_FnVersions.j3 k3 l1)))) else (some false)) else (some false)) = some true := by rw [if_pos rfl] at H; exact H
               clear H
               have H := H1
               clear H1
               by_cases c90 : t534 = true
               ·subst c90
                have H1 : (if t533 = t496 then (if (t527.length : Int) > 1 then (some false) else (if (t527.length : Int) = 1 then (if 0 < (t527.length : Int) then (if (rd t527 0) = t495 then (if ((t531 == t496) != ((t527.length : Int) == 0)) = true then (some false) else (laws_FnVersions.j3 k3 l1)) else (some false)) else (none)) else (if ((t531 == t496) != ((t527.length : Int) == 0)) = true then (some false) else (laws_FnVersions.j3 k3 l1)))) else (some false)) = some true := by rw [if_pos rfl] at H; exact H
                clear H
                have H := H1
                clear H1
                by_cases c91 : t533 = t496
                ·rw [if_pos c91] at H
                 have c91b0 : (t533 == t496) = true := beq_iff_eq.mpr c91
                 have c91b1 : (t533 != t496) = false := bne_eq_false_iff_eq.mpr c91
                 clear c91
                 by_cases c92 : (t527.length : Int) > 1
                 ·rw [if_pos c92] at H
                  have c92b0 : decide (1 < (t527.length : Int)) = true := decide_eq_true c92
                  have c92b1 : decide (1 < t527.length) = true := decide_eq_true (by omega)
                  clear c92
                  exact absurd (Option.some.inj H) (by simp)
                 ·rw [if_neg c92] at H
                  have c92b0 : decide (1 < (t527.length : Int)) = false := decide_eq_false c92
                  have c92b1 : decide (1 < t527.length) = false := decide_eq_false (by omega)
                  clear c92
                  by_cases c93 : (t527.length : Int) = 1
                  ·rw [if_pos c93] at H
                   have c93b0 : ((t527.length : Int) == 1) = true := beq_iff_eq.mpr c93
                   have c93b1 : ((t527.length : Int) != 1) = false := bne_eq_false_iff_eq.mpr c93
                   clear c93
                   by_cases c94 : 0 < (t527.length : Int)
                   ·rw [if_pos c94] at H
                    have c94b0 : decide (0 < (t527.length : Int)) = true := decide_eq_true c94
                    have c94b1 : decide (0 < t527.length) = true := decide_eq_true (by omega)
                    clear c94
                    by_cases c95 : (rd t527 0) = t495
                    ·rw [if_pos c95] at H
                     have c95b0 : ((rd t527 0) == t495) = true := beq_iff_eq.mpr c95
                     have c95b1 : ((rd t527 0) != t495) = false := bne_eq_false_iff_eq.mpr c95
                     clear c95
                     by_cases c96 : ((t531 == t496) != ((t527.length : Int) == 0)) = true
                     ·rw [if_pos c96] at H
                      have c96b0 : ((t531 == t496) != ((t527.length : Int) == 0)) = true := c96
                      (try (have c96b1 : decide ((t531 == t496) = ((t527.length : Int) == 0)) = false := by simpa using c96))
                      (try (have c96b2 : ((t531 == t496) == ((t527.length : Int) == 0)) = false := by simpa using c96))
                      (try (have c96b3 : ¬ ((t531 == t496) = ((t527.length : Int) == 0)) := by simpa using c96))
                      clear c96
                      exact absurd (Option.some.inj H) (by simp)
                     ·rw [if_neg c96] at H
                      have c96b0 : ((t531 == t496) != ((t527.length : Int) == 0)) = false := by simpa using c96
                      (try (have c96b1 : decide ((t531 == t496) = ((t527.length : Int) == 0)) = true := by simpa using c96))
                      (try (have c96b2 : ((t531 == t496) == ((t527.length : Int) == 0)) = true := by simpa using c96))
                      clear c96
                      have H' := Op.k H
                      clear H
                      have hnb97 := NB505_497.out
                      have hnc97 := NB497_505.out
                      have hnb98 := NB505_513.out
                      have hnc98 := NB513_505.out
                      have hcz99_0 := Op.c0 BK505.out
                      have hcz99_1 := Op.c1 BK505.out
                      have hfz99_0 := Op.bf BK505.out 0
                      have hfz99_1 := Op.bf BK505.out 1
                      go_wp2_with (first | ((with_reducible refine gate_callee (f := 30) rfl ?_); refine goesL_ (some 143) rfl rfl Try.func30 (by kernel_rfl) rfl #[.agg #[.slice Ao15 t498.length co15, .slice Ao18 t501.length co18], .int .i64 t494, .int .i64 (t491.length : Int)] rfl (by (try simp only [List.map_toArray, List.map_cons, List.map_nil]); first | done | rfl | (simp only [List.length_drop, List.length_take]; rfl)) ?_; (with_reducible refine (impl_DiffIn.calls k3 _ _ t498 _ _ t501 t494 (t491.length : Int) t527 true _ ?side1 ?side2 ?side3 ?side4 A85.out).mono ?_); (case side1 => exact Op.ct (Kd.S_reads' HO_506000.out).2.2); (case side2 => exact (Kd.S_reads' HO_506000.out).2.1); (case side3 => exact Op.ct (Kd.R_reads' HO_506001.out).2.2); (case side4 => exact (Kd.R_reads' HO_506001.out).2.1); rintro e w100 ⟨v528, rfl, ho0, hb⟩; refine ⟨_, rfl, ?_⟩; replace HO_498000 := Op.k (Kd.S_elder' (Op.st HO_498000.out) (Kd.R_base ho0) hb); replace HO_506000 := Op.k (Kd.S_elder' (Op.st HO_506000.out) (Kd.R_base ho0) hb); replace HO_514000 := Op.k (Kd.S_elder' (Op.st HO_514000.out) (Kd.R_base ho0) hb); have HO529 := Op.k (Kd.R_lower (Kd.R_new' (Kd.R_new' (Kd.R_new' ho0 (Kd.R_lt (Op.rt HO_498001.out))) (Kd.R_lt (Op.rt HO_506001.out))) (Kd.R_lt (Op.rt HO_514001.out))) (Op.a6 (Op.ht HB.out))); replace HO_498001 := Op.k (Kd.R_elder' (Op.rt HO_498001.out) (Kd.R_base ho0) hb); replace HO_506001 := Op.k (Kd.R_elder' (Op.rt HO_506001.out) (Kd.R_base ho0) hb); replace HO_514001 := Op.k (Kd.R_elder' (Op.rt HO_514001.out) (Kd.R_base ho0) hb); replace BK497 := Op.k (Op.b4 (Op.bt BK497.out) hb); replace BK505 := Op.k (Op.b4 (Op.bt BK505.out) hb); replace BK513 := Op.k (Op.b4 (Op.bt BK513.out) hb); replace HB := Op.k (Op.a5 (Op.ht HB.out) hb); (try clear hb); (try clear hb2); (try clear hk); (try clear hi); (try clear ho0); have hnb101 := NB497_513.out; have hnc101 := NB513_497.out; have hcz102_0 := Op.c0 BK497.out; have hcz102_1 := Op.c1 BK497.out; have hfz102_0 := Op.bf BK497.out 0; have hfz102_1 := Op.bf BK497.out 1) | ((with_reducible refine gate_callee (f := 23) rfl ?_); refine goesL_ (some 150) rfl rfl Try.func23 (by kernel_rfl) rfl #[.agg #[.slice Ao10 t488.length co10, .slice Ao12 t491.length co12], .int .i64 t494, .int .i64 t495] rfl (by (try simp only [List.map_toArray, List.map_cons, List.map_nil]); first | done | rfl | (simp only [List.length_drop, List.length_take]; rfl)) ?_; (with_reducible refine (impl_GetIn.calls _ _ t488 _ _ t491 t494 t495 t531 true _ ?side1 ?side2 ?side3 ?side4 A86.out).mono ?_); (case side1 => exact Op.ct (Kd.S_reads' HO_498000.out).2.2); (case side2 => exact (Kd.S_reads' HO_498000.out).2.1); (case side3 => exact Op.ct (Kd.R_reads' HO_498001.out).2.2); (case side4 => exact (Kd.R_reads' HO_498001.out).2.1); rintro e w103 ⟨rfl, hb⟩; refine ⟨_, rfl, ?_⟩; replace HO_498000 := Op.k (Kd.S_below (Op.st HO_498000.out) hb); replace HO_498001 := Op.k (Kd.R_below (Op.rt HO_498001.out) hb); replace HO_506000 := Op.k (Kd.S_below (Op.st HO_506000.out) hb); replace HO_506001 := Op.k (Kd.R_below (Op.rt HO_506001.out) hb); replace HO_514000 := Op.k (Kd.S_below (Op.st HO_514000.out) hb); replace HO_514001 := Op.k (Kd.R_below (Op.rt HO_514001.out) hb); replace HO529 := Op.k (Kd.R_below (Op.rt HO529.out) hb); replace BK497 := Op.k (Op.b4 (Op.bt BK497.out) hb); replace BK505 := Op.k (Op.b4 (Op.bt BK505.out) hb); replace BK513 := Op.k (Op.b4 (Op.bt BK513.out) hb); replace HB := Op.k (Op.a5 (Op.ht HB.out) hb); (try clear hb); (try clear hb2); (try clear hk); (try clear hi); have hcz104_0 := Op.c0 BK505.out; have hcz104_1 := Op.c1 BK505.out; have hfz104_0 := Op.bf BK505.out 0; have hfz104_1 := Op.bf BK505.out 1) | ((with_reducible refine gate_callee (f := 23) rfl ?_); refine goesL_ (some 157) rfl rfl Try.func23 (by kernel_rfl) rfl #[.agg #[.slice Ao15 t498.length co15, .slice Ao18 t501.length co18], .int .i64 (t491.length : Int), .int .i64 t495] rfl (by (try simp only [List.map_toArray, List.map_cons, List.map_nil]); first | done | rfl | (simp only [List.length_drop, List.length_take]; rfl)) ?_; (with_reducible refine (impl_GetIn.calls _ _ t498 _ _ t501 (t491.length : Int) t495 t533 true _ ?side1 ?side2 ?side3 ?side4 A87.out).mono ?_); (case side1 => exact Op.ct (Kd.S_reads' HO_506000.out).2.2); (case side2 => exact (Kd.S_reads' HO_506000.out).2.1); (case side3 => exact Op.ct (Kd.R_reads' HO_506001.out).2.2); (case side4 => exact (Kd.R_reads' HO_506001.out).2.1); rintro e w105 ⟨rfl, hb⟩; refine ⟨_, rfl, ?_⟩; replace HO_498000 := Op.k (Kd.S_below (Op.st HO_498000.out) hb); replace HO_498001 := Op.k (Kd.R_below (Op.rt HO_498001.out) hb); replace HO_506000 := Op.k (Kd.S_below (Op.st HO_506000.out) hb); replace HO_506001 := Op.k (Kd.R_below (Op.rt HO_506001.out) hb); replace HO_514000 := Op.k (Kd.S_below (Op.st HO_514000.out) hb); replace HO_514001 := Op.k (Kd.R_below (Op.rt HO_514001.out) hb); replace HO529 := Op.k (Kd.R_below (Op.rt HO529.out) hb); replace BK497 := Op.k (Op.b4 (Op.bt BK497.out) hb); replace BK505 := Op.k (Op.b4 (Op.bt BK505.out) hb); replace BK513 := Op.k (Op.b4 (Op.bt BK513.out) hb); replace HB := Op.k (Op.a5 (Op.ht HB.out) hb); (try clear hb); (try clear hb2); (try clear hk); (try clear hi); obtain ⟨Ao106, co106, eo106⟩ := Kd.R_slice HO529.out; subst eo106; have p535 : 0 ≤ (0 : Int) := (by omega); have q535 : 0 < (t527.length : Int) := Op.dt; obtain ⟨ad535, e535, hx535_0⟩ := Kd.at_int (Kd.R_reads' HO529.out).2.2 0 p535 q535; cases e535; have qi535 : (0 < t527.length) = True := eq_true (by omega); (try rw [show ((0 : Int)).toNat = 0 from rfl] at hx535_0); (try rw [Addr.add_zero'] at hx535_0); replace p535 := eq_true p535; replace q535 := eq_true q535))
                      go_meet
                      case rel => exact ⟨_, H', ⟨by have := HJ6.out; have := HJ44.out; have := HK3.out; first | omega | exact Nat.le_refl _⟩, ⟨Kd.S_mono (Op.st HO_498000.out) (fun _ hk => ⟨hk.1.1, ⟨hk.1.2.1, ⟨hk.1.2.2.1, ⟨hk.1.2.2.2.1, hk.1.2.2.2.2⟩⟩⟩⟩)⟩, ⟨Kd.R_mono (Op.rt HO_498001.out) (fun _ hk => ⟨hk.1.1, hk.1.2⟩)⟩, ⟨Kd.S_mono (Op.st HO_506000.out) (fun _ hk => ⟨hk.1.1, ⟨hk.1.2.1, ⟨hk.1.2.2.1, ⟨hk.1.2.2.2.1, hk.1.2.2.2.2⟩⟩⟩⟩)⟩, ⟨Kd.R_mono (Op.rt HO_506001.out) (fun _ hk => ⟨hk.1.1, hk.1.2⟩)⟩, ⟨Kd.S_mono (Op.st HO_514000.out) (fun _ hk => ⟨hk.1.1, ⟨hk.1.2.1, ⟨hk.1.2.2.1, ⟨hk.1.2.2.2.1, hk.1.2.2.2.2⟩⟩⟩⟩)⟩, ⟨Kd.R_mono (Op.rt HO_514001.out) (fun _ hk => ⟨hk.1.1, hk.1.2⟩)⟩, ⟨Op.bt BK497.out⟩, ⟨Op.bt BK505.out⟩, ⟨Op.bt BK513.out⟩, ⟨Op.ht HB.out⟩⟩
                    ·rw [if_neg c95] at H
                     have c95b0 : ((rd t527 0) == t495) = false := beq_eq_false_iff_ne.mpr c95
                     have c95b1 : ((rd t527 0) != t495) = true := bne_iff_ne.mpr c95
                     exact absurd (Option.some.inj H) (by simp)
                   ·rw [if_neg c94] at H
                    exact absurd H (by simp)
                  ·rw [if_neg c93] at H
                   have c93b0 : ((t527.length : Int) == 1) = false := beq_eq_false_iff_ne.mpr c93
                   have c93b1 : ((t527.length : Int) != 1) = true := bne_iff_ne.mpr c93
                   by_cases c107 : ((t531 == t496) != ((t527.length : Int) == 0)) = true
                   ·rw [if_pos c107] at H
                    have c107b0 : ((t531 == t496) != ((t527.length : Int) == 0)) = true := c107
                    (try (have c107b1 : decide ((t531 == t496) = ((t527.length : Int) == 0)) = false := by simpa using c107))
                    (try (have c107b2 : ((t531 == t496) == ((t527.length : Int) == 0)) = false := by simpa using c107))
                    (try (have c107b3 : ¬ ((t531 == t496) = ((t527.length : Int) == 0)) := by simpa using c107))
                    clear c107
                    exact absurd (Option.some.inj H) (by simp)
                   ·rw [if_neg c107] at H
                    have c107b0 : ((t531 == t496) != ((t527.length : Int) == 0)) = false := by simpa using c107
                    (try (have c107b1 : decide ((t531 == t496) = ((t527.length : Int) == 0)) = true := by simpa using c107))
                    (try (have c107b2 : ((t531 == t496) == ((t527.length : Int) == 0)) = true := by simpa using c107))
                    clear c107
                    have H' := Op.k H
                    clear H
                    have hnb108 := NB505_497.out
                    have hnc108 := NB497_505.out
                    have hnb109 := NB505_513.out
                    have hnc109 := NB513_505.out
                    have hcz110_0 := Op.c0 BK505.out
                    have hcz110_1 := Op.c1 BK505.out
                    have hfz110_0 := Op.bf BK505.out 0
                    have hfz110_1 := Op.bf BK505.out 1
                    go_wp2_with (first | ((with_reducible refine gate_callee (f := 30) rfl ?_); refine goesL_ (some 143) rfl rfl Try.func30 (by kernel_rfl) rfl #[.agg #[.slice Ao15 t498.length co15, .slice Ao18 t501.length co18], .int .i64 t494, .int .i64 (t491.length : Int)] rfl (by (try simp only [List.map_toArray, List.map_cons, List.map_nil]); first | done | rfl | (simp only [List.length_drop, List.length_take]; rfl)) ?_; (with_reducible refine (impl_DiffIn.calls k3 _ _ t498 _ _ t501 t494 (t491.length : Int) t527 true _ ?side1 ?side2 ?side3 ?side4 A85.out).mono ?_); (case side1 => exact Op.ct (Kd.S_reads' HO_506000.out).2.2); (case side2 => exact (Kd.S_reads' HO_506000.out).2.1); (case side3 => exact Op.ct (Kd.R_reads' HO_506001.out).2.2); (case side4 => exact (Kd.R_reads' HO_506001.out).2.1); rintro e w111 ⟨v528, rfl, ho0, hb⟩; refine ⟨_, rfl, ?_⟩; replace HO_498000 := Op.k (Kd.S_elder' (Op.st HO_498000.out) (Kd.R_base ho0) hb); replace HO_506000 := Op.k (Kd.S_elder' (Op.st HO_506000.out) (Kd.R_base ho0) hb); replace HO_514000 := Op.k (Kd.S_elder' (Op.st HO_514000.out) (Kd.R_base ho0) hb); have HO529 := Op.k (Kd.R_lower (Kd.R_new' (Kd.R_new' (Kd.R_new' ho0 (Kd.R_lt (Op.rt HO_498001.out))) (Kd.R_lt (Op.rt HO_506001.out))) (Kd.R_lt (Op.rt HO_514001.out))) (Op.a6 (Op.ht HB.out))); replace HO_498001 := Op.k (Kd.R_elder' (Op.rt HO_498001.out) (Kd.R_base ho0) hb); replace HO_506001 := Op.k (Kd.R_elder' (Op.rt HO_506001.out) (Kd.R_base ho0) hb); replace HO_514001 := Op.k (Kd.R_elder' (Op.rt HO_514001.out) (Kd.R_base ho0) hb); replace BK497 := Op.k (Op.b4 (Op.bt BK497.out) hb); replace BK505 := Op.k (Op.b4 (Op.bt BK505.out) hb); replace BK513 := Op.k (Op.b4 (Op.bt BK513.out) hb); replace HB := Op.k (Op.a5 (Op.ht HB.out) hb); (try clear hb); (try clear hb2); (try clear hk); (try clear hi); (try clear ho0); have hnb112 := NB497_513.out; have hnc112 := NB513_497.out; have hcz113_0 := Op.c0 BK497.out; have hcz113_1 := Op.c1 BK497.out; have hfz113_0 := Op.bf BK497.out 0; have hfz113_1 := Op.bf BK497.out 1) | ((with_reducible refine gate_callee (f := 23) rfl ?_); refine goesL_ (some 150) rfl rfl Try.func23 (by kernel_rfl) rfl #[.agg #[.slice Ao10 t488.length co10, .slice Ao12 t491.length co12], .int .i64 t494, .int .i64 t495] rfl (by (try simp only [List.map_toArray, List.map_cons, List.map_nil]); first | done | rfl | (simp only [List.length_drop, List.length_take]; rfl)) ?_; (with_reducible refine (impl_GetIn.calls _ _ t488 _ _ t491 t494 t495 t531 true _ ?side1 ?side2 ?side3 ?side4 A86.out).mono ?_); (case side1 => exact Op.ct (Kd.S_reads' HO_498000.out).2.2); (case side2 => exact (Kd.S_reads' HO_498000.out).2.1); (case side3 => exact Op.ct (Kd.R_reads' HO_498001.out).2.2); (case side4 => exact (Kd.R_reads' HO_498001.out).2.1); rintro e w114 ⟨rfl, hb⟩; refine ⟨_, rfl, ?_⟩; replace HO_498000 := Op.k (Kd.S_below (Op.st HO_498000.out) hb); replace HO_498001 := Op.k (Kd.R_below (Op.rt HO_498001.out) hb); replace HO_506000 := Op.k (Kd.S_below (Op.st HO_506000.out) hb); replace HO_506001 := Op.k (Kd.R_below (Op.rt HO_506001.out) hb); replace HO_514000 := Op.k (Kd.S_below (Op.st HO_514000.out) hb); replace HO_514001 := Op.k (Kd.R_below (Op.rt HO_514001.out) hb); replace HO529 := Op.k (Kd.R_below (Op.rt HO529.out) hb); replace BK497 := Op.k (Op.b4 (Op.bt BK497.out) hb); replace BK505 := Op.k (Op.b4 (Op.bt BK505.out) hb); replace BK513 := Op.k (Op.b4 (Op.bt BK513.out) hb); replace HB := Op.k (Op.a5 (Op.ht HB.out) hb); (try clear hb); (try clear hb2); (try clear hk); (try clear hi); have hcz115_0 := Op.c0 BK505.out; have hcz115_1 := Op.c1 BK505.out; have hfz115_0 := Op.bf BK505.out 0; have hfz115_1 := Op.bf BK505.out 1) | ((with_reducible refine gate_callee (f := 23) rfl ?_); refine goesL_ (some 157) rfl rfl Try.func23 (by kernel_rfl) rfl #[.agg #[.slice Ao15 t498.length co15, .slice Ao18 t501.length co18], .int .i64 (t491.length : Int), .int .i64 t495] rfl (by (try simp only [List.map_toArray, List.map_cons, List.map_nil]); first | done | rfl | (simp only [List.length_drop, List.length_take]; rfl)) ?_; (with_reducible refine (impl_GetIn.calls _ _ t498 _ _ t501 (t491.length : Int) t495 t533 true _ ?side1 ?side2 ?side3 ?side4 A87.out).mono ?_); (case side1 => exact Op.ct (Kd.S_reads' HO_506000.out).2.2); (case side2 => exact (Kd.S_reads' HO_506000.out).2.1); (case side3 => exact Op.ct (Kd.R_reads' HO_506001.out).2.2); (case side4 => exact (Kd.R_reads' HO_506001.out).2.1); rintro e w116 ⟨rfl, hb⟩; refine ⟨_, rfl, ?_⟩; replace HO_498000 := Op.k (Kd.S_below (Op.st HO_498000.out) hb); replace HO_498001 := Op.k (Kd.R_below (Op.rt HO_498001.out) hb); replace HO_506000 := Op.k (Kd.S_below (Op.st HO_506000.out) hb); replace HO_506001 := Op.k (Kd.R_below (Op.rt HO_506001.out) hb); replace HO_514000 := Op.k (Kd.S_below (Op.st HO_514000.out) hb); replace HO_514001 := Op.k (Kd.R_below (Op.rt HO_514001.out) hb); replace HO529 := Op.k (Kd.R_below (Op.rt HO529.out) hb); replace BK497 := Op.k (Op.b4 (Op.bt BK497.out) hb); replace BK505 := Op.k (Op.b4 (Op.bt BK505.out) hb); replace BK513 := Op.k (Op.b4 (Op.bt BK513.out) hb); replace HB := Op.k (Op.a5 (Op.ht HB.out) hb); (try clear hb); (try clear hb2); (try clear hk); (try clear hi); obtain ⟨Ao117, co117, eo117⟩ := Kd.R_slice HO529.out; subst eo117))
                    go_meet
                    case rel => exact ⟨_, H', ⟨by have := HJ6.out; have := HJ44.out; have := HK3.out; first | omega | exact Nat.le_refl _⟩, ⟨Kd.S_mono (Op.st HO_498000.out) (fun _ hk => ⟨hk.1.1, ⟨hk.1.2.1, ⟨hk.1.2.2.1, ⟨hk.1.2.2.2.1, hk.1.2.2.2.2⟩⟩⟩⟩)⟩, ⟨Kd.R_mono (Op.rt HO_498001.out) (fun _ hk => ⟨hk.1.1, hk.1.2⟩)⟩, ⟨Kd.S_mono (Op.st HO_506000.out) (fun _ hk => ⟨hk.1.1, ⟨hk.1.2.1, ⟨hk.1.2.2.1, ⟨hk.1.2.2.2.1, hk.1.2.2.2.2⟩⟩⟩⟩)⟩, ⟨Kd.R_mono (Op.rt HO_506001.out) (fun _ hk => ⟨hk.1.1, hk.1.2⟩)⟩, ⟨Kd.S_mono (Op.st HO_514000.out) (fun _ hk => ⟨hk.1.1, ⟨hk.1.2.1, ⟨hk.1.2.2.1, ⟨hk.1.2.2.2.1, hk.1.2.2.2.2⟩⟩⟩⟩)⟩, ⟨Kd.R_mono (Op.rt HO_514001.out) (fun _ hk => ⟨hk.1.1, hk.1.2⟩)⟩, ⟨Op.bt BK497.out⟩, ⟨Op.bt BK505.out⟩, ⟨Op.bt BK513.out⟩, ⟨Op.ht HB.out⟩⟩
                ·rw [if_neg c91] at H
                 have c91b0 : (t533 == t496) = false := beq_eq_false_iff_ne.mpr c91
                 have c91b1 : (t533 != t496) = true := bne_iff_ne.mpr c91
                 exact absurd (Option.some.inj H) (by simp)
               ·replace c90 := Bool.eq_false_iff.mpr c90
                subst c90
                have H1 : (some false) = some true := by rw [if_neg (show ¬ (false = true) by decide)] at H; exact H
                clear H
                have H := H1
                clear H1
                exact absurd (Option.some.inj H) (by simp)
              ·replace c89 := Bool.eq_false_iff.mpr c89
               subst c89
               have H1 : (some false) = some true := by rw [if_neg (show ¬ (false = true) by decide)] at H; exact H
               clear H
               have H := H1
               clear H1
               exact absurd (Option.some.inj H) (by simp)
             ·replace c88 := Bool.eq_false_iff.mpr c88
              subst c88
              have H1 : (some false) = some true := by rw [if_neg (show ¬ (false = true) by decide)] at H; exact H
              clear H
              have H := H1
              clear H1
              exact absurd (Option.some.inj H) (by simp)
      ·replace c44 := Bool.eq_false_iff.mpr c44
       subst c44
       have H1 : (laws_FnVersions.j3 kj6 l1) = some true := by rw [if_neg (show ¬ (false = true) by decide)] at H; exact H
       clear H
       have H := H1
       clear H1
       have H' := Op.k H
       clear H
       go_wp2
       go_meet
       case rel => exact ⟨_, H', ⟨by have := HJ6.out; first | omega | exact Nat.le_refl _⟩, ⟨Op.st HO_498000.out⟩, ⟨Op.rt HO_498001.out⟩, ⟨Op.st HO_506000.out⟩, ⟨Op.rt HO_506001.out⟩, ⟨Op.st HO_514000.out⟩, ⟨Op.rt HO_514001.out⟩, ⟨Op.bt BK497.out⟩, ⟨Op.bt BK505.out⟩, ⟨Op.bt BK513.out⟩, ⟨Op.ht HB.out⟩⟩
     case rest =>
      as_aux_lemma =>
      clear HC43
      try clear c1
      try clear c2
      try clear p2
      try clear c3
      try clear c4
      try clear c5
      try clear p5
      try clear q5
      try clear hx5
      try clear qi5
      try clear c6
      try clear p6
      try clear c7
      try clear c8
      try clear c9
      try clear c10
      try clear c11
      try clear c19
      try clear c21
      try clear c23
      try clear c25
      try clear c27
      try clear c27b0
      try clear c27b1
      try clear c27b2
      try clear c30
      try clear c31
      try clear c36
      try clear c42
      try clear c44
      try clear c46
      try clear c47
      try clear c50
      try clear c51
      try clear c51b0
      try clear c51b1
      try clear c52
      try clear c53
      try clear p53
      try clear q53
      try clear hx53
      try clear qi53
      try clear c57
      try clear c59
      try clear c60
      try clear c64
      try clear p64
      try clear c65
      try clear c68
      try clear c69
      try clear c69b0
      try clear c72
      try clear c73
      try clear c75
      try clear c76
      try clear c77
      try clear c80
      try clear c88
      try clear c89
      try clear c90
      try clear c91
      try clear c91b0
      try clear c91b1
      try clear c92
      try clear c92b0
      try clear c92b1
      try clear c93
      try clear c93b0
      try clear c93b1
      try clear c94
      try clear c94b0
      try clear c94b1
      try clear c95
      try clear c95b0
      try clear c95b1
      try clear c96
      try clear c96b0
      try clear c96b1
      try clear c96b2
      try clear c97
      try clear c98
      try clear c101
      try clear c107
      try clear c107b0
      try clear c107b1
      try clear c107b2
      try clear c108
      try clear c109
      try clear c112
      try clear hcz102_0
      try clear hcz102_1
      try clear hcz104_0
      try clear hcz104_1
      try clear hcz110_0
      try clear hcz110_1
      try clear hcz113_0
      try clear hcz113_1
      try clear hcz115_0
      try clear hcz115_1
      try clear hcz48_0
      try clear hcz48_1
      try clear hcz54_0
      try clear hcz54_1
      try clear hcz56_0
      try clear hcz56_1
      try clear hcz58_0
      try clear hcz58_1
      try clear hcz61_0
      try clear hcz61_1
      try clear hcz63_0
      try clear hcz63_1
      try clear hcz66_0
      try clear hcz66_1
      try clear hcz78_0
      try clear hcz78_1
      try clear hcz81_0
      try clear hcz81_1
      try clear hcz99_0
      try clear hcz99_1
      try clear hfz102_0
      try clear hfz102_1
      try clear hfz104_0
      try clear hfz104_1
      try clear hfz110_0
      try clear hfz110_1
      try clear hfz113_0
      try clear hfz113_1
      try clear hfz115_0
      try clear hfz115_1
      try clear hfz48_0
      try clear hfz48_1
      try clear hfz54_0
      try clear hfz54_1
      try clear hfz56_0
      try clear hfz56_1
      try clear hfz58_0
      try clear hfz58_1
      try clear hfz61_0
      try clear hfz61_1
      try clear hfz63_0
      try clear hfz63_1
      try clear hfz66_0
      try clear hfz66_1
      try clear hfz78_0
      try clear hfz78_1
      try clear hfz81_0
      try clear hfz81_1
      try clear hfz99_0
      try clear hfz99_1
      try clear hx535_0
      try clear p2
      try clear p535
      try clear p6
      try clear p64
      try clear q535
      obtain ⟨kq, HA, HJ42, HO_498000, HO_498001, HO_506000, HO_506001, HO_514000, HO_514001, BK497, BK505, BK513, HB⟩ := hcut
      cases kq with
      | zero => exact absurd HA.out (by simp [laws_FnVersions.j3])
      | succ kj42 =>
       have H := HA.out
       clear HA
       simp only [laws_FnVersions.j3] at H
       replace H := Option.bind_eq_some_iff.mp H
       obtain ⟨⟨t536, t539, t542, t543⟩, A1180, H⟩ := H
       try dsimp only at H
       have A118 := Op.k A1180
       clear A1180
       replace H := Option.bind_eq_some_iff.mp H
       obtain ⟨⟨t545, t548⟩, A1190, H⟩ := H
       try dsimp only at H
       have A119 := Op.k A1190
       clear A1190
       replace H := Option.bind_eq_some_iff.mp H
       obtain ⟨⟨t549, t552⟩, A1200, H⟩ := H
       try dsimp only at H
       have A120 := Op.k A1200
       clear A1200
       replace H := Option.bind_eq_some_iff.mp H
       obtain ⟨⟨t553, t556, t559⟩, A1210, H⟩ := H
       try dsimp only at H
       have A121 := Op.k A1210
       clear A1210
       replace H := Option.bind_eq_some_iff.mp H
       obtain ⟨⟨t561, t564, t567⟩, A1220, H⟩ := H
       try dsimp only at H
       have A122 := Op.k A1220
       clear A1220
       replace H := Option.bind_eq_some_iff.mp H
       obtain ⟨⟨t569, t572, t575⟩, A1230, H⟩ := H
       try dsimp only at H
       have A123 := Op.k A1230
       clear A1230
       have HC124 := Op.k H
       clear H
       go_upto_region 30 with (first | ((with_reducible refine gate_callee (f := 38) rfl ?_); refine goesL_ (some 203) rfl rfl Try.func38 (by kernel_rfl) rfl #[.slice A1 l1.length c1] rfl (by (try simp only [List.map_toArray, List.map_cons, List.map_nil]); first | done | rfl | (simp only [List.length_drop, List.length_take]; rfl)) ?_; (with_reducible refine (spec_DrawDiffIn.calls kj42 _ _ l1 t536 t539 t542 t543 _ ?side1 ?side2 A118.out).mono ?_); (case side1 => exact Op.ct (Kd.C_below HR1.out HB.out)); (case side2 => exact HC1.out); rintro e w125 ⟨v537, v540, rfl, ho0, ho1, hb⟩; refine ⟨_, rfl, ?_⟩; have HO538 := Op.k (Kd.S_lower (Kd.S_new' (Kd.S_new' (Kd.S_new' (Kd.S_new' (Kd.S_new' (Kd.S_new' ho0 (Kd.S_lt (Op.st HO_498000.out))) (Kd.R_lt (Op.rt HO_498001.out))) (Kd.S_lt (Op.st HO_506000.out))) (Kd.R_lt (Op.rt HO_506001.out))) (Kd.S_lt (Op.st HO_514000.out))) (Kd.R_lt (Op.rt HO_514001.out))) (Op.a6 (Op.ht HB.out))); replace HO_498000 := Op.k (Kd.S_mono (Kd.S_told (Kd.S_told (Kd.S_old (Op.st HO_498000.out) hb) (Kd.S_base ho0)) (Kd.R_base ho1)) (fun _ h_ => h_.1)); replace HO_506000 := Op.k (Kd.S_mono (Kd.S_told (Kd.S_told (Kd.S_old (Op.st HO_506000.out) hb) (Kd.S_base ho0)) (Kd.R_base ho1)) (fun _ h_ => h_.1)); replace HO_514000 := Op.k (Kd.S_mono (Kd.S_told (Kd.S_told (Kd.S_old (Op.st HO_514000.out) hb) (Kd.S_base ho0)) (Kd.R_base ho1)) (fun _ h_ => h_.1)); have HO541 := Op.k (Kd.R_lower (Kd.R_new' (Kd.R_new' (Kd.R_new' ho1 (Kd.R_lt (Op.rt HO_498001.out))) (Kd.R_lt (Op.rt HO_506001.out))) (Kd.R_lt (Op.rt HO_514001.out))) (Op.a6 (Op.ht HB.out))); replace HO_498001 := Op.k (Kd.R_elder' (Op.rt HO_498001.out) (Kd.R_base ho1) hb); replace HO_506001 := Op.k (Kd.R_elder' (Op.rt HO_506001.out) (Kd.R_base ho1) hb); replace HO_514001 := Op.k (Kd.R_elder' (Op.rt HO_514001.out) (Kd.R_base ho1) hb); replace BK497 := Op.k (Op.b4 (Op.bt BK497.out) hb); replace BK505 := Op.k (Op.b4 (Op.bt BK505.out) hb); replace BK513 := Op.k (Op.b4 (Op.bt BK513.out) hb); replace HB := Op.k (Op.a5 (Op.ht HB.out) hb); (try clear hb); (try clear hb2); (try clear hk); (try clear hi); (try clear ho0); (try clear ho1)) | ((with_reducible refine gate_dst (N := 25) rfl ?_); (try (refine gate_guard (by rfl) ?_; dsimp only)); refine box_event ?hg (N := 25) ?hd (cs := #[.slice none 0 0, .slice none 0 0]) (t := 25) ?hr ?_; (case hd => rfl); (case hg => rfl); (case hr => first | (go_simp; done) | (go_simp; rfl)); intro gb544 hg w126 hbox hb; replace HO_498000 := Op.k (Kd.S_below (Op.st HO_498000.out) hb); replace HO_498001 := Op.k (Kd.R_below (Op.rt HO_498001.out) hb); replace HO_506000 := Op.k (Kd.S_below (Op.st HO_506000.out) hb); replace HO_506001 := Op.k (Kd.R_below (Op.rt HO_506001.out) hb); replace HO_514000 := Op.k (Kd.S_below (Op.st HO_514000.out) hb); replace HO_514001 := Op.k (Kd.R_below (Op.rt HO_514001.out) hb); replace HO538 := Op.k (Kd.S_below (Op.st HO538.out) hb); replace HO541 := Op.k (Kd.R_below (Op.rt HO541.out) hb); have BK544 := Op.k (hbox); have GW544 := Op.k ((Op.nz hg (Op.ht HB.out) : w.heap.size ≤ gb544)); have GE544 := Op.k ((Op.nz hg (Op.ht HB.out) : w.heap.size ≤ gb544)); replace HB := Op.k (Op.a5 (Op.ht HB.out) hb); have NB497_544 := Op.k ((Op.nl hg (Op.bt BK497.out) : gb497 ≠ gb544)); have NB544_497 := Op.k ((Op.ng hg (Op.bt BK497.out) : gb544 ≠ gb497)); replace BK497 := Op.k (Op.b4 (Op.bt BK497.out) hb); have NB505_544 := Op.k ((Op.nl hg (Op.bt BK505.out) : gb505 ≠ gb544)); have NB544_505 := Op.k ((Op.ng hg (Op.bt BK505.out) : gb544 ≠ gb505)); replace BK505 := Op.k (Op.b4 (Op.bt BK505.out) hb); have NB513_544 := Op.k ((Op.nl hg (Op.bt BK513.out) : gb513 ≠ gb544)); have NB544_513 := Op.k ((Op.ng hg (Op.bt BK513.out) : gb544 ≠ gb513)); replace BK513 := Op.k (Op.b4 (Op.bt BK513.out) hb); clear hb hbox hg; obtain ⟨Ao127, co127, eo127⟩ := Kd.S_slice HO538.out; subst eo127; have hnb128 := NB544_497.out; have hnc128 := NB497_544.out; have hnb129 := NB544_505.out; have hnc129 := NB505_544.out; have hnb130 := NB544_513.out; have hnc130 := NB513_544.out; have hcz131_0 := Op.c0 BK544.out; have hcz131_1 := Op.c1 BK544.out; have hfz131_0 := Op.bf BK544.out 0; have hfz131_1 := Op.bf BK544.out 1; obtain ⟨Ao132, co132, eo132⟩ := Kd.R_slice HO541.out; subst eo132) | ((with_reducible refine gate_callee (f := 30) rfl ?_); refine goesL_ (some 211) rfl rfl Try.func30 (by kernel_rfl) rfl #[.agg #[.slice Ao127 t536.length co127, .slice Ao132 t539.length co132], .int .i64 t542, .int .i64 t543] rfl (by (try simp only [List.map_toArray, List.map_cons, List.map_nil]); first | done | rfl | (simp only [List.length_drop, List.length_take]; rfl)) ?_; (with_reducible refine (impl_DiffIn.calls kj42 _ _ t536 _ _ t539 t542 t543 t545 t548 _ ?side1 ?side2 ?side3 ?side4 A119.out).mono ?_); (case side1 => exact (Kd.S_reads' (Op.sf HO538.out BK544.out)).2.2); (case side2 => exact (Kd.S_reads' HO538.out).2.1); (case side3 => exact (Kd.R_reads' (Op.rf HO541.out BK544.out)).2.2); (case side4 => exact (Kd.R_reads' HO541.out).2.1); rintro e w133 ⟨v546, rfl, ho0, hb⟩; refine ⟨_, rfl, ?_⟩; replace HO_498000 := Op.k (Kd.S_elder' (Op.sf HO_498000.out BK544.out) (Kd.R_base ho0) hb); replace HO_506000 := Op.k (Kd.S_elder' (Op.sf HO_506000.out BK544.out) (Kd.R_base ho0) hb); replace HO_514000 := Op.k (Kd.S_elder' (Op.sf HO_514000.out BK544.out) (Kd.R_base ho0) hb); replace HO538 := Op.k (Kd.S_elder' (Op.sf HO538.out BK544.out) (Kd.R_base ho0) hb); have HO547 := Op.k (Kd.R_lower (Kd.R_new' (Kd.R_new' (Kd.R_new' (Kd.R_new' ho0 (Kd.R_lt (Op.rf HO_498001.out BK544.out))) (Kd.R_lt (Op.rf HO_506001.out BK544.out))) (Kd.R_lt (Op.rf HO_514001.out BK544.out))) (Kd.R_lt (Op.rf HO541.out BK544.out))) (Op.a6 (Op.ht HB.out))); replace HO_498001 := Op.k (Kd.R_elder' (Op.rf HO_498001.out BK544.out) (Kd.R_base ho0) hb); replace HO_506001 := Op.k (Kd.R_elder' (Op.rf HO_506001.out BK544.out) (Kd.R_base ho0) hb); replace HO_514001 := Op.k (Kd.R_elder' (Op.rf HO_514001.out BK544.out) (Kd.R_base ho0) hb); replace HO541 := Op.k (Kd.R_elder' (Op.rf HO541.out BK544.out) (Kd.R_base ho0) hb); replace BK497 := Op.k (Op.b4 (Op.bt BK497.out) hb); replace BK505 := Op.k (Op.b4 (Op.bt BK505.out) hb); replace BK513 := Op.k (Op.b4 (Op.bt BK513.out) hb); replace BK544 := Op.k (Op.b4 (g := gb544) (o := .cells #[.slice Ao127 t536.length co127, .slice Ao132 t539.length co132] 25 (0, 0)) (Op.bv BK544.out) hb); replace HB := Op.k (Op.a5 (Op.ht HB.out) hb); (try clear hb); (try clear hb2); (try clear hk); (try clear hi); (try clear ho0); have hcz134_0 := Op.c0 BK544.out; have hcz134_1 := Op.c1 BK544.out; have hfz134_0 := Op.bf BK544.out 0; have hfz134_1 := Op.bf BK544.out 1) | ((with_reducible refine gate_callee (f := 29) rfl ?_); refine goesL_ (some 218) rfl rfl Try.func29 (by kernel_rfl) rfl #[.agg #[.slice Ao127 t536.length co127, .slice Ao132 t539.length co132], .int .i64 t542, .int .i64 t543] rfl (by (try simp only [List.map_toArray, List.map_cons, List.map_nil]); first | done | rfl | (simp only [List.length_drop, List.length_take]; rfl)) ?_; (with_reducible refine (spec_DiffIn.calls kj42 _ _ t536 _ _ t539 t542 t543 t549 t552 _ ?side1 ?side2 ?side3 ?side4 A120.out).mono ?_); (case side1 => exact Op.ct (Kd.S_reads' HO538.out).2.2); (case side2 => exact (Kd.S_reads' HO538.out).2.1); (case side3 => exact Op.ct (Kd.R_reads' HO541.out).2.2); (case side4 => exact (Kd.R_reads' HO541.out).2.1); rintro e w135 ⟨v550, rfl, ho0, hb⟩; refine ⟨_, rfl, ?_⟩; replace HO_498000 := Op.k (Kd.S_elder' (Op.st HO_498000.out) (Kd.R_base ho0) hb); replace HO_506000 := Op.k (Kd.S_elder' (Op.st HO_506000.out) (Kd.R_base ho0) hb); replace HO_514000 := Op.k (Kd.S_elder' (Op.st HO_514000.out) (Kd.R_base ho0) hb); replace HO538 := Op.k (Kd.S_elder' (Op.st HO538.out) (Kd.R_base ho0) hb); have HO551 := Op.k (Kd.R_lower (Kd.R_new' (Kd.R_new' (Kd.R_new' (Kd.R_new' (Kd.R_new' ho0 (Kd.R_lt (Op.rt HO_498001.out))) (Kd.R_lt (Op.rt HO_506001.out))) (Kd.R_lt (Op.rt HO_514001.out))) (Kd.R_lt (Op.rt HO541.out))) (Kd.R_lt (Op.rt HO547.out))) (Op.a6 (Op.ht HB.out))); replace HO_498001 := Op.k (Kd.R_elder' (Op.rt HO_498001.out) (Kd.R_base ho0) hb); replace HO_506001 := Op.k (Kd.R_elder' (Op.rt HO_506001.out) (Kd.R_base ho0) hb); replace HO_514001 := Op.k (Kd.R_elder' (Op.rt HO_514001.out) (Kd.R_base ho0) hb); replace HO541 := Op.k (Kd.R_elder' (Op.rt HO541.out) (Kd.R_base ho0) hb); replace HO547 := Op.k (Kd.R_elder' (Op.rt HO547.out) (Kd.R_base ho0) hb); replace BK497 := Op.k (Op.b4 (Op.bt BK497.out) hb); replace BK505 := Op.k (Op.b4 (Op.bt BK505.out) hb); replace BK513 := Op.k (Op.b4 (Op.bt BK513.out) hb); replace BK544 := Op.k (Op.b4 (Op.bt BK544.out) hb); replace HB := Op.k (Op.a5 (Op.ht HB.out) hb); (try clear hb); (try clear hb2); (try clear hk); (try clear hi); (try clear ho0)) | ((with_reducible refine gate_callee (f := 39) rfl ?_); refine goesL_ (some 223) rfl rfl Try.func39 (by kernel_rfl) rfl #[.slice A1 l1.length c1] rfl (by (try simp only [List.map_toArray, List.map_cons, List.map_nil]); first | done | rfl | (simp only [List.length_drop, List.length_take]; rfl)) ?_; (with_reducible refine (spec_DrawCloneOf.calls kj42 _ _ l1 t553 t556 t559 _ ?side1 ?side2 A121.out).mono ?_); (case side1 => exact Op.ct (Kd.C_below HR1.out HB.out)); (case side2 => exact HC1.out); rintro e w136 ⟨v554, v557, rfl, ho0, ho1, hb⟩; refine ⟨_, rfl, ?_⟩; have HO555 := Op.k (Kd.S_lower (Kd.S_new' (Kd.S_new' (Kd.S_new' (Kd.S_new' (Kd.S_new' (Kd.S_new' (Kd.S_new' (Kd.S_new' (Kd.S_new' (Kd.S_new' ho0 (Kd.S_lt (Op.st HO_498000.out))) (Kd.R_lt (Op.rt HO_498001.out))) (Kd.S_lt (Op.st HO_506000.out))) (Kd.R_lt (Op.rt HO_506001.out))) (Kd.S_lt (Op.st HO_514000.out))) (Kd.R_lt (Op.rt HO_514001.out))) (Kd.S_lt (Op.st HO538.out))) (Kd.R_lt (Op.rt HO541.out))) (Kd.R_lt (Op.rt HO547.out))) (Kd.R_lt (Op.rt HO551.out))) (Op.a6 (Op.ht HB.out))); replace HO_498000 := Op.k (Kd.S_mono (Kd.S_told (Kd.S_told (Kd.S_old (Op.st HO_498000.out) hb) (Kd.S_base ho0)) (Kd.R_base ho1)) (fun _ h_ => h_.1)); replace HO_506000 := Op.k (Kd.S_mono (Kd.S_told (Kd.S_told (Kd.S_old (Op.st HO_506000.out) hb) (Kd.S_base ho0)) (Kd.R_base ho1)) (fun _ h_ => h_.1)); replace HO_514000 := Op.k (Kd.S_mono (Kd.S_told (Kd.S_told (Kd.S_old (Op.st HO_514000.out) hb) (Kd.S_base ho0)) (Kd.R_base ho1)) (fun _ h_ => h_.1)); replace HO538 := Op.k (Kd.S_mono (Kd.S_told (Kd.S_told (Kd.S_old (Op.st HO538.out) hb) (Kd.S_base ho0)) (Kd.R_base ho1)) (fun _ h_ => h_.1)); have HO558 := Op.k (Kd.R_lower (Kd.R_new' (Kd.R_new' (Kd.R_new' (Kd.R_new' (Kd.R_new' (Kd.R_new' ho1 (Kd.R_lt (Op.rt HO_498001.out))) (Kd.R_lt (Op.rt HO_506001.out))) (Kd.R_lt (Op.rt HO_514001.out))) (Kd.R_lt (Op.rt HO541.out))) (Kd.R_lt (Op.rt HO547.out))) (Kd.R_lt (Op.rt HO551.out))) (Op.a6 (Op.ht HB.out))); replace HO_498001 := Op.k (Kd.R_elder' (Op.rt HO_498001.out) (Kd.R_base ho1) hb); replace HO_506001 := Op.k (Kd.R_elder' (Op.rt HO_506001.out) (Kd.R_base ho1) hb); replace HO_514001 := Op.k (Kd.R_elder' (Op.rt HO_514001.out) (Kd.R_base ho1) hb); replace HO541 := Op.k (Kd.R_elder' (Op.rt HO541.out) (Kd.R_base ho1) hb); replace HO547 := Op.k (Kd.R_elder' (Op.rt HO547.out) (Kd.R_base ho1) hb); replace HO551 := Op.k (Kd.R_elder' (Op.rt HO551.out) (Kd.R_base ho1) hb); replace BK497 := Op.k (Op.b4 (Op.bt BK497.out) hb); replace BK505 := Op.k (Op.b4 (Op.bt BK505.out) hb); replace BK513 := Op.k (Op.b4 (Op.bt BK513.out) hb); replace BK544 := Op.k (Op.b4 (Op.bt BK544.out) hb); replace HB := Op.k (Op.a5 (Op.ht HB.out) hb); (try clear hb); (try clear hb2); (try clear hk); (try clear hi); (try clear ho0); (try clear ho1)) | ((with_reducible refine gate_dst (N := 32) rfl ?_); (try (refine gate_guard (by rfl) ?_; dsimp only)); refine box_event ?hg (N := 32) ?hd (cs := #[.slice none 0 0, .slice none 0 0]) (t := 25) ?hr ?_; (case hd => rfl); (case hg => rfl); (case hr => first | (go_simp; done) | (go_simp; rfl)); intro gb560 hg w137 hbox hb; replace HO_498000 := Op.k (Kd.S_below (Op.st HO_498000.out) hb); replace HO_498001 := Op.k (Kd.R_below (Op.rt HO_498001.out) hb); replace HO_506000 := Op.k (Kd.S_below (Op.st HO_506000.out) hb); replace HO_506001 := Op.k (Kd.R_below (Op.rt HO_506001.out) hb); replace HO_514000 := Op.k (Kd.S_below (Op.st HO_514000.out) hb); replace HO_514001 := Op.k (Kd.R_below (Op.rt HO_514001.out) hb); replace HO538 := Op.k (Kd.S_below (Op.st HO538.out) hb); replace HO541 := Op.k (Kd.R_below (Op.rt HO541.out) hb); replace HO547 := Op.k (Kd.R_below (Op.rt HO547.out) hb); replace HO551 := Op.k (Kd.R_below (Op.rt HO551.out) hb); replace HO555 := Op.k (Kd.S_below (Op.st HO555.out) hb); replace HO558 := Op.k (Kd.R_below (Op.rt HO558.out) hb); have BK560 := Op.k (hbox); have GW560 := Op.k ((Op.nz hg (Op.ht HB.out) : w.heap.size ≤ gb560)); have GE560 := Op.k ((Op.nz hg (Op.ht HB.out) : w.heap.size ≤ gb560)); replace HB := Op.k (Op.a5 (Op.ht HB.out) hb); have NB497_560 := Op.k ((Op.nl hg (Op.bt BK497.out) : gb497 ≠ gb560)); have NB560_497 := Op.k ((Op.ng hg (Op.bt BK497.out) : gb560 ≠ gb497)); replace BK497 := Op.k (Op.b4 (Op.bt BK497.out) hb); have NB505_560 := Op.k ((Op.nl hg (Op.bt BK505.out) : gb505 ≠ gb560)); have NB560_505 := Op.k ((Op.ng hg (Op.bt BK505.out) : gb560 ≠ gb505)); replace BK505 := Op.k (Op.b4 (Op.bt BK505.out) hb); have NB513_560 := Op.k ((Op.nl hg (Op.bt BK513.out) : gb513 ≠ gb560)); have NB560_513 := Op.k ((Op.ng hg (Op.bt BK513.out) : gb560 ≠ gb513)); replace BK513 := Op.k (Op.b4 (Op.bt BK513.out) hb); have NB544_560 := Op.k ((Op.nl hg (Op.bt BK544.out) : gb544 ≠ gb560)); have NB560_544 := Op.k ((Op.ng hg (Op.bt BK544.out) : gb560 ≠ gb544)); replace BK544 := Op.k (Op.b4 (Op.bt BK544.out) hb); clear hb hbox hg; obtain ⟨Ao138, co138, eo138⟩ := Kd.S_slice HO555.out; subst eo138; have hnb139 := NB560_497.out; have hnc139 := NB497_560.out; have hnb140 := NB560_505.out; have hnc140 := NB505_560.out; have hnb141 := NB560_513.out; have hnc141 := NB513_560.out; have hnb142 := NB560_544.out; have hnc142 := NB544_560.out; have hcz143_0 := Op.c0 BK560.out; have hcz143_1 := Op.c1 BK560.out; have hfz143_0 := Op.bf BK560.out 0; have hfz143_1 := Op.bf BK560.out 1; obtain ⟨Ao144, co144, eo144⟩ := Kd.R_slice HO558.out; subst eo144) | ((with_reducible refine gate_callee (f := 32) rfl ?_); refine goesL_ (some 229) rfl rfl Try.func32 (by kernel_rfl) rfl #[.agg #[.slice Ao138 t553.length co138, .slice Ao144 t556.length co144], .int .i64 t559] rfl (by (try simp only [List.map_toArray, List.map_cons, List.map_nil]); first | done | rfl | (simp only [List.length_drop, List.length_take]; rfl)) ?_; (with_reducible refine (impl_CloneOf.calls kj42 _ _ t553 _ _ t556 t559 t561 t564 t567 _ ?side1 ?side2 ?side3 ?side4 A122.out).mono ?_); (case side1 => exact (Kd.S_reads' (Op.sf HO555.out BK560.out)).2.2); (case side2 => exact (Kd.S_reads' HO555.out).2.1); (case side3 => exact (Kd.R_reads' (Op.rf HO558.out BK560.out)).2.2); (case side4 => exact (Kd.R_reads' HO558.out).2.1); rintro e w145 ⟨v562, v565, rfl, ho0, ho1, hb⟩; refine ⟨_, rfl, ?_⟩; have HO563 := Op.k (Kd.S_lower (Kd.S_new' (Kd.S_new' (Kd.S_new' (Kd.S_new' (Kd.S_new' (Kd.S_new' (Kd.S_new' (Kd.S_new' (Kd.S_new' (Kd.S_new' (Kd.S_new' (Kd.S_new' ho0 (Kd.S_lt (Op.sf HO_498000.out BK560.out))) (Kd.R_lt (Op.rf HO_498001.out BK560.out))) (Kd.S_lt (Op.sf HO_506000.out BK560.out))) (Kd.R_lt (Op.rf HO_506001.out BK560.out))) (Kd.S_lt (Op.sf HO_514000.out BK560.out))) (Kd.R_lt (Op.rf HO_514001.out BK560.out))) (Kd.S_lt (Op.sf HO538.out BK560.out))) (Kd.R_lt (Op.rf HO541.out BK560.out))) (Kd.R_lt (Op.rf HO547.out BK560.out))) (Kd.R_lt (Op.rf HO551.out BK560.out))) (Kd.S_lt (Op.sf HO555.out BK560.out))) (Kd.R_lt (Op.rf HO558.out BK560.out))) (Op.a6 (Op.ht HB.out))); replace HO_498000 := Op.k (Kd.S_mono (Kd.S_told (Kd.S_told (Kd.S_old (Op.sf HO_498000.out BK560.out) hb) (Kd.S_base ho0)) (Kd.R_base ho1)) (fun _ h_ => h_.1)); replace HO_506000 := Op.k (Kd.S_mono (Kd.S_told (Kd.S_told (Kd.S_old (Op.sf HO_506000.out BK560.out) hb) (Kd.S_base ho0)) (Kd.R_base ho1)) (fun _ h_ => h_.1)); replace HO_514000 := Op.k (Kd.S_mono (Kd.S_told (Kd.S_told (Kd.S_old (Op.sf HO_514000.out BK560.out) hb) (Kd.S_base ho0)) (Kd.R_base ho1)) (fun _ h_ => h_.1)); replace HO538 := Op.k (Kd.S_mono (Kd.S_told (Kd.S_told (Kd.S_old (Op.sf HO538.out BK560.out) hb) (Kd.S_base ho0)) (Kd.R_base ho1)) (fun _ h_ => h_.1)); replace HO555 := Op.k (Kd.S_mono (Kd.S_told (Kd.S_told (Kd.S_old (Op.sf HO555.out BK560.out) hb) (Kd.S_base ho0)) (Kd.R_base ho1)) (fun _ h_ => h_.1)); have HO566 := Op.k (Kd.R_lower (Kd.R_new' (Kd.R_new' (Kd.R_new' (Kd.R_new' (Kd.R_new' (Kd.R_new' (Kd.R_new' ho1 (Kd.R_lt (Op.rf HO_498001.out BK560.out))) (Kd.R_lt (Op.rf HO_506001.out BK560.out))) (Kd.R_lt (Op.rf HO_514001.out BK560.out))) (Kd.R_lt (Op.rf HO541.out BK560.out))) (Kd.R_lt (Op.rf HO547.out BK560.out))) (Kd.R_lt (Op.rf HO551.out BK560.out))) (Kd.R_lt (Op.rf HO558.out BK560.out))) (Op.a6 (Op.ht HB.out))); replace HO_498001 := Op.k (Kd.R_elder' (Op.rf HO_498001.out BK560.out) (Kd.R_base ho1) hb); replace HO_506001 := Op.k (Kd.R_elder' (Op.rf HO_506001.out BK560.out) (Kd.R_base ho1) hb); replace HO_514001 := Op.k (Kd.R_elder' (Op.rf HO_514001.out BK560.out) (Kd.R_base ho1) hb); replace HO541 := Op.k (Kd.R_elder' (Op.rf HO541.out BK560.out) (Kd.R_base ho1) hb); replace HO547 := Op.k (Kd.R_elder' (Op.rf HO547.out BK560.out) (Kd.R_base ho1) hb); replace HO551 := Op.k (Kd.R_elder' (Op.rf HO551.out BK560.out) (Kd.R_base ho1) hb); replace HO558 := Op.k (Kd.R_elder' (Op.rf HO558.out BK560.out) (Kd.R_base ho1) hb); replace BK497 := Op.k (Op.b4 (Op.bt BK497.out) hb); replace BK505 := Op.k (Op.b4 (Op.bt BK505.out) hb); replace BK513 := Op.k (Op.b4 (Op.bt BK513.out) hb); replace BK544 := Op.k (Op.b4 (Op.bt BK544.out) hb); replace BK560 := Op.k (Op.b4 (g := gb560) (o := .cells #[.slice Ao138 t553.length co138, .slice Ao144 t556.length co144] 25 (0, 0)) (Op.bv BK560.out) hb); replace HB := Op.k (Op.a5 (Op.ht HB.out) hb); (try clear hb); (try clear hb2); (try clear hk); (try clear hi); (try clear ho0); (try clear ho1)) | ((with_reducible refine gate_dst (N := 34) rfl ?_); (try (refine gate_guard (by rfl) ?_; dsimp only)); refine box_event ?hg (N := 34) ?hd (cs := #[.slice none 0 0, .slice none 0 0]) (t := 25) ?hr ?_; (case hd => rfl); (case hg => rfl); (case hr => first | (go_simp; done) | (go_simp; rfl)); intro gb568 hg w146 hbox hb; replace HO_498000 := Op.k (Kd.S_below (Op.st HO_498000.out) hb); replace HO_498001 := Op.k (Kd.R_below (Op.rt HO_498001.out) hb); replace HO_506000 := Op.k (Kd.S_below (Op.st HO_506000.out) hb); replace HO_506001 := Op.k (Kd.R_below (Op.rt HO_506001.out) hb); replace HO_514000 := Op.k (Kd.S_below (Op.st HO_514000.out) hb); replace HO_514001 := Op.k (Kd.R_below (Op.rt HO_514001.out) hb); replace HO538 := Op.k (Kd.S_below (Op.st HO538.out) hb); replace HO541 := Op.k (Kd.R_below (Op.rt HO541.out) hb); replace HO547 := Op.k (Kd.R_below (Op.rt HO547.out) hb); replace HO551 := Op.k (Kd.R_below (Op.rt HO551.out) hb); replace HO555 := Op.k (Kd.S_below (Op.st HO555.out) hb); replace HO558 := Op.k (Kd.R_below (Op.rt HO558.out) hb); replace HO563 := Op.k (Kd.S_below (Op.st HO563.out) hb); replace HO566 := Op.k (Kd.R_below (Op.rt HO566.out) hb); have BK568 := Op.k (hbox); have GW568 := Op.k ((Op.nz hg (Op.ht HB.out) : w.heap.size ≤ gb568)); have GE568 := Op.k ((Op.nz hg (Op.ht HB.out) : w.heap.size ≤ gb568)); replace HB := Op.k (Op.a5 (Op.ht HB.out) hb); have NB497_568 := Op.k ((Op.nl hg (Op.bt BK497.out) : gb497 ≠ gb568)); have NB568_497 := Op.k ((Op.ng hg (Op.bt BK497.out) : gb568 ≠ gb497)); replace BK497 := Op.k (Op.b4 (Op.bt BK497.out) hb); have NB505_568 := Op.k ((Op.nl hg (Op.bt BK505.out) : gb505 ≠ gb568)); have NB568_505 := Op.k ((Op.ng hg (Op.bt BK505.out) : gb568 ≠ gb505)); replace BK505 := Op.k (Op.b4 (Op.bt BK505.out) hb); have NB513_568 := Op.k ((Op.nl hg (Op.bt BK513.out) : gb513 ≠ gb568)); have NB568_513 := Op.k ((Op.ng hg (Op.bt BK513.out) : gb568 ≠ gb513)); replace BK513 := Op.k (Op.b4 (Op.bt BK513.out) hb); have NB544_568 := Op.k ((Op.nl hg (Op.bt BK544.out) : gb544 ≠ gb568)); have NB568_544 := Op.k ((Op.ng hg (Op.bt BK544.out) : gb568 ≠ gb544)); replace BK544 := Op.k (Op.b4 (Op.bt BK544.out) hb); have NB560_568 := Op.k ((Op.nl hg (Op.bt BK560.out) : gb560 ≠ gb568)); have NB568_560 := Op.k ((Op.ng hg (Op.bt BK560.out) : gb568 ≠ gb560)); replace BK560 := Op.k (Op.b4 (Op.bt BK560.out) hb); clear hb hbox hg; obtain ⟨Ao147, co147, eo147⟩ := Kd.S_slice HO563.out; subst eo147; have hnb148 := NB568_497.out; have hnc148 := NB497_568.out; have hnb149 := NB568_505.out; have hnc149 := NB505_568.out; have hnb150 := NB568_513.out; have hnc150 := NB513_568.out; have hnb151 := NB568_544.out; have hnc151 := NB544_568.out; have hnb152 := NB568_560.out; have hnc152 := NB560_568.out; have hcz153_0 := Op.c0 BK568.out; have hcz153_1 := Op.c1 BK568.out; have hfz153_0 := Op.bf BK568.out 0; have hfz153_1 := Op.bf BK568.out 1; obtain ⟨Ao154, co154, eo154⟩ := Kd.R_slice HO566.out; subst eo154; have hcz155_0 := Op.c0 BK560.out; have hcz155_1 := Op.c1 BK560.out; have hfz155_0 := Op.bf BK560.out 0; have hfz155_1 := Op.bf BK560.out 1) | ((with_reducible refine gate_callee (f := 31) rfl ?_); refine goesL_ (some 235) rfl rfl Try.func31 (by kernel_rfl) rfl #[.agg #[.slice Ao138 t553.length co138, .slice Ao144 t556.length co144], .int .i64 t559] rfl (by (try simp only [List.map_toArray, List.map_cons, List.map_nil]); first | done | rfl | (simp only [List.length_drop, List.length_take]; rfl)) ?_; (with_reducible refine (spec_CloneOf.calls kj42 _ _ t553 _ _ t556 t559 t569 t572 t575 _ ?side1 ?side2 ?side3 ?side4 A123.out).mono ?_); (case side1 => exact (Kd.S_reads' (Op.sf HO555.out BK568.out)).2.2); (case side2 => exact (Kd.S_reads' HO555.out).2.1); (case side3 => exact (Kd.R_reads' (Op.rf HO558.out BK568.out)).2.2); (case side4 => exact (Kd.R_reads' HO558.out).2.1); rintro e w156 ⟨v570, v573, rfl, ho0, ho1, hb⟩; refine ⟨_, rfl, ?_⟩; have HO571 := Op.k (Kd.S_lower (Kd.S_new' (Kd.S_new' (Kd.S_new' (Kd.S_new' (Kd.S_new' (Kd.S_new' (Kd.S_new' (Kd.S_new' (Kd.S_new' (Kd.S_new' (Kd.S_new' (Kd.S_new' (Kd.S_new' (Kd.S_new' ho0 (Kd.S_lt (Op.sf HO_498000.out BK568.out))) (Kd.R_lt (Op.rf HO_498001.out BK568.out))) (Kd.S_lt (Op.sf HO_506000.out BK568.out))) (Kd.R_lt (Op.rf HO_506001.out BK568.out))) (Kd.S_lt (Op.sf HO_514000.out BK568.out))) (Kd.R_lt (Op.rf HO_514001.out BK568.out))) (Kd.S_lt (Op.sf HO538.out BK568.out))) (Kd.R_lt (Op.rf HO541.out BK568.out))) (Kd.R_lt (Op.rf HO547.out BK568.out))) (Kd.R_lt (Op.rf HO551.out BK568.out))) (Kd.S_lt (Op.sf HO555.out BK568.out))) (Kd.R_lt (Op.rf HO558.out BK568.out))) (Kd.S_lt (Op.sf HO563.out BK568.out))) (Kd.R_lt (Op.rf HO566.out BK568.out))) (Op.a6 (Op.ht HB.out))); replace HO_498000 := Op.k (Kd.S_mono (Kd.S_told (Kd.S_told (Kd.S_old (Op.sf HO_498000.out BK568.out) hb) (Kd.S_base ho0)) (Kd.R_base ho1)) (fun _ h_ => h_.1)); replace HO_506000 := Op.k (Kd.S_mono (Kd.S_told (Kd.S_told (Kd.S_old (Op.sf HO_506000.out BK568.out) hb) (Kd.S_base ho0)) (Kd.R_base ho1)) (fun _ h_ => h_.1)); replace HO_514000 := Op.k (Kd.S_mono (Kd.S_told (Kd.S_told (Kd.S_old (Op.sf HO_514000.out BK568.out) hb) (Kd.S_base ho0)) (Kd.R_base ho1)) (fun _ h_ => h_.1)); replace HO538 := Op.k (Kd.S_mono (Kd.S_told (Kd.S_told (Kd.S_old (Op.sf HO538.out BK568.out) hb) (Kd.S_base ho0)) (Kd.R_base ho1)) (fun _ h_ => h_.1)); replace HO555 := Op.k (Kd.S_mono (Kd.S_told (Kd.S_told (Kd.S_old (Op.sf HO555.out BK568.out) hb) (Kd.S_base ho0)) (Kd.R_base ho1)) (fun _ h_ => h_.1)); replace HO563 := Op.k (Kd.S_mono (Kd.S_told (Kd.S_told (Kd.S_old (Op.sf HO563.out BK568.out) hb) (Kd.S_base ho0)) (Kd.R_base ho1)) (fun _ h_ => h_.1)); have HO574 := Op.k (Kd.R_lower (Kd.R_new' (Kd.R_new' (Kd.R_new' (Kd.R_new' (Kd.R_new' (Kd.R_new' (Kd.R_new' (Kd.R_new' ho1 (Kd.R_lt (Op.rf HO_498001.out BK568.out))) (Kd.R_lt (Op.rf HO_506001.out BK568.out))) (Kd.R_lt (Op.rf HO_514001.out BK568.out))) (Kd.R_lt (Op.rf HO541.out BK568.out))) (Kd.R_lt (Op.rf HO547.out BK568.out))) (Kd.R_lt (Op.rf HO551.out BK568.out))) (Kd.R_lt (Op.rf HO558.out BK568.out))) (Kd.R_lt (Op.rf HO566.out BK568.out))) (Op.a6 (Op.ht HB.out))); replace HO_498001 := Op.k (Kd.R_elder' (Op.rf HO_498001.out BK568.out) (Kd.R_base ho1) hb); replace HO_506001 := Op.k (Kd.R_elder' (Op.rf HO_506001.out BK568.out) (Kd.R_base ho1) hb); replace HO_514001 := Op.k (Kd.R_elder' (Op.rf HO_514001.out BK568.out) (Kd.R_base ho1) hb); replace HO541 := Op.k (Kd.R_elder' (Op.rf HO541.out BK568.out) (Kd.R_base ho1) hb); replace HO547 := Op.k (Kd.R_elder' (Op.rf HO547.out BK568.out) (Kd.R_base ho1) hb); replace HO551 := Op.k (Kd.R_elder' (Op.rf HO551.out BK568.out) (Kd.R_base ho1) hb); replace HO558 := Op.k (Kd.R_elder' (Op.rf HO558.out BK568.out) (Kd.R_base ho1) hb); replace HO566 := Op.k (Kd.R_elder' (Op.rf HO566.out BK568.out) (Kd.R_base ho1) hb); replace BK497 := Op.k (Op.b4 (Op.bt BK497.out) hb); replace BK505 := Op.k (Op.b4 (Op.bt BK505.out) hb); replace BK513 := Op.k (Op.b4 (Op.bt BK513.out) hb); replace BK544 := Op.k (Op.b4 (Op.bt BK544.out) hb); replace BK560 := Op.k (Op.b4 (Op.bt BK560.out) hb); replace BK568 := Op.k (Op.b4 (g := gb568) (o := .cells #[.slice Ao147 t561.length co147, .slice Ao154 t564.length co154] 25 (0, 0)) (Op.bv BK568.out) hb); replace HB := Op.k (Op.a5 (Op.ht HB.out) hb); (try clear hb); (try clear hb2); (try clear hk); (try clear hi); (try clear ho0); (try clear ho1)) | ((with_reducible refine gate_dst (N := 36) rfl ?_); (try (refine gate_guard (by rfl) ?_; dsimp only)); refine box_event ?hg (N := 36) ?hd (cs := #[.slice none 0 0, .slice none 0 0]) (t := 25) ?hr ?_; (case hd => rfl); (case hg => rfl); (case hr => first | (go_simp; done) | (go_simp; rfl)); intro gb576 hg w157 hbox hb; replace HO_498000 := Op.k (Kd.S_below (Op.st HO_498000.out) hb); replace HO_498001 := Op.k (Kd.R_below (Op.rt HO_498001.out) hb); replace HO_506000 := Op.k (Kd.S_below (Op.st HO_506000.out) hb); replace HO_506001 := Op.k (Kd.R_below (Op.rt HO_506001.out) hb); replace HO_514000 := Op.k (Kd.S_below (Op.st HO_514000.out) hb); replace HO_514001 := Op.k (Kd.R_below (Op.rt HO_514001.out) hb); replace HO538 := Op.k (Kd.S_below (Op.st HO538.out) hb); replace HO541 := Op.k (Kd.R_below (Op.rt HO541.out) hb); replace HO547 := Op.k (Kd.R_below (Op.rt HO547.out) hb); replace HO551 := Op.k (Kd.R_below (Op.rt HO551.out) hb); replace HO555 := Op.k (Kd.S_below (Op.st HO555.out) hb); replace HO558 := Op.k (Kd.R_below (Op.rt HO558.out) hb); replace HO563 := Op.k (Kd.S_below (Op.st HO563.out) hb); replace HO566 := Op.k (Kd.R_below (Op.rt HO566.out) hb); replace HO571 := Op.k (Kd.S_below (Op.st HO571.out) hb); replace HO574 := Op.k (Kd.R_below (Op.rt HO574.out) hb); have BK576 := Op.k (hbox); have GW576 := Op.k ((Op.nz hg (Op.ht HB.out) : w.heap.size ≤ gb576)); have GE576 := Op.k ((Op.nz hg (Op.ht HB.out) : w.heap.size ≤ gb576)); replace HB := Op.k (Op.a5 (Op.ht HB.out) hb); have NB497_576 := Op.k ((Op.nl hg (Op.bt BK497.out) : gb497 ≠ gb576)); have NB576_497 := Op.k ((Op.ng hg (Op.bt BK497.out) : gb576 ≠ gb497)); replace BK497 := Op.k (Op.b4 (Op.bt BK497.out) hb); have NB505_576 := Op.k ((Op.nl hg (Op.bt BK505.out) : gb505 ≠ gb576)); have NB576_505 := Op.k ((Op.ng hg (Op.bt BK505.out) : gb576 ≠ gb505)); replace BK505 := Op.k (Op.b4 (Op.bt BK505.out) hb); have NB513_576 := Op.k ((Op.nl hg (Op.bt BK513.out) : gb513 ≠ gb576)); have NB576_513 := Op.k ((Op.ng hg (Op.bt BK513.out) : gb576 ≠ gb513)); replace BK513 := Op.k (Op.b4 (Op.bt BK513.out) hb); have NB544_576 := Op.k ((Op.nl hg (Op.bt BK544.out) : gb544 ≠ gb576)); have NB576_544 := Op.k ((Op.ng hg (Op.bt BK544.out) : gb576 ≠ gb544)); replace BK544 := Op.k (Op.b4 (Op.bt BK544.out) hb); have NB560_576 := Op.k ((Op.nl hg (Op.bt BK560.out) : gb560 ≠ gb576)); have NB576_560 := Op.k ((Op.ng hg (Op.bt BK560.out) : gb576 ≠ gb560)); replace BK560 := Op.k (Op.b4 (Op.bt BK560.out) hb); have NB568_576 := Op.k ((Op.nl hg (Op.bt BK568.out) : gb568 ≠ gb576)); have NB576_568 := Op.k ((Op.ng hg (Op.bt BK568.out) : gb576 ≠ gb568)); replace BK568 := Op.k (Op.b4 (Op.bt BK568.out) hb); clear hb hbox hg; obtain ⟨Ao158, co158, eo158⟩ := Kd.S_slice HO571.out; subst eo158; have hnb159 := NB576_497.out; have hnc159 := NB497_576.out; have hnb160 := NB576_505.out; have hnc160 := NB505_576.out; have hnb161 := NB576_513.out; have hnc161 := NB513_576.out; have hnb162 := NB576_544.out; have hnc162 := NB544_576.out; have hnb163 := NB576_560.out; have hnc163 := NB560_576.out; have hnb164 := NB576_568.out; have hnc164 := NB568_576.out; have hcz165_0 := Op.c0 BK576.out; have hcz165_1 := Op.c1 BK576.out; have hfz165_0 := Op.bf BK576.out 0; have hfz165_1 := Op.bf BK576.out 1; obtain ⟨Ao166, co166, eo166⟩ := Kd.R_slice HO574.out; subst eo166))
       (try simp only [Act.put, List.setIfInBounds_toArray, List.set_cons_zero, List.set_cons_succ])
       go_cut [257] (fun v257 wc => ∃ (kq : Nat) (x257_123 : Bool), v257 = .bool x257_123 ∧ Aside0 (laws_FnVersions.j4 kq t559 t567 x257_123 t561 t564 = some true) ∧ Aside0 (kq ≤ kj42) ∧ Aside0 (Kd.S k65 65 wc w.heap.size (fun k_ => some k_ ≠ ((.slice Ao12 t491.length co12) : Value).ownBlock ∧ some k_ ≠ ((.slice Ao15 t498.length co15) : Value).ownBlock ∧ some k_ ≠ ((.slice Ao18 t501.length co18) : Value).ownBlock ∧ some k_ ≠ ((.slice Ao22 t506.length co22) : Value).ownBlock ∧ some k_ ≠ ((.slice Ao26 t509.length co26) : Value).ownBlock ∧ some k_ ≠ ((.slice Ao127 t536.length co127) : Value).ownBlock ∧ some k_ ≠ ((.slice Ao132 t539.length co132) : Value).ownBlock ∧ some k_ ≠ ((.slice Ao138 t553.length co138) : Value).ownBlock ∧ some k_ ≠ ((.slice Ao144 t556.length co144) : Value).ownBlock ∧ some k_ ≠ ((.slice Ao147 t561.length co147) : Value).ownBlock ∧ some k_ ≠ ((.slice Ao154 t564.length co154) : Value).ownBlock ∧ some k_ ≠ ((.slice Ao158 t569.length co158) : Value).ownBlock ∧ some k_ ≠ ((.slice Ao166 t572.length co166) : Value).ownBlock) (.slice Ao10 t488.length co10) t488) ∧ Aside0 (Kd.R (Kd.int .i64) 3 wc w.heap.size (fun k_ => some k_ ≠ ((.slice Ao18 t501.length co18) : Value).ownBlock ∧ some k_ ≠ ((.slice Ao26 t509.length co26) : Value).ownBlock ∧ some k_ ≠ ((.slice Ao132 t539.length co132) : Value).ownBlock ∧ some k_ ≠ ((.slice Ao144 t556.length co144) : Value).ownBlock ∧ some k_ ≠ ((.slice Ao154 t564.length co154) : Value).ownBlock ∧ some k_ ≠ ((.slice Ao166 t572.length co166) : Value).ownBlock) (.slice Ao12 t491.length co12) t491) ∧ Aside0 (Kd.S k65 65 wc w.heap.size (fun k_ => some k_ ≠ ((.slice Ao10 t488.length co10) : Value).ownBlock ∧ some k_ ≠ ((.slice Ao12 t491.length co12) : Value).ownBlock ∧ some k_ ≠ ((.slice Ao18 t501.length co18) : Value).ownBlock ∧ some k_ ≠ ((.slice Ao22 t506.length co22) : Value).ownBlock ∧ some k_ ≠ ((.slice Ao26 t509.length co26) : Value).ownBlock ∧ some k_ ≠ ((.slice Ao127 t536.length co127) : Value).ownBlock ∧ some k_ ≠ ((.slice Ao132 t539.length co132) : Value).ownBlock ∧ some k_ ≠ ((.slice Ao138 t553.length co138) : Value).ownBlock ∧ some k_ ≠ ((.slice Ao144 t556.length co144) : Value).ownBlock ∧ some k_ ≠ ((.slice Ao147 t561.length co147) : Value).ownBlock ∧ some k_ ≠ ((.slice Ao154 t564.length co154) : Value).ownBlock ∧ some k_ ≠ ((.slice Ao158 t569.length co158) : Value).ownBlock ∧ some k_ ≠ ((.slice Ao166 t572.length co166) : Value).ownBlock) (.slice Ao15 t498.length co15) t498) ∧ Aside0 (Kd.R (Kd.int .i64) 3 wc w.heap.size (fun k_ => some k_ ≠ ((.slice Ao12 t491.length co12) : Value).ownBlock ∧ some k_ ≠ ((.slice Ao26 t509.length co26) : Value).ownBlock ∧ some k_ ≠ ((.slice Ao132 t539.length co132) : Value).ownBlock ∧ some k_ ≠ ((.slice Ao144 t556.length co144) : Value).ownBlock ∧ some k_ ≠ ((.slice Ao154 t564.length co154) : Value).ownBlock ∧ some k_ ≠ ((.slice Ao166 t572.length co166) : Value).ownBlock) (.slice Ao18 t501.length co18) t501) ∧ Aside0 (Kd.S k65 65 wc w.heap.size (fun k_ => some k_ ≠ ((.slice Ao10 t488.length co10) : Value).ownBlock ∧ some k_ ≠ ((.slice Ao12 t491.length co12) : Value).ownBlock ∧ some k_ ≠ ((.slice Ao15 t498.length co15) : Value).ownBlock ∧ some k_ ≠ ((.slice Ao18 t501.length co18) : Value).ownBlock ∧ some k_ ≠ ((.slice Ao26 t509.length co26) : Value).ownBlock ∧ some k_ ≠ ((.slice Ao127 t536.length co127) : Value).ownBlock ∧ some k_ ≠ ((.slice Ao132 t539.length co132) : Value).ownBlock ∧ some k_ ≠ ((.slice Ao138 t553.length co138) : Value).ownBlock ∧ some k_ ≠ ((.slice Ao144 t556.length co144) : Value).ownBlock ∧ some k_ ≠ ((.slice Ao147 t561.length co147) : Value).ownBlock ∧ some k_ ≠ ((.slice Ao154 t564.length co154) : Value).ownBlock ∧ some k_ ≠ ((.slice Ao158 t569.length co158) : Value).ownBlock ∧ some k_ ≠ ((.slice Ao166 t572.length co166) : Value).ownBlock) (.slice Ao22 t506.length co22) t506) ∧ Aside0 (Kd.R (Kd.int .i64) 3 wc w.heap.size (fun k_ => some k_ ≠ ((.slice Ao12 t491.length co12) : Value).ownBlock ∧ some k_ ≠ ((.slice Ao18 t501.length co18) : Value).ownBlock ∧ some k_ ≠ ((.slice Ao132 t539.length co132) : Value).ownBlock ∧ some k_ ≠ ((.slice Ao144 t556.length co144) : Value).ownBlock ∧ some k_ ≠ ((.slice Ao154 t564.length co154) : Value).ownBlock ∧ some k_ ≠ ((.slice Ao166 t572.length co166) : Value).ownBlock) (.slice Ao26 t509.length co26) t509) ∧ Aside0 (Kd.S k65 65 wc w.heap.size (fun k_ => some k_ ≠ ((.slice Ao10 t488.length co10) : Value).ownBlock ∧ some k_ ≠ ((.slice Ao12 t491.length co12) : Value).ownBlock ∧ some k_ ≠ ((.slice Ao15 t498.length co15) : Value).ownBlock ∧ some k_ ≠ ((.slice Ao18 t501.length co18) : Value).ownBlock ∧ some k_ ≠ ((.slice Ao22 t506.length co22) : Value).ownBlock ∧ some k_ ≠ ((.slice Ao26 t509.length co26) : Value).ownBlock ∧ some k_ ≠ ((.slice Ao132 t539.length co132) : Value).ownBlock ∧ some k_ ≠ ((.slice Ao138 t553.length co138) : Value).ownBlock ∧ some k_ ≠ ((.slice Ao144 t556.length co144) : Value).ownBlock ∧ some k_ ≠ ((.slice Ao147 t561.length co147) : Value).ownBlock ∧ some k_ ≠ ((.slice Ao154 t564.length co154) : Value).ownBlock ∧ some k_ ≠ ((.slice Ao158 t569.length co158) : Value).ownBlock ∧ some k_ ≠ ((.slice Ao166 t572.length co166) : Value).ownBlock) (.slice Ao127 t536.length co127) t536) ∧ Aside0 (Kd.R (Kd.int .i64) 3 wc w.heap.size (fun k_ => some k_ ≠ ((.slice Ao12 t491.length co12) : Value).ownBlock ∧ some k_ ≠ ((.slice Ao18 t501.length co18) : Value).ownBlock ∧ some k_ ≠ ((.slice Ao26 t509.length co26) : Value).ownBlock ∧ some k_ ≠ ((.slice Ao144 t556.length co144) : Value).ownBlock ∧ some k_ ≠ ((.slice Ao154 t564.length co154) : Value).ownBlock ∧ some k_ ≠ ((.slice Ao166 t572.length co166) : Value).ownBlock) (.slice Ao132 t539.length co132) t539) ∧ Aside0 (Kd.S k65 65 wc w.heap.size (fun k_ => some k_ ≠ ((.slice Ao10 t488.length co10) : Value).ownBlock ∧ some k_ ≠ ((.slice Ao12 t491.length co12) : Value).ownBlock ∧ some k_ ≠ ((.slice Ao15 t498.length co15) : Value).ownBlock ∧ some k_ ≠ ((.slice Ao18 t501.length co18) : Value).ownBlock ∧ some k_ ≠ ((.slice Ao22 t506.length co22) : Value).ownBlock ∧ some k_ ≠ ((.slice Ao26 t509.length co26) : Value).ownBlock ∧ some k_ ≠ ((.slice Ao127 t536.length co127) : Value).ownBlock ∧ some k_ ≠ ((.slice Ao132 t539.length co132) : Value).ownBlock ∧ some k_ ≠ ((.slice Ao144 t556.length co144) : Value).ownBlock ∧ some k_ ≠ ((.slice Ao147 t561.length co147) : Value).ownBlock ∧ some k_ ≠ ((.slice Ao154 t564.length co154) : Value).ownBlock ∧ some k_ ≠ ((.slice Ao158 t569.length co158) : Value).ownBlock ∧ some k_ ≠ ((.slice Ao166 t572.length co166) : Value).ownBlock) (.slice Ao138 t553.length co138) t553) ∧ Aside0 (Kd.R (Kd.int .i64) 3 wc w.heap.size (fun k_ => some k_ ≠ ((.slice Ao12 t491.length co12) : Value).ownBlock ∧ some k_ ≠ ((.slice Ao18 t501.length co18) : Value).ownBlock ∧ some k_ ≠ ((.slice Ao26 t509.length co26) : Value).ownBlock ∧ some k_ ≠ ((.slice Ao132 t539.length co132) : Value).ownBlock ∧ some k_ ≠ ((.slice Ao154 t564.length co154) : Value).ownBlock ∧ some k_ ≠ ((.slice Ao166 t572.length co166) : Value).ownBlock) (.slice Ao144 t556.length co144) t556) ∧ Aside0 (Kd.S k65 65 wc w.heap.size (fun k_ => some k_ ≠ ((.slice Ao10 t488.length co10) : Value).ownBlock ∧ some k_ ≠ ((.slice Ao12 t491.length co12) : Value).ownBlock ∧ some k_ ≠ ((.slice Ao15 t498.length co15) : Value).ownBlock ∧ some k_ ≠ ((.slice Ao18 t501.length co18) : Value).ownBlock ∧ some k_ ≠ ((.slice Ao22 t506.length co22) : Value).ownBlock ∧ some k_ ≠ ((.slice Ao26 t509.length co26) : Value).ownBlock ∧ some k_ ≠ ((.slice Ao127 t536.length co127) : Value).ownBlock ∧ some k_ ≠ ((.slice Ao132 t539.length co132) : Value).ownBlock ∧ some k_ ≠ ((.slice Ao138 t553.length co138) : Value).ownBlock ∧ some k_ ≠ ((.slice Ao144 t556.length co144) : Value).ownBlock ∧ some k_ ≠ ((.slice Ao154 t564.length co154) : Value).ownBlock ∧ some k_ ≠ ((.slice Ao158 t569.length co158) : Value).ownBlock ∧ some k_ ≠ ((.slice Ao166 t572.length co166) : Value).ownBlock) (.slice Ao147 t561.length co147) t561) ∧ Aside0 (Kd.R (Kd.int .i64) 3 wc w.heap.size (fun k_ => some k_ ≠ ((.slice Ao12 t491.length co12) : Value).ownBlock ∧ some k_ ≠ ((.slice Ao18 t501.length co18) : Value).ownBlock ∧ some k_ ≠ ((.slice Ao26 t509.length co26) : Value).ownBlock ∧ some k_ ≠ ((.slice Ao132 t539.length co132) : Value).ownBlock ∧ some k_ ≠ ((.slice Ao144 t556.length co144) : Value).ownBlock ∧ some k_ ≠ ((.slice Ao166 t572.length co166) : Value).ownBlock) (.slice Ao154 t564.length co154) t564) ∧ Aside0 (Kd.S k65 65 wc w.heap.size (fun k_ => some k_ ≠ ((.slice Ao10 t488.length co10) : Value).ownBlock ∧ some k_ ≠ ((.slice Ao12 t491.length co12) : Value).ownBlock ∧ some k_ ≠ ((.slice Ao15 t498.length co15) : Value).ownBlock ∧ some k_ ≠ ((.slice Ao18 t501.length co18) : Value).ownBlock ∧ some k_ ≠ ((.slice Ao22 t506.length co22) : Value).ownBlock ∧ some k_ ≠ ((.slice Ao26 t509.length co26) : Value).ownBlock ∧ some k_ ≠ ((.slice Ao127 t536.length co127) : Value).ownBlock ∧ some k_ ≠ ((.slice Ao132 t539.length co132) : Value).ownBlock ∧ some k_ ≠ ((.slice Ao138 t553.length co138) : Value).ownBlock ∧ some k_ ≠ ((.slice Ao144 t556.length co144) : Value).ownBlock ∧ some k_ ≠ ((.slice Ao147 t561.length co147) : Value).ownBlock ∧ some k_ ≠ ((.slice Ao154 t564.length co154) : Value).ownBlock ∧ some k_ ≠ ((.slice Ao166 t572.length co166) : Value).ownBlock) (.slice Ao158 t569.length co158) t569) ∧ Aside0 (Kd.R (Kd.int .i64) 3 wc w.heap.size (fun k_ => some k_ ≠ ((.slice Ao12 t491.length co12) : Value).ownBlock ∧ some k_ ≠ ((.slice Ao18 t501.length co18) : Value).ownBlock ∧ some k_ ≠ ((.slice Ao26 t509.length co26) : Value).ownBlock ∧ some k_ ≠ ((.slice Ao132 t539.length co132) : Value).ownBlock ∧ some k_ ≠ ((.slice Ao144 t556.length co144) : Value).ownBlock ∧ some k_ ≠ ((.slice Ao154 t564.length co154) : Value).ownBlock) (.slice Ao166 t572.length co166) t572) ∧ Aside0 (wc.heap[gb497]? = some (.cells #[(.slice Ao10 t488.length co10), (.slice Ao12 t491.length co12)] 25 (0, 0))) ∧ Aside0 (wc.heap[gb505]? = some (.cells #[(.slice Ao15 t498.length co15), (.slice Ao18 t501.length co18)] 25 (0, 0))) ∧ Aside0 (wc.heap[gb513]? = some (.cells #[(.slice Ao22 t506.length co22), (.slice Ao26 t509.length co26)] 25 (0, 0))) ∧ Aside0 (wc.heap[gb544]? = some (.cells #[(.slice Ao127 t536.length co127), (.slice Ao132 t539.length co132)] 25 (0, 0))) ∧ Aside0 (wc.heap[gb560]? = some (.cells #[(.slice Ao138 t553.length co138), (.slice Ao144 t556.length co144)] 25 (0, 0))) ∧ Aside0 (wc.heap[gb568]? = some (.cells #[(.slice Ao147 t561.length co147), (.slice Ao154 t564.length co154)] 25 (0, 0))) ∧ Aside0 (wc.heap[gb576]? = some (.cells #[(.slice Ao158 t569.length co158), (.slice Ao166 t572.length co166)] 25 (0, 0))) ∧ Aside0 (Below w.heap.size w wc))
       case first =>
        as_aux_lemma =>
        have H := HC124.out
        clear HC124
        by_cases c167 : (t548 != t552) = true
        ·rw [if_pos c167] at H
         have c167b0 : (t548 != t552) = true := c167
         (try (have c167b1 : decide (t548 = t552) = false := by simpa using c167))
         (try (have c167b2 : (t548 == t552) = false := by simpa using c167))
         (try (have c167b3 : ¬ (t548 = t552) := by simpa using c167))
         clear c167
         (first | rw [c167b0] | (simp only [i64_w, i32_w]; rw [c167b0]) | skip)
         exact absurd H (by unfold laws_FnVersions.j4; split <;> simp)
        ·rw [if_neg c167] at H
         have c167b0 : (t548 != t552) = false := by simpa using c167
         (try (have c167b1 : decide (t548 = t552) = true := by simpa using c167))
         (try (have c167b2 : (t548 == t552) = true := by simpa using c167))
         clear c167
         (first | rw [c167b0] | (simp only [i64_w, i32_w]; rw [c167b0]) | skip)
         replace H := Option.bind_eq_some_iff.mp H
         obtain ⟨t577, A1680, H⟩ := H
         try dsimp only at H
         have A168 := Op.k A1680
         clear A1680
         by_cases c169 : t577 = true
         ·subst c169
          have H1 : (if (t567 != t575) = true then (laws_FnVersions.j4 kj42 t559 t567 true t561 t564) else ((laws_samePools.f kj42 t561 t564 t569 t572).bind fun t578 => (laws_FnVersions.j4 kj42 t559 t567 (!t578) t561 t564))) = some true := by rw [if_pos rfl] at H; exact H
          clear H
          have H := H1
          clear H1
          by_cases c170 : (t567 != t575) = true
          ·rw [if_pos c170] at H
           have c170b0 : (t567 != t575) = true := c170
           (try (have c170b1 : decide (t567 = t575) = false := by simpa using c170))
           (try (have c170b2 : (t567 == t575) = false := by simpa using c170))
           (try (have c170b3 : ¬ (t567 = t575) := by simpa using c170))
           clear c170
           exact absurd H (by unfold laws_FnVersions.j4; split <;> simp)
          ·rw [if_neg c170] at H
           have c170b0 : (t567 != t575) = false := by simpa using c170
           (try (have c170b1 : decide (t567 = t575) = true := by simpa using c170))
           (try (have c170b2 : (t567 == t575) = true := by simpa using c170))
           clear c170
           replace H := Option.bind_eq_some_iff.mp H
           obtain ⟨t578, A1730, H⟩ := H
           try dsimp only at H
           have A173 := Op.k A1730
           clear A1730
           have H' := Op.k H
           clear H
           obtain ⟨Ao174, co174, eo174⟩ := Kd.R_slice HO547.out
           subst eo174
           obtain ⟨Ao175, co175, eo175⟩ := Kd.R_slice HO551.out
           subst eo175
           go_wp2_with (first | (go_at_call 37; (with_reducible refine (laws_sameInts.calls kj42 _ _ t545 _ _ t549 true _ ?side1 ?side2 ?side3 ?side4 A168.out).mono ?_); (case side1 => exact (Kd.R_reads' (Op.rf HO547.out BK576.out)).2.2); (case side2 => exact (Kd.R_reads' HO547.out).2.1); (case side3 => exact (Kd.R_reads' (Op.rf HO551.out BK576.out)).2.2); (case side4 => exact (Kd.R_reads' HO551.out).2.1); rintro e w' ⟨rfl, ⟨nd, rfl⟩⟩; have hnb176 := NB568_497.out; have hnc176 := NB497_568.out; have hnb177 := NB568_505.out; have hnc177 := NB505_568.out; have hnb178 := NB568_513.out; have hnc178 := NB513_568.out; have hnb179 := NB568_544.out; have hnc179 := NB544_568.out; have hnb180 := NB568_560.out; have hnc180 := NB560_568.out; have hnb181 := NB568_576.out; have hnc181 := NB576_568.out; have hcz182_0 := Op.c0 BK568.out; have hcz182_1 := Op.c1 BK568.out; have hfz182_0 := Op.bf BK568.out 0; have hfz182_1 := Op.bf BK568.out 1; have hnb183 := NB576_497.out; have hnc183 := NB497_576.out; have hnb184 := NB576_505.out; have hnc184 := NB505_576.out; have hnb185 := NB576_513.out; have hnc185 := NB513_576.out; have hnb186 := NB576_544.out; have hnc186 := NB544_576.out; have hnb187 := NB576_560.out; have hnc187 := NB560_576.out; have hcz188_0 := Op.c0 BK576.out; have hcz188_1 := Op.c1 BK576.out; have hfz188_0 := Op.bf BK576.out 0; have hfz188_1 := Op.bf BK576.out 1) | (go_at_call 36; (with_reducible refine (laws_samePools.calls kj42 _ _ t561 _ _ t564 _ _ t569 _ _ t572 t578 _ ?side1 ?side2 ?side3 ?side4 ?side5 ?side6 ?side7 ?side8 A173.out).mono ?_); (case side1 => exact (Kd.S_reads' (Op.sf HO563.out BK576.out)).2.2); (case side2 => exact (Kd.S_reads' HO563.out).2.1); (case side3 => exact (Kd.R_reads' (Op.rf HO566.out BK576.out)).2.2); (case side4 => exact (Kd.R_reads' HO566.out).2.1); (case side5 => exact (Kd.S_reads' (Op.sf HO571.out BK576.out)).2.2); (case side6 => exact (Kd.S_reads' HO571.out).2.1); (case side7 => exact (Kd.R_reads' (Op.rf HO574.out BK576.out)).2.2); (case side8 => exact (Kd.R_reads' HO574.out).2.1); rintro e w189 ⟨rfl, hb⟩; replace HO_498000 := Op.k (Kd.S_below (Op.sf HO_498000.out BK576.out) hb); replace HO_498001 := Op.k (Kd.R_below (Op.rf HO_498001.out BK576.out) hb); replace HO_506000 := Op.k (Kd.S_below (Op.sf HO_506000.out BK576.out) hb); replace HO_506001 := Op.k (Kd.R_below (Op.rf HO_506001.out BK576.out) hb); replace HO_514000 := Op.k (Kd.S_below (Op.sf HO_514000.out BK576.out) hb); replace HO_514001 := Op.k (Kd.R_below (Op.rf HO_514001.out BK576.out) hb); replace HO538 := Op.k (Kd.S_below (Op.sf HO538.out BK576.out) hb); replace HO541 := Op.k (Kd.R_below (Op.rf HO541.out BK576.out) hb); replace HO547 := Op.k (Kd.R_below (Op.rf HO547.out BK576.out) hb); replace HO551 := Op.k (Kd.R_below (Op.rf HO551.out BK576.out) hb); replace HO555 := Op.k (Kd.S_below (Op.sf HO555.out BK576.out) hb); replace HO558 := Op.k (Kd.R_below (Op.rf HO558.out BK576.out) hb); replace HO563 := Op.k (Kd.S_below (Op.sf HO563.out BK576.out) hb); replace HO566 := Op.k (Kd.R_below (Op.rf HO566.out BK576.out) hb); replace HO571 := Op.k (Kd.S_below (Op.sf HO571.out BK576.out) hb); replace HO574 := Op.k (Kd.R_below (Op.rf HO574.out BK576.out) hb); replace BK497 := Op.k (Op.b4 (Op.bt BK497.out) hb); replace BK505 := Op.k (Op.b4 (Op.bt BK505.out) hb); replace BK513 := Op.k (Op.b4 (Op.bt BK513.out) hb); replace BK544 := Op.k (Op.b4 (Op.bt BK544.out) hb); replace BK560 := Op.k (Op.b4 (Op.bt BK560.out) hb); replace BK568 := Op.k (Op.b4 (Op.bt BK568.out) hb); replace BK576 := Op.k (Op.b4 (g := gb576) (o := .cells #[.slice Ao158 t569.length co158, .slice Ao166 t572.length co166] 25 (0, 0)) (Op.bv BK576.out) hb); replace HB := Op.k (Op.a5 (Op.ht HB.out) hb); (try clear hb); (try clear hb2); (try clear hk); (try clear hi)))
           go_meet
           case rel => exact ⟨_, (!t578), (by first | rfl | (simp; done) | (simp [*]; done)), H', ⟨by have := HJ6.out; have := HJ42.out; first | omega | exact Nat.le_refl _⟩, ⟨Kd.S_mono (Op.st HO_498000.out) (fun _ hk => ⟨hk.1.1.1.1.1.1.1.1.1.1.1, ⟨hk.1.1.1.1.1.1.1.1.1.1.2.1, ⟨hk.1.1.1.1.1.1.1.1.1.1.2.2.1, ⟨hk.1.1.1.1.1.1.1.1.1.1.2.2.2.1, ⟨hk.1.1.1.1.1.1.1.1.1.1.2.2.2.2, ⟨hk.1.1.1.1.1.1.1.1.1.2, ⟨hk.1.1.1.1.1.1.1.1.2, ⟨hk.1.1.1.1.1.2, ⟨hk.1.1.1.1.2, ⟨hk.1.1.1.2, ⟨hk.1.1.2, ⟨hk.1.2, hk.2⟩⟩⟩⟩⟩⟩⟩⟩⟩⟩⟩⟩)⟩, ⟨Kd.R_mono (Op.rt HO_498001.out) (fun _ hk => ⟨hk.1.1.1.1.1.1.1, ⟨hk.1.1.1.1.1.1.2, ⟨hk.1.1.1.1.1.2, ⟨hk.1.1.2, ⟨hk.1.2, hk.2⟩⟩⟩⟩⟩)⟩, ⟨Kd.S_mono (Op.st HO_506000.out) (fun _ hk => ⟨hk.1.1.1.1.1.1.1.1.1.1.1, ⟨hk.1.1.1.1.1.1.1.1.1.1.2.1, ⟨hk.1.1.1.1.1.1.1.1.1.1.2.2.1, ⟨hk.1.1.1.1.1.1.1.1.1.1.2.2.2.1, ⟨hk.1.1.1.1.1.1.1.1.1.1.2.2.2.2, ⟨hk.1.1.1.1.1.1.1.1.1.2, ⟨hk.1.1.1.1.1.1.1.1.2, ⟨hk.1.1.1.1.1.2, ⟨hk.1.1.1.1.2, ⟨hk.1.1.1.2, ⟨hk.1.1.2, ⟨hk.1.2, hk.2⟩⟩⟩⟩⟩⟩⟩⟩⟩⟩⟩⟩)⟩, ⟨Kd.R_mono (Op.rt HO_506001.out) (fun _ hk => ⟨hk.1.1.1.1.1.1.1, ⟨hk.1.1.1.1.1.1.2, ⟨hk.1.1.1.1.1.2, ⟨hk.1.1.2, ⟨hk.1.2, hk.2⟩⟩⟩⟩⟩)⟩, ⟨Kd.S_mono (Op.st HO_514000.out) (fun _ hk => ⟨hk.1.1.1.1.1.1.1.1.1.1.1, ⟨hk.1.1.1.1.1.1.1.1.1.1.2.1, ⟨hk.1.1.1.1.1.1.1.1.1.1.2.2.1, ⟨hk.1.1.1.1.1.1.1.1.1.1.2.2.2.1, ⟨hk.1.1.1.1.1.1.1.1.1.1.2.2.2.2, ⟨hk.1.1.1.1.1.1.1.1.1.2, ⟨hk.1.1.1.1.1.1.1.1.2, ⟨hk.1.1.1.1.1.2, ⟨hk.1.1.1.1.2, ⟨hk.1.1.1.2, ⟨hk.1.1.2, ⟨hk.1.2, hk.2⟩⟩⟩⟩⟩⟩⟩⟩⟩⟩⟩⟩)⟩, ⟨Kd.R_mono (Op.rt HO_514001.out) (fun _ hk => ⟨hk.1.1.1.1.1.1.1, ⟨hk.1.1.1.1.1.1.2, ⟨hk.1.1.1.1.1.2, ⟨hk.1.1.2, ⟨hk.1.2, hk.2⟩⟩⟩⟩⟩)⟩, ⟨Kd.S_mono (Op.st HO538.out) (fun _ hk => ⟨hk.1.1.1.1.1.1.1.1.1.1.1.1.1.2, ⟨hk.1.1.1.1.1.1.1.1.1.1.1.1.2, ⟨hk.1.1.1.1.1.1.1.1.1.1.1.2, ⟨hk.1.1.1.1.1.1.1.1.1.1.2, ⟨hk.1.1.1.1.1.1.1.1.1.2, ⟨hk.1.1.1.1.1.1.1.1.2, ⟨hk.1.1.1.1.1.1.1.1.1.1.1.1.1.1, ⟨hk.1.1.1.1.1.2, ⟨hk.1.1.1.1.2, ⟨hk.1.1.1.2, ⟨hk.1.1.2, ⟨hk.1.2, hk.2⟩⟩⟩⟩⟩⟩⟩⟩⟩⟩⟩⟩)⟩, ⟨Kd.R_mono (Op.rt HO541.out) (fun _ hk => ⟨hk.1.1.1.1.1.1.1.2, ⟨hk.1.1.1.1.1.1.2, ⟨hk.1.1.1.1.1.2, ⟨hk.1.1.2, ⟨hk.1.2, hk.2⟩⟩⟩⟩⟩)⟩, ⟨Kd.S_mono (Op.st HO555.out) (fun _ hk => ⟨hk.1.1.1.1.1.1.1.1.1.1.1.1.1.2, ⟨hk.1.1.1.1.1.1.1.1.1.1.1.1.2, ⟨hk.1.1.1.1.1.1.1.1.1.1.1.2, ⟨hk.1.1.1.1.1.1.1.1.1.1.2, ⟨hk.1.1.1.1.1.1.1.1.1.2, ⟨hk.1.1.1.1.1.1.1.1.2, ⟨hk.1.1.1.1.1.1.1.2, ⟨hk.1.1.1.1.1.1.2, ⟨hk.1.1.1.1.1.1.1.1.1.1.1.1.1.1, ⟨hk.1.1.1.2, ⟨hk.1.1.2, ⟨hk.1.2, hk.2⟩⟩⟩⟩⟩⟩⟩⟩⟩⟩⟩⟩)⟩, ⟨Kd.R_mono (Op.rt HO558.out) (fun _ hk => ⟨hk.1.1.1.1.1.1.1.2, ⟨hk.1.1.1.1.1.1.2, ⟨hk.1.1.1.1.1.2, ⟨hk.1.1.1.1.2, ⟨hk.1.2, hk.2⟩⟩⟩⟩⟩)⟩, ⟨Kd.S_mono (Op.st HO563.out) (fun _ hk => ⟨hk.1.1.1.1.1.1.1.1.1.1.1.1.1.2, ⟨hk.1.1.1.1.1.1.1.1.1.1.1.1.2, ⟨hk.1.1.1.1.1.1.1.1.1.1.1.2, ⟨hk.1.1.1.1.1.1.1.1.1.1.2, ⟨hk.1.1.1.1.1.1.1.1.1.2, ⟨hk.1.1.1.1.1.1.1.1.2, ⟨hk.1.1.1.1.1.1.1.2, ⟨hk.1.1.1.1.1.1.2, ⟨hk.1.1.1.2, ⟨hk.1.1.2, ⟨hk.1.1.1.1.1.1.1.1.1.1.1.1.1.1, ⟨hk.1.2, hk.2⟩⟩⟩⟩⟩⟩⟩⟩⟩⟩⟩⟩)⟩, ⟨Kd.R_mono (Op.rt HO566.out) (fun _ hk => ⟨hk.1.1.1.1.1.1.1.2, ⟨hk.1.1.1.1.1.1.2, ⟨hk.1.1.1.1.1.2, ⟨hk.1.1.1.1.2, ⟨hk.1.2, hk.2⟩⟩⟩⟩⟩)⟩, ⟨Kd.S_mono (Op.st HO571.out) (fun _ hk => ⟨hk.1.1.1.1.1.1.1.1.1.1.1.1.1.2, ⟨hk.1.1.1.1.1.1.1.1.1.1.1.1.2, ⟨hk.1.1.1.1.1.1.1.1.1.1.1.2, ⟨hk.1.1.1.1.1.1.1.1.1.1.2, ⟨hk.1.1.1.1.1.1.1.1.1.2, ⟨hk.1.1.1.1.1.1.1.1.2, ⟨hk.1.1.1.1.1.1.1.2, ⟨hk.1.1.1.1.1.1.2, ⟨hk.1.1.1.2, ⟨hk.1.1.2, ⟨hk.1.2, ⟨hk.2, hk.1.1.1.1.1.1.1.1.1.1.1.1.1.1⟩⟩⟩⟩⟩⟩⟩⟩⟩⟩⟩⟩)⟩, ⟨Kd.R_mono (Op.rt HO574.out) (fun _ hk => ⟨hk.1.1.1.1.1.1.1.2, ⟨hk.1.1.1.1.1.1.2, ⟨hk.1.1.1.1.1.2, ⟨hk.1.1.1.1.2, ⟨hk.1.2, hk.2⟩⟩⟩⟩⟩)⟩, ⟨Op.bt BK497.out⟩, ⟨Op.bt BK505.out⟩, ⟨Op.bt BK513.out⟩, ⟨Op.bt BK544.out⟩, ⟨Op.bt BK560.out⟩, ⟨Op.bt BK568.out⟩, ⟨Op.bt BK576.out⟩, ⟨Op.ht HB.out⟩⟩
         ·replace c169 := Bool.eq_false_iff.mpr c169
          subst c169
          have H1 : (laws_FnVersions.j4 kj42 t559 t567 true t561 t564) = some true := by rw [if_neg (show ¬ (false = true) by decide)] at H; exact H
          clear H
          have H := H1
          clear H1
          exact absurd H (by unfold laws_FnVersions.j4; split <;> simp)
       case rest =>
        as_aux_lemma =>
        clear HC124
        try clear c1
        try clear c2
        try clear p2
        try clear c3
        try clear c4
        try clear c5
        try clear p5
        try clear q5
        try clear hx5
        try clear qi5
        try clear c6
        try clear p6
        try clear c7
        try clear c8
        try clear c9
        try clear c10
        try clear c11
        try clear c12
        try clear c13
        try clear c14
        try clear c15
        try clear c16
        try clear c17
        try clear c18
        try clear c19
        try clear c21
        try clear c23
        try clear c25
        try clear c27
        try clear c27b0
        try clear c27b1
        try clear c27b2
        try clear c29
        try clear c30
        try clear c31
        try clear c32
        try clear c36
        try clear c38
        try clear c39
        try clear c42
        try clear c44
        try clear c46
        try clear c47
        try clear c50
        try clear c51
        try clear c51b0
        try clear c51b1
        try clear c52
        try clear c53
        try clear p53
        try clear q53
        try clear hx53
        try clear qi53
        try clear c57
        try clear c59
        try clear c60
        try clear c64
        try clear p64
        try clear c65
        try clear c68
        try clear c69
        try clear c69b0
        try clear c72
        try clear c73
        try clear c75
        try clear c76
        try clear c77
        try clear c80
        try clear c88
        try clear c89
        try clear c90
        try clear c91
        try clear c91b0
        try clear c91b1
        try clear c92
        try clear c92b0
        try clear c92b1
        try clear c93
        try clear c93b0
        try clear c93b1
        try clear c94
        try clear c94b0
        try clear c94b1
        try clear c95
        try clear c95b0
        try clear c95b1
        try clear c96
        try clear c96b0
        try clear c96b1
        try clear c96b2
        try clear c97
        try clear c98
        try clear c101
        try clear c107
        try clear c107b0
        try clear c107b1
        try clear c107b2
        try clear c108
        try clear c109
        try clear c112
        try clear c128
        try clear c129
        try clear c130
        try clear c139
        try clear c140
        try clear c141
        try clear c142
        try clear c148
        try clear c149
        try clear c150
        try clear c151
        try clear c152
        try clear c159
        try clear c160
        try clear c161
        try clear c162
        try clear c163
        try clear c164
        try clear c167
        try clear c167b0
        try clear c167b1
        try clear c167b2
        try clear c169
        try clear c170
        try clear c170b0
        try clear c170b1
        try clear c170b2
        try clear c176
        try clear c177
        try clear c178
        try clear c179
        try clear c180
        try clear c181
        try clear c183
        try clear c184
        try clear c185
        try clear c186
        try clear c187
        try clear hcz102_0
        try clear hcz102_1
        try clear hcz104_0
        try clear hcz104_1
        try clear hcz110_0
        try clear hcz110_1
        try clear hcz113_0
        try clear hcz113_1
        try clear hcz115_0
        try clear hcz115_1
        try clear hcz131_0
        try clear hcz131_1
        try clear hcz134_0
        try clear hcz134_1
        try clear hcz143_0
        try clear hcz143_1
        try clear hcz153_0
        try clear hcz153_1
        try clear hcz155_0
        try clear hcz155_1
        try clear hcz165_0
        try clear hcz165_1
        try clear hcz182_0
        try clear hcz182_1
        try clear hcz188_0
        try clear hcz188_1
        try clear hcz48_0
        try clear hcz48_1
        try clear hcz54_0
        try clear hcz54_1
        try clear hcz56_0
        try clear hcz56_1
        try clear hcz58_0
        try clear hcz58_1
        try clear hcz61_0
        try clear hcz61_1
        try clear hcz63_0
        try clear hcz63_1
        try clear hcz66_0
        try clear hcz66_1
        try clear hcz78_0
        try clear hcz78_1
        try clear hcz81_0
        try clear hcz81_1
        try clear hcz99_0
        try clear hcz99_1
        try clear hfz102_0
        try clear hfz102_1
        try clear hfz104_0
        try clear hfz104_1
        try clear hfz110_0
        try clear hfz110_1
        try clear hfz113_0
        try clear hfz113_1
        try clear hfz115_0
        try clear hfz115_1
        try clear hfz131_0
        try clear hfz131_1
        try clear hfz134_0
        try clear hfz134_1
        try clear hfz143_0
        try clear hfz143_1
        try clear hfz153_0
        try clear hfz153_1
        try clear hfz155_0
        try clear hfz155_1
        try clear hfz165_0
        try clear hfz165_1
        try clear hfz182_0
        try clear hfz182_1
        try clear hfz188_0
        try clear hfz188_1
        try clear hfz48_0
        try clear hfz48_1
        try clear hfz54_0
        try clear hfz54_1
        try clear hfz56_0
        try clear hfz56_1
        try clear hfz58_0
        try clear hfz58_1
        try clear hfz61_0
        try clear hfz61_1
        try clear hfz63_0
        try clear hfz63_1
        try clear hfz66_0
        try clear hfz66_1
        try clear hfz78_0
        try clear hfz78_1
        try clear hfz81_0
        try clear hfz81_1
        try clear hfz99_0
        try clear hfz99_1
        try clear hx535_0
        try clear p2
        try clear p5
        try clear p53
        try clear p535
        try clear p6
        try clear p64
        try clear q5
        try clear q53
        try clear q535
        obtain ⟨kq, x257_123, rfl, HA, HJ123, HO_498000, HO_498001, HO_506000, HO_506001, HO_514000, HO_514001, HO_545000, HO_545001, HO_561000, HO_561001, HO_569000, HO_569001, HO_577000, HO_577001, BK497, BK505, BK513, BK544, BK560, BK568, BK576, HB⟩ := hcut
        cases kq with
        | zero => exact absurd HA.out (by simp [laws_FnVersions.j4])
        | succ kj123 =>
         have H := HA.out
         clear HA
         simp only [laws_FnVersions.j4] at H
         by_cases c192 : x257_123 = true
         ·subst c192
          have H1 : (some false) = some true := by rw [if_pos rfl] at H; exact H
          clear H
          have H := H1
          clear H1
          exact absurd (Option.some.inj H) (by simp)
         ·replace c192 := Bool.eq_false_iff.mpr c192
          subst c192
          have H1 : (if t567 = true then ((impl_DiffIn.f kj123 t561 t564 t559 (wrap64 ((t564.length : Int) - 1))).bind fun bt579 => (if bt579.2 = true then (some ((bt579.1.length : Int) == 0)) else (some false))) else (some true)) = some true := by rw [if_neg (show ¬ (false = true) by decide)] at H; exact H
          clear H
          have H := H1
          clear H1
          by_cases c193 : t567 = true
          ·subst c193
           have H1 : ((impl_DiffIn.f kj123 t561 t564 t559 (wrap64 ((t564.length : Int) - 1))).bind fun bt579 => (if bt579.2 = true then (some ((bt579.1.length : Int) == 0)) else (some false))) = some true := by rw [if_pos rfl] at H; exact H
           clear H
           have H := H1
           clear H1
           replace H := Option.bind_eq_some_iff.mp H
           obtain ⟨⟨t579, t582⟩, A1940, H⟩ := H
           try dsimp only at H
           have A194 := Op.k A1940
           clear A1940
           by_cases c195 : t582 = true
           ·subst c195
            have H1 : (some ((t579.length : Int) == 0)) = some true := by rw [if_pos rfl] at H; exact H
            clear H
            have H := H1
            clear H1
            have hR_ := Option.some.inj H
            clear H
            have hnb196 := NB568_497.out
            have hnc196 := NB497_568.out
            have hnb197 := NB568_505.out
            have hnc197 := NB505_568.out
            have hnb198 := NB568_513.out
            have hnc198 := NB513_568.out
            have hnb199 := NB568_544.out
            have hnc199 := NB544_568.out
            have hnb200 := NB568_560.out
            have hnc200 := NB560_568.out
            have hnb201 := NB568_576.out
            have hnc201 := NB576_568.out
            have hcz202_0 := Op.c0 BK568.out
            have hcz202_1 := Op.c1 BK568.out
            have hfz202_0 := Op.bf BK568.out 0
            have hfz202_1 := Op.bf BK568.out 1
            go_wp2_with (first | ((with_reducible refine gate_callee (f := 30) rfl ?_); refine goesL_ (some 266) rfl rfl Try.func30 (by kernel_rfl) rfl #[.agg #[.slice Ao147 t561.length co147, .slice Ao154 t564.length co154], .int .i64 t559, .int .i64 (wrap64 ((t564.length : Int) - 1))] rfl (by (try simp only [List.map_toArray, List.map_cons, List.map_nil]); first | done | rfl | (simp only [List.length_drop, List.length_take]; rfl)) ?_; (with_reducible refine (impl_DiffIn.calls kj123 _ _ t561 _ _ t564 t559 (wrap64 ((t564.length : Int) - 1)) t579 true _ ?side1 ?side2 ?side3 ?side4 A194.out).mono ?_); (case side1 => exact Op.ct (Kd.S_reads' HO_569000.out).2.2); (case side2 => exact (Kd.S_reads' HO_569000.out).2.1); (case side3 => exact Op.ct (Kd.R_reads' HO_569001.out).2.2); (case side4 => exact (Kd.R_reads' HO_569001.out).2.1); rintro e w203 ⟨v580, rfl, ho0, hb⟩; refine ⟨_, rfl, ?_⟩; replace HO_498000 := Op.k (Kd.S_elder' (Op.st HO_498000.out) (Kd.R_base ho0) hb); replace HO_506000 := Op.k (Kd.S_elder' (Op.st HO_506000.out) (Kd.R_base ho0) hb); replace HO_514000 := Op.k (Kd.S_elder' (Op.st HO_514000.out) (Kd.R_base ho0) hb); replace HO_545000 := Op.k (Kd.S_elder' (Op.st HO_545000.out) (Kd.R_base ho0) hb); replace HO_561000 := Op.k (Kd.S_elder' (Op.st HO_561000.out) (Kd.R_base ho0) hb); replace HO_569000 := Op.k (Kd.S_elder' (Op.st HO_569000.out) (Kd.R_base ho0) hb); replace HO_577000 := Op.k (Kd.S_elder' (Op.st HO_577000.out) (Kd.R_base ho0) hb); have HO581 := Op.k (Kd.R_lower (Kd.R_new' (Kd.R_new' (Kd.R_new' (Kd.R_new' (Kd.R_new' (Kd.R_new' (Kd.R_new' ho0 (Kd.R_lt (Op.rt HO_498001.out))) (Kd.R_lt (Op.rt HO_506001.out))) (Kd.R_lt (Op.rt HO_514001.out))) (Kd.R_lt (Op.rt HO_545001.out))) (Kd.R_lt (Op.rt HO_561001.out))) (Kd.R_lt (Op.rt HO_569001.out))) (Kd.R_lt (Op.rt HO_577001.out))) (Op.a6 (Op.ht HB.out))); replace HO_498001 := Op.k (Kd.R_elder' (Op.rt HO_498001.out) (Kd.R_base ho0) hb); replace HO_506001 := Op.k (Kd.R_elder' (Op.rt HO_506001.out) (Kd.R_base ho0) hb); replace HO_514001 := Op.k (Kd.R_elder' (Op.rt HO_514001.out) (Kd.R_base ho0) hb); replace HO_545001 := Op.k (Kd.R_elder' (Op.rt HO_545001.out) (Kd.R_base ho0) hb); replace HO_561001 := Op.k (Kd.R_elder' (Op.rt HO_561001.out) (Kd.R_base ho0) hb); replace HO_569001 := Op.k (Kd.R_elder' (Op.rt HO_569001.out) (Kd.R_base ho0) hb); replace HO_577001 := Op.k (Kd.R_elder' (Op.rt HO_577001.out) (Kd.R_base ho0) hb); replace BK497 := Op.k (Op.b4 (Op.bt BK497.out) hb); replace BK505 := Op.k (Op.b4 (Op.bt BK505.out) hb); replace BK513 := Op.k (Op.b4 (Op.bt BK513.out) hb); replace BK544 := Op.k (Op.b4 (Op.bt BK544.out) hb); replace BK560 := Op.k (Op.b4 (Op.bt BK560.out) hb); replace BK568 := Op.k (Op.b4 (Op.bt BK568.out) hb); replace BK576 := Op.k (Op.b4 (Op.bt BK576.out) hb); replace HB := Op.k (Op.a5 (Op.ht HB.out) hb); (try clear hb); (try clear hb2); (try clear hk); (try clear hi); (try clear ho0); obtain ⟨Ao204, co204, eo204⟩ := Kd.R_slice HO581.out; subst eo204))
            go_ret
            exact ⟨by first | rfl | (simp [errW_none, errW_some] <;> rfl) | (simp [*, errW_none, errW_some] <;> rfl), Op.ht HB.out⟩
           ·replace c195 := Bool.eq_false_iff.mpr c195
            subst c195
            have H1 : (some false) = some true := by rw [if_neg (show ¬ (false = true) by decide)] at H; exact H
            clear H
            have H := H1
            clear H1
            exact absurd (Option.some.inj H) (by simp)
          ·replace c193 := Bool.eq_false_iff.mpr c193
           subst c193
           have H1 : (some true) = some true := rfl
           clear H
           have H := H1
           clear H1
           have hR_ := Option.some.inj H
           clear H
           go_wp2
           go_ret
           exact ⟨by first | rfl | (simp [errW_none, errW_some] <;> rfl) | (simp [*, errW_none, errW_some] <;> rfl), Op.ht HB.out⟩

/-- THE ONE PURE STATEMENT of laws_FnVersions: yours. -/
def laws_FnVersions.Pure : Prop := ∀ (l0 : List Int) (l1 : List Int), l0.length ≤ maxLen → l0.length * 1 ≤ 140737488351232 → (∀ x ∈ l0, (Lit.int .u8 x).wf = true) → l1.length ≤ maxLen → l1.length * 1 ≤ 140737488351232 → (∀ x ∈ l1, (Lit.int .u8 x).wf = true) → ∃ k, laws_FnVersions.f k l0 l1 = some true
theorem laws_FnVersions.walk (P : laws_FnVersions.Pure) (a0 : Option Addr) (len0 cap0 : Nat) (z0 : List Int) (a1 : Option Addr) (len1 cap1 : Nat) (z1 : List Int) (w : World) (w0 : (a0 = none ∧ len0 = 0 ∧ cap0 = 0 ∧ z0 = []) ∨ ∃ x, a0 = some x ∧ len0 ≤ cap0 ∧ cap0 ≤ maxLen ∧ z0.length = cap0 ∧ (∀ i, i < z0.length → w.cell? (x.add i) = some (.int .u8 (z0.getD i 0))) ∧ ∀ n ∈ z0, (Lit.int .u8 n).wf = true) (y0 : len0 * 1 ≤ 140737488351232) (w1 : (a1 = none ∧ len1 = 0 ∧ cap1 = 0 ∧ z1 = []) ∨ ∃ x, a1 = some x ∧ len1 ≤ cap1 ∧ cap1 ≤ maxLen ∧ z1.length = cap1 ∧ (∀ i, i < z1.length → w.cell? (x.add i) = some (.int .u8 (z1.getD i 0))) ∧ ∀ n ∈ z1, (Lit.int .u8 n).wf = true) (y1 : len1 * 1 ≤ 140737488351232) :
  Calls Try.prog 10 #[.slice a0 len0 cap0, .slice a1 len1 cap1] w fun e w' => e = .returned (.bool true) ∧ Below w.heap.size w w' := by
 obtain ⟨l0, rfl, hr0, hm0, hw0, hc0⟩ := ReadsInt.ofRowC w0
 obtain ⟨l1, rfl, hr1, hm1, hw1, hc1⟩ := ReadsInt.ofRowC w1
 obtain ⟨k, h⟩ := P l0 l1 hm0 y0 hw0 hm1 y1 hw1
 refine (laws_FnVersions.calls k _ _ l0 _ _ l1 true w (Kd.C_of_reads (d := (0 : Int)) (h1 := fun _ => rfl) hr0) hc0 (Kd.C_of_reads (d := (0 : Int)) (h1 := fun _ => rfl) hr1) hc1 h).mono ?_
 rintro e w' ⟨rfl, hd⟩
 exact ⟨rfl, hd⟩

end Go.Proofs.Ytnafnpoflheonaa.PFnVersions
