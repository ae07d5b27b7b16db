/- Contracts of functions of the translation, written by a program of this repo (a changed copy of the printer). Not trusted: Lean checks it. -/
-- squeezed
import Derived.Test.YtlmnlmcahhegkaaPFnChunksx0
import Derived.Test.YtlmnlmcahhegkaaPFnChunksx1
import Derived.Test.YtlmnlmcahhegkaaPFnChunksx2
import Derived.Test.YtlmnlmcahhegkaaPFnChunksx3
import Derived.Test.YtlmnlmcahhegkaaPFnChunksx4
namespace Go.Proofs.Ytlmnlmcahhegkaa.PFnChunks
open Go.RowKit Go.Proofs.YtlmnlmcahhegkaaW.PrintWords Go.Proofs.YtlmnlmcahhegkaaW.PrintLast Go.Proofs.YtlmnlmcahhegkaaW.PrintMore
attribute [local go_sem] max2_int min2_int max_two min_two max_three min_three max_four min_four   -- for this text's walks alone
set_option linter.unusedVariables false
set_option linter.unusedSimpArgs false

/-! ### laws_FnChunks: function 12 -/
mutual
def laws_FnChunks.j0 : Nat → List Int → List Int → ByteArray → List Int → Bool → List ByteArray → Bool → Option (Bool)
 | 0, _, _, _, _, _, _, _ => none
 | k + 1, x0, x1, x5, x6, x7, x10, x92 => if x92 = true then (some false) else (if x7 = true then ((impl_JoinChunks.f x10).bind fun bt261 => (if bt261.2 = true then (if bt261.1.toList = x5.toList then (laws_FnChunks.j1 k x0 x1 x5 x6 x10 ((x10.length : Int) != (x6.length : Int))) else (laws_FnChunks.j1 k x0 x1 x5 x6 x10 true)) else (laws_FnChunks.j1 k x0 x1 x5 x6 x10 true))) else (laws_FnChunks.j5 k x0 x1))
def laws_FnChunks.j5 : Nat → List Int → List Int → Option (Bool)
 | 0, _, _ => none
 | k + 1, x0, x1 => (spec_DrawRollOn.f x1).bind fun bt273 => ((impl_RollOn.f bt273.1 bt273.2.1 bt273.2.2).bind fun bt276 => ((spec_RollOn.f k bt273.1 bt273.2.1 bt273.2.2).bind fun bt278 => ((spec_DrawFingerOf.f x1).bind fun t280 => ((impl_FingerOf.f k t280).bind fun bt281 => ((spec_FingerOf.f k t280).bind fun bt283 => (if (bt276.2 != bt278.2) = true then (laws_FnChunks.j6 k x0 t280 bt281.1 bt281.2 true) else (if bt276.1 = bt278.1 then (if (bt281.2 != bt283.2) = true then (laws_FnChunks.j6 k x0 t280 bt281.1 bt281.2 true) else (laws_FnChunks.j6 k x0 t280 bt281.1 bt281.2 (bt281.1 != bt283.1))) else (laws_FnChunks.j6 k x0 t280 bt281.1 bt281.2 true))))))))
def laws_FnChunks.j6 : Nat → List Int → ByteArray → Int → Bool → Bool → Option (Bool)
 | 0, _, _, _, _, _ => none
 | k + 1, x0, x30, x31, x32, x237 => if x237 = true then (some false) else (if x32 = true then ((laws_numberOf.f k x0).bind fun t285 => (if 1 ≤ (x30.size : Int) then ((some (([(Int.tmod t285 256) % 256] : List Int) : List Int)).bind fun y286 => (if (x30.extract 1 x30.size).size + (strOfNums y286).size ≤ 9223372036854775807 then ((impl_FingerOf.f k ((x30.extract 1 x30.size) ++ (strOfNums y286))).bind fun bt289 => (if 0 < (x30.size : Int) then ((impl_RollOn.f x31 (wrap64 (bt x30 0)) (Int.tmod t285 256)).bind fun bt291 => (if bt289.2 = true then (if bt291.2 = true then (some (bt289.1 == bt291.1)) else (some false)) else (some false))) else (none))) else (none))) else (none))) else (some true))
def laws_FnChunks.j1 : Nat → List Int → List Int → ByteArray → List Int → List ByteArray → Bool → Option (Bool)
 | 0, _, _, _, _, _, _ => none
 | k + 1, x0, x1, x5, x6, x10, x112 => if x112 = true then (some false) else (laws_FnChunks.l0 k x0 x1 x5 x6 x10 x10 (x10.length : Int) 0)
def laws_FnChunks.l0 : Nat → List Int → List Int → ByteArray → List Int → List ByteArray → List ByteArray → Int → Int → Option (Bool)
 | 0, _, _, _, _, _, _, _, _ => none
 | k + 1, x0, x1, x5, x6, x10, x113, x114, x115 => if x115 < x114 then (if 0 ≤ x115 then (if x115 < (x113.length : Int) then (if ((rdOf ByteArray.empty x113 x115).size : Int) > 20 then (some false) else (if ((rdOf ByteArray.empty x113 x115).size : Int) < 4 then (if x115 < (wrap64 ((x10.length : Int) - 1)) then (some false) else (laws_FnChunks.l0 k x0 x1 x5 x6 x10 x113 x114 (wrap64 (x115 + 1)))) else (laws_FnChunks.l0 k x0 x1 x5 x6 x10 x113 x114 (wrap64 (x115 + 1))))) else (none)) else (none)) else (if (x6.length : Int) > 0 then ((laws_numberOf.f k x1).bind fun t264 => (if (x6.length : Int) = 0 then (none) else (if 0 ≤ (Int.tmod t264 (x6.length : Int)) then (if (Int.tmod t264 (x6.length : Int)) < (x6.length : Int) then (if 0 ≤ (rd x6 (Int.tmod t264 (x6.length : Int))) then (if (rd x6 (Int.tmod t264 (x6.length : Int))) ≤ (x5.size : Int) then ((impl_CutsOf.f k (x5.extract ((rd x6 (Int.tmod t264 (x6.length : Int))) : Int).toNat x5.size)).bind fun bt266 => (if bt266.2 = true then (laws_FnChunks.j3 k x0 x1 x6 (Int.tmod t264 (x6.length : Int)) bt266.1 ((bt266.1.length : Int) != (wrap64 ((wrap64 ((x6.length : Int) - (Int.tmod t264 (x6.length : Int)))) - 1)))) else (laws_FnChunks.j3 k x0 x1 x6 (Int.tmod t264 (x6.length : Int)) bt266.1 true))) else (none)) else (none)) else (none)) else (none)))) else (laws_FnChunks.j5 k x0 x1))
def laws_FnChunks.j3 : Nat → List Int → List Int → List Int → Int → List Int → Bool → Option (Bool)
 | 0, _, _, _, _, _, _ => none
 | k + 1, x0, x1, x6, x18, x19, x165 => if x165 = true then (some false) else (laws_FnChunks.l1 k x0 x1 x6 x18 x19 (x19.length : Int) 0)
def laws_FnChunks.l1 : Nat → List Int → List Int → List Int → Int → List Int → Int → Int → Option (Bool)
 | 0, _, _, _, _, _, _, _ => none
 | k + 1, x0, x1, x6, x18, x166, x167, x168 => if x168 < x167 then (if 0 ≤ x168 then (if x168 < (x166.length : Int) then (if 0 ≤ x18 then (if x18 < (x6.length : Int) then (if 0 ≤ (wrap64 ((wrap64 (x18 + 1)) + x168)) then (if (wrap64 ((wrap64 (x18 + 1)) + x168)) < (x6.length : Int) then (if (wrap64 ((rd x166 x168) + (rd x6 x18))) = (rd x6 (wrap64 ((wrap64 (x18 + 1)) + x168))) then (laws_FnChunks.l1 k x0 x1 x6 x18 x166 x167 (wrap64 (x168 + 1))) else (some false)) else (none)) else (none)) else (none)) else (none)) else (none)) else (none)) else (laws_FnChunks.j5 k x0 x1)
end
def laws_FnChunks.f (k : Nat) (l0 : List Int) (l1 : List Int) : Option (Bool) := if (wrap64 ((l0.length : Int) + (l1.length : Int))) > 1048576 then (some true) else ((spec_DrawCutsOf.f k l0).bind fun t242 => ((impl_CutsOf.f k t242).bind fun bt243 => ((spec_CutsOf.f k t242).bind fun bt247 => ((impl_ChunksOf.f k t242).bind fun bt251 => ((spec_ChunksOf.f k t242).bind fun bt255 => (if (bt243.2 != bt247.2) = true then (laws_FnChunks.j0 k l0 l1 t242 bt243.1 bt243.2 bt251.1 true) else ((laws_sameInts.f k bt243.1 bt247.1).bind fun t259 => (if t259 = true then (if (bt251.2 != bt255.2) = true then (laws_FnChunks.j0 k l0 l1 t242 bt243.1 bt243.2 bt251.1 true) else ((laws_sameTexts.f k bt251.1 bt255.1).bind fun t260 => (if t260 = true then (laws_FnChunks.j0 k l0 l1 t242 bt243.1 bt243.2 bt251.1 (bt243.2 != bt251.2)) else (laws_FnChunks.j0 k l0 l1 t242 bt243.1 bt243.2 bt251.1 true)))) else (laws_FnChunks.j0 k l0 l1 t242 bt243.1 bt243.2 bt251.1 true)))))))))
theorem laws_FnChunks.mono_l : ∀ k, (∀ y0 y1 y2 y3 y4 y5 y6, LeO (laws_FnChunks.j0 k y0 y1 y2 y3 y4 y5 y6) (laws_FnChunks.j0 (k + 1) y0 y1 y2 y3 y4 y5 y6)) ∧ (∀ y0 y1, LeO (laws_FnChunks.j5 k y0 y1) (laws_FnChunks.j5 (k + 1) y0 y1)) ∧ (∀ y0 y1 y2 y3 y4, LeO (laws_FnChunks.j6 k y0 y1 y2 y3 y4) (laws_FnChunks.j6 (k + 1) y0 y1 y2 y3 y4)) ∧ (∀ y0 y1 y2 y3 y4 y5, LeO (laws_FnChunks.j1 k y0 y1 y2 y3 y4 y5) (laws_FnChunks.j1 (k + 1) y0 y1 y2 y3 y4 y5)) ∧ (∀ y0 y1 y2 y3 y4 y5 y6 y7, LeO (laws_FnChunks.l0 k y0 y1 y2 y3 y4 y5 y6 y7) (laws_FnChunks.l0 (k + 1) y0 y1 y2 y3 y4 y5 y6 y7)) ∧ (∀ y0 y1 y2 y3 y4 y5, LeO (laws_FnChunks.j3 k y0 y1 y2 y3 y4 y5) (laws_FnChunks.j3 (k + 1) y0 y1 y2 y3 y4 y5)) ∧ (∀ y0 y1 y2 y3 y4 y5 y6, LeO (laws_FnChunks.l1 k y0 y1 y2 y3 y4 y5 y6) (laws_FnChunks.l1 (k + 1) y0 y1 y2 y3 y4 y5 y6))
 | 0 => ⟨fun _ _ _ _ _ _ _ r h => by simp [laws_FnChunks.j0] at h, fun _ _ r h => by simp [laws_FnChunks.j5] at h, fun _ _ _ _ _ r h => by simp [laws_FnChunks.j6] at h, fun _ _ _ _ _ _ r h => by simp [laws_FnChunks.j1] at h, fun _ _ _ _ _ _ _ _ r h => by simp [laws_FnChunks.l0] at h, fun _ _ _ _ _ _ r h => by simp [laws_FnChunks.j3] at h, fun _ _ _ _ _ _ _ r h => by simp [laws_FnChunks.l1] at h⟩
 | k + 1 => by
  obtain ⟨ih0, ih1, ih2, ih3, ih4, ih5, ih6⟩ := laws_FnChunks.mono_l k
  refine ⟨?_, ?_, ?_, ?_, ?_, ?_, ?_⟩
  ·intro y0 y1 y2 y3 y4 y5 y6
   unfold laws_FnChunks.j0
   repeat' first
   | (with_reducible exact ih0 _ _ _ _ _ _ _)
   | (with_reducible exact ih1 _ _)
   | (with_reducible exact ih2 _ _ _ _ _)
   | (with_reducible exact ih3 _ _ _ _ _ _)
   | (with_reducible exact ih4 _ _ _ _ _ _ _ _)
   | (with_reducible exact ih5 _ _ _ _ _ _)
   | (with_reducible exact ih6 _ _ _ _ _ _ _)
   | (with_reducible exact impl_ChunksOf.mono _ _)
   | (with_reducible exact impl_CutsOf.mono _ _)
   | (with_reducible exact impl_FingerOf.mono _ _)
   | (with_reducible exact laws_numberOf.mono _ _)
   | (with_reducible exact laws_sameInts.mono _ _ _)
   | (with_reducible exact laws_sameTexts.mono _ _ _)
   | (with_reducible exact spec_ChunksOf.mono _ _)
   | (with_reducible exact spec_CutsOf.mono _ _)
   | (with_reducible exact spec_DrawCutsOf.mono _ _)
   | (with_reducible exact spec_FingerOf.mono _ _)
   | (with_reducible exact spec_RollOn.mono _ _ _ _)
   | (with_reducible exact LeO.refl _)
   | (with_reducible exact LeO.none _)
   | (with_reducible refine LeO.ite ?_ ?_)
   | (with_reducible refine LeO.bind ?_ (fun _ => ?_))
   | exact ih0 _ _ _ _ _ _ _
   | exact ih1 _ _
   | exact ih2 _ _ _ _ _
   | exact ih3 _ _ _ _ _ _
   | exact ih4 _ _ _ _ _ _ _ _
   | exact ih5 _ _ _ _ _ _
   | exact ih6 _ _ _ _ _ _ _
   | exact impl_ChunksOf.mono _ _
   | exact impl_CutsOf.mono _ _
   | exact impl_FingerOf.mono _ _
   | exact laws_numberOf.mono _ _
   | exact laws_sameInts.mono _ _ _
   | exact laws_sameTexts.mono _ _ _
   | exact spec_ChunksOf.mono _ _
   | exact spec_CutsOf.mono _ _
   | exact spec_DrawCutsOf.mono _ _
   | exact spec_FingerOf.mono _ _
   | exact spec_RollOn.mono _ _ _ _
   | exact LeO.none _
   | refine LeO.ite ?_ ?_
   | refine LeO.bind ?_ (fun _ => ?_)
  ·intro y0 y1
   unfold laws_FnChunks.j5
   repeat' first
   | (with_reducible exact ih0 _ _ _ _ _ _ _)
   | (with_reducible exact ih1 _ _)
   | (with_reducible exact ih2 _ _ _ _ _)
   | (with_reducible exact ih3 _ _ _ _ _ _)
   | (with_reducible exact ih4 _ _ _ _ _ _ _ _)
   | (with_reducible exact ih5 _ _ _ _ _ _)
   | (with_reducible exact ih6 _ _ _ _ _ _ _)
   | (with_reducible exact impl_ChunksOf.mono _ _)
   | (with_reducible exact impl_CutsOf.mono _ _)
   | (with_reducible exact impl_FingerOf.mono _ _)
   | (with_reducible exact laws_numberOf.mono _ _)
   | (with_reducible exact laws_sameInts.mono _ _ _)
   | (with_reducible exact laws_sameTexts.mono _ _ _)
   | (with_reducible exact spec_ChunksOf.mono _ _)
   | (with_reducible exact spec_CutsOf.mono _ _)
   | (with_reducible exact spec_DrawCutsOf.mono _ _)
   | (with_reducible exact spec_FingerOf.mono _ _)
   | (with_reducible exact spec_RollOn.mono _ _ _ _)
   | (with_reducible exact LeO.refl _)
   | (with_reducible exact LeO.none _)
   | (with_reducible refine LeO.ite ?_ ?_)
   | (with_reducible refine LeO.bind ?_ (fun _ => ?_))
   | exact ih0 _ _ _ _ _ _ _
   | exact ih1 _ _
   | exact ih2 _ _ _ _ _
   | exact ih3 _ _ _ _ _ _
   | exact ih4 _ _ _ _ _ _ _ _
   | exact ih5 _ _ _ _ _ _
   | exact ih6 _ _ _ _ _ _ _
   | exact impl_ChunksOf.mono _ _
   | exact impl_CutsOf.mono _ _
   | exact impl_FingerOf.mono _ _
   | exact laws_numberOf.mono _ _
   | exact laws_sameInts.mono _ _ _
   | exact laws_sameTexts.mono _ _ _
   | exact spec_ChunksOf.mono _ _
   | exact spec_CutsOf.mono _ _
   | exact spec_DrawCutsOf.mono _ _
   | exact spec_FingerOf.mono _ _
   | exact spec_RollOn.mono _ _ _ _
   | exact LeO.none _
   | refine LeO.ite ?_ ?_
   | refine LeO.bind ?_ (fun _ => ?_)
  ·intro y0 y1 y2 y3 y4
   unfold laws_FnChunks.j6
   repeat' first
   | (with_reducible exact ih0 _ _ _ _ _ _ _)
   | (with_reducible exact ih1 _ _)
   | (with_reducible exact ih2 _ _ _ _ _)
   | (with_reducible exact ih3 _ _ _ _ _ _)
   | (with_reducible exact ih4 _ _ _ _ _ _ _ _)
   | (with_reducible exact ih5 _ _ _ _ _ _)
   | (with_reducible exact ih6 _ _ _ _ _ _ _)
   | (with_reducible exact impl_ChunksOf.mono _ _)
   | (with_reducible exact impl_CutsOf.mono _ _)
   | (with_reducible exact impl_FingerOf.mono _ _)
   | (with_reducible exact laws_numberOf.mono _ _)
   | (with_reducible exact laws_sameInts.mono _ _ _)
   | (with_reducible exact laws_sameTexts.mono _ _ _)
   | (with_reducible exact spec_ChunksOf.mono _ _)
   | (with_reducible exact spec_CutsOf.mono _ _)
   | (with_reducible exact spec_DrawCutsOf.mono _ _)
   | (with_reducible exact spec_FingerOf.mono _ _)
   | (with_reducible exact spec_RollOn.mono _ _ _ _)
   | (with_reducible exact LeO.refl _)
   | (with_reducible exact LeO.none _)
   | (with_reducible refine LeO.ite ?_ ?_)
   | (with_reducible refine LeO.bind ?_ (fun _ => ?_))
   | exact ih0 _ _ _ _ _ _ _
   | exact ih1 _ _
   | exact ih2 _ _ _ _ _
   | exact ih3 _ _ _ _ _ _
   | exact ih4 _ _ _ _ _ _ _ _
   | exact ih5 _ _ _ _ _ _
   | exact ih6 _ _ _ _ _ _ _
   | exact impl_ChunksOf.mono _ _
   | exact impl_CutsOf.mono _ _
   | exact impl_FingerOf.mono _ _
   | exact laws_numberOf.mono _ _
   | exact laws_sameInts.mono _ _ _
   | exact laws_sameTexts.mono _ _ _
   | exact spec_ChunksOf.mono _ _
   | exact spec_CutsOf.mono _ _
   | exact spec_DrawCutsOf.mono _ _
   | exact spec_FingerOf.mono _ _
   | exact spec_RollOn.mono _ _ _ _
   | exact LeO.none _
   | refine LeO.ite ?_ ?_
   | refine LeO.bind ?_ (fun _ => ?_)
  ·intro y0 y1 y2 y3 y4 y5
   unfold laws_FnChunks.j1
   repeat' first
   | (with_reducible exact ih0 _ _ _ _ _ _ _)
   | (with_reducible exact ih1 _ _)
   | (with_reducible exact ih2 _ _ _ _ _)
   | (with_reducible exact ih3 _ _ _ _ _ _)
   | (with_reducible exact ih4 _ _ _ _ _ _ _ _)
   | (with_reducible exact ih5 _ _ _ _ _ _)
   | (with_reducible exact ih6 _ _ _ _ _ _ _)
   | (with_reducible exact impl_ChunksOf.mono _ _)
   | (with_reducible exact impl_CutsOf.mono _ _)
   | (with_reducible exact impl_FingerOf.mono _ _)
   | (with_reducible exact laws_numberOf.mono _ _)
   | (with_reducible exact laws_sameInts.mono _ _ _)
   | (with_reducible exact laws_sameTexts.mono _ _ _)
   | (with_reducible exact spec_ChunksOf.mono _ _)
   | (with_reducible exact spec_CutsOf.mono _ _)
   | (with_reducible exact spec_DrawCutsOf.mono _ _)
   | (with_reducible exact spec_FingerOf.mono _ _)
   | (with_reducible exact spec_RollOn.mono _ _ _ _)
   | (with_reducible exact LeO.refl _)
   | (with_reducible exact LeO.none _)
   | (with_reducible refine LeO.ite ?_ ?_)
   | (with_reducible refine LeO.bind ?_ (fun _ => ?_))
   | exact ih0 _ _ _ _ _ _ _
   | exact ih1 _ _
   | exact ih2 _ _ _ _ _
   | exact ih3 _ _ _ _ _ _
   | exact ih4 _ _ _ _ _ _ _ _
   | exact ih5 _ _ _ _ _ _
   | exact ih6 _ _ _ _ _ _ _
   | exact impl_ChunksOf.mono _ _
   | exact impl_CutsOf.mono _ _
   | exact impl_FingerOf.mono _ _
   | exact laws_numberOf.mono _ _
   | exact laws_sameInts.mono _ _ _
   | exact laws_sameTexts.mono _ _ _
   | exact spec_ChunksOf.mono _ _
   | exact spec_CutsOf.mono _ _
   | exact spec_DrawCutsOf.mono _ _
   | exact spec_FingerOf.mono _ _
   | exact spec_RollOn.mono _ _ _ _
   | exact LeO.none _
   | refine LeO.ite ?_ ?_
   | refine LeO.bind ?_ (fun _ => ?_)
  ·intro y0 y1 y2 y3 y4 y5 y6 y7
   unfold laws_FnChunks.l0
   repeat' first
   | (with_reducible exact ih0 _ _ _ _ _ _ _)
   | (with_reducible exact ih1 _ _)
   | (with_reducible exact ih2 _ _ _ _ _)
   | (with_reducible exact ih3 _ _ _ _ _ _)
   | (with_reducible exact ih4 _ _ _ _ _ _ _ _)
   | (with_reducible exact ih5 _ _ _ _ _ _)
   | (with_reducible exact ih6 _ _ _ _ _ _ _)
   | (with_reducible exact impl_ChunksOf.mono _ _)
   | (with_reducible exact impl_CutsOf.mono _ _)
   | (with_reducible exact impl_FingerOf.mono _ _)
   | (with_reducible exact laws_numberOf.mono _ _)
   | (with_reducible exact laws_sameInts.mono _ _ _)
   | (with_reducible exact laws_sameTexts.mono _ _ _)
   | (with_reducible exact spec_ChunksOf.mono _ _)
   | (with_reducible exact spec_CutsOf.mono _ _)
   | (with_reducible exact spec_DrawCutsOf.mono _ _)
   | (with_reducible exact spec_FingerOf.mono _ _)
   | (with_reducible exact spec_RollOn.mono _ _ _ _)
   | (with_reducible exact LeO.refl _)
   | (with_reducible exact LeO.none _)
   | (with_reducible refine LeO.ite ?_ ?_)
   | (with_reducible refine LeO.bind ?_ (fun _ => ?_))
   | exact ih0 _ _ _ _ _ _ _
   | exact ih1 _ _
   | exact ih2 _ _ _ _ _
   | exact ih3 _ _ _ _ _ _
   | exact ih4 _ _ _ _ _ _ _ _
   | exact ih5 _ _ _ _ _ _
   | exact ih6 _ _ _ _ _ _ _
   | exact impl_ChunksOf.mono _ _
   | exact impl_CutsOf.mono _ _
   | exact impl_FingerOf.mono _ _
   | exact laws_numberOf.mono _ _
   | exact laws_sameInts.mono _ _ _
   | exact laws_sameTexts.mono _ _ _
   | exact spec_ChunksOf.mono _ _
   | exact spec_CutsOf.mono _ _
   | exact spec_DrawCutsOf.mono _ _
   | exact spec_FingerOf.mono _ _
   | exact spec_RollOn.mono _ _ _ _
   | exact LeO.none _
   | refine LeO.ite ?_ ?_
   | refine LeO.bind ?_ (fun _ => ?_)
  ·intro y0 y1 y2 y3 y4 y5
   unfold laws_FnChunks.j3
   repeat' first
   | (with_reducible exact ih0 _ _ _ _ _ _ _)
   | (with_reducible exact ih1 _ _)
   | (with_reducible exact ih2 _ _ _ _ _)
   | (with_reducible exact ih3 _ _ _ _ _ _)
   | (with_reducible exact ih4 _ _ _ _ _ _ _ _)
   | (with_reducible exact ih5 _ _ _ _ _ _)
   | (with_reducible exact ih6 _ _ _ _ _ _ _)
   | (with_reducible exact impl_ChunksOf.mono _ _)
   | (with_reducible exact impl_CutsOf.mono _ _)
   | (with_reducible exact impl_FingerOf.mono _ _)
   | (with_reducible exact laws_numberOf.mono _ _)
   | (with_reducible exact laws_sameInts.mono _ _ _)
   | (with_reducible exact laws_sameTexts.mono _ _ _)
   | (with_reducible exact spec_ChunksOf.mono _ _)
   | (with_reducible exact spec_CutsOf.mono _ _)
   | (with_reducible exact spec_DrawCutsOf.mono _ _)
   | (with_reducible exact spec_FingerOf.mono _ _)
   | (with_reducible exact spec_RollOn.mono _ _ _ _)
   | (with_reducible exact LeO.refl _)
   | (with_reducible exact LeO.none _)
   | (with_reducible refine LeO.ite ?_ ?_)
   | (with_reducible refine LeO.bind ?_ (fun _ => ?_))
   | exact ih0 _ _ _ _ _ _ _
   | exact ih1 _ _
   | exact ih2 _ _ _ _ _
   | exact ih3 _ _ _ _ _ _
   | exact ih4 _ _ _ _ _ _ _ _
   | exact ih5 _ _ _ _ _ _
   | exact ih6 _ _ _ _ _ _ _
   | exact impl_ChunksOf.mono _ _
   | exact impl_CutsOf.mono _ _
   | exact impl_FingerOf.mono _ _
   | exact laws_numberOf.mono _ _
   | exact laws_sameInts.mono _ _ _
   | exact laws_sameTexts.mono _ _ _
   | exact spec_ChunksOf.mono _ _
   | exact spec_CutsOf.mono _ _
   | exact spec_DrawCutsOf.mono _ _
   | exact spec_FingerOf.mono _ _
   | exact spec_RollOn.mono _ _ _ _
   | exact LeO.none _
   | refine LeO.ite ?_ ?_
   | refine LeO.bind ?_ (fun _ => ?_)
  ·intro y0 y1 y2 y3 y4 y5 y6
   unfold laws_FnChunks.l1
   repeat' first
   | (with_reducible exact ih0 _ _ _ _ _ _ _)
   | (with_reducible exact ih1 _ _)
   | (with_reducible exact ih2 _ _ _ _ _)
   | (with_reducible exact ih3 _ _ _ _ _ _)
   | (with_reducible exact ih4 _ _ _ _ _ _ _ _)
   | (with_reducible exact ih5 _ _ _ _ _ _)
   | (with_reducible exact ih6 _ _ _ _ _ _ _)
   | (with_reducible exact impl_ChunksOf.mono _ _)
   | (with_reducible exact impl_CutsOf.mono _ _)
   | (with_reducible exact impl_FingerOf.mono _ _)
   | (with_reducible exact laws_numberOf.mono _ _)
   | (with_reducible exact laws_sameInts.mono _ _ _)
   | (with_reducible exact laws_sameTexts.mono _ _ _)
   | (with_reducible exact spec_ChunksOf.mono _ _)
   | (with_reducible exact spec_CutsOf.mono _ _)
   | (with_reducible exact spec_DrawCutsOf.mono _ _)
   | (with_reducible exact spec_FingerOf.mono _ _)
   | (with_reducible exact spec_RollOn.mono _ _ _ _)
   | (with_reducible exact LeO.refl _)
   | (with_reducible exact LeO.none _)
   | (with_reducible refine LeO.ite ?_ ?_)
   | (with_reducible refine LeO.bind ?_ (fun _ => ?_))
   | exact ih0 _ _ _ _ _ _ _
   | exact ih1 _ _
   | exact ih2 _ _ _ _ _
   | exact ih3 _ _ _ _ _ _
   | exact ih4 _ _ _ _ _ _ _ _
   | exact ih5 _ _ _ _ _ _
   | exact ih6 _ _ _ _ _ _ _
   | exact impl_ChunksOf.mono _ _
   | exact impl_CutsOf.mono _ _
   | exact impl_FingerOf.mono _ _
   | exact laws_numberOf.mono _ _
   | exact laws_sameInts.mono _ _ _
   | exact laws_sameTexts.mono _ _ _
   | exact spec_ChunksOf.mono _ _
   | exact spec_CutsOf.mono _ _
   | exact spec_DrawCutsOf.mono _ _
   | exact spec_FingerOf.mono _ _
   | exact spec_RollOn.mono _ _ _ _
   | exact LeO.none _
   | refine LeO.ite ?_ ?_
   | refine LeO.bind ?_ (fun _ => ?_)
theorem laws_FnChunks.mono : ∀ a0 a1 k, LeO (laws_FnChunks.f k a0 a1) (laws_FnChunks.f (k + 1) a0 a1) := by
 intro a0 a1 k
 obtain ⟨ih0, ih1, ih2, ih3, ih4, ih5, ih6⟩ := laws_FnChunks.mono_l k
 unfold laws_FnChunks.f
 repeat' first
   | (with_reducible exact ih0 _ _ _ _ _ _ _)
   | (with_reducible exact ih1 _ _)
   | (with_reducible exact ih2 _ _ _ _ _)
   | (with_reducible exact ih3 _ _ _ _ _ _)
   | (with_reducible exact ih4 _ _ _ _ _ _ _ _)
   | (with_reducible exact ih5 _ _ _ _ _ _)
   | (with_reducible exact ih6 _ _ _ _ _ _ _)
   | (with_reducible exact impl_ChunksOf.mono _ _)
   | (with_reducible exact impl_CutsOf.mono _ _)
   | (with_reducible exact impl_FingerOf.mono _ _)
   | (with_reducible exact laws_numberOf.mono _ _)
   | (with_reducible exact laws_sameInts.mono _ _ _)
   | (with_reducible exact laws_sameTexts.mono _ _ _)
   | (with_reducible exact spec_ChunksOf.mono _ _)
   | (with_reducible exact spec_CutsOf.mono _ _)
   | (with_reducible exact spec_DrawCutsOf.mono _ _)
   | (with_reducible exact spec_FingerOf.mono _ _)
   | (with_reducible exact spec_RollOn.mono _ _ _ _)
   | (with_reducible exact LeO.refl _)
   | (with_reducible exact LeO.none _)
   | (with_reducible refine LeO.ite ?_ ?_)
   | (with_reducible refine LeO.bind ?_ (fun _ => ?_))
   | exact ih0 _ _ _ _ _ _ _
   | exact ih1 _ _
   | exact ih2 _ _ _ _ _
   | exact ih3 _ _ _ _ _ _
   | exact ih4 _ _ _ _ _ _ _ _
   | exact ih5 _ _ _ _ _ _
   | exact ih6 _ _ _ _ _ _ _
   | exact impl_ChunksOf.mono _ _
   | exact impl_CutsOf.mono _ _
   | exact impl_FingerOf.mono _ _
   | exact laws_numberOf.mono _ _
   | exact laws_sameInts.mono _ _ _
   | exact laws_sameTexts.mono _ _ _
   | exact spec_ChunksOf.mono _ _
   | exact spec_CutsOf.mono _ _
   | exact spec_DrawCutsOf.mono _ _
   | exact spec_FingerOf.mono _ _
   | exact spec_RollOn.mono _ _ _ _
   | exact LeO.none _
   | refine LeO.ite ?_ ?_
   | refine LeO.bind ?_ (fun _ => ?_)
def laws_FnChunks.T28 : Bool × List (List Nat × List Nat) := (true, [([], []), ([], []), ([], []), ([1, 2], [1, 2]), ([3], [3]), ([0, 4], [0, 4]), ([], []), ([], []), ([7], [7]), ([], []), ([8, 9], [8, 9]), ([6, 10], [6, 10]), ([11], [11]), ([5, 12], [5, 12])])
def laws_FnChunks.B28 : List Nat := [0, 0, 0, 6, 14, 31, 0, 0, 128, 0, 896, 1984, 4032, 8191]
theorem laws_FnChunks.tab28 : rtab .any (opsOf Try.f12 28) = laws_FnChunks.T28 := by kernel_rfl
theorem laws_FnChunks.bits28 : waitsOk laws_FnChunks.T28.2 laws_FnChunks.B28 = true := by kernel_rfl
def laws_FnChunks.T41 : Bool × List (List Nat × List Nat) := (true, [([], []), ([0], [0]), ([], []), ([2], [2]), ([3], [3]), ([4], [4]), ([1, 5], [1, 5]), ([6], [6]), ([7], [7]), ([8], [8]), ([8], [8]), ([9, 7, 0, 1, 2, 3, 4, 5, 6, 7, 8, 9], [9]), ([10, 11, 0, 1, 2, 3, 4, 5, 6, 7, 8, 9, 10, 11], [10])])
def laws_FnChunks.B41 : List Nat := [0, 1, 0, 4, 12, 28, 63, 127, 255, 511, 511, 1023, 4095]
theorem laws_FnChunks.tab41 : rtab .any (opsOf Try.f12 41) = laws_FnChunks.T41 := by kernel_rfl
theorem laws_FnChunks.bits41 : waitsOk laws_FnChunks.T41.2 laws_FnChunks.B41 = true := by kernel_rfl
set_option maxHeartbeats 8000000 in
set_option maxRecDepth 100000 in
theorem laws_FnChunks.calls (k : Nat) (A0 : Option Addr) (c0 : Nat) (l0 : List Int) (A1 : Option Addr) (c1 : Nat) (l1 : List Int) (r : Bool) (w : World) (hr0 : Kd.C (Kd.int .u8) w A0 l0.length l0) (hc0 : l0.length ≤ c0) (hr1 : Kd.C (Kd.int .u8) w A1 l1.length l1) (hc1 : l1.length ≤ c1) (h : laws_FnChunks.f k l0 l1 = some true) :
  Calls Try.prog 12 #[.slice A0 l0.length c0, .slice A1 l1.length c1] w fun e w' => e = .returned (.bool true) ∧ Below w.heap.size w w' := by
 have HR0 := Aside0.mk hr0
 have HC0 := Aside0.mk hc0
 clear hr0 hc0
 have HR1 := Aside0.mk hr1
 have HC1 := Aside0.mk hc1
 clear hr1 hc1
 have HB := Aside0.mk (Below.refl w.heap.size w)
 have H : (if (wrap64 ((l0.length : Int) + (l1.length : Int))) > 1048576 then (some true) else ((spec_DrawCutsOf.f k l0).bind fun t242 => ((impl_CutsOf.f k t242).bind fun bt243 => ((spec_CutsOf.f k t242).bind fun bt247 => ((impl_ChunksOf.f k t242).bind fun bt251 => ((spec_ChunksOf.f k t242).bind fun bt255 => (if (bt243.2 != bt247.2) = true then (laws_FnChunks.j0 k l0 l1 t242 bt243.1 bt243.2 bt251.1 true) else ((laws_sameInts.f k bt243.1 bt247.1).bind fun t259 => (if t259 = true then (if (bt251.2 != bt255.2) = true then (laws_FnChunks.j0 k l0 l1 t242 bt243.1 bt243.2 bt251.1 true) else ((laws_sameTexts.f k bt251.1 bt255.1).bind fun t260 => (if t260 = true then (laws_FnChunks.j0 k l0 l1 t242 bt243.1 bt243.2 bt251.1 (bt243.2 != bt251.2)) else (laws_FnChunks.j0 k l0 l1 t242 bt243.1 bt243.2 bt251.1 true)))) else (laws_FnChunks.j0 k l0 l1 t242 bt243.1 bt243.2 bt251.1 true)))))))))) = some true := h
 clear h
 by_cases c3 : (wrap64 ((l0.length : Int) + (l1.length : Int))) > 1048576
 ·rw [if_pos c3] at H
  have c3b0 : decide (1048576 < (wrap64 ((l0.length : Int) + (l1.length : Int)))) = true := decide_eq_true c3
  clear c3
  have hR_ := Option.some.inj H
  clear H
  go_enter Try.func12, Try.ntmps12
  go_wp2
  go_ret
  exact ⟨by first | rfl | (simp [errW_none, errW_some] <;> rfl) | (simp [*, errW_none, errW_some] <;> rfl), by repeat (first | (with_reducible first | exact HB.out | apply Op.a1 | apply Op.a2 | apply Op.a3) | exact HB.out)⟩
 ·rw [if_neg c3] at H
  have c3b0 : decide (1048576 < (wrap64 ((l0.length : Int) + (l1.length : Int)))) = false := decide_eq_false c3
  clear c3
  replace H := Option.bind_eq_some_iff.mp H
  obtain ⟨t242, A40, H⟩ := H
  replace H : ((impl_CutsOf.f k t242).bind fun bt243 => ((spec_CutsOf.f k t242).bind fun bt247 => ((impl_ChunksOf.f k t242).bind fun bt251 => ((spec_ChunksOf.f k t242).bind fun bt255 => (if (bt243.2 != bt247.2) = true then (laws_FnChunks.j0 k l0 l1 t242 bt243.1 bt243.2 bt251.1 true) else ((laws_sameInts.f k bt243.1 bt247.1).bind fun t259 => (if t259 = true then (if (bt251.2 != bt255.2) = true then (laws_FnChunks.j0 k l0 l1 t242 bt243.1 bt243.2 bt251.1 true) else ((laws_sameTexts.f k bt251.1 bt255.1).bind fun t260 => (if t260 = true then (laws_FnChunks.j0 k l0 l1 t242 bt243.1 bt243.2 bt251.1 (bt243.2 != bt251.2)) else (laws_FnChunks.j0 k l0 l1 t242 bt243.1 bt243.2 bt251.1 true)))) else (laws_FnChunks.j0 k l0 l1 t242 bt243.1 bt243.2 bt251.1 true)))))))) = some true := H
  have A4 := Aside0.mk A40
  clear A40
  replace H := Option.bind_eq_some_iff.mp H
  obtain ⟨⟨t243, t244⟩, A50, H⟩ := H
  replace H : ((spec_CutsOf.f k t242).bind fun bt247 => ((impl_ChunksOf.f k t242).bind fun bt251 => ((spec_ChunksOf.f k t242).bind fun bt255 => (if (t244 != bt247.2) = true then (laws_FnChunks.j0 k l0 l1 t242 t243 t244 bt251.1 true) else ((laws_sameInts.f k t243 bt247.1).bind fun t259 => (if t259 = true then (if (bt251.2 != bt255.2) = true then (laws_FnChunks.j0 k l0 l1 t242 t243 t244 bt251.1 true) else ((laws_sameTexts.f k bt251.1 bt255.1).bind fun t260 => (if t260 = true then (laws_FnChunks.j0 k l0 l1 t242 t243 t244 bt251.1 (t244 != bt251.2)) else (laws_FnChunks.j0 k l0 l1 t242 t243 t244 bt251.1 true)))) else (laws_FnChunks.j0 k l0 l1 t242 t243 t244 bt251.1 true))))))) = some true := H
  have A5 := Aside0.mk A50
  clear A50
  replace H := Option.bind_eq_some_iff.mp H
  obtain ⟨⟨t247, t248⟩, A60, H⟩ := H
  replace H : ((impl_ChunksOf.f k t242).bind fun bt251 => ((spec_ChunksOf.f k t242).bind fun bt255 => (if (t244 != t248) = true then (laws_FnChunks.j0 k l0 l1 t242 t243 t244 bt251.1 true) else ((laws_sameInts.f k t243 t247).bind fun t259 => (if t259 = true then (if (bt251.2 != bt255.2) = true then (laws_FnChunks.j0 k l0 l1 t242 t243 t244 bt251.1 true) else ((laws_sameTexts.f k bt251.1 bt255.1).bind fun t260 => (if t260 = true then (laws_FnChunks.j0 k l0 l1 t242 t243 t244 bt251.1 (t244 != bt251.2)) else (laws_FnChunks.j0 k l0 l1 t242 t243 t244 bt251.1 true)))) else (laws_FnChunks.j0 k l0 l1 t242 t243 t244 bt251.1 true)))))) = some true := H
  have A6 := Aside0.mk A60
  clear A60
  replace H := Option.bind_eq_some_iff.mp H
  obtain ⟨⟨t251, t252⟩, A70, H⟩ := H
  replace H : ((spec_ChunksOf.f k t242).bind fun bt255 => (if (t244 != t248) = true then (laws_FnChunks.j0 k l0 l1 t242 t243 t244 t251 true) else ((laws_sameInts.f k t243 t247).bind fun t259 => (if t259 = true then (if (t252 != bt255.2) = true then (laws_FnChunks.j0 k l0 l1 t242 t243 t244 t251 true) else ((laws_sameTexts.f k t251 bt255.1).bind fun t260 => (if t260 = true then (laws_FnChunks.j0 k l0 l1 t242 t243 t244 t251 (t244 != t252)) else (laws_FnChunks.j0 k l0 l1 t242 t243 t244 t251 true)))) else (laws_FnChunks.j0 k l0 l1 t242 t243 t244 t251 true))))) = some true := H
  have A7 := Aside0.mk A70
  clear A70
  replace H := Option.bind_eq_some_iff.mp H
  obtain ⟨⟨t255, t256⟩, A80, H⟩ := H
  replace H : (if (t244 != t248) = true then (laws_FnChunks.j0 k l0 l1 t242 t243 t244 t251 true) else ((laws_sameInts.f k t243 t247).bind fun t259 => (if t259 = true then (if (t252 != t256) = true then (laws_FnChunks.j0 k l0 l1 t242 t243 t244 t251 true) else ((laws_sameTexts.f k t251 t255).bind fun t260 => (if t260 = true then (laws_FnChunks.j0 k l0 l1 t242 t243 t244 t251 (t244 != t252)) else (laws_FnChunks.j0 k l0 l1 t242 t243 t244 t251 true)))) else (laws_FnChunks.j0 k l0 l1 t242 t243 t244 t251 true)))) = some true := H
  have A8 := Aside0.mk A80
  clear A80
  have HC9 := Aside0.mk H
  clear H
  go_enter Try.func12, Try.ntmps12
  go_upto_region 8 with (first | ((with_reducible refine gate_callee (f := 49) rfl ?_); refine goesL_ (some 47) rfl rfl Try.func49 (by kernel_rfl) rfl #[.slice A0 l0.length c0] rfl (by (try simp only [List.map_toArray, List.map_cons, List.map_nil]); first | done | rfl | (simp only [List.length_drop, List.length_take]; rfl)) ?_; (with_reducible refine (spec_DrawCutsOf.calls k _ _ l0 t242 _ ?side1 ?side2 A4.out).mono ?_); (case side1 => repeat (first | exact HR0.out | (with_reducible refine Kd.C_alloc ?_ _) | (with_reducible refine Kd.C_drewN ?_ _) | (with_reducible refine Kd.C_drew ?_))); (case side2 => exact HC0.out); rintro e w10 ⟨rfl, hb⟩; refine ⟨_, rfl, ?_⟩; have n0_ := Aside0.mk (Op.a5 (by repeat (first | (with_reducible first | exact HB.out | apply Op.a1 | apply Op.a2 | apply Op.a3) | exact HB.out)) hb); clear HB; have HB := n0_; clear n0_; (try clear hb); (try clear hb2); (try clear hk); (try clear hi)) | ((with_reducible refine gate_callee (f := 29) rfl ?_); refine goesL_ (some 50) rfl rfl Try.func29 (by kernel_rfl) rfl #[.string t242] rfl (by (try simp only [List.map_toArray, List.map_cons, List.map_nil]); first | done | rfl | (simp only [List.length_drop, List.length_take]; rfl)) ?_; (with_reducible refine (impl_CutsOf.calls k t242 t243 t244 _ A5.out).mono ?_); rintro e w11 ⟨v245, rfl, ho0, hb⟩; refine ⟨_, rfl, ?_⟩; have n0_ := Aside0.mk (Kd.R_lower ho0 (Op.a6 (by repeat (first | (with_reducible first | exact HB.out | apply Op.a1 | apply Op.a2 | apply Op.a3) | exact HB.out)))); have n1_ := Aside0.mk (Op.a5 (by repeat (first | (with_reducible first | exact HB.out | apply Op.a1 | apply Op.a2 | apply Op.a3) | exact HB.out)) hb); clear HB; have HO246 := n0_; have HB := n1_; clear n0_ n1_; (try clear hb); (try clear hb2); (try clear hk); (try clear hi); (try clear ho0)) | ((with_reducible refine gate_callee (f := 28) rfl ?_); refine goesL_ (some 55) rfl rfl Try.func28 (by kernel_rfl) rfl #[.string t242] rfl (by (try simp only [List.map_toArray, List.map_cons, List.map_nil]); first | done | rfl | (simp only [List.length_drop, List.length_take]; rfl)) ?_; (with_reducible refine (spec_CutsOf.calls k t242 t247 t248 _ A6.out).mono ?_); rintro e w12 ⟨v249, rfl, ho0, hb⟩; refine ⟨_, rfl, ?_⟩; have n0_ := Aside0.mk (Kd.R_elder' (by (with_reducible repeat (first | apply Kd.R_alloc | apply Kd.R_drewN | apply Kd.R_drew)); exact HO246.out) (Kd.R_base ho0) hb); have n1_ := Aside0.mk (Kd.R_lower (Kd.R_new' ho0 (Kd.R_lt (by (with_reducible repeat (first | apply Kd.R_alloc | apply Kd.R_drewN | apply Kd.R_drew)); exact HO246.out))) (Op.a6 (by repeat (first | (with_reducible first | exact HB.out | apply Op.a1 | apply Op.a2 | apply Op.a3) | exact HB.out)))); have n2_ := Aside0.mk (Op.a5 (by repeat (first | (with_reducible first | exact HB.out | apply Op.a1 | apply Op.a2 | apply Op.a3) | exact HB.out)) hb); clear HO246; clear HB; have HO246 := n0_; have HO250 := n1_; have HB := n2_; clear n0_ n1_ n2_; (try clear hb); (try clear hb2); (try clear hk); (try clear hi); (try clear ho0)) | ((with_reducible refine gate_callee (f := 34) rfl ?_); refine goesL_ (some 60) rfl rfl Try.func34 (by kernel_rfl) rfl #[.string t242] rfl (by (try simp only [List.map_toArray, List.map_cons, List.map_nil]); first | done | rfl | (simp only [List.length_drop, List.length_take]; rfl)) ?_; (with_reducible refine (impl_ChunksOf.calls k t242 t251 t252 _ A7.out).mono ?_); rintro e w13 ⟨v253, rfl, ho0, hb⟩; refine ⟨_, rfl, ?_⟩; have n0_ := Aside0.mk (Kd.R_below (by (with_reducible repeat (first | apply Kd.R_alloc | apply Kd.R_drewN | apply Kd.R_drew)); exact HO246.out) hb); have n1_ := Aside0.mk (Kd.R_below (by (with_reducible repeat (first | apply Kd.R_alloc | apply Kd.R_drewN | apply Kd.R_drew)); exact HO250.out) hb); have n2_ := Aside0.mk (Kd.R_lower ho0 (Op.a6 (by repeat (first | (with_reducible first | exact HB.out | apply Op.a1 | apply Op.a2 | apply Op.a3) | exact HB.out)))); have n3_ := Aside0.mk (Op.a5 (by repeat (first | (with_reducible first | exact HB.out | apply Op.a1 | apply Op.a2 | apply Op.a3) | exact HB.out)) hb); clear HO246; clear HO250; clear HB; have HO246 := n0_; have HO250 := n1_; have HO254 := n2_; have HB := n3_; clear n0_ n1_ n2_ n3_; (try clear hb); (try clear hb2); (try clear hk); (try clear hi); (try clear ho0)) | ((with_reducible refine gate_callee (f := 33) rfl ?_); refine goesL_ (some 65) rfl rfl Try.func33 (by kernel_rfl) rfl #[.string t242] rfl (by (try simp only [List.map_toArray, List.map_cons, List.map_nil]); first | done | rfl | (simp only [List.length_drop, List.length_take]; rfl)) ?_; (with_reducible refine (spec_ChunksOf.calls k t242 t255 t256 _ A8.out).mono ?_); rintro e w14 ⟨v257, rfl, ho0, hb⟩; refine ⟨_, rfl, ?_⟩; have n0_ := Aside0.mk (Kd.R_below (by (with_reducible repeat (first | apply Kd.R_alloc | apply Kd.R_drewN | apply Kd.R_drew)); exact HO246.out) hb); have n1_ := Aside0.mk (Kd.R_below (by (with_reducible repeat (first | apply Kd.R_alloc | apply Kd.R_drewN | apply Kd.R_drew)); exact HO250.out) hb); have n2_ := Aside0.mk (Kd.R_elder' (by (with_reducible repeat (first | apply Kd.R_alloc | apply Kd.R_drewN | apply Kd.R_drew)); exact HO254.out) (Kd.R_base ho0) hb); have n3_ := Aside0.mk (Kd.R_lower (Kd.R_new' ho0 (Kd.R_lt (by (with_reducible repeat (first | apply Kd.R_alloc | apply Kd.R_drewN | apply Kd.R_drew)); exact HO254.out))) (Op.a6 (by repeat (first | (with_reducible first | exact HB.out | apply Op.a1 | apply Op.a2 | apply Op.a3) | exact HB.out)))); have n4_ := Aside0.mk (Op.a5 (by repeat (first | (with_reducible first | exact HB.out | apply Op.a1 | apply Op.a2 | apply Op.a3) | exact HB.out)) hb); clear HO246; clear HO250; clear HO254; clear HB; have HO246 := n0_; have HO250 := n1_; have HO254 := n2_; have HO258 := n3_; have HB := n4_; clear n0_ n1_ n2_ n3_ n4_; (try clear hb); (try clear hb2); (try clear hk); (try clear hi); (try clear ho0)))
  (try simp only [Act.put, List.setIfInBounds_toArray, List.set_cons_zero, List.set_cons_succ])
  go_cut [92] (fun v92 wc => ∃ (kq : Nat) (x92_8 : Bool), v92 = .bool x92_8 ∧ Aside0 (laws_FnChunks.j0 kq l0 l1 t242 t243 t244 t251 x92_8 = some true) ∧ Aside0 (kq ≤ k) ∧ Aside0 (Kd.R (Kd.int .i64) 3 wc w.heap.size (fun _ => True) v245 t243) ∧ Aside0 (Kd.R Kd.string 9 wc w.heap.size (fun _ => True) v253 t251) ∧ Aside0 (Below w.heap.size w wc))
  case first =>
   as_aux_lemma =>
   have H := HC9.out
   clear HC9
   by_cases c15 : (t244 != t248) = true
   ·rw [if_pos c15] at H
    have c15b0 : (t244 != t248) = true := c15
    (try (have c15b1 : decide (t244 = t248) = false := by simpa using c15))
    (try (have c15b2 : (t244 == t248) = false := by simpa using c15))
    (try (have c15b3 : ¬ (t244 = t248) := by simpa using c15))
    clear c15
    (first | rw [c15b0] | (simp only [i64_w, i32_w]; rw [c15b0]) | skip)
    exact absurd H (by unfold laws_FnChunks.j0; split <;> simp)
   ·rw [if_neg c15] at H
    have c15b0 : (t244 != t248) = false := by simpa using c15
    (try (have c15b1 : decide (t244 = t248) = true := by simpa using c15))
    (try (have c15b2 : (t244 == t248) = true := by simpa using c15))
    clear c15
    (first | rw [c15b0] | (simp only [i64_w, i32_w]; rw [c15b0]) | skip)
    replace H := Option.bind_eq_some_iff.mp H
    obtain ⟨t259, A160, H⟩ := H
    replace H : (if t259 = true then (if (t252 != t256) = true then (laws_FnChunks.j0 k l0 l1 t242 t243 t244 t251 true) else ((laws_sameTexts.f k t251 t255).bind fun t260 => (if t260 = true then (laws_FnChunks.j0 k l0 l1 t242 t243 t244 t251 (t244 != t252)) else (laws_FnChunks.j0 k l0 l1 t242 t243 t244 t251 true)))) else (laws_FnChunks.j0 k l0 l1 t242 t243 t244 t251 true)) = some true := H
    have A16 := Aside0.mk A160
    clear A160
    by_cases c17 : t259 = true
    ·subst c17
     have H1 : (if (t252 != t256) = true then (laws_FnChunks.j0 k l0 l1 t242 t243 t244 t251 true) else ((laws_sameTexts.f k t251 t255).bind fun t260 => (if t260 = true then (laws_FnChunks.j0 k l0 l1 t242 t243 t244 t251 (t244 != t252)) else (laws_FnChunks.j0 k l0 l1 t242 t243 t244 t251 true)))) = some true := by rw [if_pos rfl] at H; exact H
     clear H
     have H := H1
     clear H1
     by_cases c18 : (t252 != t256) = true
     ·rw [if_pos c18] at H
      have c18b0 : (t252 != t256) = true := c18
      (try (have c18b1 : decide (t252 = t256) = false := by simpa using c18))
      (try (have c18b2 : (t252 == t256) = false := by simpa using c18))
      (try (have c18b3 : ¬ (t252 = t256) := by simpa using c18))
      clear c18
      exact absurd H (by unfold laws_FnChunks.j0; split <;> simp)
     ·rw [if_neg c18] at H
      have c18b0 : (t252 != t256) = false := by simpa using c18
      (try (have c18b1 : decide (t252 = t256) = true := by simpa using c18))
      (try (have c18b2 : (t252 == t256) = true := by simpa using c18))
      clear c18
      replace H := Option.bind_eq_some_iff.mp H
      obtain ⟨t260, A210, H⟩ := H
      replace H : (if t260 = true then (laws_FnChunks.j0 k l0 l1 t242 t243 t244 t251 (t244 != t252)) else (laws_FnChunks.j0 k l0 l1 t242 t243 t244 t251 true)) = some true := H
      have A21 := Aside0.mk A210
      clear A210
      by_cases c22 : t260 = true
      ·subst c22
       have H1 : (laws_FnChunks.j0 k l0 l1 t242 t243 t244 t251 (t244 != t252)) = some true := by rw [if_pos rfl] at H; exact H
       clear H
       have H := H1
       clear H1
       have H' := Aside0.mk H
       clear H
       obtain ⟨Ao23, co23, eo23⟩ := Kd.R_slice HO246.out
       subst eo23
       obtain ⟨Ao24, co24, eo24⟩ := Kd.R_slice HO250.out
       subst eo24
       go_wp2_with (first | (go_at_call 50; (with_reducible refine (laws_sameInts.calls k _ _ t243 _ _ t247 true _ ?side1 ?side2 ?side3 ?side4 A16.out).mono ?_); (case side1 => repeat (first | exact (Kd.R_reads' HO246.out).2.2 | (with_reducible refine Kd.C_alloc ?_ _) | (with_reducible refine Kd.C_drewN ?_ _) | (with_reducible refine Kd.C_drew ?_))); (case side2 => exact (Kd.R_reads' HO246.out).2.1); (case side3 => repeat (first | exact (Kd.R_reads' HO250.out).2.2 | (with_reducible refine Kd.C_alloc ?_ _) | (with_reducible refine Kd.C_drewN ?_ _) | (with_reducible refine Kd.C_drew ?_))); (case side4 => exact (Kd.R_reads' HO250.out).2.1); rintro e w' ⟨rfl, ⟨nd, rfl⟩⟩; obtain ⟨Ao25, co25, eo25⟩ := Kd.R_slice HO254.out; subst eo25; obtain ⟨Ao26, co26, eo26⟩ := Kd.R_slice HO258.out; subst eo26) | (go_at_call 51; (with_reducible refine (laws_sameTexts.calls k _ _ t251 _ _ t255 true _ ?side1 ?side2 ?side3 ?side4 A21.out).mono ?_); (case side1 => repeat (first | exact (Kd.R_reads' HO254.out).2.2 | (with_reducible refine Kd.C_alloc ?_ _) | (with_reducible refine Kd.C_drewN ?_ _) | (with_reducible refine Kd.C_drew ?_))); (case side2 => exact (Kd.R_reads' HO254.out).2.1); (case side3 => repeat (first | exact (Kd.R_reads' HO258.out).2.2 | (with_reducible refine Kd.C_alloc ?_ _) | (with_reducible refine Kd.C_drewN ?_ _) | (with_reducible refine Kd.C_drew ?_))); (case side4 => exact (Kd.R_reads' HO258.out).2.1); rintro e w' ⟨rfl, ⟨nd, rfl⟩⟩))
       go_meet
       case rel => exact ⟨_, ((t244 != t252)), (by first | rfl | (simp; done) | (simp [*]; done)), H', ⟨by first | omega | exact Nat.le_refl _⟩, ⟨by (with_reducible repeat (first | apply Kd.R_alloc | apply Kd.R_drewN | apply Kd.R_drew)); exact Kd.R_mono HO246.out (fun _ hk => trivial)⟩, ⟨by (with_reducible repeat (first | apply Kd.R_alloc | apply Kd.R_drewN | apply Kd.R_drew)); exact Kd.R_mono HO254.out (fun _ hk => trivial)⟩, ⟨by repeat (first | (with_reducible first | exact HB.out | apply Op.a1 | apply Op.a2 | apply Op.a3) | exact HB.out)⟩⟩
      ·replace c22 := Bool.eq_false_iff.mpr c22
       subst c22
       have H1 : (laws_FnChunks.j0 k l0 l1 t242 t243 t244 t251 true) = some true := by rw [if_neg (show ¬ (false = true) by decide)] at H; exact H
       clear H
       have H := H1
       clear H1
       exact absurd H (by unfold laws_FnChunks.j0; split <;> simp)
    ·replace c17 := Bool.eq_false_iff.mpr c17
     subst c17
     have H1 : (laws_FnChunks.j0 k l0 l1 t242 t243 t244 t251 true) = some true := by rw [if_neg (show ¬ (false = true) by decide)] at H; exact H
     clear H
     have H := H1
     clear H1
     exact absurd H (by unfold laws_FnChunks.j0; split <;> simp)
  case rest =>
   as_aux_lemma =>
   clear HC9
   try clear c1
   try clear c2
   try clear p2
   try clear c3
   try clear c3b0
   try clear c4
   try clear p6
   try clear c12
   try clear c15
   try clear c15b0
   try clear c15b1
   try clear c15b2
   try clear c17
   try clear c18
   try clear c18b0
   try clear c18b1
   try clear c18b2
   try clear c22
   try clear c28
   try clear c29
   obtain ⟨kq, x92_8, rfl, HA, HJ8, HO_6, HO_10, HB⟩ := hcut
   cases kq with
   | zero => exact absurd HA.out (by simp [laws_FnChunks.j0])
   | succ kj8 =>
    have H := HA.out
    clear HA
    simp only [laws_FnChunks.j0] at H
    by_cases c33 : x92_8 = true
    ·subst c33
     have H1 : (some false) = some true := by rw [if_pos rfl] at H; exact H
     clear H
     have H := H1
     clear H1
     exact absurd (Option.some.inj H) (by simp)
    ·replace c33 := Bool.eq_false_iff.mpr c33
     subst c33
     have H1 : (if t244 = true then ((impl_JoinChunks.f t251).bind fun bt261 => (if bt261.2 = true then (if bt261.1.toList = t242.toList then (laws_FnChunks.j1 kj8 l0 l1 t242 t243 t251 ((t251.length : Int) != (t243.length : Int))) else (laws_FnChunks.j1 kj8 l0 l1 t242 t243 t251 true)) else (laws_FnChunks.j1 kj8 l0 l1 t242 t243 t251 true))) else (laws_FnChunks.j5 kj8 l0 l1)) = some true := by rw [if_neg (show ¬ (false = true) by decide)] at H; exact H
     clear H
     have H := H1
     clear H1
     have HC34 := Aside0.mk H
     clear H
     go_upto_if 93 with (fail)
     go_cut [] (fun wc => ∃ (kq : Nat), Aside0 (laws_FnChunks.j5 kq l0 l1 = some true) ∧ Aside0 (kq ≤ kj8) ∧ Aside0 (Below w.heap.size w wc))
     case first =>
      as_aux_lemma =>
      have H := HC34.out
      clear HC34
      by_cases c35 : t244 = true
      ·subst c35
       have H1 : ((impl_JoinChunks.f t251).bind fun bt261 => (if bt261.2 = true then (if bt261.1.toList = t242.toList then (laws_FnChunks.j1 kj8 l0 l1 t242 t243 t251 ((t251.length : Int) != (t243.length : Int))) else (laws_FnChunks.j1 kj8 l0 l1 t242 t243 t251 true)) else (laws_FnChunks.j1 kj8 l0 l1 t242 t243 t251 true))) = some true := by rw [if_pos rfl] at H; exact H
       clear H
       have H := H1
       clear H1
       replace H := Option.bind_eq_some_iff.mp H
       obtain ⟨⟨t261, t262⟩, A360, H⟩ := H
       replace H : (if t262 = true then (if t261.toList = t242.toList then (laws_FnChunks.j1 kj8 l0 l1 t242 t243 t251 ((t251.length : Int) != (t243.length : Int))) else (laws_FnChunks.j1 kj8 l0 l1 t242 t243 t251 true)) else (laws_FnChunks.j1 kj8 l0 l1 t242 t243 t251 true)) = some true := H
       have A36 := Aside0.mk A360
       clear A360
       have HC37 := Aside0.mk H
       clear H
       obtain ⟨Ao38, co38, eo38⟩ := Kd.R_slice HO_10.out
       subst eo38
       go_upto_region 12 with (first | ((with_reducible refine gate_callee (f := 41) rfl ?_); refine goesL_ (some 96) rfl rfl Try.func41 (by kernel_rfl) rfl #[.slice Ao38 t251.length co38] rfl (by (try simp only [List.map_toArray, List.map_cons, List.map_nil]); first | done | rfl | (simp only [List.length_drop, List.length_take]; rfl)) ?_; (with_reducible refine (impl_JoinChunks.calls _ _ t251 t261 t262 _ ?side1 ?side2 A36.out).mono ?_); (case side1 => repeat (first | exact (Kd.R_reads' HO_10.out).2.2 | (with_reducible refine Kd.C_alloc ?_ _) | (with_reducible refine Kd.C_drewN ?_ _) | (with_reducible refine Kd.C_drew ?_))); (case side2 => exact (Kd.R_reads' HO_10.out).2.1); rintro e w39 ⟨rfl, hb⟩; refine ⟨_, rfl, ?_⟩; have n0_ := Aside0.mk (Kd.R_below (by (with_reducible repeat (first | apply Kd.R_alloc | apply Kd.R_drewN | apply Kd.R_drew)); exact HO_6.out) hb); have n1_ := Aside0.mk (Kd.R_below (by (with_reducible repeat (first | apply Kd.R_alloc | apply Kd.R_drewN | apply Kd.R_drew)); exact HO_10.out) hb); have n2_ := Aside0.mk (Op.a5 (by repeat (first | (with_reducible first | exact HB.out | apply Op.a1 | apply Op.a2 | apply Op.a3) | exact HB.out)) hb); clear HO_6; clear HO_10; clear HB; have HO_6 := n0_; have HO_10 := n1_; have HB := n2_; clear n0_ n1_ n2_; (try clear hb); (try clear hb2); (try clear hk); (try clear hi)))
       (try simp only [Act.put, List.setIfInBounds_toArray, List.set_cons_zero, List.set_cons_succ])
       go_cut [112] (fun v112 wc => ∃ (kq : Nat) (x112_36 : Bool), v112 = .bool x112_36 ∧ Aside0 (laws_FnChunks.j1 kq l0 l1 t242 t243 t251 x112_36 = some true) ∧ Aside0 (kq ≤ kj8) ∧ Aside0 (Kd.R (Kd.int .i64) 3 wc w.heap.size (fun _ => True) v245 t243) ∧ Aside0 (Kd.R Kd.string 9 wc w.heap.size (fun _ => True) (.slice Ao38 t251.length co38) t251) ∧ Aside0 (Below w.heap.size w wc))
       case first =>
        as_aux_lemma =>
        have H := HC37.out
        clear HC37
        by_cases c40 : t262 = true
        ·subst c40
         have H1 : (if t261.toList = t242.toList then (laws_FnChunks.j1 kj8 l0 l1 t242 t243 t251 ((t251.length : Int) != (t243.length : Int))) else (laws_FnChunks.j1 kj8 l0 l1 t242 t243 t251 true)) = some true := by rw [if_pos rfl] at H; exact H
         clear H
         have H := H1
         clear H1
         by_cases c41 : t261.toList = t242.toList
         ·rw [if_pos c41] at H
          have c41b0 : (t261.toList == t242.toList) = true := beq_iff_eq.mpr c41
          have c41b1 : (t261.toList != t242.toList) = false := bne_eq_false_iff_eq.mpr c41
          clear c41
          (first | rw [c41b0] | (simp only [i64_w, i32_w]; rw [c41b0]) | skip)
          have H' := Aside0.mk H
          clear H
          obtain ⟨Ao42, co42, eo42⟩ := Kd.R_slice HO_6.out
          subst eo42
          go_wp2
          go_meet
          case rel => exact ⟨_, (((t251.length : Int) != (t243.length : Int))), (by first | rfl | (simp; done) | (simp [*]; done)), H', ⟨by have := HJ8.out; first | omega | exact Nat.le_refl _⟩, ⟨by (with_reducible repeat (first | apply Kd.R_alloc | apply Kd.R_drewN | apply Kd.R_drew)); exact HO_6.out⟩, ⟨by (with_reducible repeat (first | apply Kd.R_alloc | apply Kd.R_drewN | apply Kd.R_drew)); exact HO_10.out⟩, ⟨by repeat (first | (with_reducible first | exact HB.out | apply Op.a1 | apply Op.a2 | apply Op.a3) | exact HB.out)⟩⟩
         ·rw [if_neg c41] at H
          have c41b0 : (t261.toList == t242.toList) = false := beq_eq_false_iff_ne.mpr c41
          have c41b1 : (t261.toList != t242.toList) = true := bne_iff_ne.mpr c41
          (first | rw [c41b0] | (simp only [i64_w, i32_w]; rw [c41b0]) | skip)
          exact absurd H (by unfold laws_FnChunks.j1; split <;> simp)
        ·replace c40 := Bool.eq_false_iff.mpr c40
         subst c40
         have H1 : (laws_FnChunks.j1 kj8 l0 l1 t242 t243 t251 true) = some true := by rw [if_neg (show ¬ (false = true) by decide)] at H; exact H
         clear H
         have H := H1
         clear H1
         exact absurd H (by unfold laws_FnChunks.j1; split <;> simp)
       case rest =>
        as_aux_lemma =>
        clear HC37
        try clear c1
        try clear c2
        try clear p2
        try clear c3
        try clear c3b0
        try clear c4
        try clear p6
        try clear c12
        try clear c15
        try clear c15b0
        try clear c15b1
        try clear c15b2
        try clear c17
        try clear c18
        try clear c18b0
        try clear c18b1
        try clear c18b2
        try clear c22
        try clear c28
        try clear c29
        try clear c33
        try clear c34
        try clear c35
        try clear c40
        try clear c41
        try clear c41b0
        try clear c41b1
        try clear p2
        try clear p6
        obtain ⟨kq, x112_36, rfl, HA, HJ36, HO_6, HO_10, HB⟩ := hcut
        cases kq with
        | zero => exact absurd HA.out (by simp [laws_FnChunks.j1])
        | succ kj36 =>
         have H := HA.out
         clear HA
         simp only [laws_FnChunks.j1] at H
         by_cases c43 : x112_36 = true
         ·subst c43
          have H1 : (some false) = some true := by rw [if_pos rfl] at H; exact H
          clear H
          have H := H1
          clear H1
          exact absurd (Option.some.inj H) (by simp)
         ·replace c43 := Bool.eq_false_iff.mpr c43
          subst c43
          have H1 : (laws_FnChunks.l0 kj36 l0 l1 t242 t243 t251 t251 (t251.length : Int) 0) = some true := by rw [if_neg (show ¬ (false = true) by decide)] at H; exact H
          clear H
          have H := H1
          clear H1
          have H' := Aside0.mk H
          clear H
          go_wp2
          go_loopg [115] kj36 (fun kq v115 w' => ∃ (x115_3 : Int), v115 = .int .i64 x115_3 ∧ Aside0 (laws_FnChunks.l0 kq l0 l1 t242 t243 t251 t251 (t251.length : Int) x115_3 = some true) ∧ Aside0 (kq ≤ kj36) ∧ Aside0 (Kd.R (Kd.int .i64) 3 w' w.heap.size (fun _ => True) v245 t243) ∧ Aside0 (Kd.R Kd.string 9 w' w.heap.size (fun _ => True) (.slice Ao38 t251.length co38) t251) ∧ Aside0 (Kd.R Kd.string 9 w' w.heap.size (fun _ => True) (.slice Ao38 t251.length co38) t251) ∧ Aside0 (Below w.heap.size w w'))
          case atStart => exact ⟨(0), (by first | rfl | (simp; done) | (simp [*]; done)), H', ⟨Nat.le_refl _⟩, ⟨by (with_reducible repeat (first | apply Kd.R_alloc | apply Kd.R_drewN | apply Kd.R_drew)); exact HO_6.out⟩, ⟨by (with_reducible repeat (first | apply Kd.R_alloc | apply Kd.R_drewN | apply Kd.R_drew)); exact HO_10.out⟩, ⟨by (with_reducible repeat (first | apply Kd.R_alloc | apply Kd.R_drewN | apply Kd.R_drew)); exact HO_10.out⟩, ⟨by repeat (first | (with_reducible first | exact HB.out | apply Op.a1 | apply Op.a2 | apply Op.a3) | exact HB.out)⟩⟩
          case round =>
           as_aux_lemma =>
           clear H'
           try clear c1
           try clear c2
           try clear p2
           try clear c3
           try clear c3b0
           try clear c4
           try clear p6
           try clear c12
           try clear c15
           try clear c15b0
           try clear c15b1
           try clear c15b2
           try clear c17
           try clear c18
           try clear c18b0
           try clear c18b1
           try clear c18b2
           try clear c22
           try clear c28
           try clear c29
           try clear c33
           try clear c34
           try clear c35
           try clear c40
           try clear c41
           try clear c41b0
           try clear c41b1
           try clear c43
           try clear p2
           try clear p6
           obtain ⟨x115_3, rfl, HA, HK3, HO_6, HO_10, HO_113, HB⟩ := hrel
           cases gk with
           | zero => exact absurd HA.out (by simp [laws_FnChunks.l0])
           | succ k3 =>
            have H := HA.out
            clear HA
            simp only [laws_FnChunks.l0] at H
            by_cases c44 : x115_3 < (t251.length : Int)
            ·rw [if_pos c44] at H
             have c44b0 : decide (x115_3 < (t251.length : Int)) = true := decide_eq_true c44
             clear c44
             by_cases c45 : 0 ≤ x115_3
             ·rw [if_pos c45] at H
              have c45b0 : decide (0 ≤ x115_3) = true := decide_eq_true c45
              clear c45
              by_cases c46 : x115_3 < (t251.length : Int)
              ·rw [if_pos c46] at H
               have c46b0 : decide (x115_3 < (t251.length : Int)) = true := decide_eq_true c46
               clear c46
               by_cases c47 : ((rdOf ByteArray.empty t251 x115_3).size : Int) > 20
               ·rw [if_pos c47] at H
                have c47b0 : decide (20 < ((rdOf ByteArray.empty t251 x115_3).size : Int)) = true := decide_eq_true c47
                have c47b1 : decide (20 < (rdOf ByteArray.empty t251 x115_3).size) = true := decide_eq_true (by omega)
                clear c47
                exact absurd (Option.some.inj H) (by simp)
               ·rw [if_neg c47] at H
                have c47b0 : decide (20 < ((rdOf ByteArray.empty t251 x115_3).size : Int)) = false := decide_eq_false c47
                have c47b1 : decide (20 < (rdOf ByteArray.empty t251 x115_3).size) = false := decide_eq_false (by omega)
                clear c47
                by_cases c48 : ((rdOf ByteArray.empty t251 x115_3).size : Int) < 4
                ·rw [if_pos c48] at H
                 have c48b0 : decide (((rdOf ByteArray.empty t251 x115_3).size : Int) < 4) = true := decide_eq_true c48
                 have c48b1 : decide ((rdOf ByteArray.empty t251 x115_3).size < 4) = true := decide_eq_true (by omega)
                 clear c48
                 by_cases c49 : x115_3 < (wrap64 ((t251.length : Int) - 1))
                 ·rw [if_pos c49] at H
                  have c49b0 : decide (x115_3 < (wrap64 ((t251.length : Int) - 1))) = true := decide_eq_true c49
                  clear c49
                  exact absurd (Option.some.inj H) (by simp)
                 ·rw [if_neg c49] at H
                  have c49b0 : decide (x115_3 < (wrap64 ((t251.length : Int) - 1))) = false := decide_eq_false c49
                  clear c49
                  have H' := Aside0.mk H
                  clear H
                  have p263 : 0 ≤ (x115_3 : Int) := of_decide_eq_true (by first | (with_reducible assumption) | assumption)
                  have q263 : x115_3 < (t251.length : Int) := of_decide_eq_true (by first | (with_reducible assumption) | assumption)
                  obtain ⟨ad263, e263, hx263_0⟩ := Kd.at_string (Kd.R_reads' HO_113.out).2.2 x115_3 p263 q263
                  cases e263
                  replace p263 := eq_true p263
                  replace q263 := eq_true q263
                  go_wp2
                  go_roundg k3
                  case measure => have := HJ8.out; have := HJ36.out; have := HK3.out; omega
                  case rel => exact ⟨(wrap64 (x115_3 + 1)), (by first | rfl | (simp; done) | (simp [*]; done)), H', ⟨by have := HJ8.out; have := HJ36.out; have := HK3.out; omega⟩, ⟨by (with_reducible repeat (first | apply Kd.R_alloc | apply Kd.R_drewN | apply Kd.R_drew)); exact HO_6.out⟩, ⟨by (with_reducible repeat (first | apply Kd.R_alloc | apply Kd.R_drewN | apply Kd.R_drew)); exact HO_10.out⟩, ⟨by (with_reducible repeat (first | apply Kd.R_alloc | apply Kd.R_drewN | apply Kd.R_drew)); exact HO_113.out⟩, ⟨by repeat (first | (with_reducible first | exact HB.out | apply Op.a1 | apply Op.a2 | apply Op.a3) | exact HB.out)⟩⟩
                ·rw [if_neg c48] at H
                 have c48b0 : decide (((rdOf ByteArray.empty t251 x115_3).size : Int) < 4) = false := decide_eq_false c48
                 have c48b1 : decide ((rdOf ByteArray.empty t251 x115_3).size < 4) = false := decide_eq_false (by omega)
                 clear c48
                 have H' := Aside0.mk H
                 clear H
                 have p263 : 0 ≤ (x115_3 : Int) := of_decide_eq_true (by first | (with_reducible assumption) | assumption)
                 have q263 : x115_3 < (t251.length : Int) := of_decide_eq_true (by first | (with_reducible assumption) | assumption)
                 obtain ⟨ad263, e263, hx263_0⟩ := Kd.at_string (Kd.R_reads' HO_113.out).2.2 x115_3 p263 q263
                 cases e263
                 replace p263 := eq_true p263
                 replace q263 := eq_true q263
                 go_wp2
                 go_roundg k3
                 case measure => have := HJ8.out; have := HJ36.out; have := HK3.out; omega
                 case rel => exact ⟨(wrap64 (x115_3 + 1)), (by first | rfl | (simp; done) | (simp [*]; done)), H', ⟨by have := HJ8.out; have := HJ36.out; have := HK3.out; omega⟩, ⟨by (with_reducible repeat (first | apply Kd.R_alloc | apply Kd.R_drewN | apply Kd.R_drew)); exact HO_6.out⟩, ⟨by (with_reducible repeat (first | apply Kd.R_alloc | apply Kd.R_drewN | apply Kd.R_drew)); exact HO_10.out⟩, ⟨by (with_reducible repeat (first | apply Kd.R_alloc | apply Kd.R_drewN | apply Kd.R_drew)); exact HO_113.out⟩, ⟨by repeat (first | (with_reducible first | exact HB.out | apply Op.a1 | apply Op.a2 | apply Op.a3) | exact HB.out)⟩⟩
              ·rw [if_neg c46] at H
               exact absurd H (by simp)
             ·rw [if_neg c45] at H
              exact absurd H (by simp)
            ·rw [if_neg c44] at H
             have c44b0 : decide (x115_3 < (t251.length : Int)) = false := decide_eq_false c44
             clear c44
             by_cases c50 : (t243.length : Int) > 0
             ·rw [if_pos c50] at H
              have c50b0 : decide (0 < (t243.length : Int)) = true := decide_eq_true c50
              have c50b1 : decide (0 < t243.length) = true := decide_eq_true (by omega)
              clear c50
              replace H := Option.bind_eq_some_iff.mp H
              obtain ⟨t264, A510, H⟩ := H
              replace H : (if (t243.length : Int) = 0 then (none) else (if 0 ≤ (Int.tmod t264 (t243.length : Int)) then (if (Int.tmod t264 (t243.length : Int)) < (t243.length : Int) then (if 0 ≤ (rd t243 (Int.tmod t264 (t243.length : Int))) then (if (rd t243 (Int.tmod t264 (t243.length : Int))) ≤ (t242.size : Int) then ((impl_CutsOf.f k3 (t242.extract ((rd t243 (Int.tmod t264 (t243.length : Int))) : Int).toNat t242.size)).bind fun bt266 => (if bt266.2 = true then (laws_FnChunks.j3 k3 l0 l1 t243 (Int.tmod t264 (t243.length : Int)) bt266.1 ((bt266.1.length : Int) != (wrap64 ((wrap64 ((t243.length : Int) - (Int.tmod t264 (t243.length : Int)))) - 1)))) else (laws_FnChunks.j3 k3 l0 l1 t243 (Int.tmod t264 (t243.length : Int)) bt266.1 true))) else (none)) else (none)) else (none)) else (none))) = some true := H
              have A51 := Aside0.mk A510
              clear A510
              by_cases c52 : (t243.length : Int) = 0
              ·rw [if_pos c52] at H
               exact absurd H (by simp)
              ·rw [if_neg c52] at H
               have c52b0 : ((t243.length : Int) == 0) = false := beq_eq_false_iff_ne.mpr c52
               have c52b1 : ((t243.length : Int) != 0) = true := bne_iff_ne.mpr c52
               have c52b2 : ¬ (t243 = []) := fun h_ => c52 (by rw [h_]; rfl)
               obtain ⟨ji53, hji53⟩ : ∃ j_ : Int, (Int.tmod t264 (t243.length : Int)) = j_ := ⟨_, rfl⟩
               replace H : (if 0 ≤ (ji53) then (if (ji53) < (t243.length : Int) then (if 0 ≤ (rd t243 (ji53)) then (if (rd t243 (ji53)) ≤ (t242.size : Int) then ((impl_CutsOf.f k3 (t242.extract ((rd t243 (ji53)) : Int).toNat t242.size)).bind fun bt266 => (if bt266.2 = true then (laws_FnChunks.j3 k3 l0 l1 t243 ji53 bt266.1 ((bt266.1.length : Int) != (wrap64 ((wrap64 ((t243.length : Int) - (ji53))) - 1)))) else (laws_FnChunks.j3 k3 l0 l1 t243 ji53 bt266.1 true))) else (none)) else (none)) else (none)) else (none)) = some true := by first | (rw [hji53] at H; exact H) | (simp only [hji53] at H ⊢; exact H)
               (try rw [hji53] at A51)
               by_cases c54 : 0 ≤ (ji53)
               ·rw [if_pos c54] at H
                have c54b0 : decide (0 ≤ (ji53)) = true := decide_eq_true c54
                clear c54
                by_cases c55 : (ji53) < (t243.length : Int)
                ·rw [if_pos c55] at H
                 have c55b0 : decide ((ji53) < (t243.length : Int)) = true := decide_eq_true c55
                 clear c55
                 by_cases c56 : 0 ≤ (rd t243 (ji53))
                 ·rw [if_pos c56] at H
                  have c56b0 := eq_true c56
                  have c56b1 : decide (0 ≤ (rd t243 (ji53))) = true := decide_eq_true c56
                  clear c56
                  by_cases c57 : (rd t243 (ji53)) ≤ (t242.size : Int)
                  ·rw [if_pos c57] at H
                   have c57b0 := eq_true c57
                   have c57b1 : decide ((rd t243 (ji53)) ≤ (t242.size : Int)) = true := decide_eq_true c57
                   clear c57
                   replace H := Option.bind_eq_some_iff.mp H
                   obtain ⟨⟨t266, t267⟩, A580, H⟩ := H
                   replace H : (if t267 = true then (laws_FnChunks.j3 k3 l0 l1 t243 ji53 t266 ((t266.length : Int) != (wrap64 ((wrap64 ((t243.length : Int) - (ji53))) - 1)))) else (laws_FnChunks.j3 k3 l0 l1 t243 ji53 t266 true)) = some true := H
                   have A58 := Aside0.mk A580
                   clear A580
                   have HC59 := Aside0.mk H
                   clear H
                   obtain ⟨Ao60, co60, eo60⟩ := Kd.R_slice HO_6.out
                   subst eo60
                   go_upto_region 23 with (first | ((with_reducible refine gate_callee (f := 52) rfl ?_); refine goesL_ (some 140) rfl rfl Try.func52 (by kernel_rfl) rfl #[.slice A1 l1.length c1] rfl (by (try simp only [List.map_toArray, List.map_cons, List.map_nil]); first | done | rfl | (simp only [List.length_drop, List.length_take]; rfl)) ?_; (with_reducible refine (laws_numberOf.calls k3 _ _ l1 t264 _ ?side1 ?side2 A51.out).mono ?_); (case side1 => repeat (first | exact (Kd.C_below HR1.out HB.out) | (with_reducible refine Kd.C_alloc ?_ _) | (with_reducible refine Kd.C_drewN ?_ _) | (with_reducible refine Kd.C_drew ?_))); (case side2 => exact HC1.out); rintro e w' ⟨rfl, ⟨nd, rfl⟩⟩; refine ⟨_, rfl, ?_⟩; have p265 : 0 ≤ ((ji53) : Int) := of_decide_eq_true (by first | (with_reducible assumption) | assumption); have q265 : (ji53) < (t243.length : Int) := of_decide_eq_true (by first | (with_reducible assumption) | assumption); obtain ⟨ad265, e265, hx265_0⟩ := Kd.at_int (Kd.R_reads' HO_6.out).2.2 (ji53) p265 q265; cases e265; replace p265 := eq_true p265; replace q265 := eq_true q265) | ((with_reducible refine gate_callee (f := 29) rfl ?_); refine goesL_ (some 151) rfl rfl Try.func29 (by kernel_rfl) rfl #[.string (t242.extract ((rd t243 (ji53)) : Int).toNat t242.size)] rfl (by (try simp only [List.map_toArray, List.map_cons, List.map_nil]); first | done | (simp only [hji53]; rfl) | rfl | (simp only [List.length_drop, List.length_take]; rfl)) ?_; (with_reducible refine (impl_CutsOf.calls k3 (t242.extract ((rd t243 (ji53)) : Int).toNat t242.size) t266 t267 _ A58.out).mono ?_); rintro e w61 ⟨v268, rfl, ho0, hb⟩; refine ⟨_, rfl, ?_⟩; have n0_ := Aside0.mk (Kd.R_elder' (by (with_reducible repeat (first | apply Kd.R_alloc | apply Kd.R_drewN | apply Kd.R_drew)); exact HO_6.out) (Kd.R_base ho0) hb); have n1_ := Aside0.mk (Kd.R_below (by (with_reducible repeat (first | apply Kd.R_alloc | apply Kd.R_drewN | apply Kd.R_drew)); exact HO_10.out) hb); have n2_ := Aside0.mk (Kd.R_below (by (with_reducible repeat (first | apply Kd.R_alloc | apply Kd.R_drewN | apply Kd.R_drew)); exact HO_113.out) hb); have n3_ := Aside0.mk (Kd.R_lower (Kd.R_new' ho0 (Kd.R_lt (by (with_reducible repeat (first | apply Kd.R_alloc | apply Kd.R_drewN | apply Kd.R_drew)); exact HO_6.out))) (Op.a6 (by repeat (first | (with_reducible first | exact HB.out | apply Op.a1 | apply Op.a2 | apply Op.a3) | exact HB.out)))); have n4_ := Aside0.mk (Op.a5 (by repeat (first | (with_reducible first | exact HB.out | apply Op.a1 | apply Op.a2 | apply Op.a3) | exact HB.out)) hb); clear HO_6; clear HO_10; clear HO_113; clear HB; have HO_6 := n0_; have HO_10 := n1_; have HO_113 := n2_; have HO269 := n3_; have HB := n4_; clear n0_ n1_ n2_ n3_ n4_; (try clear hb); (try clear hb2); (try clear hk); (try clear hi); (try clear ho0)))
                   (try simp only [Act.put, List.setIfInBounds_toArray, List.set_cons_zero, List.set_cons_succ])
                   go_cut [165] (fun v165 wc => ∃ (kq : Nat) (x165_58 : Bool), v165 = .bool x165_58 ∧ Aside0 (laws_FnChunks.j3 kq l0 l1 t243 ji53 t266 x165_58 = some true) ∧ Aside0 (kq ≤ k3) ∧ Aside0 (Kd.R (Kd.int .i64) 3 wc w.heap.size (fun k_ => some k_ ≠ (v268 : Value).ownBlock) (.slice (some ad265) t243.length co60) t243) ∧ Aside0 (Kd.R (Kd.int .i64) 3 wc w.heap.size (fun k_ => some k_ ≠ ((.slice (some ad265) t243.length co60) : Value).ownBlock) v268 t266) ∧ Aside0 (Below w.heap.size w wc))
                   case first =>
                    as_aux_lemma =>
                    have H := HC59.out
                    clear HC59
                    by_cases c62 : t267 = true
                    ·subst c62
                     have H1 : (laws_FnChunks.j3 k3 l0 l1 t243 ji53 t266 ((t266.length : Int) != (wrap64 ((wrap64 ((t243.length : Int) - (ji53))) - 1)))) = some true := by rw [if_pos rfl] at H; exact H
                     clear H
                     have H := H1
                     clear H1
                     have H' := Aside0.mk H
                     clear H
                     obtain ⟨Ao63, co63, eo63⟩ := Kd.R_slice HO269.out
                     subst eo63
                     go_wp2
                     go_meet
                     case rel => exact ⟨_, (((t266.length : Int) != (wrap64 ((wrap64 ((t243.length : Int) - (ji53))) - 1)))), (by first | rfl | (simp; done) | (simp only [← hji53] <;> (first | rfl | simp)) | (simp [*]; done)), H', ⟨by have := HJ8.out; have := HJ36.out; have := HK3.out; first | omega | exact Nat.le_refl _⟩, ⟨by (with_reducible repeat (first | apply Kd.R_alloc | apply Kd.R_drewN | apply Kd.R_drew)); exact Kd.R_mono HO_6.out (fun _ hk => hk.2)⟩, ⟨by (with_reducible repeat (first | apply Kd.R_alloc | apply Kd.R_drewN | apply Kd.R_drew)); exact Kd.R_mono HO269.out (fun _ hk => hk.2)⟩, ⟨by repeat (first | (with_reducible first | exact HB.out | apply Op.a1 | apply Op.a2 | apply Op.a3) | exact HB.out)⟩⟩
                    ·replace c62 := Bool.eq_false_iff.mpr c62
                     subst c62
                     have H1 : (laws_FnChunks.j3 k3 l0 l1 t243 ji53 t266 true) = some true := by rw [if_neg (show ¬ (false = true) by decide)] at H; exact H
                     clear H
                     have H := H1
                     clear H1
                     exact absurd H (by unfold laws_FnChunks.j3; split <;> simp)
                   case rest =>
                    as_aux_lemma =>
                    clear HC59
                    try clear c1
                    try clear c2
                    try clear p2
                    try clear q2
                    try clear hx2
                    try clear c3
                    try clear c3b0
                    try clear c4
                    try clear c5
                    try clear c6
                    try clear p6
                    try clear c12
                    try clear c15
                    try clear c15b0
                    try clear c15b1
                    try clear c15b2
                    try clear c17
                    try clear c18
                    try clear c18b0
                    try clear c18b1
                    try clear c18b2
                    try clear c22
                    try clear p26
                    try clear q26
                    try clear hx26
                    try clear c28
                    try clear c29
                    try clear c33
                    try clear c34
                    try clear c35
                    try clear c40
                    try clear c41
                    try clear c41b0
                    try clear c41b1
                    try clear c43
                    try clear c44
                    try clear c44b0
                    try clear c45
                    try clear c45b0
                    try clear c46
                    try clear c46b0
                    try clear c47
                    try clear c47b0
                    try clear c47b1
                    try clear c48
                    try clear c48b0
                    try clear c48b1
                    try clear c49
                    try clear c49b0
                    try clear c50
                    try clear c50b0
                    try clear c50b1
                    try clear c52
                    try clear c52b0
                    try clear c52b1
                    try clear c52b2
                    try clear c54
                    try clear c54b0
                    try clear c55
                    try clear c55b0
                    try clear c56
                    try clear c56b0
                    try clear c56b1
                    try clear c57
                    try clear c57b0
                    try clear c57b1
                    try clear c62
                    try clear hx263_0
                    try clear hx265_0
                    try clear p2
                    try clear p263
                    try clear p265
                    try clear p6
                    try clear q263
                    try clear q265
                    obtain ⟨kq, x165_58, rfl, HA, HJ58, HO_6, HO_19, HB⟩ := hcut
                    cases kq with
                    | zero => exact absurd HA.out (by simp [laws_FnChunks.j3])
                    | succ kj58 =>
                     have H := HA.out
                     clear HA
                     simp only [laws_FnChunks.j3] at H
                     by_cases c64 : x165_58 = true
                     ·subst c64
                      have H1 : (some false) = some true := by rw [if_pos rfl] at H; exact H
                      clear H
                      have H := H1
                      clear H1
                      exact absurd (Option.some.inj H) (by simp)
                     ·replace c64 := Bool.eq_false_iff.mpr c64
                      subst c64
                      have H1 : (laws_FnChunks.l1 kj58 l0 l1 t243 ji53 t266 (t266.length : Int) 0) = some true := by rw [if_neg (show ¬ (false = true) by decide)] at H; exact H
                      clear H
                      have H := H1
                      clear H1
                      have H' := Aside0.mk H
                      clear H
                      obtain ⟨Ao65, co65, eo65⟩ := Kd.R_slice HO_19.out
                      subst eo65
                      go_wp2
                      go_loopg [168] kj58 (fun kq v168 w' => ∃ (x168_5 : Int), v168 = .int .i64 x168_5 ∧ Aside0 (laws_FnChunks.l1 kq l0 l1 t243 ji53 t266 (t266.length : Int) x168_5 = some true) ∧ Aside0 (kq ≤ kj58) ∧ Aside0 (Kd.R (Kd.int .i64) 3 w' w.heap.size (fun k_ => some k_ ≠ ((.slice Ao65 t266.length co65) : Value).ownBlock) (.slice (some ad265) t243.length co60) t243) ∧ Aside0 (Kd.R (Kd.int .i64) 3 w' w.heap.size (fun k_ => some k_ ≠ ((.slice (some ad265) t243.length co60) : Value).ownBlock) (.slice Ao65 t266.length co65) t266) ∧ Aside0 (Below w.heap.size w w'))
                      case atStart => exact ⟨(0), (by first | rfl | (simp; done) | (simp [*]; done)), H', ⟨Nat.le_refl _⟩, ⟨by (with_reducible repeat (first | apply Kd.R_alloc | apply Kd.R_drewN | apply Kd.R_drew)); exact HO_6.out⟩, ⟨by (with_reducible repeat (first | apply Kd.R_alloc | apply Kd.R_drewN | apply Kd.R_drew)); exact HO_19.out⟩, ⟨by repeat (first | (with_reducible first | exact HB.out | apply Op.a1 | apply Op.a2 | apply Op.a3) | exact HB.out)⟩⟩
                      case round =>
                       as_aux_lemma =>
                       clear H'
                       try clear c1
                       try clear c2
                       try clear p2
                       try clear q2
                       try clear hx2
                       try clear c3
                       try clear c3b0
                       try clear c4
                       try clear c5
                       try clear c6
                       try clear p6
                       try clear c12
                       try clear c15
                       try clear c15b0
                       try clear c15b1
                       try clear c15b2
                       try clear c17
                       try clear c18
                       try clear c18b0
                       try clear c18b1
                       try clear c18b2
                       try clear c22
                       try clear p26
                       try clear q26
                       try clear hx26
                       try clear c28
                       try clear c29
                       try clear c33
                       try clear c34
                       try clear c35
                       try clear c40
                       try clear c41
                       try clear c41b0
                       try clear c41b1
                       try clear c43
                       try clear c44
                       try clear c44b0
                       try clear c45
                       try clear c45b0
                       try clear c46
                       try clear c46b0
                       try clear c47
                       try clear c47b0
                       try clear c47b1
                       try clear c48
                       try clear c48b0
                       try clear c48b1
                       try clear c49
                       try clear c49b0
                       try clear c50
                       try clear c50b0
                       try clear c50b1
                       try clear c52
                       try clear c52b0
                       try clear c52b1
                       try clear c52b2
                       try clear c54
                       try clear c54b0
                       try clear c55
                       try clear c55b0
                       try clear c56
                       try clear c56b0
                       try clear c56b1
                       try clear c57
                       try clear c57b0
                       try clear c57b1
                       try clear c62
                       try clear c64
                       try clear p64
                       try clear hx263_0
                       try clear hx265_0
                       try clear p2
                       try clear p26
                       try clear p263
                       try clear p265
                       try clear p6
                       try clear q2
                       try clear q26
                       try clear q263
                       try clear q265
                       obtain ⟨x168_5, rfl, HA, HK5, HO_6, HO_166, HB⟩ := hrel
                       cases gk with
                       | zero => exact absurd HA.out (by simp [laws_FnChunks.l1])
                       | succ k5 =>
                        have H := HA.out
                        clear HA
                        simp only [laws_FnChunks.l1] at H
                        by_cases c66 : x168_5 < (t266.length : Int)
                        ·rw [if_pos c66] at H
                         have c66b0 : decide (x168_5 < (t266.length : Int)) = true := decide_eq_true c66
                         clear c66
                         by_cases c67 : 0 ≤ x168_5
                         ·rw [if_pos c67] at H
                          have c67b0 : decide (0 ≤ x168_5) = true := decide_eq_true c67
                          clear c67
                          by_cases c68 : x168_5 < (t266.length : Int)
                          ·rw [if_pos c68] at H
                           have c68b0 : decide (x168_5 < (t266.length : Int)) = true := decide_eq_true c68
                           clear c68
                           by_cases c69 : 0 ≤ ji53
                           ·rw [if_pos c69] at H
                            have c69b0 : decide (0 ≤ ji53) = true := decide_eq_true c69
                            clear c69
                            by_cases c70 : ji53 < (t243.length : Int)
                            ·rw [if_pos c70] at H
                             have c70b0 : decide (ji53 < (t243.length : Int)) = true := decide_eq_true c70
                             clear c70
                             obtain ⟨ji71, hji71⟩ : ∃ j_ : Int, (wrap64 ((wrap64 (ji53 + 1)) + x168_5)) = j_ := ⟨_, rfl⟩
                             replace H : (if 0 ≤ (ji71) then (if (ji71) < (t243.length : Int) then (if (wrap64 ((rd t266 x168_5) + (rd t243 ji53))) = (rd t243 (ji71)) then (laws_FnChunks.l1 k5 l0 l1 t243 ji53 t266 (t266.length : Int) (wrap64 (x168_5 + 1))) else (some false)) else (none)) else (none)) = some true := by first | (rw [hji71] at H; exact H) | (simp only [hji71] at H ⊢; exact H)
                             have hji71w : (IntKind.i64.wrap ((wrap64 (ji53 + 1)) + x168_5)) = ji71 := (i64_w _).trans hji71
                             by_cases c72 : 0 ≤ (ji71)
                             ·rw [if_pos c72] at H
                              have c72b0 : decide (0 ≤ (ji71)) = true := decide_eq_true c72
                              clear c72
                              by_cases c73 : (ji71) < (t243.length : Int)
                              ·rw [if_pos c73] at H
                               have c73b0 : decide ((ji71) < (t243.length : Int)) = true := decide_eq_true c73
                               clear c73
                               by_cases c74 : (wrap64 ((rd t266 x168_5) + (rd t243 ji53))) = (rd t243 (ji71))
                               ·rw [if_pos c74] at H
                                have c74b0 : ((wrap64 ((rd t266 x168_5) + (rd t243 ji53))) == (rd t243 (ji71))) = true := beq_iff_eq.mpr c74
                                have c74b1 : ((wrap64 ((rd t266 x168_5) + (rd t243 ji53))) != (rd t243 (ji71))) = false := bne_eq_false_iff_eq.mpr c74
                                clear c74
                                have H' := Aside0.mk H
                                clear H
                                have p270 : 0 ≤ (x168_5 : Int) := of_decide_eq_true (by first | (with_reducible assumption) | assumption)
                                have q270 : x168_5 < (t266.length : Int) := of_decide_eq_true (by first | (with_reducible assumption) | assumption)
                                obtain ⟨ad270, e270, hx270_0⟩ := Kd.at_int (Kd.R_reads' HO_166.out).2.2 x168_5 p270 q270
                                cases e270
                                replace p270 := eq_true p270
                                replace q270 := eq_true q270
                                try go_wp2
                                have n0_ := Aside0.mk (Kd.R_drew HO_6.out)
                                have n1_ := Aside0.mk (Kd.R_drew HO_166.out)
                                have n2_ := Aside0.mk (Op.a3 HB.out)
                                clear HO_6
                                clear HO_166
                                clear HB
                                have HO_6 := n0_
                                have HO_166 := n1_
                                have HB := n2_
                                clear n0_ n1_ n2_
                                have p271 : 0 ≤ (ji53 : Int) := of_decide_eq_true (by first | (with_reducible assumption) | assumption)
                                have q271 : ji53 < (t243.length : Int) := of_decide_eq_true (by first | (with_reducible assumption) | assumption)
                                obtain ⟨ad271, e271, hx271_0⟩ := Kd.at_int (Kd.R_reads' HO_6.out).2.2 ji53 p271 q271
                                obtain rfl : ad265 = ad271 := (by injection e271)
                                replace p271 := eq_true p271
                                replace q271 := eq_true q271
                                have p272 : 0 ≤ ((ji71) : Int) := of_decide_eq_true (by first | (with_reducible assumption) | assumption)
                                have q272 : (ji71) < (t243.length : Int) := of_decide_eq_true (by first | (with_reducible assumption) | assumption)
                                obtain ⟨ad272, e272, hx272_0⟩ := Kd.at_int (Kd.R_reads' HO_6.out).2.2 (ji71) p272 q272
                                obtain rfl : ad265 = ad272 := (by injection e272)
                                replace p272 := eq_true p272
                                replace q272 := eq_true q272
                                refine start_ (n := 14) (S := fun w' => w'.cell? (ad265.add (ji53).toNat) = some (.int .i64 (rd t243 ji53)) ∧ w'.cell? (ad265.add ((ji71)).toNat) = some (.int .i64 (rd t243 (ji71)))) (ds := []) #[false, false, false, false, false, false, false, false, false, false, false, false, false, false] (by kernel_rfl) rfl rfl ⟨hx271_0, hx272_0⟩ (fun hHeld => ?_); refine with_tabW laws_FnChunks.tab28 laws_FnChunks.bits28 (fun HT_ HW_ => ?_)
                                generalize wr.drew = w75 at HO_6 HO_166 HB hx271_0 hx272_0 hHeld ⊢
                                refine pure_ (i := 0) (N := some 173) (v := ?_) (a' := ?_) #[true, false, false, false, false, false, false, false, false, false, false, false, false, false] rfl rfl (any_of HT_.out (by kernel_rfl)) (fun _ _ _ h => h) (Or.inl ⟨by rfl, ?_⟩) ?_ ?_
                                rotate_left
                                ·intro w'
                                 go_simp
                                 with_reducible rfl
                                rotate_left
                                ·simp only [Act.put, List.setIfInBounds_toArray, List.set_cons_zero, List.set_cons_succ, i64_w, i32_w]
                                 rfl
                                refine pure_ (i := 1) (N := some 174) (v := ?_) (a' := ?_) #[true, true, false, false, false, false, false, false, false, false, false, false, false, false] rfl rfl (any_of HT_.out (by kernel_rfl)) (fun _ _ _ h => h) (Or.inl ⟨by rfl, ?_⟩) ?_ ?_
                                rotate_left
                                ·intro w'
                                 go_simp
                                 with_reducible rfl
                                rotate_left
                                ·simp only [Act.put, List.setIfInBounds_toArray, List.set_cons_zero, List.set_cons_succ, i64_w, i32_w]
                                 rfl
                                refine pure_ (i := 2) (N := some 175) (v := ?_) (a' := ?_) #[true, true, true, false, false, false, false, false, false, false, false, false, false, false] rfl rfl (any_of HT_.out (by kernel_rfl)) (fun _ _ _ h => h) (Or.inl ⟨by rfl, ?_⟩) ?_ ?_
                                rotate_left
                                ·intro w'
                                 go_simp
                                 with_reducible rfl
                                rotate_left
                                ·simp only [Act.put, List.setIfInBounds_toArray, List.set_cons_zero, List.set_cons_succ, i64_w, i32_w]
                                 rfl
                                refine pure_ (i := 3) (N := some 176) (v := ?_) (a' := ?_) #[true, true, true, true, false, false, false, false, false, false, false, false, false, false] rfl rfl (any_of HT_.out (by kernel_rfl)) (fun _ _ _ h => h) (Or.inl ⟨by rfl, ?_⟩) ?_ ?_
                                rotate_left
                                ·intro w'
                                 go_simp
                                 with_reducible rfl
                                rotate_left
                                ·simp only [Act.put, List.setIfInBounds_toArray, List.set_cons_zero, List.set_cons_succ, i64_w, i32_w]
                                 rfl
                                refine pure_ (i := 6) (N := some 179) (v := ?_) (a' := ?_) #[true, true, true, true, false, false, true, false, false, false, false, false, false, false] rfl rfl (any_of HT_.out (by kernel_rfl)) (fun _ _ _ h => h) (Or.inl ⟨by rfl, ?_⟩) ?_ ?_
                                rotate_left
                                ·intro w'
                                 go_simp
                                 with_reducible rfl
                                rotate_left
                                ·simp only [Act.put, List.setIfInBounds_toArray, List.set_cons_zero, List.set_cons_succ, i64_w, i32_w]
                                 rfl
                                refine pure_ (i := 7) (N := some 180) (v := ?_) (a' := ?_) #[true, true, true, true, false, false, true, true, false, false, false, false, false, false] rfl rfl (any_of HT_.out (by kernel_rfl)) (fun _ _ _ h => h) (Or.inl ⟨by rfl, ?_⟩) ?_ ?_
                                rotate_left
                                ·intro w'
                                 go_simp
                                 with_reducible rfl
                                rotate_left
                                ·simp only [Act.put, List.setIfInBounds_toArray, List.set_cons_zero, List.set_cons_succ, i64_w, i32_w]
                                 rfl
                                refine pure_ (i := 8) (N := some 181) (v := ?_) (a' := ?_) #[true, true, true, true, false, false, true, true, true, false, false, false, false, false] rfl rfl (any_of HT_.out (by kernel_rfl)) (fun _ _ _ h => h) (Or.inl ⟨by rfl, ?_⟩) ?_ ?_
                                rotate_left
                                ·intro w'
                                 go_simp
                                 with_reducible rfl
                                rotate_left
                                ·simp only [Act.put, List.setIfInBounds_toArray, List.set_cons_zero, List.set_cons_succ, i64_w, i32_w]
                                 rfl
                                refine pure_ (i := 9) (N := some 182) (v := ?_) (a' := ?_) #[true, true, true, true, false, false, true, true, true, true, false, false, false, false] rfl rfl (any_of HT_.out (by kernel_rfl)) (fun _ _ _ h => h) (Or.inl ⟨by rfl, ?_⟩) ?_ ?_
                                rotate_left
                                ·intro w'
                                 go_simp
                                 with_reducible rfl
                                rotate_left
                                ·simp only [Act.put, List.setIfInBounds_toArray, List.set_cons_zero, List.set_cons_succ, i64_w, i32_w]
                                 rfl
                                refine pure_ (i := 10) (N := some 183) (v := ?_) (a' := ?_) #[true, true, true, true, false, false, true, true, true, true, true, false, false, false] rfl rfl (any_of HT_.out (by kernel_rfl)) (fun _ _ _ h => h) (Or.inl ⟨by rfl, ?_⟩) ?_ ?_
                                rotate_left
                                ·intro w'
                                 go_simp
                                 with_reducible rfl
                                rotate_left
                                ·simp only [Act.put, List.setIfInBounds_toArray, List.set_cons_zero, List.set_cons_succ, i64_w, i32_w]
                                 rfl
                                refine pure_ (i := 11) (N := some 184) (v := ?_) (a' := ?_) #[true, true, true, true, false, false, true, true, true, true, true, true, false, false] rfl rfl (any_of HT_.out (by kernel_rfl)) (fun _ _ _ h => h) (Or.inl ⟨by rfl, ?_⟩) ?_ ?_
                                rotate_left
                                ·intro w'
                                 go_simp
                                 with_reducible rfl
                                rotate_left
                                ·simp only [Act.put, List.setIfInBounds_toArray, List.set_cons_zero, List.set_cons_succ, i64_w, i32_w]
                                 rfl
                                refine take_ (i := 4) (N := some 177) (v := ?_) (a' := ?_) #[true, true, true, true, true, false, true, true, true, true, true, true, false, false] rfl rfl (take_ofW HT_.out HW_.out (by kernel_rfl)) (fun _ _ _ h => h) (Or.inl ⟨by rfl, ?_⟩) hHeld ?_ ?_
                                rotate_left
                                ·rintro w' ⟨s0, s1⟩
                                 go_simp
                                 with_reducible rfl
                                rotate_left
                                ·simp only [Act.put, List.setIfInBounds_toArray, List.set_cons_zero, List.set_cons_succ, i64_w, i32_w]
                                 rfl
                                refine pure_ (i := 5) (N := some 178) (v := ?_) (a' := ?_) #[true, true, true, true, true, true, true, true, true, true, true, true, false, false] rfl rfl (any_of HT_.out (by kernel_rfl)) (fun _ _ _ h => h) (Or.inl ⟨by rfl, ?_⟩) ?_ ?_
                                rotate_left
                                ·intro w'
                                 go_simp
                                 with_reducible rfl
                                rotate_left
                                ·simp only [Act.put, List.setIfInBounds_toArray, List.set_cons_zero, List.set_cons_succ, i64_w, i32_w]
                                 rfl
                                refine take_ (i := 12) (N := some 185) (v := ?_) (a' := ?_) #[true, true, true, true, true, true, true, true, true, true, true, true, true, false] rfl rfl (take_ofW HT_.out HW_.out (by kernel_rfl)) (fun _ _ _ h => h) (Or.inl ⟨by rfl, ?_⟩) hHeld ?_ ?_
                                rotate_left
                                ·rintro w' ⟨s0, s1⟩
                                 go_simp
                                 with_reducible rfl
                                rotate_left
                                ·simp only [Act.put, List.setIfInBounds_toArray, List.set_cons_zero, List.set_cons_succ, i64_w, i32_w]
                                 rfl
                                refine pure_ (i := 13) (N := some 186) (v := ?_) (a' := ?_) #[true, true, true, true, true, true, true, true, true, true, true, true, true, true] rfl rfl (any_of HT_.out (by kernel_rfl)) (fun _ _ _ h => h) (Or.inl ⟨by rfl, ?_⟩) ?_ ?_
                                rotate_left
                                ·intro w'
                                 go_simp
                                 with_reducible rfl
                                rotate_left
                                ·simp only [Act.put, List.setIfInBounds_toArray, List.set_cons_zero, List.set_cons_succ, i64_w, i32_w]
                                 rfl
                                refine done_ (done_of HT_.out (by kernel_rfl)) ?_
                                try go_wp2
                                go_roundg k5
                                case measure => have := HJ8.out; have := HJ36.out; have := HK3.out; have := HJ58.out; have := HK5.out; omega
                                case rel => exact ⟨(wrap64 (x168_5 + 1)), (by first | rfl | (simp; done) | (simp [*]; done)), H', ⟨by have := HJ8.out; have := HJ36.out; have := HK3.out; have := HJ58.out; have := HK5.out; omega⟩, ⟨by (with_reducible repeat (first | apply Kd.R_alloc | apply Kd.R_drewN | apply Kd.R_drew)); exact HO_6.out⟩, ⟨by (with_reducible repeat (first | apply Kd.R_alloc | apply Kd.R_drewN | apply Kd.R_drew)); exact HO_166.out⟩, ⟨by repeat (first | (with_reducible first | exact HB.out | apply Op.a1 | apply Op.a2 | apply Op.a3) | exact HB.out)⟩⟩
                               ·rw [if_neg c74] at H
                                have c74b0 : ((wrap64 ((rd t266 x168_5) + (rd t243 ji53))) == (rd t243 (ji71))) = false := beq_eq_false_iff_ne.mpr c74
                                have c74b1 : ((wrap64 ((rd t266 x168_5) + (rd t243 ji53))) != (rd t243 (ji71))) = true := bne_iff_ne.mpr c74
                                exact absurd (Option.some.inj H) (by simp)
                              ·rw [if_neg c73] at H
                               exact absurd H (by simp)
                             ·rw [if_neg c72] at H
                              exact absurd H (by simp)
                            ·rw [if_neg c70] at H
                             exact absurd H (by simp)
                           ·rw [if_neg c69] at H
                            exact absurd H (by simp)
                          ·rw [if_neg c68] at H
                           exact absurd H (by simp)
                         ·rw [if_neg c67] at H
                          exact absurd H (by simp)
                        ·rw [if_neg c66] at H
                         have c66b0 : decide (x168_5 < (t266.length : Int)) = false := decide_eq_false c66
                         clear c66
                         have H' := Aside0.mk H
                         clear H
                         go_wp2
                         go_meet
                         case rel => exact ⟨_, H', ⟨by have := HJ8.out; have := HJ36.out; have := HK3.out; have := HJ58.out; have := HK5.out; first | omega | exact Nat.le_refl _⟩, ⟨by repeat (first | (with_reducible first | exact HB.out | apply Op.a1 | apply Op.a2 | apply Op.a3) | exact HB.out)⟩⟩
                  ·rw [if_neg c57] at H
                   exact absurd H (by simp)
                 ·rw [if_neg c56] at H
                  exact absurd H (by simp)
                ·rw [if_neg c55] at H
                 exact absurd H (by simp)
               ·rw [if_neg c54] at H
                exact absurd H (by simp)
             ·rw [if_neg c50] at H
              have c50b0 : decide (0 < (t243.length : Int)) = false := decide_eq_false c50
              have c50b1 : decide (0 < t243.length) = false := decide_eq_false (by omega)
              clear c50
              have H' := Aside0.mk H
              clear H
              obtain ⟨Ao76, co76, eo76⟩ := Kd.R_slice HO_6.out
              subst eo76
              go_wp2
              go_meet
              case rel => exact ⟨_, H', ⟨by have := HJ8.out; have := HJ36.out; have := HK3.out; first | omega | exact Nat.le_refl _⟩, ⟨by repeat (first | (with_reducible first | exact HB.out | apply Op.a1 | apply Op.a2 | apply Op.a3) | exact HB.out)⟩⟩
      ·replace c35 := Bool.eq_false_iff.mpr c35
       subst c35
       have H1 : (laws_FnChunks.j5 kj8 l0 l1) = some true := by rw [if_neg (show ¬ (false = true) by decide)] at H; exact H
       clear H
       have H := H1
       clear H1
       have H' := Aside0.mk H
       clear H
       go_wp2
       go_meet
       case rel => exact ⟨_, H', ⟨by have := HJ8.out; first | omega | exact Nat.le_refl _⟩, ⟨by repeat (first | (with_reducible first | exact HB.out | apply Op.a1 | apply Op.a2 | apply Op.a3) | exact HB.out)⟩⟩
     case rest =>
      as_aux_lemma =>
      clear HC34
      try clear c1
      try clear c2
      try clear p2
      try clear q2
      try clear hx2
      try clear c3
      try clear c3b0
      try clear c4
      try clear c5
      try clear c6
      try clear p6
      try clear c7
      try clear c12
      try clear c15
      try clear c15b0
      try clear c15b1
      try clear c15b2
      try clear c17
      try clear c18
      try clear c18b0
      try clear c18b1
      try clear c18b2
      try clear c22
      try clear p26
      try clear q26
      try clear hx26
      try clear p27
      try clear q27
      try clear hx27
      try clear c28
      try clear c29
      try clear c33
      try clear c34
      try clear c35
      try clear c40
      try clear c41
      try clear c41b0
      try clear c41b1
      try clear c43
      try clear c44
      try clear c44b0
      try clear c45
      try clear c45b0
      try clear c46
      try clear c46b0
      try clear c47
      try clear c47b0
      try clear c47b1
      try clear c48
      try clear c48b0
      try clear c48b1
      try clear c49
      try clear c49b0
      try clear c50
      try clear c50b0
      try clear c50b1
      try clear c52
      try clear c52b0
      try clear c52b1
      try clear c52b2
      try clear c54
      try clear c54b0
      try clear c55
      try clear c55b0
      try clear c56
      try clear c56b0
      try clear c56b1
      try clear c57
      try clear c57b0
      try clear c57b1
      try clear c62
      try clear c64
      try clear p64
      try clear c66
      try clear c66b0
      try clear c67
      try clear c67b0
      try clear c68
      try clear c68b0
      try clear c69
      try clear c69b0
      try clear c70
      try clear c70b0
      try clear c72
      try clear c72b0
      try clear c73
      try clear c73b0
      try clear c74
      try clear c74b0
      try clear c74b1
      try clear hx263_0
      try clear hx265_0
      try clear hx270_0
      try clear hx271_0
      try clear hx272_0
      try clear p2
      try clear p26
      try clear p263
      try clear p265
      try clear p270
      try clear p271
      try clear p272
      try clear p6
      try clear p64
      try clear q2
      try clear q26
      try clear q263
      try clear q265
      try clear q270
      try clear q271
      try clear q272
      obtain ⟨kq, HA, HJ33, HB⟩ := hcut
      cases kq with
      | zero => exact absurd HA.out (by simp [laws_FnChunks.j5])
      | succ kj33 =>
       have H := HA.out
       clear HA
       simp only [laws_FnChunks.j5] at H
       replace H := Option.bind_eq_some_iff.mp H
       obtain ⟨⟨t273, t274, t275⟩, A770, H⟩ := H
       replace H : ((impl_RollOn.f t273 t274 t275).bind fun bt276 => ((spec_RollOn.f kj33 t273 t274 t275).bind fun bt278 => ((spec_DrawFingerOf.f l1).bind fun t280 => ((impl_FingerOf.f kj33 t280).bind fun bt281 => ((spec_FingerOf.f kj33 t280).bind fun bt283 => (if (bt276.2 != bt278.2) = true then (laws_FnChunks.j6 kj33 l0 t280 bt281.1 bt281.2 true) else (if bt276.1 = bt278.1 then (if (bt281.2 != bt283.2) = true then (laws_FnChunks.j6 kj33 l0 t280 bt281.1 bt281.2 true) else (laws_FnChunks.j6 kj33 l0 t280 bt281.1 bt281.2 (bt281.1 != bt283.1))) else (laws_FnChunks.j6 kj33 l0 t280 bt281.1 bt281.2 true)))))))) = some true := H
       have A77 := Aside0.mk A770
       clear A770
       replace H := Option.bind_eq_some_iff.mp H
       obtain ⟨⟨t276, t277⟩, A780, H⟩ := H
       replace H : ((spec_RollOn.f kj33 t273 t274 t275).bind fun bt278 => ((spec_DrawFingerOf.f l1).bind fun t280 => ((impl_FingerOf.f kj33 t280).bind fun bt281 => ((spec_FingerOf.f kj33 t280).bind fun bt283 => (if (t277 != bt278.2) = true then (laws_FnChunks.j6 kj33 l0 t280 bt281.1 bt281.2 true) else (if t276 = bt278.1 then (if (bt281.2 != bt283.2) = true then (laws_FnChunks.j6 kj33 l0 t280 bt281.1 bt281.2 true) else (laws_FnChunks.j6 kj33 l0 t280 bt281.1 bt281.2 (bt281.1 != bt283.1))) else (laws_FnChunks.j6 kj33 l0 t280 bt281.1 bt281.2 true))))))) = some true := H
       have A78 := Aside0.mk A780
       clear A780
       replace H := Option.bind_eq_some_iff.mp H
       obtain ⟨⟨t278, t279⟩, A790, H⟩ := H
       replace H : ((spec_DrawFingerOf.f l1).bind fun t280 => ((impl_FingerOf.f kj33 t280).bind fun bt281 => ((spec_FingerOf.f kj33 t280).bind fun bt283 => (if (t277 != t279) = true then (laws_FnChunks.j6 kj33 l0 t280 bt281.1 bt281.2 true) else (if t276 = t278 then (if (bt281.2 != bt283.2) = true then (laws_FnChunks.j6 kj33 l0 t280 bt281.1 bt281.2 true) else (laws_FnChunks.j6 kj33 l0 t280 bt281.1 bt281.2 (bt281.1 != bt283.1))) else (laws_FnChunks.j6 kj33 l0 t280 bt281.1 bt281.2 true)))))) = some true := H
       have A79 := Aside0.mk A790
       clear A790
       replace H := Option.bind_eq_some_iff.mp H
       obtain ⟨t280, A800, H⟩ := H
       replace H : ((impl_FingerOf.f kj33 t280).bind fun bt281 => ((spec_FingerOf.f kj33 t280).bind fun bt283 => (if (t277 != t279) = true then (laws_FnChunks.j6 kj33 l0 t280 bt281.1 bt281.2 true) else (if t276 = t278 then (if (bt281.2 != bt283.2) = true then (laws_FnChunks.j6 kj33 l0 t280 bt281.1 bt281.2 true) else (laws_FnChunks.j6 kj33 l0 t280 bt281.1 bt281.2 (bt281.1 != bt283.1))) else (laws_FnChunks.j6 kj33 l0 t280 bt281.1 bt281.2 true))))) = some true := H
       have A80 := Aside0.mk A800
       clear A800
       replace H := Option.bind_eq_some_iff.mp H
       obtain ⟨⟨t281, t282⟩, A810, H⟩ := H
       replace H : ((spec_FingerOf.f kj33 t280).bind fun bt283 => (if (t277 != t279) = true then (laws_FnChunks.j6 kj33 l0 t280 t281 t282 true) else (if t276 = t278 then (if (t282 != bt283.2) = true then (laws_FnChunks.j6 kj33 l0 t280 t281 t282 true) else (laws_FnChunks.j6 kj33 l0 t280 t281 t282 (t281 != bt283.1))) else (laws_FnChunks.j6 kj33 l0 t280 t281 t282 true)))) = some true := H
       have A81 := Aside0.mk A810
       clear A810
       replace H := Option.bind_eq_some_iff.mp H
       obtain ⟨⟨t283, t284⟩, A820, H⟩ := H
       replace H : (if (t277 != t279) = true then (laws_FnChunks.j6 kj33 l0 t280 t281 t282 true) else (if t276 = t278 then (if (t282 != t284) = true then (laws_FnChunks.j6 kj33 l0 t280 t281 t282 true) else (laws_FnChunks.j6 kj33 l0 t280 t281 t282 (t281 != t283))) else (laws_FnChunks.j6 kj33 l0 t280 t281 t282 true))) = some true := H
       have A82 := Aside0.mk A820
       clear A820
       have HC83 := Aside0.mk H
       clear H
       go_upto_region 37 with (first | ((with_reducible refine gate_callee (f := 53) rfl ?_); refine goesL_ (some 190) rfl rfl Try.func53 (by kernel_rfl) rfl #[.slice A1 l1.length c1] rfl (by (try simp only [List.map_toArray, List.map_cons, List.map_nil]); first | done | rfl | (simp only [List.length_drop, List.length_take]; rfl)) ?_; (with_reducible refine (spec_DrawRollOn.calls _ _ l1 t273 t274 t275 _ ?side1 ?side2 A77.out).mono ?_); (case side1 => repeat (first | exact (Kd.C_below HR1.out HB.out) | (with_reducible refine Kd.C_alloc ?_ _) | (with_reducible refine Kd.C_drewN ?_ _) | (with_reducible refine Kd.C_drew ?_))); (case side2 => exact HC1.out); rintro e w84 ⟨rfl, hb⟩; refine ⟨_, rfl, ?_⟩; have n0_ := Aside0.mk (Op.a5 (by repeat (first | (with_reducible first | exact HB.out | apply Op.a1 | apply Op.a2 | apply Op.a3) | exact HB.out)) hb); clear HB; have HB := n0_; clear n0_; (try clear hb); (try clear hb2); (try clear hk); (try clear hi)) | ((with_reducible refine gate_callee (f := 18) rfl ?_); refine goesL_ (some 198) rfl rfl Try.func18 (by kernel_rfl) rfl #[.int .i64 t273, .int .i64 t274, .int .i64 t275] rfl (by (try simp only [List.map_toArray, List.map_cons, List.map_nil]); first | done | rfl | (simp only [List.length_drop, List.length_take]; rfl)) ?_; (with_reducible refine (impl_RollOn.calls t273 t274 t275 t276 t277 _ A78.out).mono ?_); rintro e w' ⟨rfl, ⟨nd, rfl⟩⟩; refine ⟨_, rfl, ?_⟩) | ((with_reducible refine gate_callee (f := 17) rfl ?_); refine goesL_ (some 205) rfl rfl Try.func17 (by kernel_rfl) rfl #[.int .i64 t273, .int .i64 t274, .int .i64 t275] rfl (by (try simp only [List.map_toArray, List.map_cons, List.map_nil]); first | done | rfl | (simp only [List.length_drop, List.length_take]; rfl)) ?_; (with_reducible refine (spec_RollOn.calls kj33 t273 t274 t275 t278 t279 _ A79.out).mono ?_); rintro e w' ⟨rfl, ⟨nd, rfl⟩⟩; refine ⟨_, rfl, ?_⟩) | ((with_reducible refine gate_callee (f := 54) rfl ?_); refine goesL_ (some 209) rfl rfl Try.func54 (by kernel_rfl) rfl #[.slice A1 l1.length c1] rfl (by (try simp only [List.map_toArray, List.map_cons, List.map_nil]); first | done | rfl | (simp only [List.length_drop, List.length_take]; rfl)) ?_; (with_reducible refine (spec_DrawFingerOf.calls _ _ l1 t280 _ ?side1 ?side2 A80.out).mono ?_); (case side1 => repeat (first | exact (Kd.C_below HR1.out (by repeat (first | (with_reducible first | exact HB.out | apply Op.a1 | apply Op.a2 | apply Op.a3) | exact HB.out))) | (with_reducible refine Kd.C_alloc ?_ _) | (with_reducible refine Kd.C_drewN ?_ _) | (with_reducible refine Kd.C_drew ?_))); (case side2 => exact HC1.out); rintro e w85 ⟨rfl, hb⟩; refine ⟨_, rfl, ?_⟩; have n0_ := Aside0.mk (Op.a5 (by repeat (first | (with_reducible first | exact HB.out | apply Op.a1 | apply Op.a2 | apply Op.a3) | exact HB.out)) hb); clear HB; have HB := n0_; clear n0_; (try clear hb); (try clear hb2); (try clear hk); (try clear hi)) | ((with_reducible refine gate_callee (f := 16) rfl ?_); refine goesL_ (some 212) rfl rfl Try.func16 (by kernel_rfl) rfl #[.string t280] rfl (by (try simp only [List.map_toArray, List.map_cons, List.map_nil]); first | done | rfl | (simp only [List.length_drop, List.length_take]; rfl)) ?_; (with_reducible refine (impl_FingerOf.calls kj33 t280 t281 t282 _ A81.out).mono ?_); rintro e w' ⟨rfl, ⟨nd, rfl⟩⟩; refine ⟨_, rfl, ?_⟩) | ((with_reducible refine gate_callee (f := 15) rfl ?_); refine goesL_ (some 217) rfl rfl Try.func15 (by kernel_rfl) rfl #[.string t280] rfl (by (try simp only [List.map_toArray, List.map_cons, List.map_nil]); first | done | rfl | (simp only [List.length_drop, List.length_take]; rfl)) ?_; (with_reducible refine (spec_FingerOf.calls kj33 t280 t283 t284 _ A82.out).mono ?_); rintro e w' ⟨rfl, ⟨nd, rfl⟩⟩; refine ⟨_, rfl, ?_⟩))
       (try simp only [Act.put, List.setIfInBounds_toArray, List.set_cons_zero, List.set_cons_succ])
       go_cut [237] (fun v237 wc => ∃ (kq : Nat) (x237_82 : Bool), v237 = .bool x237_82 ∧ Aside0 (laws_FnChunks.j6 kq l0 t280 t281 t282 x237_82 = some true) ∧ Aside0 (kq ≤ kj33) ∧ Aside0 (Below w.heap.size w wc))
       case first =>
        as_aux_lemma =>
        have H := HC83.out
        clear HC83
        by_cases c86 : (t277 != t279) = true
        ·rw [if_pos c86] at H
         have c86b0 : (t277 != t279) = true := c86
         (try (have c86b1 : decide (t277 = t279) = false := by simpa using c86))
         (try (have c86b2 : (t277 == t279) = false := by simpa using c86))
         (try (have c86b3 : ¬ (t277 = t279) := by simpa using c86))
         clear c86
         (first | rw [c86b0] | (simp only [i64_w, i32_w]; rw [c86b0]) | skip)
         exact absurd H (by unfold laws_FnChunks.j6; split <;> simp)
        ·rw [if_neg c86] at H
         have c86b0 : (t277 != t279) = false := by simpa using c86
         (try (have c86b1 : decide (t277 = t279) = true := by simpa using c86))
         (try (have c86b2 : (t277 == t279) = true := by simpa using c86))
         clear c86
         (first | rw [c86b0] | (simp only [i64_w, i32_w]; rw [c86b0]) | skip)
         by_cases c87 : t276 = t278
         ·rw [if_pos c87] at H
          have c87b0 : (t276 == t278) = true := beq_iff_eq.mpr c87
          have c87b1 : (t276 != t278) = false := bne_eq_false_iff_eq.mpr c87
          clear c87
          by_cases c88 : (t282 != t284) = true
          ·rw [if_pos c88] at H
           have c88b0 : (t282 != t284) = true := c88
           (try (have c88b1 : decide (t282 = t284) = false := by simpa using c88))
           (try (have c88b2 : (t282 == t284) = false := by simpa using c88))
           (try (have c88b3 : ¬ (t282 = t284) := by simpa using c88))
           clear c88
           exact absurd H (by unfold laws_FnChunks.j6; split <;> simp)
          ·rw [if_neg c88] at H
           have c88b0 : (t282 != t284) = false := by simpa using c88
           (try (have c88b1 : decide (t282 = t284) = true := by simpa using c88))
           (try (have c88b2 : (t282 == t284) = true := by simpa using c88))
           clear c88
           have H' := Aside0.mk H
           clear H
           go_wp2
           go_meet
           case rel => exact ⟨_, ((t281 != t283)), (by first | rfl | (simp; done) | (simp [*]; done)), H', ⟨by have := HJ8.out; have := HJ33.out; first | omega | exact Nat.le_refl _⟩, ⟨by repeat (first | (with_reducible first | exact HB.out | apply Op.a1 | apply Op.a2 | apply Op.a3) | exact HB.out)⟩⟩
         ·rw [if_neg c87] at H
          have c87b0 : (t276 == t278) = false := beq_eq_false_iff_ne.mpr c87
          have c87b1 : (t276 != t278) = true := bne_iff_ne.mpr c87
          exact absurd H (by unfold laws_FnChunks.j6; split <;> simp)
       case rest =>
        as_aux_lemma =>
        clear HC83
        try clear c1
        try clear c2
        try clear p2
        try clear q2
        try clear hx2
        try clear c3
        try clear c3b0
        try clear c4
        try clear c5
        try clear c6
        try clear p6
        try clear c7
        try clear c8
        try clear c12
        try clear c15
        try clear c15b0
        try clear c15b1
        try clear c15b2
        try clear c16
        try clear c17
        try clear c18
        try clear c18b0
        try clear c18b1
        try clear c18b2
        try clear c22
        try clear p26
        try clear q26
        try clear hx26
        try clear p27
        try clear q27
        try clear hx27
        try clear c28
        try clear c29
        try clear c33
        try clear c34
        try clear c35
        try clear c40
        try clear c41
        try clear c41b0
        try clear c41b1
        try clear c43
        try clear c44
        try clear c44b0
        try clear c45
        try clear c45b0
        try clear c46
        try clear c46b0
        try clear c47
        try clear c47b0
        try clear c47b1
        try clear c48
        try clear c48b0
        try clear c48b1
        try clear c49
        try clear c49b0
        try clear c50
        try clear c50b0
        try clear c50b1
        try clear c52
        try clear c52b0
        try clear c52b1
        try clear c52b2
        try clear c53
        try clear c54
        try clear c54b0
        try clear c55
        try clear c55b0
        try clear c56
        try clear c56b0
        try clear c56b1
        try clear c57
        try clear c57b0
        try clear c57b1
        try clear c62
        try clear c64
        try clear p64
        try clear c66
        try clear c66b0
        try clear c67
        try clear c67b0
        try clear c68
        try clear c68b0
        try clear c69
        try clear c69b0
        try clear c70
        try clear c70b0
        try clear c72
        try clear c72b0
        try clear c73
        try clear c73b0
        try clear c74
        try clear c74b0
        try clear c74b1
        try clear c86
        try clear c86b0
        try clear c86b1
        try clear c86b2
        try clear c87
        try clear c87b0
        try clear c87b1
        try clear c88
        try clear c88b0
        try clear c88b1
        try clear c88b2
        try clear hx263_0
        try clear hx265_0
        try clear hx270_0
        try clear hx271_0
        try clear hx272_0
        try clear p2
        try clear p26
        try clear p263
        try clear p265
        try clear p27
        try clear p270
        try clear p271
        try clear p272
        try clear p6
        try clear p64
        try clear q2
        try clear q26
        try clear q263
        try clear q265
        try clear q27
        try clear q270
        try clear q271
        try clear q272
        obtain ⟨kq, x237_82, rfl, HA, HJ82, HB⟩ := hcut
        cases kq with
        | zero => exact absurd HA.out (by simp [laws_FnChunks.j6])
        | succ kj82 =>
         have H := HA.out
         clear HA
         simp only [laws_FnChunks.j6] at H
         by_cases c89 : x237_82 = true
         ·subst c89
          have H1 : (some false) = some true := by rw [if_pos rfl] at H; exact H
          clear H
          have H := H1
          clear H1
          exact absurd (Option.some.inj H) (by simp)
         ·replace c89 := Bool.eq_false_iff.mpr c89
          subst c89
          have H1 : (if t282 = true then ((laws_numberOf.f kj82 l0).bind fun t285 => (if 1 ≤ (t280.size : Int) then ((some (([(Int.tmod t285 256) % 256] : List Int) : List Int)).bind fun y286 => (if (t280.extract 1 t280.size).size + (strOfNums y286).size ≤ 9223372036854775807 then ((impl_FingerOf.f kj82 ((t280.extract 1 t280.size) ++ (strOfNums y286))).bind fun bt289 => (if 0 < (t280.size : Int) then ((impl_RollOn.f t281 (wrap64 (bt t280 0)) (Int.tmod t285 256)).bind fun bt291 => (if bt289.2 = true then (if bt291.2 = true then (some (bt289.1 == bt291.1)) else (some false)) else (some false))) else (none))) else (none))) else (none))) else (some true)) = some true := by rw [if_neg (show ¬ (false = true) by decide)] at H; exact H
          clear H
          have H := H1
          clear H1
          by_cases c90 : t282 = true
          ·subst c90
           have H1 : ((laws_numberOf.f kj82 l0).bind fun t285 => (if 1 ≤ (t280.size : Int) then ((some (([(Int.tmod t285 256) % 256] : List Int) : List Int)).bind fun y286 => (if (t280.extract 1 t280.size).size + (strOfNums y286).size ≤ 9223372036854775807 then ((impl_FingerOf.f kj82 ((t280.extract 1 t280.size) ++ (strOfNums y286))).bind fun bt289 => (if 0 < (t280.size : Int) then ((impl_RollOn.f t281 (wrap64 (bt t280 0)) (Int.tmod t285 256)).bind fun bt291 => (if bt289.2 = true then (if bt291.2 = true then (some (bt289.1 == bt291.1)) else (some false)) else (some false))) else (none))) else (none))) else (none))) = some true := by rw [if_pos rfl] at H; exact H
           clear H
           have H := H1
           clear H1
           replace H := Option.bind_eq_some_iff.mp H
           obtain ⟨t285, A910, H⟩ := H
           replace H : (if 1 ≤ (t280.size : Int) then ((some (([(Int.tmod t285 256) % 256] : List Int) : List Int)).bind fun y286 => (if (t280.extract 1 t280.size).size + (strOfNums y286).size ≤ 9223372036854775807 then ((impl_FingerOf.f kj82 ((t280.extract 1 t280.size) ++ (strOfNums y286))).bind fun bt289 => (if 0 < (t280.size : Int) then ((impl_RollOn.f t281 (wrap64 (bt t280 0)) (Int.tmod t285 256)).bind fun bt291 => (if bt289.2 = true then (if bt291.2 = true then (some (bt289.1 == bt291.1)) else (some false)) else (some false))) else (none))) else (none))) else (none)) = some true := H
           have A91 := Aside0.mk A910
           clear A910
           by_cases c92 : 1 ≤ (t280.size : Int)
           ·rw [if_pos c92] at H
            have c92b0 := eq_true c92
            have c92b1 : decide (1 ≤ (t280.size : Int)) = true := decide_eq_true c92
            clear c92
            obtain ⟨y286, hy286⟩ : ∃ y_ : List Int, y_ = (([(Int.tmod t285 256) % 256] : List Int)) := ⟨_, rfl⟩
            replace H : (if (t280.extract 1 t280.size).size + (strOfNums y286).size ≤ 9223372036854775807 then ((impl_FingerOf.f kj82 ((t280.extract 1 t280.size) ++ (strOfNums y286))).bind fun bt289 => (if 0 < (t280.size : Int) then ((impl_RollOn.f t281 (wrap64 (bt t280 0)) (Int.tmod t285 256)).bind fun bt291 => (if bt289.2 = true then (if bt291.2 = true then (some (bt289.1 == bt291.1)) else (some false)) else (some false))) else (none))) else (none)) = some true := by first | (rw [hy286]; with_reducible exact H) | (have H2_ := (Option.bind_some _ _).symm.trans H; rw [hy286]; with_reducible exact H2_) | (have H2_ := (Option.bind_some _ _).symm.trans H; with_reducible exact H2_) | with_reducible exact H | (rw [hy286]; exact H) | exact H
            have Ny286 := Aside0.mk hy286
            clear hy286
            by_cases c93 : (t280.extract 1 t280.size).size + (strOfNums y286).size ≤ 9223372036854775807
            ·rw [if_pos c93] at H
             have c93b0 := eq_true c93
             have c93b1 : decide ((t280.extract 1 t280.size).size + (strOfNums y286).size ≤ 9223372036854775807) = true := decide_eq_true c93
             try have c93b2 : (9223372036854775807 < (t280.extract 1 t280.size).size + (strOfNums y286).size) = False := eq_false (Nat.not_lt.2 c93)
             try have c93b3 : (9223372036854775807 < t280.size - 1 + (strOfNums y286).size) = False := eq_false (by have h_ := c93; simp only [ByteArray.size_extract, Nat.min_self] at h_; omega)
             replace H := Option.bind_eq_some_iff.mp H
             obtain ⟨⟨t289, t290⟩, A940, H⟩ := H
             replace H : (if 0 < (t280.size : Int) then ((impl_RollOn.f t281 (wrap64 (bt t280 0)) (Int.tmod t285 256)).bind fun bt291 => (if t290 = true then (if bt291.2 = true then (some (t289 == bt291.1)) else (some false)) else (some false))) else (none)) = some true := H
             have A94 := Aside0.mk A940
             clear A940
             by_cases c95 : 0 < (t280.size : Int)
             ·rw [if_pos c95] at H
              have c95b0 : decide (0 < (t280.size : Int)) = true := decide_eq_true c95
              have c95b1 : decide (0 < t280.size) = true := decide_eq_true (by omega)
              clear c95
              replace H := Option.bind_eq_some_iff.mp H
              obtain ⟨⟨t291, t292⟩, A970, H⟩ := H
              replace H : (if t290 = true then (if t292 = true then (some (t289 == t291)) else (some false)) else (some false)) = some true := H
              have A97 := Aside0.mk A970
              clear A970
              by_cases c98 : t290 = true
              ·subst c98
               have H1 : (if t292 = true then (some (t289 == t291)) else (some false)) = some true := by rw [if_pos rfl] at H; exact H
               clear H
               have H := H1
               clear H1
               by_cases c99 : t292 = true
               ·subst c99
                have H1 : (some (t289 == t291)) = some true := by rw [if_pos rfl] at H; exact H
                clear H
                have H := H1
                clear H1
                have hR_ := Option.some.inj H
                clear H
                try go_wp2_with (first | ((with_reducible refine gate_callee (f := 52) rfl ?_); refine goesL_ (some 240) rfl rfl Try.func52 (by kernel_rfl) rfl #[.slice A0 l0.length c0] rfl (by (try simp only [List.map_toArray, List.map_cons, List.map_nil]); first | done | rfl | (simp only [List.length_drop, List.length_take]; rfl)) ?_; (with_reducible refine (laws_numberOf.calls kj82 _ _ l0 t285 _ ?side1 ?side2 A91.out).mono ?_); (case side1 => repeat (first | exact (Kd.C_below HR0.out HB.out) | (with_reducible refine Kd.C_alloc ?_ _) | (with_reducible refine Kd.C_drewN ?_ _) | (with_reducible refine Kd.C_drew ?_))); (case side2 => exact HC0.out); rintro e w' ⟨rfl, ⟨nd, rfl⟩⟩; refine ⟨_, rfl, ?_⟩))
                (try (rw [drewN_self wc]; generalize hq_ : World.drewN wc _ = wc; have n0_ : Aside0 (Below w.heap.size w wc) := ⟨by rw [← hq_]; exact (by repeat (first | (with_reducible first | exact HB.out | apply Op.a1 | apply Op.a2 | apply Op.a3) | exact HB.out))⟩; clear HB hq_; have HB := n0_; clear n0_))
                have n0_ := Aside0.mk (Op.a3 HB.out)
                clear HB
                have HB := n0_
                clear n0_
                refine start_ (n := 13) (S := fun w' => True) (ds := []) #[false, false, false, false, false, false, false, false, false, false, false, false, false] (by kernel_rfl) rfl rfl trivial (fun hHeld => ?_); refine with_tabW laws_FnChunks.tab41 laws_FnChunks.bits41 (fun HT_ HW_ => ?_)
                generalize wc.drew = w100 at HB hHeld ⊢
                refine pure_ (i := 0) (N := some 243) (v := ?_) (a' := ?_) #[true, false, false, false, false, false, false, false, false, false, false, false, false] rfl rfl (any_of HT_.out (by kernel_rfl)) (fun _ _ _ h => h) (Or.inl ⟨by rfl, ?_⟩) ?_ ?_
                rotate_left
                ·intro w'
                 go_simp
                 with_reducible rfl
                rotate_left
                ·simp only [Act.put, List.setIfInBounds_toArray, List.set_cons_zero, List.set_cons_succ, i64_w, i32_w]
                 rfl
                refine pure_ (i := 1) (N := some 244) (v := ?_) (a' := ?_) #[true, true, false, false, false, false, false, false, false, false, false, false, false] rfl rfl (any_of HT_.out (by kernel_rfl)) (fun _ _ _ h => h) (Or.inl ⟨by rfl, ?_⟩) ?_ ?_
                rotate_left
                ·intro w'
                 go_simp
                 with_reducible rfl
                rotate_left
                ·simp only [Act.put, List.setIfInBounds_toArray, List.set_cons_zero, List.set_cons_succ, i64_w, i32_w]
                 rfl
                refine pure_ (i := 2) (N := some 245) (v := ?_) (a' := ?_) #[true, true, true, false, false, false, false, false, false, false, false, false, false] rfl rfl (any_of HT_.out (by kernel_rfl)) (fun _ _ _ h => h) (Or.inl ⟨by rfl, ?_⟩) ?_ ?_
                rotate_left
                ·intro w'
                 go_simp
                 with_reducible rfl
                rotate_left
                ·simp only [Act.put, List.setIfInBounds_toArray, List.set_cons_zero, List.set_cons_succ, i64_w, i32_w]
                 rfl
                refine pure_ (i := 3) (N := some 246) (v := ?_) (a' := ?_) #[true, true, true, true, false, false, false, false, false, false, false, false, false] rfl rfl (any_of HT_.out (by kernel_rfl)) (fun _ _ _ h => h) (Or.inl ⟨by rfl, ?_⟩) ?_ ?_
                rotate_left
                ·intro w'
                 go_simp
                 with_reducible rfl
                rotate_left
                ·simp only [Act.put, List.setIfInBounds_toArray, List.set_cons_zero, List.set_cons_succ, i64_w, i32_w]
                 rfl
                refine one_ (i := 4) (N := some 247) #[true, true, true, true, true, false, false, false, false, false, false, false, false] rfl rfl (one_of HT_.out (by kernel_rfl)) (by decide) (fun K hK => ?_)
                refine Kd.R_lit_step (Kd.int .u8) _ 5 ?hg (N := 247) ?hd (xs := ([(Int.tmod t285 256) % 256] : List Int)) (inner := [.int .u8 ((Int.tmod t285 256) % 256)]) (ok := fun _ => True) (okp := fun _ => True) ?hr ?hp (fun _ hk => hk) trivial (Below.refl _ _) (Nat.le_refl _) (by simp) ?_; (case hd => rfl); (case hg => rfl); (case hr => first | (go_simp; done) | (go_simp; rfl)); (case hp => exact (Reps.one (show Kd.M (Kd.int .u8) _ _ _ ((Int.tmod t285 256) % 256) [.int .u8 ((Int.tmod t285 256) % 256)] from rfl) (Reps.none _ _)))
                intro v287 w101 ho102 hb hg_ hnew_
                clear hg_ hnew_
                (first | rw [← Ny286.out] at ho102 | (simp only [Int.reduceToNat] at ho102; rw [← Ny286.out] at ho102))
                have n0_ := Aside0.mk (Kd.R_lower ho102 (Op.a6 (by repeat (first | (with_reducible first | exact HB.out | apply Op.a1 | apply Op.a2 | apply Op.a3) | exact HB.out))))
                have n1_ := Aside0.mk (Op.a5 (by repeat (first | (with_reducible first | exact HB.out | apply Op.a1 | apply Op.a2 | apply Op.a3) | exact HB.out)) hb)
                clear HB
                have HO288 := n0_
                have HB := n1_
                clear n0_ n1_
                clear hb ho102
                refine hK.out _ _ trivial (fun hHeld => ?_)
                clear hK K
                refine norm_ (a' := ?_) ?_ ?_
                rotate_left
                ·show Act.put _ (some 247) _ = _
                 simp only [Act.put, List.setIfInBounds_toArray, List.set_cons_zero, List.set_cons_succ, i64_w, i32_w]
                 rfl
                refine one_ (i := 5) (N := some 248) #[true, true, true, true, true, true, false, false, false, false, false, false, false] rfl rfl (one_of HT_.out (by kernel_rfl)) (by decide) (fun K hK => ?_)
                have hcv103 := own_string (P := Try.prog) Try.underlying62 Try.underlying5 Try.underlying9 (Kd.own_of_R HO288.out)
                refine value_ (w1 := ?_) (v := ?_) (by rfl) rfl ?_ ?_
                rotate_left 2
                ·go_simp
                 constructor
                 ·rfl
                 ·rfl
                clear hcv103
                refine hK.out _ _ trivial (fun hHeld => ?_)
                clear hK K
                refine norm_ (a' := ?_) ?_ ?_
                rotate_left
                ·show Act.put _ (some 248) _ = _
                 simp only [Act.put, List.setIfInBounds_toArray, List.set_cons_zero, List.set_cons_succ, i64_w, i32_w]
                 rfl
                refine pure_ (i := 6) (N := some 249) (v := ?_) (a' := ?_) #[true, true, true, true, true, true, true, false, false, false, false, false, false] rfl rfl (any_of HT_.out (by kernel_rfl)) (fun _ _ _ h => h) (Or.inl ⟨by rfl, ?_⟩) ?_ ?_
                rotate_left
                ·intro w'
                 go_simp
                 with_reducible rfl
                rotate_left
                ·simp only [Act.put, List.setIfInBounds_toArray, List.set_cons_zero, List.set_cons_succ, i64_w, i32_w]
                 rfl
                refine one_ (i := 7) (N := some 250) #[true, true, true, true, true, true, true, true, false, false, false, false, false] rfl rfl (one_of HT_.out (by kernel_rfl)) (by decide) (fun K hK => ?_)
                refine goes_ Try.func16 (by kernel_rfl) rfl #[.string ((t280.extract 1 t280.size) ++ (strOfNums y286))] (by rfl) rfl rfl (by (try simp only [List.map_toArray, List.map_cons, List.map_nil]); first | done | rfl | (simp only [List.length_drop, List.length_take]; rfl)) ?_
                with_reducible refine (impl_FingerOf.calls kj82 ((t280.extract 1 t280.size) ++ (strOfNums y286)) t289 true _ A94.out).mono ?_
                rintro e w' ⟨rfl, ⟨nd, rfl⟩⟩
                refine ⟨_, rfl, ?_⟩
                refine hK.out _ _ trivial (fun hHeld => ?_)
                clear hK K
                refine norm_ (a' := ?_) ?_ ?_
                rotate_left
                ·show Act.put _ (some 250) _ = _
                 simp only [Act.put, List.setIfInBounds_toArray, List.set_cons_zero, List.set_cons_succ, i64_w, i32_w]
                 rfl
                refine pure_ (i := 8) (N := some 242) (v := ?_) (a' := ?_) #[true, true, true, true, true, true, true, true, true, false, false, false, false] rfl rfl (any_of HT_.out (by kernel_rfl)) (fun _ _ _ h => h) (Or.inl ⟨by rfl, ?_⟩) ?_ ?_
                rotate_left
                ·intro w'
                 go_simp
                 with_reducible rfl
                rotate_left
                ·simp only [Act.put, List.setIfInBounds_toArray, List.set_cons_zero, List.set_cons_succ, i64_w, i32_w]
                 rfl
                refine pure_ (i := 9) (N := some 251) (v := ?_) (a' := ?_) #[true, true, true, true, true, true, true, true, true, true, false, false, false] rfl rfl (any_of HT_.out (by kernel_rfl)) (fun _ _ _ h => h) (Or.inl ⟨by rfl, ?_⟩) ?_ ?_
                rotate_left
                ·intro w'
                 go_simp
                 with_reducible rfl
                rotate_left
                ·simp only [Act.put, List.setIfInBounds_toArray, List.set_cons_zero, List.set_cons_succ, i64_w, i32_w]
                 rfl
                refine pure_ (i := 10) (N := some 252) (v := ?_) (a' := ?_) #[true, true, true, true, true, true, true, true, true, true, true, false, false] rfl rfl (any_of HT_.out (by kernel_rfl)) (fun _ _ _ h => h) (Or.inl ⟨by rfl, ?_⟩) ?_ ?_
                rotate_left
                ·intro w'
                 go_simp
                 with_reducible rfl
                rotate_left
                ·simp only [Act.put, List.setIfInBounds_toArray, List.set_cons_zero, List.set_cons_succ, i64_w, i32_w]
                 rfl
                refine pure_ (i := 11) (N := some 36) (v := ?_) (a' := ?_) #[true, true, true, true, true, true, true, true, true, true, true, true, false] rfl rfl (any_of HT_.out (by kernel_rfl)) (fun _ _ _ h => h) (Or.inl ⟨by rfl, ?_⟩) ?_ ?_
                rotate_left
                ·intro w'
                 go_simp
                 with_reducible rfl
                rotate_left
                ·simp only [Act.put, List.setIfInBounds_toArray, List.set_cons_zero, List.set_cons_succ, i64_w, i32_w]
                 rfl
                refine pure_ (i := 12) (N := some 37) (v := ?_) (a' := ?_) #[true, true, true, true, true, true, true, true, true, true, true, true, true] rfl rfl (any_of HT_.out (by kernel_rfl)) (fun _ _ _ h => h) (Or.inl ⟨by rfl, ?_⟩) ?_ ?_
                rotate_left
                ·intro w'
                 go_simp
                 with_reducible rfl
                rotate_left
                ·simp only [Act.put, List.setIfInBounds_toArray, List.set_cons_zero, List.set_cons_succ, i64_w, i32_w]
                 rfl
                refine done_ (done_of HT_.out (by kernel_rfl)) ?_
                have p96 : 0 ≤ (0 : Int) := (by omega)
                have q96 : 0 < t280.size := (by have : (0 : Int) < (t280.size : Int) := of_decide_eq_true (by first | (with_reducible assumption) | assumption); omega)
                have hx96 : ∀ h : 0 < t280.size, ((t280[0]'h).toNat : Int) = bt t280 0 := bt_at t280 0
                clear p96
                have qi96 : (0 < (t280.size : Int)) = True := eq_true (of_decide_eq_true (by first | (with_reducible assumption) | assumption))
                replace q96 := eq_true q96
                try go_wp2_with (first | ((with_reducible refine gate_callee (f := 18) rfl ?_); refine goesL_ (some 259) rfl rfl Try.func18 (by kernel_rfl) rfl #[.int .i64 t281, .int .i64 (wrap64 (bt t280 0)), .int .i64 (Int.tmod t285 256)] rfl (by (try simp only [List.map_toArray, List.map_cons, List.map_nil]); first | done | rfl | (simp only [List.length_drop, List.length_take]; rfl)) ?_; (with_reducible refine (impl_RollOn.calls t281 (wrap64 (bt t280 0)) (Int.tmod t285 256) t291 true _ A97.out).mono ?_); rintro e w' ⟨rfl, ⟨nd, rfl⟩⟩; refine ⟨_, rfl, ?_⟩))
                go_ret
                exact ⟨by first | rfl | (simp [errW_none, errW_some] <;> rfl) | (simp [*, errW_none, errW_some] <;> rfl), by repeat (first | (with_reducible first | exact HB.out | apply Op.a1 | apply Op.a2 | apply Op.a3) | exact HB.out)⟩
               ·replace c99 := Bool.eq_false_iff.mpr c99
                subst c99
                have H1 : (some false) = some true := by rw [if_neg (show ¬ (false = true) by decide)] at H; exact H
                clear H
                have H := H1
                clear H1
                exact absurd (Option.some.inj H) (by simp)
              ·replace c98 := Bool.eq_false_iff.mpr c98
               subst c98
               have H1 : (some false) = some true := by rw [if_neg (show ¬ (false = true) by decide)] at H; exact H
               clear H
               have H := H1
               clear H1
               exact absurd (Option.some.inj H) (by simp)
             ·rw [if_neg c95] at H
              exact absurd H (by simp)
            ·rw [if_neg c93] at H
             exact absurd H (by simp)
           ·rw [if_neg c92] at H
            exact absurd H (by simp)
          ·replace c90 := Bool.eq_false_iff.mpr c90
           subst c90
           have H1 : (some true) = some true := rfl
           clear H
           have H := H1
           clear H1
           have hR_ := Option.some.inj H
           clear H
           go_wp2
           go_ret
           exact ⟨by first | rfl | (simp [errW_none, errW_some] <;> rfl) | (simp [*, errW_none, errW_some] <;> rfl), by repeat (first | (with_reducible first | exact HB.out | apply Op.a1 | apply Op.a2 | apply Op.a3) | exact HB.out)⟩

/-- THE ONE PURE STATEMENT of laws_FnChunks: yours. -/
def laws_FnChunks.Pure : Prop := ∀ (l0 : List Int) (l1 : List Int), l0.length ≤ maxLen → l0.length * 1 ≤ 140737488351232 → (∀ x ∈ l0, (Lit.int .u8 x).wf = true) → l1.length ≤ maxLen → l1.length * 1 ≤ 140737488351232 → (∀ x ∈ l1, (Lit.int .u8 x).wf = true) → ∃ k, laws_FnChunks.f k l0 l1 = some true
theorem laws_FnChunks.walk (P : laws_FnChunks.Pure) (a0 : Option Addr) (len0 cap0 : Nat) (z0 : List Int) (a1 : Option Addr) (len1 cap1 : Nat) (z1 : List Int) (w : World) (w0 : (a0 = none ∧ len0 = 0 ∧ cap0 = 0 ∧ z0 = []) ∨ ∃ x, a0 = some x ∧ len0 ≤ cap0 ∧ cap0 ≤ maxLen ∧ z0.length = cap0 ∧ (∀ i, i < z0.length → w.cell? (x.add i) = some (.int .u8 (z0.getD i 0))) ∧ ∀ n ∈ z0, (Lit.int .u8 n).wf = true) (y0 : len0 * 1 ≤ 140737488351232) (w1 : (a1 = none ∧ len1 = 0 ∧ cap1 = 0 ∧ z1 = []) ∨ ∃ x, a1 = some x ∧ len1 ≤ cap1 ∧ cap1 ≤ maxLen ∧ z1.length = cap1 ∧ (∀ i, i < z1.length → w.cell? (x.add i) = some (.int .u8 (z1.getD i 0))) ∧ ∀ n ∈ z1, (Lit.int .u8 n).wf = true) (y1 : len1 * 1 ≤ 140737488351232) :
  Calls Try.prog 12 #[.slice a0 len0 cap0, .slice a1 len1 cap1] w fun e w' => e = .returned (.bool true) ∧ Below w.heap.size w w' := by
 obtain ⟨l0, rfl, hr0, hm0, hw0, hc0⟩ := ReadsInt.ofRowC w0
 obtain ⟨l1, rfl, hr1, hm1, hw1, hc1⟩ := ReadsInt.ofRowC w1
 obtain ⟨k, h⟩ := P l0 l1 hm0 y0 hw0 hm1 y1 hw1
 refine (laws_FnChunks.calls k _ _ l0 _ _ l1 true w (Kd.C_of_reads (d := (0 : Int)) (h1 := fun _ => rfl) hr0) hc0 (Kd.C_of_reads (d := (0 : Int)) (h1 := fun _ => rfl) hr1) hc1 h).mono ?_
 rintro e w' ⟨rfl, hd⟩
 exact ⟨rfl, hd⟩

end Go.Proofs.Ytlmnlmcahhegkaa.PFnChunks
