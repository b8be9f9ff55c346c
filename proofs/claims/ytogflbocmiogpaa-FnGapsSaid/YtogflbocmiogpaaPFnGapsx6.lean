-- Written for this claim by this session's turned copy of the printer.
import Derived.Test.YtogflbocmiogpaaPFnGapsx0
import Derived.Test.YtogflbocmiogpaaPFnGapsx1
import Derived.Test.YtogflbocmiogpaaPFnGapsx2
import Derived.Test.YtogflbocmiogpaaPFnGapsx3
import Derived.Test.YtogflbocmiogpaaPFnGapsx5
namespace Go.Proofs.Ytogflbocmiogpaa.PFnGaps
open Go.RowKit Go.Proofs.YtogflbocmiogpaaW.PrintWords Go.Proofs.YtogflbocmiogpaaW.PrintLast Go.Proofs.YtogflbocmiogpaaW.PrintMore
attribute [local go_sem] max2_int min2_int max_two min_two max_three min_three max_four min_four   -- for this text's walks alone
set_option linter.unusedVariables false
set_option linter.unusedSimpArgs false

/-! ### laws_FnGaps: function 3 -/
mutual
def laws_FnGaps.j0 : Nat → List Int → Int → Int → Int → Bool → Bool → Int → Bool → Option (Bool)
  | 0, _, _, _, _, _, _, _, _ => none
  | k + 1, x0, x4, x5, x6, x7, x61, x349000, x349001 => if x61 = true then (some false) else ((impl_StraightWalk.f k x349000 x349001 x4 x5).bind fun bt353 => ((spec_StraightWalk.f k x349000 x349001 x4 x5).bind fun bt357 => (if (bt353.2 != bt357.2) = true then (laws_FnGaps.j1 k x0 x4 x5 x6 x7 bt353.1 true x349000 x349001) else (if (bt353.2 != x7) = true then (laws_FnGaps.j1 k x0 x4 x5 x6 x7 bt353.1 true x349000 x349001) else ((laws_rInts.f k bt353.1 bt357.1).bind fun t361 => (laws_FnGaps.j1 k x0 x4 x5 x6 x7 bt353.1 (!t361) x349000 x349001))))))
def laws_FnGaps.j1 : Nat → List Int → Int → Int → Int → Bool → List Int → Bool → Int → Bool → Option (Bool)
  | 0, _, _, _, _, _, _, _, _, _ => none
  | k + 1, x0, x4, x5, x6, x7, x10, x89, x349000, x349001 => if x89 = true then (some false) else ((spec_DrawNeighborsOn.f x0).bind fun bt362 => ((impl_NeighborsOn.f k bt362.1 bt362.2.1 bt362.2.2).bind fun bt366 => ((spec_NeighborsOn.f k bt362.1 bt362.2.1 bt362.2.2).bind fun bt370 => (if (bt366.2 != bt370.2) = true then (laws_FnGaps.j2 k x4 x5 x6 x7 x10 bt362.2.2 bt366.1 bt366.2 true x349000 x349001 bt362.1 bt362.2.1) else ((laws_rInts.f k bt366.1 bt370.1).bind fun t374 => (if t374 = true then ((impl_IsRoad.f bt362.1 bt362.2.1).bind fun t375 => ((spec_IsRoad.f bt362.1 bt362.2.1).bind fun t376 => (laws_FnGaps.j2 k x4 x5 x6 x7 x10 bt362.2.2 bt366.1 bt366.2 (t375 != t376) x349000 x349001 bt362.1 bt362.2.1))) else (laws_FnGaps.j2 k x4 x5 x6 x7 x10 bt362.2.2 bt366.1 bt366.2 true x349000 x349001 bt362.1 bt362.2.1)))))))
def laws_FnGaps.j2 : Nat → Int → Int → Int → Bool → List Int → Int → List Int → Bool → Bool → Int → Bool → Int → Bool → Option (Bool)
  | 0, _, _, _, _, _, _, _, _, _, _, _, _, _ => none
  | k + 1, x4, x5, x6, x7, x10, x15, x16, x17, x122, x349000, x349001, x366000, x366001 => if x122 = true then (some false) else (if x17 = true then (laws_FnGaps.l0 k x4 x5 x6 x7 x10 x15 x16 0 x349000 x349001 x366000 x366001) else (laws_FnGaps.j4 k x4 x5 x6 x7 x10 x349000 x349001))
def laws_FnGaps.j4 : Nat → Int → Int → Int → Bool → List Int → Int → Bool → Option (Bool)
  | 0, _, _, _, _, _, _, _ => none
  | k + 1, x4, x5, x6, x7, x10, x349000, x349001 => if x7 = true then ((impl_GapOf.f k x349000 x349001 x5 x4).bind fun bt380 => ((impl_IsWalk.f k x349000 x349001 x10).bind fun bt382 => (if bt380.2 = true then (if bt382.2 = true then (if bt380.1 = x6 then (if bt382.1 = true then (if (x10.length : Int) = (wrap64 (x6 + 1)) then (if 0 ≤ x6 then (if x6 < (x10.length : Int) then (laws_FnGaps.j5 k x4 x5 x6 ((rd x10 x6) != x5) x349000 x349001) else (none)) else (none)) else (laws_FnGaps.j5 k x4 x5 x6 true x349000 x349001)) else (laws_FnGaps.j5 k x4 x5 x6 true x349000 x349001)) else (laws_FnGaps.j5 k x4 x5 x6 true x349000 x349001)) else (laws_FnGaps.j5 k x4 x5 x6 true x349000 x349001)) else (laws_FnGaps.j5 k x4 x5 x6 true x349000 x349001)))) else (some true)
def laws_FnGaps.j5 : Nat → Int → Int → Int → Bool → Int → Bool → Option (Bool)
  | 0, _, _, _, _, _, _ => none
  | k + 1, x4, x5, x6, x191, x349000, x349001 => if x191 = true then (some false) else (laws_FnGaps.l1 k x4 x5 x6 0 x349000 x349001)
def laws_FnGaps.l1 : Nat → Int → Int → Int → Int → Int → Bool → Option (Bool)
  | 0, _, _, _, _, _, _ => none
  | k + 1, x4, x5, x6, x27, x349000, x349001 => if x27 < x349000 then ((impl_GapOf.f k x349000 x349001 x4 x27).bind fun bt385 => ((impl_GapOf.f k x349000 x349001 x27 x5).bind fun bt387 => (if bt385.2 = true then (if bt387.2 = true then (if x6 > (wrap64 (bt385.1 + bt387.1)) then (some false) else (laws_FnGaps.l1 k x4 x5 x6 (wrap64 (x27 + 1)) x349000 x349001)) else (some false)) else (some false)))) else (some true)
def laws_FnGaps.l0 : Nat → Int → Int → Int → Bool → List Int → Int → List Int → Int → Int → Bool → Int → Bool → Option (Bool)
  | 0, _, _, _, _, _, _, _, _, _, _, _, _ => none
  | k + 1, x4, x5, x6, x7, x10, x15, x16, x20, x349000, x349001, x366000, x366001 => if x20 < x366000 then ((impl_GapOf.f k x366000 x366001 x15 x20).bind fun bt377 => (if bt377.2 = true then ((laws_rHas.f k x16 x20).bind fun t379 => (if (t379 != (bt377.1 == 1)) = true then (some false) else (laws_FnGaps.l0 k x4 x5 x6 x7 x10 x15 x16 (wrap64 (x20 + 1)) x349000 x349001 x366000 x366001))) else (some false))) else (laws_FnGaps.j4 k x4 x5 x6 x7 x10 x349000 x349001)
end
def laws_FnGaps.f (k : Nat) (l0 : List Int) : Option (Bool) := (laws_rBig.f l0).bind fun t343 => (if t343 = true then (some true) else ((spec_DrawGapOf.f l0).bind fun bt344 => ((impl_GapOf.f k bt344.1 bt344.2.1 bt344.2.2.1 bt344.2.2.2).bind fun bt349 => ((spec_GapOf.f bt344.1 bt344.2.1 bt344.2.2.1 bt344.2.2.2).bind fun bt351 => (if bt349.1 = bt351.1 then (laws_FnGaps.j0 k l0 bt344.2.2.1 bt344.2.2.2 bt349.1 bt349.2 (bt349.2 != bt351.2) bt344.1 bt344.2.1) else (laws_FnGaps.j0 k l0 bt344.2.2.1 bt344.2.2.2 bt349.1 bt349.2 true bt344.1 bt344.2.1))))))
theorem laws_FnGaps.mono_l : ∀ k, (∀ y0 y1 y2 y3 y4 y5 y6 y7, LeO (laws_FnGaps.j0 k y0 y1 y2 y3 y4 y5 y6 y7) (laws_FnGaps.j0 (k + 1) y0 y1 y2 y3 y4 y5 y6 y7)) ∧ (∀ y0 y1 y2 y3 y4 y5 y6 y7 y8, LeO (laws_FnGaps.j1 k y0 y1 y2 y3 y4 y5 y6 y7 y8) (laws_FnGaps.j1 (k + 1) y0 y1 y2 y3 y4 y5 y6 y7 y8)) ∧ (∀ y0 y1 y2 y3 y4 y5 y6 y7 y8 y9 y10 y11 y12, LeO (laws_FnGaps.j2 k y0 y1 y2 y3 y4 y5 y6 y7 y8 y9 y10 y11 y12) (laws_FnGaps.j2 (k + 1) y0 y1 y2 y3 y4 y5 y6 y7 y8 y9 y10 y11 y12)) ∧ (∀ y0 y1 y2 y3 y4 y5 y6, LeO (laws_FnGaps.j4 k y0 y1 y2 y3 y4 y5 y6) (laws_FnGaps.j4 (k + 1) y0 y1 y2 y3 y4 y5 y6)) ∧ (∀ y0 y1 y2 y3 y4 y5, LeO (laws_FnGaps.j5 k y0 y1 y2 y3 y4 y5) (laws_FnGaps.j5 (k + 1) y0 y1 y2 y3 y4 y5)) ∧ (∀ y0 y1 y2 y3 y4 y5, LeO (laws_FnGaps.l1 k y0 y1 y2 y3 y4 y5) (laws_FnGaps.l1 (k + 1) y0 y1 y2 y3 y4 y5)) ∧ (∀ y0 y1 y2 y3 y4 y5 y6 y7 y8 y9 y10 y11, LeO (laws_FnGaps.l0 k y0 y1 y2 y3 y4 y5 y6 y7 y8 y9 y10 y11) (laws_FnGaps.l0 (k + 1) y0 y1 y2 y3 y4 y5 y6 y7 y8 y9 y10 y11))
  | 0 => ⟨fun _ _ _ _ _ _ _ _ r h => by simp [laws_FnGaps.j0] at h, fun _ _ _ _ _ _ _ _ _ r h => by simp [laws_FnGaps.j1] at h, fun _ _ _ _ _ _ _ _ _ _ _ _ _ r h => by simp [laws_FnGaps.j2] at h, fun _ _ _ _ _ _ _ r h => by simp [laws_FnGaps.j4] at h, fun _ _ _ _ _ _ r h => by simp [laws_FnGaps.j5] at h, fun _ _ _ _ _ _ r h => by simp [laws_FnGaps.l1] at h, fun _ _ _ _ _ _ _ _ _ _ _ _ r h => by simp [laws_FnGaps.l0] at h⟩
  | k + 1 => by
    obtain ⟨ih0, ih1, ih2, ih3, ih4, ih5, ih6⟩ := laws_FnGaps.mono_l k
    refine ⟨?_, ?_, ?_, ?_, ?_, ?_, ?_⟩
    · intro y0 y1 y2 y3 y4 y5 y6 y7
      unfold laws_FnGaps.j0
      repeat' first
      | (with_reducible exact ih0 _ _ _ _ _ _ _ _)
      | (with_reducible exact ih1 _ _ _ _ _ _ _ _ _)
      | (with_reducible exact ih2 _ _ _ _ _ _ _ _ _ _ _ _ _)
      | (with_reducible exact ih3 _ _ _ _ _ _ _)
      | (with_reducible exact ih4 _ _ _ _ _ _)
      | (with_reducible exact ih5 _ _ _ _ _ _)
      | (with_reducible exact ih6 _ _ _ _ _ _ _ _ _ _ _ _)
      | (with_reducible exact impl_GapOf.mono _ _ _ _ _)
      | (with_reducible exact impl_IsWalk.mono _ _ _ _)
      | (with_reducible exact impl_NeighborsOn.mono _ _ _ _)
      | (with_reducible exact impl_StraightWalk.mono _ _ _ _ _)
      | (with_reducible exact laws_rHas.mono _ _ _)
      | (with_reducible exact laws_rInts.mono _ _ _)
      | (with_reducible exact spec_NeighborsOn.mono _ _ _ _)
      | (with_reducible exact spec_StraightWalk.mono _ _ _ _ _)
      | (with_reducible exact LeO.refl _)
      | (with_reducible exact LeO.none _)
      | (with_reducible refine LeO.ite ?_ ?_)
      | (with_reducible refine LeO.bind ?_ (fun _ => ?_))
      | exact ih0 _ _ _ _ _ _ _ _
      | exact ih1 _ _ _ _ _ _ _ _ _
      | exact ih2 _ _ _ _ _ _ _ _ _ _ _ _ _
      | exact ih3 _ _ _ _ _ _ _
      | exact ih4 _ _ _ _ _ _
      | exact ih5 _ _ _ _ _ _
      | exact ih6 _ _ _ _ _ _ _ _ _ _ _ _
      | exact impl_GapOf.mono _ _ _ _ _
      | exact impl_IsWalk.mono _ _ _ _
      | exact impl_NeighborsOn.mono _ _ _ _
      | exact impl_StraightWalk.mono _ _ _ _ _
      | exact laws_rHas.mono _ _ _
      | exact laws_rInts.mono _ _ _
      | exact spec_NeighborsOn.mono _ _ _ _
      | exact spec_StraightWalk.mono _ _ _ _ _
      | exact LeO.none _
      | refine LeO.ite ?_ ?_
      | refine LeO.bind ?_ (fun _ => ?_)
    · intro y0 y1 y2 y3 y4 y5 y6 y7 y8
      unfold laws_FnGaps.j1
      repeat' first
      | (with_reducible exact ih0 _ _ _ _ _ _ _ _)
      | (with_reducible exact ih1 _ _ _ _ _ _ _ _ _)
      | (with_reducible exact ih2 _ _ _ _ _ _ _ _ _ _ _ _ _)
      | (with_reducible exact ih3 _ _ _ _ _ _ _)
      | (with_reducible exact ih4 _ _ _ _ _ _)
      | (with_reducible exact ih5 _ _ _ _ _ _)
      | (with_reducible exact ih6 _ _ _ _ _ _ _ _ _ _ _ _)
      | (with_reducible exact impl_GapOf.mono _ _ _ _ _)
      | (with_reducible exact impl_IsWalk.mono _ _ _ _)
      | (with_reducible exact impl_NeighborsOn.mono _ _ _ _)
      | (with_reducible exact impl_StraightWalk.mono _ _ _ _ _)
      | (with_reducible exact laws_rHas.mono _ _ _)
      | (with_reducible exact laws_rInts.mono _ _ _)
      | (with_reducible exact spec_NeighborsOn.mono _ _ _ _)
      | (with_reducible exact spec_StraightWalk.mono _ _ _ _ _)
      | (with_reducible exact LeO.refl _)
      | (with_reducible exact LeO.none _)
      | (with_reducible refine LeO.ite ?_ ?_)
      | (with_reducible refine LeO.bind ?_ (fun _ => ?_))
      | exact ih0 _ _ _ _ _ _ _ _
      | exact ih1 _ _ _ _ _ _ _ _ _
      | exact ih2 _ _ _ _ _ _ _ _ _ _ _ _ _
      | exact ih3 _ _ _ _ _ _ _
      | exact ih4 _ _ _ _ _ _
      | exact ih5 _ _ _ _ _ _
      | exact ih6 _ _ _ _ _ _ _ _ _ _ _ _
      | exact impl_GapOf.mono _ _ _ _ _
      | exact impl_IsWalk.mono _ _ _ _
      | exact impl_NeighborsOn.mono _ _ _ _
      | exact impl_StraightWalk.mono _ _ _ _ _
      | exact laws_rHas.mono _ _ _
      | exact laws_rInts.mono _ _ _
      | exact spec_NeighborsOn.mono _ _ _ _
      | exact spec_StraightWalk.mono _ _ _ _ _
      | exact LeO.none _
      | refine LeO.ite ?_ ?_
      | refine LeO.bind ?_ (fun _ => ?_)
    · intro y0 y1 y2 y3 y4 y5 y6 y7 y8 y9 y10 y11 y12
      unfold laws_FnGaps.j2
      repeat' first
      | (with_reducible exact ih0 _ _ _ _ _ _ _ _)
      | (with_reducible exact ih1 _ _ _ _ _ _ _ _ _)
      | (with_reducible exact ih2 _ _ _ _ _ _ _ _ _ _ _ _ _)
      | (with_reducible exact ih3 _ _ _ _ _ _ _)
      | (with_reducible exact ih4 _ _ _ _ _ _)
      | (with_reducible exact ih5 _ _ _ _ _ _)
      | (with_reducible exact ih6 _ _ _ _ _ _ _ _ _ _ _ _)
      | (with_reducible exact impl_GapOf.mono _ _ _ _ _)
      | (with_reducible exact impl_IsWalk.mono _ _ _ _)
      | (with_reducible exact impl_NeighborsOn.mono _ _ _ _)
      | (with_reducible exact impl_StraightWalk.mono _ _ _ _ _)
      | (with_reducible exact laws_rHas.mono _ _ _)
      | (with_reducible exact laws_rInts.mono _ _ _)
      | (with_reducible exact spec_NeighborsOn.mono _ _ _ _)
      | (with_reducible exact spec_StraightWalk.mono _ _ _ _ _)
      | (with_reducible exact LeO.refl _)
      | (with_reducible exact LeO.none _)
      | (with_reducible refine LeO.ite ?_ ?_)
      | (with_reducible refine LeO.bind ?_ (fun _ => ?_))
      | exact ih0 _ _ _ _ _ _ _ _
      | exact ih1 _ _ _ _ _ _ _ _ _
      | exact ih2 _ _ _ _ _ _ _ _ _ _ _ _ _
      | exact ih3 _ _ _ _ _ _ _
      | exact ih4 _ _ _ _ _ _
      | exact ih5 _ _ _ _ _ _
      | exact ih6 _ _ _ _ _ _ _ _ _ _ _ _
      | exact impl_GapOf.mono _ _ _ _ _
      | exact impl_IsWalk.mono _ _ _ _
      | exact impl_NeighborsOn.mono _ _ _ _
      | exact impl_StraightWalk.mono _ _ _ _ _
      | exact laws_rHas.mono _ _ _
      | exact laws_rInts.mono _ _ _
      | exact spec_NeighborsOn.mono _ _ _ _
      | exact spec_StraightWalk.mono _ _ _ _ _
      | exact LeO.none _
      | refine LeO.ite ?_ ?_
      | refine LeO.bind ?_ (fun _ => ?_)
    · intro y0 y1 y2 y3 y4 y5 y6
      unfold laws_FnGaps.j4
      repeat' first
      | (with_reducible exact ih0 _ _ _ _ _ _ _ _)
      | (with_reducible exact ih1 _ _ _ _ _ _ _ _ _)
      | (with_reducible exact ih2 _ _ _ _ _ _ _ _ _ _ _ _ _)
      | (with_reducible exact ih3 _ _ _ _ _ _ _)
      | (with_reducible exact ih4 _ _ _ _ _ _)
      | (with_reducible exact ih5 _ _ _ _ _ _)
      | (with_reducible exact ih6 _ _ _ _ _ _ _ _ _ _ _ _)
      | (with_reducible exact impl_GapOf.mono _ _ _ _ _)
      | (with_reducible exact impl_IsWalk.mono _ _ _ _)
      | (with_reducible exact impl_NeighborsOn.mono _ _ _ _)
      | (with_reducible exact impl_StraightWalk.mono _ _ _ _ _)
      | (with_reducible exact laws_rHas.mono _ _ _)
      | (with_reducible exact laws_rInts.mono _ _ _)
      | (with_reducible exact spec_NeighborsOn.mono _ _ _ _)
      | (with_reducible exact spec_StraightWalk.mono _ _ _ _ _)
      | (with_reducible exact LeO.refl _)
      | (with_reducible exact LeO.none _)
      | (with_reducible refine LeO.ite ?_ ?_)
      | (with_reducible refine LeO.bind ?_ (fun _ => ?_))
      | exact ih0 _ _ _ _ _ _ _ _
      | exact ih1 _ _ _ _ _ _ _ _ _
      | exact ih2 _ _ _ _ _ _ _ _ _ _ _ _ _
      | exact ih3 _ _ _ _ _ _ _
      | exact ih4 _ _ _ _ _ _
      | exact ih5 _ _ _ _ _ _
      | exact ih6 _ _ _ _ _ _ _ _ _ _ _ _
      | exact impl_GapOf.mono _ _ _ _ _
      | exact impl_IsWalk.mono _ _ _ _
      | exact impl_NeighborsOn.mono _ _ _ _
      | exact impl_StraightWalk.mono _ _ _ _ _
      | exact laws_rHas.mono _ _ _
      | exact laws_rInts.mono _ _ _
      | exact spec_NeighborsOn.mono _ _ _ _
      | exact spec_StraightWalk.mono _ _ _ _ _
      | exact LeO.none _
      | refine LeO.ite ?_ ?_
      | refine LeO.bind ?_ (fun _ => ?_)
    · intro y0 y1 y2 y3 y4 y5
      unfold laws_FnGaps.j5
      repeat' first
      | (with_reducible exact ih0 _ _ _ _ _ _ _ _)
      | (with_reducible exact ih1 _ _ _ _ _ _ _ _ _)
      | (with_reducible exact ih2 _ _ _ _ _ _ _ _ _ _ _ _ _)
      | (with_reducible exact ih3 _ _ _ _ _ _ _)
      | (with_reducible exact ih4 _ _ _ _ _ _)
      | (with_reducible exact ih5 _ _ _ _ _ _)
      | (with_reducible exact ih6 _ _ _ _ _ _ _ _ _ _ _ _)
      | (with_reducible exact impl_GapOf.mono _ _ _ _ _)
      | (with_reducible exact impl_IsWalk.mono _ _ _ _)
      | (with_reducible exact impl_NeighborsOn.mono _ _ _ _)
      | (with_reducible exact impl_StraightWalk.mono _ _ _ _ _)
      | (with_reducible exact laws_rHas.mono _ _ _)
      | (with_reducible exact laws_rInts.mono _ _ _)
      | (with_reducible exact spec_NeighborsOn.mono _ _ _ _)
      | (with_reducible exact spec_StraightWalk.mono _ _ _ _ _)
      | (with_reducible exact LeO.refl _)
      | (with_reducible exact LeO.none _)
      | (with_reducible refine LeO.ite ?_ ?_)
      | (with_reducible refine LeO.bind ?_ (fun _ => ?_))
      | exact ih0 _ _ _ _ _ _ _ _
      | exact ih1 _ _ _ _ _ _ _ _ _
      | exact ih2 _ _ _ _ _ _ _ _ _ _ _ _ _
      | exact ih3 _ _ _ _ _ _ _
      | exact ih4 _ _ _ _ _ _
      | exact ih5 _ _ _ _ _ _
      | exact ih6 _ _ _ _ _ _ _ _ _ _ _ _
      | exact impl_GapOf.mono _ _ _ _ _
      | exact impl_IsWalk.mono _ _ _ _
      | exact impl_NeighborsOn.mono _ _ _ _
      | exact impl_StraightWalk.mono _ _ _ _ _
      | exact laws_rHas.mono _ _ _
      | exact laws_rInts.mono _ _ _
      | exact spec_NeighborsOn.mono _ _ _ _
      | exact spec_StraightWalk.mono _ _ _ _ _
      | exact LeO.none _
      | refine LeO.ite ?_ ?_
      | refine LeO.bind ?_ (fun _ => ?_)
    · intro y0 y1 y2 y3 y4 y5
      unfold laws_FnGaps.l1
      repeat' first
      | (with_reducible exact ih0 _ _ _ _ _ _ _ _)
      | (with_reducible exact ih1 _ _ _ _ _ _ _ _ _)
      | (with_reducible exact ih2 _ _ _ _ _ _ _ _ _ _ _ _ _)
      | (with_reducible exact ih3 _ _ _ _ _ _ _)
      | (with_reducible exact ih4 _ _ _ _ _ _)
      | (with_reducible exact ih5 _ _ _ _ _ _)
      | (with_reducible exact ih6 _ _ _ _ _ _ _ _ _ _ _ _)
      | (with_reducible exact impl_GapOf.mono _ _ _ _ _)
      | (with_reducible exact impl_IsWalk.mono _ _ _ _)
      | (with_reducible exact impl_NeighborsOn.mono _ _ _ _)
      | (with_reducible exact impl_StraightWalk.mono _ _ _ _ _)
      | (with_reducible exact laws_rHas.mono _ _ _)
      | (with_reducible exact laws_rInts.mono _ _ _)
      | (with_reducible exact spec_NeighborsOn.mono _ _ _ _)
      | (with_reducible exact spec_StraightWalk.mono _ _ _ _ _)
      | (with_reducible exact LeO.refl _)
      | (with_reducible exact LeO.none _)
      | (with_reducible refine LeO.ite ?_ ?_)
      | (with_reducible refine LeO.bind ?_ (fun _ => ?_))
      | exact ih0 _ _ _ _ _ _ _ _
      | exact ih1 _ _ _ _ _ _ _ _ _
      | exact ih2 _ _ _ _ _ _ _ _ _ _ _ _ _
      | exact ih3 _ _ _ _ _ _ _
      | exact ih4 _ _ _ _ _ _
      | exact ih5 _ _ _ _ _ _
      | exact ih6 _ _ _ _ _ _ _ _ _ _ _ _
      | exact impl_GapOf.mono _ _ _ _ _
      | exact impl_IsWalk.mono _ _ _ _
      | exact impl_NeighborsOn.mono _ _ _ _
      | exact impl_StraightWalk.mono _ _ _ _ _
      | exact laws_rHas.mono _ _ _
      | exact laws_rInts.mono _ _ _
      | exact spec_NeighborsOn.mono _ _ _ _
      | exact spec_StraightWalk.mono _ _ _ _ _
      | exact LeO.none _
      | refine LeO.ite ?_ ?_
      | refine LeO.bind ?_ (fun _ => ?_)
    · intro y0 y1 y2 y3 y4 y5 y6 y7 y8 y9 y10 y11
      unfold laws_FnGaps.l0
      repeat' first
      | (with_reducible exact ih0 _ _ _ _ _ _ _ _)
      | (with_reducible exact ih1 _ _ _ _ _ _ _ _ _)
      | (with_reducible exact ih2 _ _ _ _ _ _ _ _ _ _ _ _ _)
      | (with_reducible exact ih3 _ _ _ _ _ _ _)
      | (with_reducible exact ih4 _ _ _ _ _ _)
      | (with_reducible exact ih5 _ _ _ _ _ _)
      | (with_reducible exact ih6 _ _ _ _ _ _ _ _ _ _ _ _)
      | (with_reducible exact impl_GapOf.mono _ _ _ _ _)
      | (with_reducible exact impl_IsWalk.mono _ _ _ _)
      | (with_reducible exact impl_NeighborsOn.mono _ _ _ _)
      | (with_reducible exact impl_StraightWalk.mono _ _ _ _ _)
      | (with_reducible exact laws_rHas.mono _ _ _)
      | (with_reducible exact laws_rInts.mono _ _ _)
      | (with_reducible exact spec_NeighborsOn.mono _ _ _ _)
      | (with_reducible exact spec_StraightWalk.mono _ _ _ _ _)
      | (with_reducible exact LeO.refl _)
      | (with_reducible exact LeO.none _)
      | (with_reducible refine LeO.ite ?_ ?_)
      | (with_reducible refine LeO.bind ?_ (fun _ => ?_))
      | exact ih0 _ _ _ _ _ _ _ _
      | exact ih1 _ _ _ _ _ _ _ _ _
      | exact ih2 _ _ _ _ _ _ _ _ _ _ _ _ _
      | exact ih3 _ _ _ _ _ _ _
      | exact ih4 _ _ _ _ _ _
      | exact ih5 _ _ _ _ _ _
      | exact ih6 _ _ _ _ _ _ _ _ _ _ _ _
      | exact impl_GapOf.mono _ _ _ _ _
      | exact impl_IsWalk.mono _ _ _ _
      | exact impl_NeighborsOn.mono _ _ _ _
      | exact impl_StraightWalk.mono _ _ _ _ _
      | exact laws_rHas.mono _ _ _
      | exact laws_rInts.mono _ _ _
      | exact spec_NeighborsOn.mono _ _ _ _
      | exact spec_StraightWalk.mono _ _ _ _ _
      | exact LeO.none _
      | refine LeO.ite ?_ ?_
      | refine LeO.bind ?_ (fun _ => ?_)
theorem laws_FnGaps.mono : ∀ a0 k, LeO (laws_FnGaps.f k a0) (laws_FnGaps.f (k + 1) a0) := by
  intro a0 k
  obtain ⟨ih0, ih1, ih2, ih3, ih4, ih5, ih6⟩ := laws_FnGaps.mono_l k
  unfold laws_FnGaps.f
  repeat' first
      | (with_reducible exact ih0 _ _ _ _ _ _ _ _)
      | (with_reducible exact ih1 _ _ _ _ _ _ _ _ _)
      | (with_reducible exact ih2 _ _ _ _ _ _ _ _ _ _ _ _ _)
      | (with_reducible exact ih3 _ _ _ _ _ _ _)
      | (with_reducible exact ih4 _ _ _ _ _ _)
      | (with_reducible exact ih5 _ _ _ _ _ _)
      | (with_reducible exact ih6 _ _ _ _ _ _ _ _ _ _ _ _)
      | (with_reducible exact impl_GapOf.mono _ _ _ _ _)
      | (with_reducible exact impl_IsWalk.mono _ _ _ _)
      | (with_reducible exact impl_NeighborsOn.mono _ _ _ _)
      | (with_reducible exact impl_StraightWalk.mono _ _ _ _ _)
      | (with_reducible exact laws_rHas.mono _ _ _)
      | (with_reducible exact laws_rInts.mono _ _ _)
      | (with_reducible exact spec_NeighborsOn.mono _ _ _ _)
      | (with_reducible exact spec_StraightWalk.mono _ _ _ _ _)
      | (with_reducible exact LeO.refl _)
      | (with_reducible exact LeO.none _)
      | (with_reducible refine LeO.ite ?_ ?_)
      | (with_reducible refine LeO.bind ?_ (fun _ => ?_))
      | exact ih0 _ _ _ _ _ _ _ _
      | exact ih1 _ _ _ _ _ _ _ _ _
      | exact ih2 _ _ _ _ _ _ _ _ _ _ _ _ _
      | exact ih3 _ _ _ _ _ _ _
      | exact ih4 _ _ _ _ _ _
      | exact ih5 _ _ _ _ _ _
      | exact ih6 _ _ _ _ _ _ _ _ _ _ _ _
      | exact impl_GapOf.mono _ _ _ _ _
      | exact impl_IsWalk.mono _ _ _ _
      | exact impl_NeighborsOn.mono _ _ _ _
      | exact impl_StraightWalk.mono _ _ _ _ _
      | exact laws_rHas.mono _ _ _
      | exact laws_rInts.mono _ _ _
      | exact spec_NeighborsOn.mono _ _ _ _
      | exact spec_StraightWalk.mono _ _ _ _ _
      | exact LeO.none _
      | refine LeO.ite ?_ ?_
      | refine LeO.bind ?_ (fun _ => ?_)
def laws_FnGaps.T15 : Bool × List (List Nat × List Nat) := (true, [([], []), ([], []), ([0, 1], [0, 1]), ([2], [2]), ([3], [3]), ([3], [3]), ([4, 5, 3, 3], [3, 4, 5]), ([6, 3], [3, 6]), ([3, 7], [3, 7]), ([8, 6], [8]), ([9], [9]), ([10, 9, 9], [9, 10]), ([9], [9]), ([12, 11, 9], [9, 12]), ([11, 13, 9], [9, 11, 13]), ([9, 14], [9, 14])])
def laws_FnGaps.B15 : List Nat := [0, 0, 3, 7, 15, 15, 63, 127, 255, 511, 1023, 2047, 1023, 8191, 16383, 32767]
theorem laws_FnGaps.tab15 : rtab .any (opsOf Try.f3 15) = laws_FnGaps.T15 := by kernel_rfl
theorem laws_FnGaps.bits15 : waitsOk laws_FnGaps.T15.2 laws_FnGaps.B15 = true := by kernel_rfl
set_option maxHeartbeats 8000000 in
set_option maxRecDepth 100000 in
theorem laws_FnGaps.calls (k : Nat) (A0 : Option Addr) (c0 : Nat) (l0 : List Int) (r : Bool) (w : World) (hr0 : Kd.C (Kd.int .u8) w A0 l0.length l0) (hc0 : l0.length ≤ c0) (h : laws_FnGaps.f k l0 = some r) :
    Calls Try.prog 3 #[.slice A0 l0.length c0] w fun e w' => e = .returned (.bool r) ∧ Below w.heap.size w w' := by
  have hu25 := Try.underlying25
  have HR0 := Aside0.mk hr0
  have HC0 := Aside0.mk hc0
  clear hr0 hc0
  have HB := Aside0.mk (Below.refl w.heap.size w)
  have H : ((laws_rBig.f l0).bind fun t343 => (if t343 = true then (some true) else ((spec_DrawGapOf.f l0).bind fun bt344 => ((impl_GapOf.f k bt344.1 bt344.2.1 bt344.2.2.1 bt344.2.2.2).bind fun bt349 => ((spec_GapOf.f bt344.1 bt344.2.1 bt344.2.2.1 bt344.2.2.2).bind fun bt351 => (if bt349.1 = bt351.1 then (laws_FnGaps.j0 k l0 bt344.2.2.1 bt344.2.2.2 bt349.1 bt349.2 (bt349.2 != bt351.2) bt344.1 bt344.2.1) else (laws_FnGaps.j0 k l0 bt344.2.2.1 bt344.2.2.2 bt349.1 bt349.2 true bt344.1 bt344.2.1))))))) = some r := h
  clear h
  replace H := Option.bind_eq_some_iff.mp H
  obtain ⟨t343, A20, H⟩ := H
  replace H : (if t343 = true then (some true) else ((spec_DrawGapOf.f l0).bind fun bt344 => ((impl_GapOf.f k bt344.1 bt344.2.1 bt344.2.2.1 bt344.2.2.2).bind fun bt349 => ((spec_GapOf.f bt344.1 bt344.2.1 bt344.2.2.1 bt344.2.2.2).bind fun bt351 => (if bt349.1 = bt351.1 then (laws_FnGaps.j0 k l0 bt344.2.2.1 bt344.2.2.2 bt349.1 bt349.2 (bt349.2 != bt351.2) bt344.1 bt344.2.1) else (laws_FnGaps.j0 k l0 bt344.2.2.1 bt344.2.2.2 bt349.1 bt349.2 true bt344.1 bt344.2.1)))))) = some r := H
  have A2 := Aside0.mk A20
  clear A20
  by_cases c3 : t343 = true
  · subst c3
    have H1 : (some true) = some r := by rw [if_pos rfl] at H; exact H
    clear H
    have H := H1
    clear H1
    as_aux_lemma =>
      obtain rfl := Option.some.inj H
      go_enter Try.func3, Try.ntmps3
      go_wp2_with (first | ((with_reducible refine gate_callee (f := 7) rfl ?_); refine goesL_ (some 33) rfl rfl Try.func7 (by kernel_rfl) rfl #[.slice A0 l0.length c0] rfl (by (try simp only [List.map_toArray, List.map_cons, List.map_nil]); first | done | rfl | (simp only [List.length_drop, List.length_take]; rfl)) ?_; (with_reducible refine (laws_rBig.calls _ _ l0 true _ ?side1 ?side2 A2.out).mono ?_); (case side1 => repeat (first | exact HR0.out | (with_reducible refine Kd.C_alloc ?_ _) | (with_reducible refine Kd.C_drewN ?_ _) | (with_reducible refine Kd.C_drew ?_))); (case side2 => exact HC0.out); rintro e w' ⟨rfl, ⟨nd, rfl⟩⟩; refine ⟨_, rfl, ?_⟩))
      go_ret
      exact ⟨by first | rfl | (simp [errW_none, errW_some] <;> rfl) | (simp [*, errW_none, errW_some] <;> rfl), by repeat (first | (with_reducible first | exact HB.out | apply below_alloc | apply pw_below_drewN | apply below_drew1) | exact HB.out)⟩
  · replace c3 := Bool.eq_false_iff.mpr c3
    subst c3
    have H1 : ((spec_DrawGapOf.f l0).bind fun bt344 => ((impl_GapOf.f k bt344.1 bt344.2.1 bt344.2.2.1 bt344.2.2.2).bind fun bt349 => ((spec_GapOf.f bt344.1 bt344.2.1 bt344.2.2.1 bt344.2.2.2).bind fun bt351 => (if bt349.1 = bt351.1 then (laws_FnGaps.j0 k l0 bt344.2.2.1 bt344.2.2.2 bt349.1 bt349.2 (bt349.2 != bt351.2) bt344.1 bt344.2.1) else (laws_FnGaps.j0 k l0 bt344.2.2.1 bt344.2.2.2 bt349.1 bt349.2 true bt344.1 bt344.2.1))))) = some r := by rw [if_neg (show ¬ (false = true) by decide)] at H; exact H
    clear H
    have H := H1
    clear H1
    replace H := Option.bind_eq_some_iff.mp H
    obtain ⟨⟨t344, t345, t346, t347⟩, A40, H⟩ := H
    replace H : ((impl_GapOf.f k t344 t345 t346 t347).bind fun bt349 => ((spec_GapOf.f t344 t345 t346 t347).bind fun bt351 => (if bt349.1 = bt351.1 then (laws_FnGaps.j0 k l0 t346 t347 bt349.1 bt349.2 (bt349.2 != bt351.2) t344 t345) else (laws_FnGaps.j0 k l0 t346 t347 bt349.1 bt349.2 true t344 t345)))) = some r := H
    have A4 := Aside0.mk A40
    clear A40
    replace H := Option.bind_eq_some_iff.mp H
    obtain ⟨⟨t349, t350⟩, A50, H⟩ := H
    replace H : ((spec_GapOf.f t344 t345 t346 t347).bind fun bt351 => (if t349 = bt351.1 then (laws_FnGaps.j0 k l0 t346 t347 t349 t350 (t350 != bt351.2) t344 t345) else (laws_FnGaps.j0 k l0 t346 t347 t349 t350 true t344 t345))) = some r := H
    have A5 := Aside0.mk A50
    clear A50
    replace H := Option.bind_eq_some_iff.mp H
    obtain ⟨⟨t351, t352⟩, A60, H⟩ := H
    replace H : (if t349 = t351 then (laws_FnGaps.j0 k l0 t346 t347 t349 t350 (t350 != t352) t344 t345) else (laws_FnGaps.j0 k l0 t346 t347 t349 t350 true t344 t345)) = some r := H
    have A6 := Aside0.mk A60
    clear A60
    have HC7 := Aside0.mk H
    clear H
    go_enter Try.func3, Try.ntmps3
    go_upto_region 6 with (first | ((with_reducible refine gate_callee (f := 7) rfl ?_); refine goesL_ (some 33) rfl rfl Try.func7 (by kernel_rfl) rfl #[.slice A0 l0.length c0] rfl (by (try simp only [List.map_toArray, List.map_cons, List.map_nil]); first | done | rfl | (simp only [List.length_drop, List.length_take]; rfl)) ?_; (with_reducible refine (laws_rBig.calls _ _ l0 false _ ?side1 ?side2 A2.out).mono ?_); (case side1 => repeat (first | exact HR0.out | (with_reducible refine Kd.C_alloc ?_ _) | (with_reducible refine Kd.C_drewN ?_ _) | (with_reducible refine Kd.C_drew ?_))); (case side2 => exact HC0.out); rintro e w' ⟨rfl, ⟨nd, rfl⟩⟩; refine ⟨_, rfl, ?_⟩) | ((with_reducible refine gate_callee (f := 8) rfl ?_); refine goesL_ (some 36) rfl rfl Try.func8 (by kernel_rfl) rfl #[.slice A0 l0.length c0] rfl (by (try simp only [List.map_toArray, List.map_cons, List.map_nil]); first | done | rfl | (simp only [List.length_drop, List.length_take]; rfl)) ?_; (with_reducible refine (spec_DrawGapOf.calls _ _ l0 t344 t345 t346 t347 _ ?side1 ?side2 A4.out).mono ?_); (case side1 => repeat (first | exact HR0.out | (with_reducible refine Kd.C_alloc ?_ _) | (with_reducible refine Kd.C_drewN ?_ _) | (with_reducible refine Kd.C_drew ?_))); (case side2 => exact HC0.out); rintro e w8 ⟨rfl, hb⟩; refine ⟨_, rfl, ?_⟩; have n0_ := Aside0.mk (below_step (by repeat (first | (with_reducible first | exact HB.out | apply below_alloc | apply pw_below_drewN | apply below_drew1) | exact HB.out)) hb); clear HB; have HB := n0_; clear n0_; (try clear hb); (try clear hb2); (try clear hk); (try clear hi)) | ((with_reducible refine gate_dst (N := 3) rfl ?_); (try (refine gate_guard (by rfl) ?_; dsimp only)); refine box_event ?hg (N := 3) ?hd (cs := #[.int .i64 0, .bool false]) (t := 25) ?hr ?_; (case hd => rfl); (case hg => rfl); (case hr => first | (go_simp; done) | (go_simp; rfl)); intro gb348 hg w9 hbox hb; have n0_ := Aside0.mk (below_step (by repeat (first | (with_reducible first | exact HB.out | apply below_alloc | apply pw_below_drewN | apply below_drew1) | exact HB.out)) hb); have n1_ := Aside0.mk (hbox); have n2_ := Aside0.mk ((by rw [hg]; exact (below_size (by repeat (first | (with_reducible first | exact HB.out | apply below_alloc | apply pw_below_drewN | apply below_drew1) | exact HB.out))) : w.heap.size ≤ gb348)); have n3_ := Aside0.mk ((by rw [hg]; exact (below_size (by repeat (first | (with_reducible first | exact HB.out | apply below_alloc | apply pw_below_drewN | apply below_drew1) | exact HB.out))) : w.heap.size ≤ gb348)); clear HB; have HB := n0_; have BK348 := n1_; have GW348 := n2_; have GE348 := n3_; clear n0_ n1_ n2_ n3_; clear hb hbox hg; have hcz10_0 : w9.cell? ⟨gb348, 0, none⟩ = some (.int .i64 0) := (blk_cell BK348.out 0).trans rfl; have hcz10_1 : w9.cell? ⟨gb348, 1, none⟩ = some (.bool false) := (blk_cell BK348.out 1).trans rfl; have hfz10_0 := blk_frozen BK348.out 0; have hfz10_1 := blk_frozen BK348.out 1) | ((with_reducible refine gate_callee (f := 9) rfl ?_); refine goesL_ (some 44) rfl rfl Try.func9 (by kernel_rfl) rfl #[.agg #[.int .i64 t344, .bool t345], .int .i64 t346, .int .i64 t347] rfl (by (try simp only [List.map_toArray, List.map_cons, List.map_nil]); first | done | rfl | (simp only [List.length_drop, List.length_take]; rfl)) ?_; (with_reducible refine (impl_GapOf.calls k t344 t345 t346 t347 t349 t350 _ A5.out).mono ?_); rintro e w11 ⟨rfl, hb⟩; refine ⟨_, rfl, ?_⟩; have n0_ := Aside0.mk (blk_below (g := gb348) (o := .cells #[.int .i64 t344, .bool t345] 25 (0, 0)) (by (with_reducible repeat (first | refine blk_drewN ?_ _ | refine blk_drew ?_ | refine blk_alloc ?_ _)); refine blk_put (cs := #[.int .i64 t344, .bool false]) ?_ 1 _ rfl; (with_reducible repeat (first | refine blk_drewN ?_ _ | refine blk_drew ?_ | refine blk_alloc ?_ _)); refine blk_put (cs := #[.int .i64 0, .bool false]) ?_ 0 _ rfl; (with_reducible repeat (first | refine blk_drewN ?_ _ | refine blk_drew ?_ | refine blk_alloc ?_ _)); exact BK348.out) hb); have n1_ := Aside0.mk (below_step (by repeat (first | (with_reducible first | exact HB.out | apply below_alloc | apply pw_below_drewN | apply below_drew1 | refine below_set ?_ GE348.out) | exact HB.out)) hb); clear BK348; clear HB; have BK348 := n0_; have HB := n1_; clear n0_ n1_; (try clear hb); (try clear hb2); (try clear hk); (try clear hi); have hcz12_0 : w11.cell? ⟨gb348, 0, none⟩ = some (.int .i64 t344) := (blk_cell BK348.out 0).trans rfl; have hcz12_1 : w11.cell? ⟨gb348, 1, none⟩ = some (.bool t345) := (blk_cell BK348.out 1).trans rfl; have hfz12_0 := blk_frozen BK348.out 0; have hfz12_1 := blk_frozen BK348.out 1) | ((with_reducible refine gate_callee (f := 10) rfl ?_); refine goesL_ (some 51) rfl rfl Try.func10 (by kernel_rfl) rfl #[.agg #[.int .i64 t344, .bool t345], .int .i64 t346, .int .i64 t347] rfl (by (try simp only [List.map_toArray, List.map_cons, List.map_nil]); first | done | rfl | (simp only [List.length_drop, List.length_take]; rfl)) ?_; (with_reducible refine (spec_GapOf.calls t344 t345 t346 t347 t351 t352 _ A6.out).mono ?_); rintro e w13 ⟨rfl, hb⟩; refine ⟨_, rfl, ?_⟩; have n0_ := Aside0.mk (blk_below (g := gb348) (o := .cells #[.int .i64 t344, .bool t345] 25 (0, 0)) (by (with_reducible repeat (first | refine blk_drewN ?_ _ | refine blk_drew ?_ | refine blk_alloc ?_ _)); exact BK348.out) hb); have n1_ := Aside0.mk (below_step (by repeat (first | (with_reducible first | exact HB.out | apply below_alloc | apply pw_below_drewN | apply below_drew1 | refine below_set ?_ GE348.out) | exact HB.out)) hb); clear BK348; clear HB; have BK348 := n0_; have HB := n1_; clear n0_ n1_; (try clear hb); (try clear hb2); (try clear hk); (try clear hi)))
    (try simp only [Act.put, List.setIfInBounds_toArray, List.set_cons_zero, List.set_cons_succ])
    go_cut [61] (fun v61 wc => ∃ (kq : Nat) (x61_6 : Bool), v61 = .bool x61_6 ∧ Aside0 (laws_FnGaps.j0 kq l0 t346 t347 t349 t350 x61_6 t344 t345 = some r) ∧ Aside0 (kq ≤ k) ∧ Aside0 (wc.heap[gb348]? = some (.cells #[.int .i64 t344, .bool t345] 25 (0, 0))) ∧ Aside0 (Below w.heap.size w wc))
    case first =>
      have H := HC7.out
      clear HC7
      by_cases c14 : t349 = t351
      · rw [if_pos c14] at H
        have c14b0 : (t349 == t351) = true := beq_iff_eq.mpr c14
        have c14b1 : (t349 != t351) = false := bne_eq_false_iff_eq.mpr c14
        clear c14
        (first | rw [c14b0] | (simp only [i64_w, i32_w]; rw [c14b0]) | skip)
        as_aux_lemma =>
          have H' := Aside0.mk H
          clear H
          go_wp2
          go_meet
          case rel => exact ⟨_, ((t350 != t352)), (by first | rfl | (simp; done) | (simp only [i64_w, i32_w]; done) | (simp only [i64_w, i32_w] <;> (first | rfl | simp)) | (simp [*]; done)), H', ⟨by first | omega | exact Nat.le_refl _⟩, ⟨by (with_reducible repeat (first | refine blk_drewN ?_ _ | refine blk_drew ?_ | refine blk_alloc ?_ _)); exact BK348.out⟩, ⟨by repeat (first | (with_reducible first | exact HB.out | apply below_alloc | apply pw_below_drewN | apply below_drew1 | refine below_set ?_ GE348.out) | exact HB.out)⟩⟩
      · rw [if_neg c14] at H
        have c14b0 : (t349 == t351) = false := beq_eq_false_iff_ne.mpr c14
        have c14b1 : (t349 != t351) = true := bne_iff_ne.mpr c14
        (first | rw [c14b0] | (simp only [i64_w, i32_w]; rw [c14b0]) | skip)
        as_aux_lemma =>
          have H' := Aside0.mk H
          clear H
          go_wp2
          go_meet
          case rel => exact ⟨_, (true), (by first | rfl | (simp; done) | (simp only [i64_w, i32_w]; done) | (simp only [i64_w, i32_w] <;> (first | rfl | simp)) | (simp [*]; done)), H', ⟨by first | omega | exact Nat.le_refl _⟩, ⟨by (with_reducible repeat (first | refine blk_drewN ?_ _ | refine blk_drew ?_ | refine blk_alloc ?_ _)); exact BK348.out⟩, ⟨by repeat (first | (with_reducible first | exact HB.out | apply below_alloc | apply pw_below_drewN | apply below_drew1 | refine below_set ?_ GE348.out) | exact HB.out)⟩⟩
    case rest =>
      clear HC7
      try clear c1
      try clear p2
      try clear c3
      try clear c7
      try clear c8
      try clear c9
      try clear c10
      try clear c14
      try clear c14b0
      try clear c14b1
      try clear hcz10_0
      try clear hcz10_1
      try clear hcz12_0
      try clear hcz12_1
      try clear hfz10_0
      try clear hfz10_1
      try clear hfz12_0
      try clear hfz12_1
      obtain ⟨kq, x61_6, rfl, HA, HJ6, BK348, HB⟩ := hcut
      cases kq with
      | zero => exact absurd HA.out (by simp [laws_FnGaps.j0])
      | succ kj6 =>
        have H := HA.out
        clear HA
        simp only [laws_FnGaps.j0] at H
        by_cases c15 : x61_6 = true
        · subst c15
          have H1 : (some false) = some r := by rw [if_pos rfl] at H; exact H
          clear H
          have H := H1
          clear H1
          as_aux_lemma =>
            obtain rfl := Option.some.inj H
            go_wp2
            go_ret
            exact ⟨by first | rfl | (simp [errW_none, errW_some] <;> rfl) | (simp [*, errW_none, errW_some] <;> rfl), by repeat (first | (with_reducible first | exact HB.out | apply below_alloc | apply pw_below_drewN | apply below_drew1 | refine below_set ?_ GE348.out) | exact HB.out)⟩
        · replace c15 := Bool.eq_false_iff.mpr c15
          subst c15
          have H1 : ((impl_StraightWalk.f kj6 t344 t345 t346 t347).bind fun bt353 => ((spec_StraightWalk.f kj6 t344 t345 t346 t347).bind fun bt357 => (if (bt353.2 != bt357.2) = true then (laws_FnGaps.j1 kj6 l0 t346 t347 t349 t350 bt353.1 true t344 t345) else (if (bt353.2 != t350) = true then (laws_FnGaps.j1 kj6 l0 t346 t347 t349 t350 bt353.1 true t344 t345) else ((laws_rInts.f kj6 bt353.1 bt357.1).bind fun t361 => (laws_FnGaps.j1 kj6 l0 t346 t347 t349 t350 bt353.1 (!t361) t344 t345)))))) = some r := by rw [if_neg (show ¬ (false = true) by decide)] at H; exact H
          clear H
          have H := H1
          clear H1
          replace H := Option.bind_eq_some_iff.mp H
          obtain ⟨⟨t353, t356⟩, A160, H⟩ := H
          replace H : ((spec_StraightWalk.f kj6 t344 t345 t346 t347).bind fun bt357 => (if (t356 != bt357.2) = true then (laws_FnGaps.j1 kj6 l0 t346 t347 t349 t350 t353 true t344 t345) else (if (t356 != t350) = true then (laws_FnGaps.j1 kj6 l0 t346 t347 t349 t350 t353 true t344 t345) else ((laws_rInts.f kj6 t353 bt357.1).bind fun t361 => (laws_FnGaps.j1 kj6 l0 t346 t347 t349 t350 t353 (!t361) t344 t345))))) = some r := H
          have A16 := Aside0.mk A160
          clear A160
          replace H := Option.bind_eq_some_iff.mp H
          obtain ⟨⟨t357, t360⟩, A170, H⟩ := H
          replace H : (if (t356 != t360) = true then (laws_FnGaps.j1 kj6 l0 t346 t347 t349 t350 t353 true t344 t345) else (if (t356 != t350) = true then (laws_FnGaps.j1 kj6 l0 t346 t347 t349 t350 t353 true t344 t345) else ((laws_rInts.f kj6 t353 t357).bind fun t361 => (laws_FnGaps.j1 kj6 l0 t346 t347 t349 t350 t353 (!t361) t344 t345)))) = some r := H
          have A17 := Aside0.mk A170
          clear A170
          have HC18 := Aside0.mk H
          clear H
          have hcz19_0 : wc.cell? ⟨gb348, 0, none⟩ = some (.int .i64 t344) := (blk_cell BK348.out 0).trans rfl
          have hcz19_1 : wc.cell? ⟨gb348, 1, none⟩ = some (.bool t345) := (blk_cell BK348.out 1).trans rfl
          have hfz19_0 := blk_frozen BK348.out 0
          have hfz19_1 := blk_frozen BK348.out 1
          go_upto_region 10 with (first | ((with_reducible refine gate_callee (f := 11) rfl ?_); refine goesL_ (some 66) rfl rfl Try.func11 (by kernel_rfl) rfl #[.agg #[.int .i64 t344, .bool t345], .int .i64 t346, .int .i64 t347] rfl (by (try simp only [List.map_toArray, List.map_cons, List.map_nil]); first | done | rfl | (simp only [List.length_drop, List.length_take]; rfl)) ?_; (with_reducible refine (impl_StraightWalk.calls kj6 t344 t345 t346 t347 t353 t356 _ A16.out).mono ?_); rintro e w20 ⟨v354, rfl, ho0, hb⟩; refine ⟨_, rfl, ?_⟩; have n0_ := Aside0.mk (Kd.R_lower ho0 (below_size (by repeat (first | (with_reducible first | exact HB.out | apply below_alloc | apply pw_below_drewN | apply below_drew1 | refine below_set ?_ GE348.out) | exact HB.out)))); have n1_ := Aside0.mk (blk_below (g := gb348) (o := .cells #[.int .i64 t344, .bool t345] 25 (0, 0)) (by (with_reducible repeat (first | refine blk_drewN ?_ _ | refine blk_drew ?_ | refine blk_alloc ?_ _)); exact BK348.out) hb); have n2_ := Aside0.mk (below_step (by repeat (first | (with_reducible first | exact HB.out | apply below_alloc | apply pw_below_drewN | apply below_drew1 | refine below_set ?_ GE348.out) | exact HB.out)) hb); clear BK348; clear HB; have HO355 := n0_; have BK348 := n1_; have HB := n2_; clear n0_ n1_ n2_; (try clear hb); (try clear hb2); (try clear hk); (try clear hi); (try clear ho0); have hcz21_0 : w20.cell? ⟨gb348, 0, none⟩ = some (.int .i64 t344) := (blk_cell BK348.out 0).trans rfl; have hcz21_1 : w20.cell? ⟨gb348, 1, none⟩ = some (.bool t345) := (blk_cell BK348.out 1).trans rfl; have hfz21_0 := blk_frozen BK348.out 0; have hfz21_1 := blk_frozen BK348.out 1) | ((with_reducible refine gate_callee (f := 12) rfl ?_); refine goesL_ (some 73) rfl rfl Try.func12 (by kernel_rfl) rfl #[.agg #[.int .i64 t344, .bool t345], .int .i64 t346, .int .i64 t347] rfl (by (try simp only [List.map_toArray, List.map_cons, List.map_nil]); first | done | rfl | (simp only [List.length_drop, List.length_take]; rfl)) ?_; (with_reducible refine (spec_StraightWalk.calls kj6 t344 t345 t346 t347 t357 t360 _ A17.out).mono ?_); rintro e w22 ⟨v358, rfl, ho0, hb⟩; refine ⟨_, rfl, ?_⟩; have n0_ := Aside0.mk (Kd.R_elder' (by (with_reducible repeat (first | apply Kd.R_alloc | apply Kd.R_drewN | apply Kd.R_drew)); exact HO355.out) (Kd.R_base ho0) hb); have n1_ := Aside0.mk (Kd.R_lower (Kd.R_new' ho0 (Kd.R_lt (by (with_reducible repeat (first | apply Kd.R_alloc | apply Kd.R_drewN | apply Kd.R_drew)); exact HO355.out))) (below_size (by repeat (first | (with_reducible first | exact HB.out | apply below_alloc | apply pw_below_drewN | apply below_drew1 | refine below_set ?_ GE348.out) | exact HB.out)))); have n2_ := Aside0.mk (blk_below (g := gb348) (o := .cells #[.int .i64 t344, .bool t345] 25 (0, 0)) (by (with_reducible repeat (first | refine blk_drewN ?_ _ | refine blk_drew ?_ | refine blk_alloc ?_ _)); exact BK348.out) hb); have n3_ := Aside0.mk (below_step (by repeat (first | (with_reducible first | exact HB.out | apply below_alloc | apply pw_below_drewN | apply below_drew1 | refine below_set ?_ GE348.out) | exact HB.out)) hb); clear HO355; clear BK348; clear HB; have HO355 := n0_; have HO359 := n1_; have BK348 := n2_; have HB := n3_; clear n0_ n1_ n2_ n3_; (try clear hb); (try clear hb2); (try clear hk); (try clear hi); (try clear ho0)))
          (try simp only [Act.put, List.setIfInBounds_toArray, List.set_cons_zero, List.set_cons_succ])
          go_cut [89] (fun v89 wc => ∃ (kq : Nat) (x89_17 : Bool), v89 = .bool x89_17 ∧ Aside0 (laws_FnGaps.j1 kq l0 t346 t347 t349 t350 t353 x89_17 t344 t345 = some r) ∧ Aside0 (kq ≤ kj6) ∧ Aside0 (Kd.R (Kd.int .i64) 3 wc w.heap.size (fun _ => True) v354 t353) ∧ Aside0 (wc.heap[gb348]? = some (.cells #[.int .i64 t344, .bool t345] 25 (0, 0))) ∧ Aside0 (Below w.heap.size w wc))
          case first =>
            have H := HC18.out
            clear HC18
            by_cases c23 : (t356 != t360) = true
            · rw [if_pos c23] at H
              have c23b0 : (t356 != t360) = true := c23
              (try (have c23b1 : decide (t356 = t360) = false := by simpa using c23))
              (try (have c23b2 : (t356 == t360) = false := by simpa using c23))
              (try (have c23b3 : ¬ (t356 = t360) := by simpa using c23))
              clear c23
              (first | rw [c23b0] | (simp only [i64_w, i32_w]; rw [c23b0]) | skip)
              as_aux_lemma =>
                have H' := Aside0.mk H
                clear H
                go_wp2
                go_meet
                case rel => exact ⟨_, (true), (by first | rfl | (simp; done) | (simp only [i64_w, i32_w]; done) | (simp only [i64_w, i32_w] <;> (first | rfl | simp)) | (simp [*]; done)), H', ⟨by have := HJ6.out; first | omega | exact Nat.le_refl _⟩, ⟨by (with_reducible repeat (first | apply Kd.R_alloc | apply Kd.R_drewN | apply Kd.R_drew)); exact Kd.R_mono HO355.out (fun _ hk => trivial)⟩, ⟨by (with_reducible repeat (first | refine blk_drewN ?_ _ | refine blk_drew ?_ | refine blk_alloc ?_ _)); exact BK348.out⟩, ⟨by repeat (first | (with_reducible first | exact HB.out | apply below_alloc | apply pw_below_drewN | apply below_drew1 | refine below_set ?_ GE348.out) | exact HB.out)⟩⟩
            · rw [if_neg c23] at H
              have c23b0 : (t356 != t360) = false := by simpa using c23
              (try (have c23b1 : decide (t356 = t360) = true := by simpa using c23))
              (try (have c23b2 : (t356 == t360) = true := by simpa using c23))
              clear c23
              (first | rw [c23b0] | (simp only [i64_w, i32_w]; rw [c23b0]) | skip)
              by_cases c24 : (t356 != t350) = true
              · rw [if_pos c24] at H
                have c24b0 : (t356 != t350) = true := c24
                (try (have c24b1 : decide (t356 = t350) = false := by simpa using c24))
                (try (have c24b2 : (t356 == t350) = false := by simpa using c24))
                (try (have c24b3 : ¬ (t356 = t350) := by simpa using c24))
                clear c24
                as_aux_lemma =>
                  have H' := Aside0.mk H
                  clear H
                  go_wp2
                  go_meet
                  case rel => exact ⟨_, (true), (by first | rfl | (simp; done) | (simp only [i64_w, i32_w]; done) | (simp only [i64_w, i32_w] <;> (first | rfl | simp)) | (simp [*]; done)), H', ⟨by have := HJ6.out; first | omega | exact Nat.le_refl _⟩, ⟨by (with_reducible repeat (first | apply Kd.R_alloc | apply Kd.R_drewN | apply Kd.R_drew)); exact Kd.R_mono HO355.out (fun _ hk => trivial)⟩, ⟨by (with_reducible repeat (first | refine blk_drewN ?_ _ | refine blk_drew ?_ | refine blk_alloc ?_ _)); exact BK348.out⟩, ⟨by repeat (first | (with_reducible first | exact HB.out | apply below_alloc | apply pw_below_drewN | apply below_drew1 | refine below_set ?_ GE348.out) | exact HB.out)⟩⟩
              · rw [if_neg c24] at H
                have c24b0 : (t356 != t350) = false := by simpa using c24
                (try (have c24b1 : decide (t356 = t350) = true := by simpa using c24))
                (try (have c24b2 : (t356 == t350) = true := by simpa using c24))
                clear c24
                replace H := Option.bind_eq_some_iff.mp H
                obtain ⟨t361, A250, H⟩ := H
                replace H : (laws_FnGaps.j1 kj6 l0 t346 t347 t349 t350 t353 (!t361) t344 t345) = some r := H
                have A25 := Aside0.mk A250
                clear A250
                as_aux_lemma =>
                  have H' := Aside0.mk H
                  clear H
                  obtain ⟨Ao26, co26, eo26⟩ := Kd.R_slice HO355.out
                  subst eo26
                  obtain ⟨Ao27, co27, eo27⟩ := Kd.R_slice HO359.out
                  subst eo27
                  go_wp2_with (first | (go_at_call 13; (with_reducible refine (laws_rInts.calls kj6 _ _ t353 _ _ t357 t361 _ ?side1 ?side2 ?side3 ?side4 A25.out).mono ?_); (case side1 => repeat (first | exact (Kd.R_reads' HO355.out).2.2 | (with_reducible refine Kd.C_alloc ?_ _) | (with_reducible refine Kd.C_drewN ?_ _) | (with_reducible refine Kd.C_drew ?_))); (case side2 => exact (Kd.R_reads' HO355.out).2.1); (case side3 => repeat (first | exact (Kd.R_reads' HO359.out).2.2 | (with_reducible refine Kd.C_alloc ?_ _) | (with_reducible refine Kd.C_drewN ?_ _) | (with_reducible refine Kd.C_drew ?_))); (case side4 => exact (Kd.R_reads' HO359.out).2.1); rintro e w' ⟨rfl, ⟨nd, rfl⟩⟩))
                  go_meet
                  case rel => exact ⟨_, (!t361), (by first | rfl | (simp; done) | (simp only [i64_w, i32_w]; done) | (simp only [i64_w, i32_w] <;> (first | rfl | simp)) | (simp [*]; done)), H', ⟨by have := HJ6.out; first | omega | exact Nat.le_refl _⟩, ⟨by (with_reducible repeat (first | apply Kd.R_alloc | apply Kd.R_drewN | apply Kd.R_drew)); exact Kd.R_mono HO355.out (fun _ hk => trivial)⟩, ⟨by (with_reducible repeat (first | refine blk_drewN ?_ _ | refine blk_drew ?_ | refine blk_alloc ?_ _)); exact BK348.out⟩, ⟨by repeat (first | (with_reducible first | exact HB.out | apply below_alloc | apply pw_below_drewN | apply below_drew1 | refine below_set ?_ GE348.out) | exact HB.out)⟩⟩
          case rest =>
            clear HC18
            try clear c1
            try clear c2
            try clear p2
            try clear c3
            try clear c7
            try clear c8
            try clear c9
            try clear c10
            try clear c11
            try clear c12
            try clear c14
            try clear c14b0
            try clear c14b1
            try clear c15
            try clear c23
            try clear c23b0
            try clear c23b1
            try clear c23b2
            try clear c24
            try clear c24b0
            try clear c24b1
            try clear c24b2
            try clear hcz10_0
            try clear hcz10_1
            try clear hcz12_0
            try clear hcz12_1
            try clear hcz19_0
            try clear hcz19_1
            try clear hcz21_0
            try clear hcz21_1
            try clear hfz10_0
            try clear hfz10_1
            try clear hfz12_0
            try clear hfz12_1
            try clear hfz19_0
            try clear hfz19_1
            try clear hfz21_0
            try clear hfz21_1
            try clear p2
            obtain ⟨kq, x89_17, rfl, HA, HJ17, HO_10, BK348, HB⟩ := hcut
            cases kq with
            | zero => exact absurd HA.out (by simp [laws_FnGaps.j1])
            | succ kj17 =>
              have H := HA.out
              clear HA
              simp only [laws_FnGaps.j1] at H
              by_cases c28 : x89_17 = true
              · subst c28
                have H1 : (some false) = some r := by rw [if_pos rfl] at H; exact H
                clear H
                have H := H1
                clear H1
                as_aux_lemma =>
                  obtain rfl := Option.some.inj H
                  go_wp2
                  go_ret
                  exact ⟨by first | rfl | (simp [errW_none, errW_some] <;> rfl) | (simp [*, errW_none, errW_some] <;> rfl), by repeat (first | (with_reducible first | exact HB.out | apply below_alloc | apply pw_below_drewN | apply below_drew1 | refine below_set ?_ GE348.out) | exact HB.out)⟩
              · replace c28 := Bool.eq_false_iff.mpr c28
                subst c28
                have H1 : ((spec_DrawNeighborsOn.f l0).bind fun bt362 => ((impl_NeighborsOn.f kj17 bt362.1 bt362.2.1 bt362.2.2).bind fun bt366 => ((spec_NeighborsOn.f kj17 bt362.1 bt362.2.1 bt362.2.2).bind fun bt370 => (if (bt366.2 != bt370.2) = true then (laws_FnGaps.j2 kj17 t346 t347 t349 t350 t353 bt362.2.2 bt366.1 bt366.2 true t344 t345 bt362.1 bt362.2.1) else ((laws_rInts.f kj17 bt366.1 bt370.1).bind fun t374 => (if t374 = true then ((impl_IsRoad.f bt362.1 bt362.2.1).bind fun t375 => ((spec_IsRoad.f bt362.1 bt362.2.1).bind fun t376 => (laws_FnGaps.j2 kj17 t346 t347 t349 t350 t353 bt362.2.2 bt366.1 bt366.2 (t375 != t376) t344 t345 bt362.1 bt362.2.1))) else (laws_FnGaps.j2 kj17 t346 t347 t349 t350 t353 bt362.2.2 bt366.1 bt366.2 true t344 t345 bt362.1 bt362.2.1))))))) = some r := by rw [if_neg (show ¬ (false = true) by decide)] at H; exact H
                clear H
                have H := H1
                clear H1
                replace H := Option.bind_eq_some_iff.mp H
                obtain ⟨⟨t362, t363, t364⟩, A290, H⟩ := H
                replace H : ((impl_NeighborsOn.f kj17 t362 t363 t364).bind fun bt366 => ((spec_NeighborsOn.f kj17 t362 t363 t364).bind fun bt370 => (if (bt366.2 != bt370.2) = true then (laws_FnGaps.j2 kj17 t346 t347 t349 t350 t353 t364 bt366.1 bt366.2 true t344 t345 t362 t363) else ((laws_rInts.f kj17 bt366.1 bt370.1).bind fun t374 => (if t374 = true then ((impl_IsRoad.f t362 t363).bind fun t375 => ((spec_IsRoad.f t362 t363).bind fun t376 => (laws_FnGaps.j2 kj17 t346 t347 t349 t350 t353 t364 bt366.1 bt366.2 (t375 != t376) t344 t345 t362 t363))) else (laws_FnGaps.j2 kj17 t346 t347 t349 t350 t353 t364 bt366.1 bt366.2 true t344 t345 t362 t363)))))) = some r := H
                have A29 := Aside0.mk A290
                clear A290
                replace H := Option.bind_eq_some_iff.mp H
                obtain ⟨⟨t366, t369⟩, A300, H⟩ := H
                replace H : ((spec_NeighborsOn.f kj17 t362 t363 t364).bind fun bt370 => (if (t369 != bt370.2) = true then (laws_FnGaps.j2 kj17 t346 t347 t349 t350 t353 t364 t366 t369 true t344 t345 t362 t363) else ((laws_rInts.f kj17 t366 bt370.1).bind fun t374 => (if t374 = true then ((impl_IsRoad.f t362 t363).bind fun t375 => ((spec_IsRoad.f t362 t363).bind fun t376 => (laws_FnGaps.j2 kj17 t346 t347 t349 t350 t353 t364 t366 t369 (t375 != t376) t344 t345 t362 t363))) else (laws_FnGaps.j2 kj17 t346 t347 t349 t350 t353 t364 t366 t369 true t344 t345 t362 t363))))) = some r := H
                have A30 := Aside0.mk A300
                clear A300
                replace H := Option.bind_eq_some_iff.mp H
                obtain ⟨⟨t370, t373⟩, A310, H⟩ := H
                replace H : (if (t369 != t373) = true then (laws_FnGaps.j2 kj17 t346 t347 t349 t350 t353 t364 t366 t369 true t344 t345 t362 t363) else ((laws_rInts.f kj17 t366 t370).bind fun t374 => (if t374 = true then ((impl_IsRoad.f t362 t363).bind fun t375 => ((spec_IsRoad.f t362 t363).bind fun t376 => (laws_FnGaps.j2 kj17 t346 t347 t349 t350 t353 t364 t366 t369 (t375 != t376) t344 t345 t362 t363))) else (laws_FnGaps.j2 kj17 t346 t347 t349 t350 t353 t364 t366 t369 true t344 t345 t362 t363)))) = some r := H
                have A31 := Aside0.mk A310
                clear A310
                have HC32 := Aside0.mk H
                clear H
                go_upto_region 15 with (first | ((with_reducible refine gate_callee (f := 14) rfl ?_); refine goesL_ (some 92) rfl rfl Try.func14 (by kernel_rfl) rfl #[.slice A0 l0.length c0] rfl (by (try simp only [List.map_toArray, List.map_cons, List.map_nil]); first | done | rfl | (simp only [List.length_drop, List.length_take]; rfl)) ?_; (with_reducible refine (spec_DrawNeighborsOn.calls _ _ l0 t362 t363 t364 _ ?side1 ?side2 A29.out).mono ?_); (case side1 => repeat (first | exact (Kd.C_below HR0.out HB.out) | (with_reducible refine Kd.C_alloc ?_ _) | (with_reducible refine Kd.C_drewN ?_ _) | (with_reducible refine Kd.C_drew ?_))); (case side2 => exact HC0.out); rintro e w33 ⟨rfl, hb⟩; refine ⟨_, rfl, ?_⟩; have n0_ := Aside0.mk (Kd.R_below (by (with_reducible repeat (first | apply Kd.R_alloc | apply Kd.R_drewN | apply Kd.R_drew)); exact HO_10.out) hb); have n1_ := Aside0.mk (blk_below (g := gb348) (o := .cells #[.int .i64 t344, .bool t345] 25 (0, 0)) (by (with_reducible repeat (first | refine blk_drewN ?_ _ | refine blk_drew ?_ | refine blk_alloc ?_ _)); exact BK348.out) hb); have n2_ := Aside0.mk (below_step (by repeat (first | (with_reducible first | exact HB.out | apply below_alloc | apply pw_below_drewN | apply below_drew1 | refine below_set ?_ GE348.out) | exact HB.out)) hb); clear HO_10; clear BK348; clear HB; have HO_10 := n0_; have BK348 := n1_; have HB := n2_; clear n0_ n1_ n2_; (try clear hb); (try clear hb2); (try clear hk); (try clear hi)) | ((with_reducible refine gate_dst (N := 14) rfl ?_); (try (refine gate_guard (by rfl) ?_; dsimp only)); refine box_event ?hg (N := 14) ?hd (cs := #[.int .i64 0, .bool false]) (t := 25) ?hr ?_; (case hd => rfl); (case hg => rfl); (case hr => first | (go_simp; done) | (go_simp; rfl)); intro gb365 hg w34 hbox hb; have n0_ := Aside0.mk (Kd.R_below (by (with_reducible repeat (first | apply Kd.R_alloc | apply Kd.R_drewN | apply Kd.R_drew)); exact HO_10.out) hb); have n1_ := Aside0.mk (blk_below (g := gb348) (o := .cells #[.int .i64 t344, .bool t345] 25 (0, 0)) (by (with_reducible repeat (first | refine blk_drewN ?_ _ | refine blk_drew ?_ | refine blk_alloc ?_ _)); exact BK348.out) hb); have n2_ := Aside0.mk (below_step (by repeat (first | (with_reducible first | exact HB.out | apply below_alloc | apply pw_below_drewN | apply below_drew1 | refine below_set ?_ GE348.out) | exact HB.out)) hb); have n3_ := Aside0.mk (hbox); have n4_ := Aside0.mk ((by rw [hg]; exact (below_size (by repeat (first | (with_reducible first | exact HB.out | apply below_alloc | apply pw_below_drewN | apply below_drew1 | refine below_set ?_ GE348.out) | exact HB.out))) : w.heap.size ≤ gb365)); have n5_ := Aside0.mk ((by rw [hg]; exact (below_size (by repeat (first | (with_reducible first | exact HB.out | apply below_alloc | apply pw_below_drewN | apply below_drew1 | refine below_set ?_ GE348.out) | exact HB.out))) : w.heap.size ≤ gb365)); have n6_ := Aside0.mk ((by rw [hg]; exact Nat.ne_of_lt (blk_lt (g := gb348) (o := .cells #[.int .i64 t344, .bool t345] 25 (0, 0)) (by (with_reducible repeat (first | refine blk_drewN ?_ _ | refine blk_drew ?_ | refine blk_alloc ?_ _)); exact BK348.out)) : gb348 ≠ gb365)); have n7_ := Aside0.mk ((by rw [hg]; exact Nat.ne_of_gt (blk_lt (g := gb348) (o := .cells #[.int .i64 t344, .bool t345] 25 (0, 0)) (by (with_reducible repeat (first | refine blk_drewN ?_ _ | refine blk_drew ?_ | refine blk_alloc ?_ _)); exact BK348.out)) : gb365 ≠ gb348)); clear HO_10; clear BK348; clear HB; have HO_10 := n0_; have BK348 := n1_; have HB := n2_; have BK365 := n3_; have GW365 := n4_; have GE365 := n5_; have NB348_365 := n6_; have NB365_348 := n7_; clear n0_ n1_ n2_ n3_ n4_ n5_ n6_ n7_; clear hb hbox hg; have hnb35 := NB365_348.out; have hnc35 := NB348_365.out; have hcz36_0 : w34.cell? ⟨gb365, 0, none⟩ = some (.int .i64 0) := (blk_cell BK365.out 0).trans rfl; have hcz36_1 : w34.cell? ⟨gb365, 1, none⟩ = some (.bool false) := (blk_cell BK365.out 1).trans rfl; have hfz36_0 := blk_frozen BK365.out 0; have hfz36_1 := blk_frozen BK365.out 1) | ((with_reducible refine gate_callee (f := 15) rfl ?_); refine goesL_ (some 98) rfl rfl Try.func15 (by kernel_rfl) rfl #[.agg #[.int .i64 t362, .bool t363], .int .i64 t364] rfl (by (try simp only [List.map_toArray, List.map_cons, List.map_nil]); first | done | rfl | (simp only [List.length_drop, List.length_take]; rfl)) ?_; (with_reducible refine (impl_NeighborsOn.calls kj17 t362 t363 t364 t366 t369 _ A30.out).mono ?_); rintro e w37 ⟨v367, rfl, ho0, hb⟩; refine ⟨_, rfl, ?_⟩; have n0_ := Aside0.mk (Kd.R_elder' (by (with_reducible repeat (first | apply Kd.R_alloc | apply Kd.R_drewN | apply Kd.R_drew)); exact (Kd.R_mono (Kd.R_far (p := ⟨gb365, 1, none⟩) (Kd.R_far (p := ⟨gb365, 0, none⟩) (Kd.R_types HO_10.out BK365.out (by decide)) (fun _ hk => hk.2) (.int .i64 t362)) (fun _ hk => hk.2) (.bool t363)) (fun _ h_ => h_.1))) (Kd.R_base ho0) hb); have n1_ := Aside0.mk (Kd.R_lower (Kd.R_new' ho0 (Kd.R_lt (by (with_reducible repeat (first | apply Kd.R_alloc | apply Kd.R_drewN | apply Kd.R_drew)); exact (Kd.R_mono (Kd.R_far (p := ⟨gb365, 1, none⟩) (Kd.R_far (p := ⟨gb365, 0, none⟩) (Kd.R_types HO_10.out BK365.out (by decide)) (fun _ hk => hk.2) (.int .i64 t362)) (fun _ hk => hk.2) (.bool t363)) (fun _ h_ => h_.1))))) (below_size (by repeat (first | (with_reducible first | exact HB.out | apply below_alloc | apply pw_below_drewN | apply below_drew1 | refine below_set ?_ GE348.out | refine below_set ?_ GE365.out) | exact HB.out)))); have n2_ := Aside0.mk (blk_below (g := gb348) (o := .cells #[.int .i64 t344, .bool t345] 25 (0, 0)) (by (with_reducible repeat (first | refine blk_drewN ?_ _ | refine blk_drew ?_ | refine blk_alloc ?_ _)); refine blk_far ?_ NB348_365.out _; (with_reducible repeat (first | refine blk_drewN ?_ _ | refine blk_drew ?_ | refine blk_alloc ?_ _)); refine blk_far ?_ NB348_365.out _; (with_reducible repeat (first | refine blk_drewN ?_ _ | refine blk_drew ?_ | refine blk_alloc ?_ _)); exact BK348.out) hb); have n3_ := Aside0.mk (blk_below (g := gb365) (o := .cells #[.int .i64 t362, .bool t363] 25 (0, 0)) (by (with_reducible repeat (first | refine blk_drewN ?_ _ | refine blk_drew ?_ | refine blk_alloc ?_ _)); refine blk_put (cs := #[.int .i64 t362, .bool false]) ?_ 1 _ rfl; (with_reducible repeat (first | refine blk_drewN ?_ _ | refine blk_drew ?_ | refine blk_alloc ?_ _)); refine blk_put (cs := #[.int .i64 0, .bool false]) ?_ 0 _ rfl; (with_reducible repeat (first | refine blk_drewN ?_ _ | refine blk_drew ?_ | refine blk_alloc ?_ _)); exact BK365.out) hb); have n4_ := Aside0.mk (below_step (by repeat (first | (with_reducible first | exact HB.out | apply below_alloc | apply pw_below_drewN | apply below_drew1 | refine below_set ?_ GE348.out | refine below_set ?_ GE365.out) | exact HB.out)) hb); clear HO_10; clear BK348; clear BK365; clear HB; have HO_10 := n0_; have HO368 := n1_; have BK348 := n2_; have BK365 := n3_; have HB := n4_; clear n0_ n1_ n2_ n3_ n4_; (try clear hb); (try clear hb2); (try clear hk); (try clear hi); (try clear ho0); have hcz38_0 : w37.cell? ⟨gb365, 0, none⟩ = some (.int .i64 t362) := (blk_cell BK365.out 0).trans rfl; have hcz38_1 : w37.cell? ⟨gb365, 1, none⟩ = some (.bool t363) := (blk_cell BK365.out 1).trans rfl; have hfz38_0 := blk_frozen BK365.out 0; have hfz38_1 := blk_frozen BK365.out 1) | ((with_reducible refine gate_callee (f := 16) rfl ?_); refine goesL_ (some 104) rfl rfl Try.func16 (by kernel_rfl) rfl #[.agg #[.int .i64 t362, .bool t363], .int .i64 t364] rfl (by (try simp only [List.map_toArray, List.map_cons, List.map_nil]); first | done | rfl | (simp only [List.length_drop, List.length_take]; rfl)) ?_; (with_reducible refine (spec_NeighborsOn.calls kj17 t362 t363 t364 t370 t373 _ A31.out).mono ?_); rintro e w39 ⟨v371, rfl, ho0, hb⟩; refine ⟨_, rfl, ?_⟩; have n0_ := Aside0.mk (Kd.R_below (by (with_reducible repeat (first | apply Kd.R_alloc | apply Kd.R_drewN | apply Kd.R_drew)); exact HO_10.out) hb); have n1_ := Aside0.mk (Kd.R_below (by (with_reducible repeat (first | apply Kd.R_alloc | apply Kd.R_drewN | apply Kd.R_drew)); exact HO368.out) hb); have n2_ := Aside0.mk (Kd.V_lower (Kd.V_mono (ok' := fun k_ => some k_ ≠ (v354 : Value).ownBlock ∧ some k_ ≠ (v367 : Value).ownBlock ∧ k_ ≠ gb348 ∧ k_ ≠ gb365) ho0 (fun k_ hk_ => ⟨(Kd.fresh' (Kd.R_lt (by (with_reducible repeat (first | apply Kd.R_alloc | apply Kd.R_drewN | apply Kd.R_drew)); exact HO_10.out)) k_ hk_), (Kd.fresh' (Kd.R_lt (by (with_reducible repeat (first | apply Kd.R_alloc | apply Kd.R_drewN | apply Kd.R_drew)); exact HO368.out)) k_ hk_), (Kd.freshB (g := gb348) (o := .cells #[.int .i64 t344, .bool t345] 25 (0, 0)) (by (with_reducible repeat (first | refine blk_drewN ?_ _ | refine blk_drew ?_ | refine blk_alloc ?_ _)); exact BK348.out) k_ hk_), (Kd.freshB (g := gb365) (o := .cells #[.int .i64 t362, .bool t363] 25 (0, 0)) (by (with_reducible repeat (first | refine blk_drewN ?_ _ | refine blk_drew ?_ | refine blk_alloc ?_ _)); exact BK365.out) k_ hk_)⟩)) (below_size (by repeat (first | (with_reducible first | exact HB.out | apply below_alloc | apply pw_below_drewN | apply below_drew1 | refine below_set ?_ GE348.out | refine below_set ?_ GE365.out) | exact HB.out)))); have n3_ := Aside0.mk (blk_below (g := gb348) (o := .cells #[.int .i64 t344, .bool t345] 25 (0, 0)) (by (with_reducible repeat (first | refine blk_drewN ?_ _ | refine blk_drew ?_ | refine blk_alloc ?_ _)); exact BK348.out) hb); have n4_ := Aside0.mk (blk_below (g := gb365) (o := .cells #[.int .i64 t362, .bool t363] 25 (0, 0)) (by (with_reducible repeat (first | refine blk_drewN ?_ _ | refine blk_drew ?_ | refine blk_alloc ?_ _)); exact BK365.out) hb); have n5_ := Aside0.mk (below_step (by repeat (first | (with_reducible first | exact HB.out | apply below_alloc | apply pw_below_drewN | apply below_drew1 | refine below_set ?_ GE348.out | refine below_set ?_ GE365.out) | exact HB.out)) hb); clear HO_10; clear HO368; clear BK348; clear BK365; clear HB; have HO_10 := n0_; have HO368 := n1_; have HO372 := n2_; have BK348 := n3_; have BK365 := n4_; have HB := n5_; clear n0_ n1_ n2_ n3_ n4_ n5_; (try clear hb); (try clear hb2); (try clear hk); (try clear hi); (try clear ho0)))
                (try simp only [Act.put, List.setIfInBounds_toArray, List.set_cons_zero, List.set_cons_succ])
                go_cut [122] (fun v122 wc => ∃ (kq : Nat) (x122_31 : Bool), v122 = .bool x122_31 ∧ Aside0 (laws_FnGaps.j2 kq t346 t347 t349 t350 t353 t364 t366 t369 x122_31 t344 t345 t362 t363 = some r) ∧ Aside0 (kq ≤ kj17) ∧ Aside0 (Kd.R (Kd.int .i64) 3 wc w.heap.size (fun k_ => some k_ ≠ (v367 : Value).ownBlock) v354 t353) ∧ Aside0 (Kd.R (Kd.int .i64) 3 wc w.heap.size (fun k_ => some k_ ≠ (v354 : Value).ownBlock) v367 t366) ∧ Aside0 (wc.heap[gb348]? = some (.cells #[.int .i64 t344, .bool t345] 25 (0, 0))) ∧ Aside0 (wc.heap[gb365]? = some (.cells #[.int .i64 t362, .bool t363] 25 (0, 0))) ∧ Aside0 (Below w.heap.size w wc))
                case first =>
                  have H := HC32.out
                  clear HC32
                  by_cases c40 : (t369 != t373) = true
                  · rw [if_pos c40] at H
                    have c40b0 : (t369 != t373) = true := c40
                    (try (have c40b1 : decide (t369 = t373) = false := by simpa using c40))
                    (try (have c40b2 : (t369 == t373) = false := by simpa using c40))
                    (try (have c40b3 : ¬ (t369 = t373) := by simpa using c40))
                    clear c40
                    (first | rw [c40b0] | (simp only [i64_w, i32_w]; rw [c40b0]) | skip)
                    as_aux_lemma =>
                      have H' := Aside0.mk H
                      clear H
                      try go_wp2
                      have n0_ := Aside0.mk (Kd.R_drew HO_10.out)
                      have n1_ := Aside0.mk (Kd.R_drew HO368.out)
                      have n2_ := Aside0.mk (Kd.V_drew HO372.out)
                      have n3_ := Aside0.mk (blk_drew BK348.out)
                      have n4_ := Aside0.mk (blk_drew BK365.out)
                      have n5_ := Aside0.mk (below_drew1 HB.out)
                      clear HO_10
                      clear HO368
                      clear HO372
                      clear BK348
                      clear BK365
                      clear HB
                      have HO_10 := n0_
                      have HO368 := n1_
                      have HO372 := n2_
                      have BK348 := n3_
                      have BK365 := n4_
                      have HB := n5_
                      clear n0_ n1_ n2_ n3_ n4_ n5_
                      refine start_ (n := 16) (S := fun w' => True) (ds := []) #[false, false, false, false, false, false, false, false, false, false, false, false, false, false, false, false] (by kernel_rfl) rfl rfl trivial (fun hHeld => ?_); refine with_tabW laws_FnGaps.tab15 laws_FnGaps.bits15 (fun HT_ HW_ => ?_)
                      generalize w39.drew = w41 at HO_10 HO368 HO372 BK348 BK365 HB hHeld ⊢
                      refine pure_ (i := 0) (N := some 107) (v := ?_) (a' := ?_) #[true, false, false, false, false, false, false, false, false, false, false, false, false, false, false, false] rfl rfl (any_of HT_.out (by kernel_rfl)) (fun _ _ _ h => h) (Or.inl ⟨by rfl, ?_⟩) ?_ ?_
                      rotate_left
                      · intro w'
                        go_simp
                        with_reducible rfl
                      rotate_left
                      · simp only [Act.put, List.setIfInBounds_toArray, List.set_cons_zero, List.set_cons_succ, i64_w, i32_w]
                        rfl
                      refine pure_ (i := 1) (N := some 108) (v := ?_) (a' := ?_) #[true, true, false, false, false, false, false, false, false, false, false, false, false, false, false, false] rfl rfl (any_of HT_.out (by kernel_rfl)) (fun _ _ _ h => h) (Or.inl ⟨by rfl, ?_⟩) ?_ ?_
                      rotate_left
                      · intro w'
                        go_simp
                        with_reducible rfl
                      rotate_left
                      · simp only [Act.put, List.setIfInBounds_toArray, List.set_cons_zero, List.set_cons_succ, i64_w, i32_w]
                        rfl
                      refine pure_ (i := 2) (N := some 109) (v := ?_) (a' := ?_) #[true, true, true, false, false, false, false, false, false, false, false, false, false, false, false, false] rfl rfl (any_of HT_.out (by kernel_rfl)) (fun _ _ _ h => h) (Or.inl ⟨by rfl, ?_⟩) ?_ ?_
                      rotate_left
                      · intro w'
                        go_simp
                        with_reducible rfl
                      rotate_left
                      · simp only [Act.put, List.setIfInBounds_toArray, List.set_cons_zero, List.set_cons_succ, i64_w, i32_w]
                        rfl
                      refine pure_ (i := 3) (N := some 110) (v := ?_) (a' := ?_) #[true, true, true, true, false, false, false, false, false, false, false, false, false, false, false, false] rfl rfl (any_of HT_.out (by kernel_rfl)) (fun _ _ _ h => h) (Or.inl ⟨by rfl, ?_⟩) ?_ ?_
                      rotate_left
                      · intro w'
                        go_simp
                        with_reducible rfl
                      rotate_left
                      · simp only [Act.put, List.setIfInBounds_toArray, List.set_cons_zero, List.set_cons_succ, i64_w, i32_w]
                        rfl
                      refine pure_ (i := 4) (N := some 111) (v := undef) (a' := ?_) #[true, true, true, true, true, false, false, false, false, false, false, false, false, false, false, false] rfl rfl (any_of HT_.out (by kernel_rfl)) (fun _ _ _ h => h) (Or.inr ⟨by rfl, rfl⟩) ?_ ?_
                      rotate_left
                      · simp only [Act.put, List.setIfInBounds_toArray, List.set_cons_zero, List.set_cons_succ, i64_w, i32_w]
                        rfl
                      refine pure_ (i := 5) (N := some 112) (v := undef) (a' := ?_) #[true, true, true, true, true, true, false, false, false, false, false, false, false, false, false, false] rfl rfl (any_of HT_.out (by kernel_rfl)) (fun _ _ _ h => h) (Or.inr ⟨by rfl, rfl⟩) ?_ ?_
                      rotate_left
                      · simp only [Act.put, List.setIfInBounds_toArray, List.set_cons_zero, List.set_cons_succ, i64_w, i32_w]
                        rfl
                      refine pure_ (i := 6) (N := some 113) (v := undef) (a' := ?_) #[true, true, true, true, true, true, true, false, false, false, false, false, false, false, false, false] rfl rfl (any_of HT_.out (by kernel_rfl)) (fun _ _ _ h => h) (Or.inr ⟨by rfl, rfl⟩) ?_ ?_
                      rotate_left
                      · simp only [Act.put, List.setIfInBounds_toArray, List.set_cons_zero, List.set_cons_succ, i64_w, i32_w]
                        rfl
                      refine pure_ (i := 7) (N := some 114) (v := undef) (a' := ?_) #[true, true, true, true, true, true, true, true, false, false, false, false, false, false, false, false] rfl rfl (any_of HT_.out (by kernel_rfl)) (fun _ _ _ h => h) (Or.inr ⟨by rfl, rfl⟩) ?_ ?_
                      rotate_left
                      · simp only [Act.put, List.setIfInBounds_toArray, List.set_cons_zero, List.set_cons_succ, i64_w, i32_w]
                        rfl
                      refine pure_ (i := 8) (N := some 115) (v := ?_) (a' := ?_) #[true, true, true, true, true, true, true, true, true, false, false, false, false, false, false, false] rfl rfl (any_of HT_.out (by kernel_rfl)) (fun _ _ _ h => h) (Or.inl ⟨by rfl, ?_⟩) ?_ ?_
                      rotate_left
                      · intro w'
                        go_simp
                        with_reducible rfl
                      rotate_left
                      · simp only [Act.put, List.setIfInBounds_toArray, List.set_cons_zero, List.set_cons_succ, i64_w, i32_w]
                        rfl
                      refine pure_ (i := 9) (N := some 116) (v := ?_) (a' := ?_) #[true, true, true, true, true, true, true, true, true, true, false, false, false, false, false, false] rfl rfl (any_of HT_.out (by kernel_rfl)) (fun _ _ _ h => h) (Or.inl ⟨by rfl, ?_⟩) ?_ ?_
                      rotate_left
                      · intro w'
                        go_simp
                        with_reducible rfl
                      rotate_left
                      · simp only [Act.put, List.setIfInBounds_toArray, List.set_cons_zero, List.set_cons_succ, i64_w, i32_w]
                        rfl
                      refine pure_ (i := 10) (N := some 117) (v := undef) (a' := ?_) #[true, true, true, true, true, true, true, true, true, true, true, false, false, false, false, false] rfl rfl (any_of HT_.out (by kernel_rfl)) (fun _ _ _ h => h) (Or.inr ⟨by rfl, rfl⟩) ?_ ?_
                      rotate_left
                      · simp only [Act.put, List.setIfInBounds_toArray, List.set_cons_zero, List.set_cons_succ, i64_w, i32_w]
                        rfl
                      refine pure_ (i := 11) (N := some 118) (v := undef) (a' := ?_) #[true, true, true, true, true, true, true, true, true, true, true, true, false, false, false, false] rfl rfl (any_of HT_.out (by kernel_rfl)) (fun _ _ _ h => h) (Or.inr ⟨by rfl, rfl⟩) ?_ ?_
                      rotate_left
                      · simp only [Act.put, List.setIfInBounds_toArray, List.set_cons_zero, List.set_cons_succ, i64_w, i32_w]
                        rfl
                      refine pure_ (i := 12) (N := some 119) (v := undef) (a' := ?_) #[true, true, true, true, true, true, true, true, true, true, true, true, true, false, false, false] rfl rfl (any_of HT_.out (by kernel_rfl)) (fun _ _ _ h => h) (Or.inr ⟨by rfl, rfl⟩) ?_ ?_
                      rotate_left
                      · simp only [Act.put, List.setIfInBounds_toArray, List.set_cons_zero, List.set_cons_succ, i64_w, i32_w]
                        rfl
                      refine pure_ (i := 13) (N := some 120) (v := undef) (a' := ?_) #[true, true, true, true, true, true, true, true, true, true, true, true, true, true, false, false] rfl rfl (any_of HT_.out (by kernel_rfl)) (fun _ _ _ h => h) (Or.inr ⟨by rfl, rfl⟩) ?_ ?_
                      rotate_left
                      · simp only [Act.put, List.setIfInBounds_toArray, List.set_cons_zero, List.set_cons_succ, i64_w, i32_w]
                        rfl
                      refine pure_ (i := 14) (N := some 121) (v := undef) (a' := ?_) #[true, true, true, true, true, true, true, true, true, true, true, true, true, true, true, false] rfl rfl (any_of HT_.out (by kernel_rfl)) (fun _ _ _ h => h) (Or.inr ⟨by rfl, rfl⟩) ?_ ?_
                      rotate_left
                      · simp only [Act.put, List.setIfInBounds_toArray, List.set_cons_zero, List.set_cons_succ, i64_w, i32_w]
                        rfl
                      refine pure_ (i := 15) (N := some 122) (v := ?_) (a' := ?_) #[true, true, true, true, true, true, true, true, true, true, true, true, true, true, true, true] rfl rfl (any_of HT_.out (by kernel_rfl)) (fun _ _ _ h => h) (Or.inl ⟨by rfl, ?_⟩) ?_ ?_
                      rotate_left
                      · intro w'
                        go_simp
                        with_reducible rfl
                      rotate_left
                      · simp only [Act.put, List.setIfInBounds_toArray, List.set_cons_zero, List.set_cons_succ, i64_w, i32_w]
                        rfl
                      refine done_ (done_of HT_.out (by kernel_rfl)) ?_
                      try go_wp2
                      go_meet
                      case rel => exact ⟨_, (true), (by first | rfl | (simp; done) | (simp only [i64_w, i32_w]; done) | (simp only [i64_w, i32_w] <;> (first | rfl | simp)) | (simp [*]; done)), H', ⟨by have := HJ6.out; have := HJ17.out; first | omega | exact Nat.le_refl _⟩, ⟨by (with_reducible repeat (first | apply Kd.R_alloc | apply Kd.R_drewN | apply Kd.R_drew)); exact Kd.R_mono HO_10.out (fun _ hk => hk.2)⟩, ⟨by (with_reducible repeat (first | apply Kd.R_alloc | apply Kd.R_drewN | apply Kd.R_drew)); exact Kd.R_mono HO368.out (fun _ hk => hk.2)⟩, ⟨by (with_reducible repeat (first | refine blk_drewN ?_ _ | refine blk_drew ?_ | refine blk_alloc ?_ _)); exact BK348.out⟩, ⟨by (with_reducible repeat (first | refine blk_drewN ?_ _ | refine blk_drew ?_ | refine blk_alloc ?_ _)); exact BK365.out⟩, ⟨by repeat (first | (with_reducible first | exact HB.out | apply below_alloc | apply pw_below_drewN | apply below_drew1 | refine below_set ?_ GE348.out | refine below_set ?_ GE365.out) | exact HB.out)⟩⟩
                  · rw [if_neg c40] at H
                    have c40b0 : (t369 != t373) = false := by simpa using c40
                    (try (have c40b1 : decide (t369 = t373) = true := by simpa using c40))
                    (try (have c40b2 : (t369 == t373) = true := by simpa using c40))
                    clear c40
                    (first | rw [c40b0] | (simp only [i64_w, i32_w]; rw [c40b0]) | skip)
                    replace H := Option.bind_eq_some_iff.mp H
                    obtain ⟨t374, A420, H⟩ := H
                    replace H : (if t374 = true then ((impl_IsRoad.f t362 t363).bind fun t375 => ((spec_IsRoad.f t362 t363).bind fun t376 => (laws_FnGaps.j2 kj17 t346 t347 t349 t350 t353 t364 t366 t369 (t375 != t376) t344 t345 t362 t363))) else (laws_FnGaps.j2 kj17 t346 t347 t349 t350 t353 t364 t366 t369 true t344 t345 t362 t363)) = some r := H
                    have A42 := Aside0.mk A420
                    clear A420
                    by_cases c43 : t374 = true
                    · subst c43
                      have H1 : ((impl_IsRoad.f t362 t363).bind fun t375 => ((spec_IsRoad.f t362 t363).bind fun t376 => (laws_FnGaps.j2 kj17 t346 t347 t349 t350 t353 t364 t366 t369 (t375 != t376) t344 t345 t362 t363))) = some r := by rw [if_pos rfl] at H; exact H
                      clear H
                      have H := H1
                      clear H1
                      replace H := Option.bind_eq_some_iff.mp H
                      obtain ⟨t375, A440, H⟩ := H
                      replace H : ((spec_IsRoad.f t362 t363).bind fun t376 => (laws_FnGaps.j2 kj17 t346 t347 t349 t350 t353 t364 t366 t369 (t375 != t376) t344 t345 t362 t363)) = some r := H
                      have A44 := Aside0.mk A440
                      clear A440
                      replace H := Option.bind_eq_some_iff.mp H
                      obtain ⟨t376, A450, H⟩ := H
                      replace H : (laws_FnGaps.j2 kj17 t346 t347 t349 t350 t353 t364 t366 t369 (t375 != t376) t344 t345 t362 t363) = some r := H
                      have A45 := Aside0.mk A450
                      clear A450
                      as_aux_lemma =>
                        have H' := Aside0.mk H
                        clear H
                        try go_wp2
                        have n0_ := Aside0.mk (Kd.R_drew HO_10.out)
                        have n1_ := Aside0.mk (Kd.R_drew HO368.out)
                        have n2_ := Aside0.mk (Kd.V_drew HO372.out)
                        have n3_ := Aside0.mk (blk_drew BK348.out)
                        have n4_ := Aside0.mk (blk_drew BK365.out)
                        have n5_ := Aside0.mk (below_drew1 HB.out)
                        clear HO_10
                        clear HO368
                        clear HO372
                        clear BK348
                        clear BK365
                        clear HB
                        have HO_10 := n0_
                        have HO368 := n1_
                        have HO372 := n2_
                        have BK348 := n3_
                        have BK365 := n4_
                        have HB := n5_
                        clear n0_ n1_ n2_ n3_ n4_ n5_
                        obtain ⟨Ao47, co47, eo47⟩ := Kd.R_slice HO368.out
                        (first | subst eo47 | (injection eo47 with f1_ f2_ f3_; have f4_ := f1_.symm; have f5_ := f3_.symm; clear f1_ f2_ f3_; subst f4_; subst f5_))
                        obtain ⟨Ao48, co48, eo48⟩ := Kd.V_slice HO372.out
                        (first | subst eo48 | (injection eo48 with f1_ f2_ f3_; have f4_ := f1_.symm; have f5_ := f3_.symm; clear f1_ f2_ f3_; subst f4_; subst f5_))
                        refine start_ (n := 16) (S := fun w' => w'.cell? ⟨gb365, 0, none⟩ = some (.int .i64 t362) ∧ w'.cell? ⟨gb365, 1, none⟩ = some (.bool t363)) (ds := []) #[false, false, false, false, false, false, false, false, false, false, false, false, false, false, false, false] (by kernel_rfl) rfl rfl ⟨(blk_cell BK365.out 0).trans rfl, (blk_cell BK365.out 1).trans rfl⟩ (fun hHeld => ?_); refine with_tabW laws_FnGaps.tab15 laws_FnGaps.bits15 (fun HT_ HW_ => ?_)
                        generalize w39.drew = w46 at HO_10 HO368 HO372 BK348 BK365 HB hHeld ⊢
                        refine pure_ (i := 0) (N := some 107) (v := ?_) (a' := ?_) #[true, false, false, false, false, false, false, false, false, false, false, false, false, false, false, false] rfl rfl (any_of HT_.out (by kernel_rfl)) (fun _ _ _ h => h) (Or.inl ⟨by rfl, ?_⟩) ?_ ?_
                        rotate_left
                        · intro w'
                          go_simp
                          with_reducible rfl
                        rotate_left
                        · simp only [Act.put, List.setIfInBounds_toArray, List.set_cons_zero, List.set_cons_succ, i64_w, i32_w]
                          rfl
                        refine pure_ (i := 1) (N := some 108) (v := ?_) (a' := ?_) #[true, true, false, false, false, false, false, false, false, false, false, false, false, false, false, false] rfl rfl (any_of HT_.out (by kernel_rfl)) (fun _ _ _ h => h) (Or.inl ⟨by rfl, ?_⟩) ?_ ?_
                        rotate_left
                        · intro w'
                          go_simp
                          with_reducible rfl
                        rotate_left
                        · simp only [Act.put, List.setIfInBounds_toArray, List.set_cons_zero, List.set_cons_succ, i64_w, i32_w]
                          rfl
                        refine pure_ (i := 2) (N := some 109) (v := ?_) (a' := ?_) #[true, true, true, false, false, false, false, false, false, false, false, false, false, false, false, false] rfl rfl (any_of HT_.out (by kernel_rfl)) (fun _ _ _ h => h) (Or.inl ⟨by rfl, ?_⟩) ?_ ?_
                        rotate_left
                        · intro w'
                          go_simp
                          with_reducible rfl
                        rotate_left
                        · simp only [Act.put, List.setIfInBounds_toArray, List.set_cons_zero, List.set_cons_succ, i64_w, i32_w]
                          rfl
                        refine pure_ (i := 3) (N := some 110) (v := ?_) (a' := ?_) #[true, true, true, true, false, false, false, false, false, false, false, false, false, false, false, false] rfl rfl (any_of HT_.out (by kernel_rfl)) (fun _ _ _ h => h) (Or.inl ⟨by rfl, ?_⟩) ?_ ?_
                        rotate_left
                        · intro w'
                          go_simp
                          with_reducible rfl
                        rotate_left
                        · simp only [Act.put, List.setIfInBounds_toArray, List.set_cons_zero, List.set_cons_succ, i64_w, i32_w]
                          rfl
                        refine pure_ (i := 4) (N := some 111) (v := ?_) (a' := ?_) #[true, true, true, true, true, false, false, false, false, false, false, false, false, false, false, false] rfl rfl (any_of HT_.out (by kernel_rfl)) (fun _ _ _ h => h) (Or.inl ⟨by rfl, ?_⟩) ?_ ?_
                        rotate_left
                        · intro w'
                          go_simp
                          with_reducible rfl
                        rotate_left
                        · simp only [Act.put, List.setIfInBounds_toArray, List.set_cons_zero, List.set_cons_succ, i64_w, i32_w]
                          rfl
                        refine pure_ (i := 5) (N := some 112) (v := ?_) (a' := ?_) #[true, true, true, true, true, true, false, false, false, false, false, false, false, false, false, false] rfl rfl (any_of HT_.out (by kernel_rfl)) (fun _ _ _ h => h) (Or.inl ⟨by rfl, ?_⟩) ?_ ?_
                        rotate_left
                        · intro w'
                          go_simp
                          with_reducible rfl
                        rotate_left
                        · simp only [Act.put, List.setIfInBounds_toArray, List.set_cons_zero, List.set_cons_succ, i64_w, i32_w]
                          rfl
                        refine one_ (i := 6) (N := some 113) #[true, true, true, true, true, true, true, false, false, false, false, false, false, false, false, false] rfl rfl (one_of HT_.out (by kernel_rfl)) (by decide) (fun K hK => ?_)
                        refine goes_ Try.func13 (by kernel_rfl) rfl #[.slice Ao47 t366.length co47, .slice Ao48 t370.length co48] (by rfl) rfl rfl (by (try simp only [List.map_toArray, List.map_cons, List.map_nil]); first | done | rfl | (simp only [List.length_drop, List.length_take]; rfl)) ?_
                        with_reducible refine (laws_rInts.calls kj17 _ _ t366 _ _ t370 true _ ?side1 ?side2 ?side3 ?side4 A42.out).mono ?_
                        (case side1 => repeat (first | exact (Kd.R_reads' HO368.out).2.2 | (with_reducible refine Kd.C_alloc ?_ _) | (with_reducible refine Kd.C_drewN ?_ _) | (with_reducible refine Kd.C_drew ?_)))
                        (case side2 => exact (Kd.R_reads' HO368.out).2.1)
                        (case side3 => repeat (first | exact (Kd.V_reads' HO372.out).2.2 | (with_reducible refine Kd.C_alloc ?_ _) | (with_reducible refine Kd.C_drewN ?_ _) | (with_reducible refine Kd.C_drew ?_)))
                        (case side4 => exact (Kd.V_reads' HO372.out).2.1)
                        rintro e w' ⟨rfl, ⟨nd, rfl⟩⟩
                        refine ⟨_, rfl, ?_⟩
                        refine hK.out _ _ ⟨(blk_cell BK365.out 0).trans rfl, (blk_cell BK365.out 1).trans rfl⟩ (fun hHeld => ?_)
                        clear hK K
                        refine norm_ (a' := ?_) ?_ ?_
                        rotate_left
                        · show Act.put _ (some 113) _ = _
                          simp only [Act.put, List.setIfInBounds_toArray, List.set_cons_zero, List.set_cons_succ, i64_w, i32_w]
                          rfl
                        refine pure_ (i := 7) (N := some 114) (v := ?_) (a' := ?_) #[true, true, true, true, true, true, true, true, false, false, false, false, false, false, false, false] rfl rfl (any_of HT_.out (by kernel_rfl)) (fun _ _ _ h => h) (Or.inl ⟨by rfl, ?_⟩) ?_ ?_
                        rotate_left
                        · intro w'
                          go_simp
                          with_reducible rfl
                        rotate_left
                        · simp only [Act.put, List.setIfInBounds_toArray, List.set_cons_zero, List.set_cons_succ, i64_w, i32_w]
                          rfl
                        refine pure_ (i := 8) (N := some 115) (v := ?_) (a' := ?_) #[true, true, true, true, true, true, true, true, true, false, false, false, false, false, false, false] rfl rfl (any_of HT_.out (by kernel_rfl)) (fun _ _ _ h => h) (Or.inl ⟨by rfl, ?_⟩) ?_ ?_
                        rotate_left
                        · intro w'
                          go_simp
                          with_reducible rfl
                        rotate_left
                        · simp only [Act.put, List.setIfInBounds_toArray, List.set_cons_zero, List.set_cons_succ, i64_w, i32_w]
                          rfl
                        refine pure_ (i := 9) (N := some 116) (v := ?_) (a' := ?_) #[true, true, true, true, true, true, true, true, true, true, false, false, false, false, false, false] rfl rfl (any_of HT_.out (by kernel_rfl)) (fun _ _ _ h => h) (Or.inl ⟨by rfl, ?_⟩) ?_ ?_
                        rotate_left
                        · intro w'
                          go_simp
                          with_reducible rfl
                        rotate_left
                        · simp only [Act.put, List.setIfInBounds_toArray, List.set_cons_zero, List.set_cons_succ, i64_w, i32_w]
                          rfl
                        refine take_ (i := 10) (N := some 117) (v := ?_) (a' := ?_) #[true, true, true, true, true, true, true, true, true, true, true, false, false, false, false, false] rfl rfl (take_ofW HT_.out HW_.out (by kernel_rfl)) (fun _ _ _ h => h) (Or.inl ⟨by rfl, ?_⟩) hHeld ?_ ?_
                        rotate_left
                        · rintro w' ⟨s0, s1⟩
                          go_simp
                          with_reducible rfl
                        rotate_left
                        · simp only [Act.put, List.setIfInBounds_toArray, List.set_cons_zero, List.set_cons_succ, i64_w, i32_w]
                          rfl
                        refine take_ (i := 12) (N := some 119) (v := ?_) (a' := ?_) #[true, true, true, true, true, true, true, true, true, true, true, false, true, false, false, false] rfl rfl (take_ofW HT_.out HW_.out (by kernel_rfl)) (fun _ _ _ h => h) (Or.inl ⟨by rfl, ?_⟩) hHeld ?_ ?_
                        rotate_left
                        · rintro w' ⟨s0, s1⟩
                          go_simp
                          with_reducible rfl
                        rotate_left
                        · simp only [Act.put, List.setIfInBounds_toArray, List.set_cons_zero, List.set_cons_succ, i64_w, i32_w]
                          rfl
                        refine one_ (i := 11) (N := some 118) #[true, true, true, true, true, true, true, true, true, true, true, true, true, false, false, false] rfl rfl (one_of HT_.out (by kernel_rfl)) (by decide) (fun K hK => ?_)
                        refine goes_ Try.func17 (by kernel_rfl) rfl #[.agg #[.int .i64 t362, .bool t363]] (by rfl) rfl rfl (by (try simp only [List.map_toArray, List.map_cons, List.map_nil]); first | done | rfl | (simp only [List.length_drop, List.length_take]; rfl)) ?_
                        with_reducible refine (impl_IsRoad.calls t362 t363 t375 _ A44.out).mono ?_
                        rintro e w49 ⟨rfl, hb⟩
                        refine ⟨_, rfl, ?_⟩
                        have n0_ := Aside0.mk (Kd.R_below (by (with_reducible repeat (first | apply Kd.R_alloc | apply Kd.R_drewN | apply Kd.R_drew)); exact HO_10.out) hb)
                        have n1_ := Aside0.mk (Kd.R_below (by (with_reducible repeat (first | apply Kd.R_alloc | apply Kd.R_drewN | apply Kd.R_drew)); exact HO368.out) hb)
                        have n2_ := Aside0.mk (Kd.V_below (by (with_reducible repeat (first | apply Kd.V_alloc | apply Kd.V_drewN | apply Kd.V_drew)); exact HO372.out) hb)
                        have n3_ := Aside0.mk (blk_below (g := gb348) (o := .cells #[.int .i64 t344, .bool t345] 25 (0, 0)) (by (with_reducible repeat (first | refine blk_drewN ?_ _ | refine blk_drew ?_ | refine blk_alloc ?_ _)); exact BK348.out) hb)
                        have n4_ := Aside0.mk (blk_below (g := gb365) (o := .cells #[.int .i64 t362, .bool t363] 25 (0, 0)) (by (with_reducible repeat (first | refine blk_drewN ?_ _ | refine blk_drew ?_ | refine blk_alloc ?_ _)); exact BK365.out) hb)
                        have n5_ := Aside0.mk (below_step (by repeat (first | (with_reducible first | exact HB.out | apply below_alloc | apply pw_below_drewN | apply below_drew1 | refine below_set ?_ GE348.out | refine below_set ?_ GE365.out) | exact HB.out)) hb)
                        clear HO_10
                        clear HO368
                        clear HO372
                        clear BK348
                        clear BK365
                        clear HB
                        have HO_10 := n0_
                        have HO368 := n1_
                        have HO372 := n2_
                        have BK348 := n3_
                        have BK365 := n4_
                        have HB := n5_
                        clear n0_ n1_ n2_ n3_ n4_ n5_
                        (try clear hb)
                        (try clear hb2)
                        (try clear hk)
                        (try clear hi)
                        refine hK.out _ _ ⟨(blk_cell BK365.out 0).trans rfl, (blk_cell BK365.out 1).trans rfl⟩ (fun hHeld => ?_)
                        clear hK K
                        refine norm_ (a' := ?_) ?_ ?_
                        rotate_left
                        · show Act.put _ (some 118) _ = _
                          simp only [Act.put, List.setIfInBounds_toArray, List.set_cons_zero, List.set_cons_succ, i64_w, i32_w]
                          rfl
                        refine one_ (i := 13) (N := some 120) #[true, true, true, true, true, true, true, true, true, true, true, true, true, true, false, false] rfl rfl (one_of HT_.out (by kernel_rfl)) (by decide) (fun K hK => ?_)
                        refine goes_ Try.func18 (by kernel_rfl) rfl #[.agg #[.int .i64 t362, .bool t363]] (by rfl) rfl rfl (by (try simp only [List.map_toArray, List.map_cons, List.map_nil]); first | done | rfl | (simp only [List.length_drop, List.length_take]; rfl)) ?_
                        with_reducible refine (spec_IsRoad.calls t362 t363 t376 _ A45.out).mono ?_
                        rintro e w50 ⟨rfl, hb⟩
                        refine ⟨_, rfl, ?_⟩
                        have n0_ := Aside0.mk (Kd.R_below (by (with_reducible repeat (first | apply Kd.R_alloc | apply Kd.R_drewN | apply Kd.R_drew)); exact HO_10.out) hb)
                        have n1_ := Aside0.mk (Kd.R_below (by (with_reducible repeat (first | apply Kd.R_alloc | apply Kd.R_drewN | apply Kd.R_drew)); exact HO368.out) hb)
                        have n2_ := Aside0.mk (Kd.V_below (by (with_reducible repeat (first | apply Kd.V_alloc | apply Kd.V_drewN | apply Kd.V_drew)); exact HO372.out) hb)
                        have n3_ := Aside0.mk (blk_below (g := gb348) (o := .cells #[.int .i64 t344, .bool t345] 25 (0, 0)) (by (with_reducible repeat (first | refine blk_drewN ?_ _ | refine blk_drew ?_ | refine blk_alloc ?_ _)); exact BK348.out) hb)
                        have n4_ := Aside0.mk (blk_below (g := gb365) (o := .cells #[.int .i64 t362, .bool t363] 25 (0, 0)) (by (with_reducible repeat (first | refine blk_drewN ?_ _ | refine blk_drew ?_ | refine blk_alloc ?_ _)); exact BK365.out) hb)
                        have n5_ := Aside0.mk (below_step (by repeat (first | (with_reducible first | exact HB.out | apply below_alloc | apply pw_below_drewN | apply below_drew1 | refine below_set ?_ GE348.out | refine below_set ?_ GE365.out) | exact HB.out)) hb)
                        clear HO_10
                        clear HO368
                        clear HO372
                        clear BK348
                        clear BK365
                        clear HB
                        have HO_10 := n0_
                        have HO368 := n1_
                        have HO372 := n2_
                        have BK348 := n3_
                        have BK365 := n4_
                        have HB := n5_
                        clear n0_ n1_ n2_ n3_ n4_ n5_
                        (try clear hb)
                        (try clear hb2)
                        (try clear hk)
                        (try clear hi)
                        refine hK.out _ _ ⟨(blk_cell BK365.out 0).trans rfl, (blk_cell BK365.out 1).trans rfl⟩ (fun hHeld => ?_)
                        clear hK K
                        refine norm_ (a' := ?_) ?_ ?_
                        rotate_left
                        · show Act.put _ (some 120) _ = _
                          simp only [Act.put, List.setIfInBounds_toArray, List.set_cons_zero, List.set_cons_succ, i64_w, i32_w]
                          rfl
                        refine pure_ (i := 14) (N := some 121) (v := ?_) (a' := ?_) #[true, true, true, true, true, true, true, true, true, true, true, true, true, true, true, false] rfl rfl (any_of HT_.out (by kernel_rfl)) (fun _ _ _ h => h) (Or.inl ⟨by rfl, ?_⟩) ?_ ?_
                        rotate_left
                        · intro w'
                          go_simp
                          with_reducible rfl
                        rotate_left
                        · simp only [Act.put, List.setIfInBounds_toArray, List.set_cons_zero, List.set_cons_succ, i64_w, i32_w]
                          rfl
                        refine pure_ (i := 15) (N := some 122) (v := ?_) (a' := ?_) #[true, true, true, true, true, true, true, true, true, true, true, true, true, true, true, true] rfl rfl (any_of HT_.out (by kernel_rfl)) (fun _ _ _ h => h) (Or.inl ⟨by rfl, ?_⟩) ?_ ?_
                        rotate_left
                        · intro w'
                          go_simp
                          with_reducible rfl
                        rotate_left
                        · simp only [Act.put, List.setIfInBounds_toArray, List.set_cons_zero, List.set_cons_succ, i64_w, i32_w]
                          rfl
                        refine done_ (done_of HT_.out (by kernel_rfl)) ?_
                        try go_wp2
                        go_meet
                        case rel => exact ⟨_, ((t375 != t376)), (by first | rfl | (simp; done) | (simp only [i64_w, i32_w]; done) | (simp only [i64_w, i32_w] <;> (first | rfl | simp)) | (simp [*]; done)), H', ⟨by have := HJ6.out; have := HJ17.out; first | omega | exact Nat.le_refl _⟩, ⟨by (with_reducible repeat (first | apply Kd.R_alloc | apply Kd.R_drewN | apply Kd.R_drew)); exact Kd.R_mono HO_10.out (fun _ hk => hk.2)⟩, ⟨by (with_reducible repeat (first | apply Kd.R_alloc | apply Kd.R_drewN | apply Kd.R_drew)); exact Kd.R_mono HO368.out (fun _ hk => hk.2)⟩, ⟨by (with_reducible repeat (first | refine blk_drewN ?_ _ | refine blk_drew ?_ | refine blk_alloc ?_ _)); exact BK348.out⟩, ⟨by (with_reducible repeat (first | refine blk_drewN ?_ _ | refine blk_drew ?_ | refine blk_alloc ?_ _)); exact BK365.out⟩, ⟨by repeat (first | (with_reducible first | exact HB.out | apply below_alloc | apply pw_below_drewN | apply below_drew1 | refine below_set ?_ GE348.out | refine below_set ?_ GE365.out) | exact HB.out)⟩⟩
                    · replace c43 := Bool.eq_false_iff.mpr c43
                      subst c43
                      have H1 : (laws_FnGaps.j2 kj17 t346 t347 t349 t350 t353 t364 t366 t369 true t344 t345 t362 t363) = some r := by rw [if_neg (show ¬ (false = true) by decide)] at H; exact H
                      clear H
                      have H := H1
                      clear H1
                      as_aux_lemma =>
                        have H' := Aside0.mk H
                        clear H
                        try go_wp2
                        have n0_ := Aside0.mk (Kd.R_drew HO_10.out)
                        have n1_ := Aside0.mk (Kd.R_drew HO368.out)
                        have n2_ := Aside0.mk (Kd.V_drew HO372.out)
                        have n3_ := Aside0.mk (blk_drew BK348.out)
                        have n4_ := Aside0.mk (blk_drew BK365.out)
                        have n5_ := Aside0.mk (below_drew1 HB.out)
                        clear HO_10
                        clear HO368
                        clear HO372
                        clear BK348
                        clear BK365
                        clear HB
                        have HO_10 := n0_
                        have HO368 := n1_
                        have HO372 := n2_
                        have BK348 := n3_
                        have BK365 := n4_
                        have HB := n5_
                        clear n0_ n1_ n2_ n3_ n4_ n5_
                        obtain ⟨Ao52, co52, eo52⟩ := Kd.R_slice HO368.out
                        (first | subst eo52 | (injection eo52 with f1_ f2_ f3_; have f4_ := f1_.symm; have f5_ := f3_.symm; clear f1_ f2_ f3_; subst f4_; subst f5_))
                        obtain ⟨Ao53, co53, eo53⟩ := Kd.V_slice HO372.out
                        (first | subst eo53 | (injection eo53 with f1_ f2_ f3_; have f4_ := f1_.symm; have f5_ := f3_.symm; clear f1_ f2_ f3_; subst f4_; subst f5_))
                        refine start_ (n := 16) (S := fun w' => True) (ds := []) #[false, false, false, false, false, false, false, false, false, false, false, false, false, false, false, false] (by kernel_rfl) rfl rfl trivial (fun hHeld => ?_); refine with_tabW laws_FnGaps.tab15 laws_FnGaps.bits15 (fun HT_ HW_ => ?_)
                        generalize w39.drew = w51 at HO_10 HO368 HO372 BK348 BK365 HB hHeld ⊢
                        refine pure_ (i := 0) (N := some 107) (v := ?_) (a' := ?_) #[true, false, false, false, false, false, false, false, false, false, false, false, false, false, false, false] rfl rfl (any_of HT_.out (by kernel_rfl)) (fun _ _ _ h => h) (Or.inl ⟨by rfl, ?_⟩) ?_ ?_
                        rotate_left
                        · intro w'
                          go_simp
                          with_reducible rfl
                        rotate_left
                        · simp only [Act.put, List.setIfInBounds_toArray, List.set_cons_zero, List.set_cons_succ, i64_w, i32_w]
                          rfl
                        refine pure_ (i := 1) (N := some 108) (v := ?_) (a' := ?_) #[true, true, false, false, false, false, false, false, false, false, false, false, false, false, false, false] rfl rfl (any_of HT_.out (by kernel_rfl)) (fun _ _ _ h => h) (Or.inl ⟨by rfl, ?_⟩) ?_ ?_
                        rotate_left
                        · intro w'
                          go_simp
                          with_reducible rfl
                        rotate_left
                        · simp only [Act.put, List.setIfInBounds_toArray, List.set_cons_zero, List.set_cons_succ, i64_w, i32_w]
                          rfl
                        refine pure_ (i := 2) (N := some 109) (v := ?_) (a' := ?_) #[true, true, true, false, false, false, false, false, false, false, false, false, false, false, false, false] rfl rfl (any_of HT_.out (by kernel_rfl)) (fun _ _ _ h => h) (Or.inl ⟨by rfl, ?_⟩) ?_ ?_
                        rotate_left
                        · intro w'
                          go_simp
                          with_reducible rfl
                        rotate_left
                        · simp only [Act.put, List.setIfInBounds_toArray, List.set_cons_zero, List.set_cons_succ, i64_w, i32_w]
                          rfl
                        refine pure_ (i := 3) (N := some 110) (v := ?_) (a' := ?_) #[true, true, true, true, false, false, false, false, false, false, false, false, false, false, false, false] rfl rfl (any_of HT_.out (by kernel_rfl)) (fun _ _ _ h => h) (Or.inl ⟨by rfl, ?_⟩) ?_ ?_
                        rotate_left
                        · intro w'
                          go_simp
                          with_reducible rfl
                        rotate_left
                        · simp only [Act.put, List.setIfInBounds_toArray, List.set_cons_zero, List.set_cons_succ, i64_w, i32_w]
                          rfl
                        refine pure_ (i := 4) (N := some 111) (v := ?_) (a' := ?_) #[true, true, true, true, true, false, false, false, false, false, false, false, false, false, false, false] rfl rfl (any_of HT_.out (by kernel_rfl)) (fun _ _ _ h => h) (Or.inl ⟨by rfl, ?_⟩) ?_ ?_
                        rotate_left
                        · intro w'
                          go_simp
                          with_reducible rfl
                        rotate_left
                        · simp only [Act.put, List.setIfInBounds_toArray, List.set_cons_zero, List.set_cons_succ, i64_w, i32_w]
                          rfl
                        refine pure_ (i := 5) (N := some 112) (v := ?_) (a' := ?_) #[true, true, true, true, true, true, false, false, false, false, false, false, false, false, false, false] rfl rfl (any_of HT_.out (by kernel_rfl)) (fun _ _ _ h => h) (Or.inl ⟨by rfl, ?_⟩) ?_ ?_
                        rotate_left
                        · intro w'
                          go_simp
                          with_reducible rfl
                        rotate_left
                        · simp only [Act.put, List.setIfInBounds_toArray, List.set_cons_zero, List.set_cons_succ, i64_w, i32_w]
                          rfl
                        refine one_ (i := 6) (N := some 113) #[true, true, true, true, true, true, true, false, false, false, false, false, false, false, false, false] rfl rfl (one_of HT_.out (by kernel_rfl)) (by decide) (fun K hK => ?_)
                        refine goes_ Try.func13 (by kernel_rfl) rfl #[.slice Ao52 t366.length co52, .slice Ao53 t370.length co53] (by rfl) rfl rfl (by (try simp only [List.map_toArray, List.map_cons, List.map_nil]); first | done | rfl | (simp only [List.length_drop, List.length_take]; rfl)) ?_
                        with_reducible refine (laws_rInts.calls kj17 _ _ t366 _ _ t370 false _ ?side1 ?side2 ?side3 ?side4 A42.out).mono ?_
                        (case side1 => repeat (first | exact (Kd.R_reads' HO368.out).2.2 | (with_reducible refine Kd.C_alloc ?_ _) | (with_reducible refine Kd.C_drewN ?_ _) | (with_reducible refine Kd.C_drew ?_)))
                        (case side2 => exact (Kd.R_reads' HO368.out).2.1)
                        (case side3 => repeat (first | exact (Kd.V_reads' HO372.out).2.2 | (with_reducible refine Kd.C_alloc ?_ _) | (with_reducible refine Kd.C_drewN ?_ _) | (with_reducible refine Kd.C_drew ?_)))
                        (case side4 => exact (Kd.V_reads' HO372.out).2.1)
                        rintro e w' ⟨rfl, ⟨nd, rfl⟩⟩
                        refine ⟨_, rfl, ?_⟩
                        refine hK.out _ _ trivial (fun hHeld => ?_)
                        clear hK K
                        refine norm_ (a' := ?_) ?_ ?_
                        rotate_left
                        · show Act.put _ (some 113) _ = _
                          simp only [Act.put, List.setIfInBounds_toArray, List.set_cons_zero, List.set_cons_succ, i64_w, i32_w]
                          rfl
                        refine pure_ (i := 7) (N := some 114) (v := ?_) (a' := ?_) #[true, true, true, true, true, true, true, true, false, false, false, false, false, false, false, false] rfl rfl (any_of HT_.out (by kernel_rfl)) (fun _ _ _ h => h) (Or.inl ⟨by rfl, ?_⟩) ?_ ?_
                        rotate_left
                        · intro w'
                          go_simp
                          with_reducible rfl
                        rotate_left
                        · simp only [Act.put, List.setIfInBounds_toArray, List.set_cons_zero, List.set_cons_succ, i64_w, i32_w]
                          rfl
                        refine pure_ (i := 8) (N := some 115) (v := ?_) (a' := ?_) #[true, true, true, true, true, true, true, true, true, false, false, false, false, false, false, false] rfl rfl (any_of HT_.out (by kernel_rfl)) (fun _ _ _ h => h) (Or.inl ⟨by rfl, ?_⟩) ?_ ?_
                        rotate_left
                        · intro w'
                          go_simp
                          with_reducible rfl
                        rotate_left
                        · simp only [Act.put, List.setIfInBounds_toArray, List.set_cons_zero, List.set_cons_succ, i64_w, i32_w]
                          rfl
                        refine pure_ (i := 9) (N := some 116) (v := ?_) (a' := ?_) #[true, true, true, true, true, true, true, true, true, true, false, false, false, false, false, false] rfl rfl (any_of HT_.out (by kernel_rfl)) (fun _ _ _ h => h) (Or.inl ⟨by rfl, ?_⟩) ?_ ?_
                        rotate_left
                        · intro w'
                          go_simp
                          with_reducible rfl
                        rotate_left
                        · simp only [Act.put, List.setIfInBounds_toArray, List.set_cons_zero, List.set_cons_succ, i64_w, i32_w]
                          rfl
                        refine pure_ (i := 10) (N := some 117) (v := undef) (a' := ?_) #[true, true, true, true, true, true, true, true, true, true, true, false, false, false, false, false] rfl rfl (any_of HT_.out (by kernel_rfl)) (fun _ _ _ h => h) (Or.inr ⟨by rfl, rfl⟩) ?_ ?_
                        rotate_left
                        · simp only [Act.put, List.setIfInBounds_toArray, List.set_cons_zero, List.set_cons_succ, i64_w, i32_w]
                          rfl
                        refine pure_ (i := 11) (N := some 118) (v := undef) (a' := ?_) #[true, true, true, true, true, true, true, true, true, true, true, true, false, false, false, false] rfl rfl (any_of HT_.out (by kernel_rfl)) (fun _ _ _ h => h) (Or.inr ⟨by rfl, rfl⟩) ?_ ?_
                        rotate_left
                        · simp only [Act.put, List.setIfInBounds_toArray, List.set_cons_zero, List.set_cons_succ, i64_w, i32_w]
                          rfl
                        refine pure_ (i := 12) (N := some 119) (v := undef) (a' := ?_) #[true, true, true, true, true, true, true, true, true, true, true, true, true, false, false, false] rfl rfl (any_of HT_.out (by kernel_rfl)) (fun _ _ _ h => h) (Or.inr ⟨by rfl, rfl⟩) ?_ ?_
                        rotate_left
                        · simp only [Act.put, List.setIfInBounds_toArray, List.set_cons_zero, List.set_cons_succ, i64_w, i32_w]
                          rfl
                        refine pure_ (i := 13) (N := some 120) (v := undef) (a' := ?_) #[true, true, true, true, true, true, true, true, true, true, true, true, true, true, false, false] rfl rfl (any_of HT_.out (by kernel_rfl)) (fun _ _ _ h => h) (Or.inr ⟨by rfl, rfl⟩) ?_ ?_
                        rotate_left
                        · simp only [Act.put, List.setIfInBounds_toArray, List.set_cons_zero, List.set_cons_succ, i64_w, i32_w]
                          rfl
                        refine pure_ (i := 14) (N := some 121) (v := undef) (a' := ?_) #[true, true, true, true, true, true, true, true, true, true, true, true, true, true, true, false] rfl rfl (any_of HT_.out (by kernel_rfl)) (fun _ _ _ h => h) (Or.inr ⟨by rfl, rfl⟩) ?_ ?_
                        rotate_left
                        · simp only [Act.put, List.setIfInBounds_toArray, List.set_cons_zero, List.set_cons_succ, i64_w, i32_w]
                          rfl
                        refine pure_ (i := 15) (N := some 122) (v := ?_) (a' := ?_) #[true, true, true, true, true, true, true, true, true, true, true, true, true, true, true, true] rfl rfl (any_of HT_.out (by kernel_rfl)) (fun _ _ _ h => h) (Or.inl ⟨by rfl, ?_⟩) ?_ ?_
                        rotate_left
                        · intro w'
                          go_simp
                          with_reducible rfl
                        rotate_left
                        · simp only [Act.put, List.setIfInBounds_toArray, List.set_cons_zero, List.set_cons_succ, i64_w, i32_w]
                          rfl
                        refine done_ (done_of HT_.out (by kernel_rfl)) ?_
                        try go_wp2
                        go_meet
                        case rel => exact ⟨_, (true), (by first | rfl | (simp; done) | (simp only [i64_w, i32_w]; done) | (simp only [i64_w, i32_w] <;> (first | rfl | simp)) | (simp [*]; done)), H', ⟨by have := HJ6.out; have := HJ17.out; first | omega | exact Nat.le_refl _⟩, ⟨by (with_reducible repeat (first | apply Kd.R_alloc | apply Kd.R_drewN | apply Kd.R_drew)); exact Kd.R_mono HO_10.out (fun _ hk => hk.2)⟩, ⟨by (with_reducible repeat (first | apply Kd.R_alloc | apply Kd.R_drewN | apply Kd.R_drew)); exact Kd.R_mono HO368.out (fun _ hk => hk.2)⟩, ⟨by (with_reducible repeat (first | refine blk_drewN ?_ _ | refine blk_drew ?_ | refine blk_alloc ?_ _)); exact BK348.out⟩, ⟨by (with_reducible repeat (first | refine blk_drewN ?_ _ | refine blk_drew ?_ | refine blk_alloc ?_ _)); exact BK365.out⟩, ⟨by repeat (first | (with_reducible first | exact HB.out | apply below_alloc | apply pw_below_drewN | apply below_drew1 | refine below_set ?_ GE348.out | refine below_set ?_ GE365.out) | exact HB.out)⟩⟩
                case rest =>
                  clear HC32
                  try clear c1
                  try clear c2
                  try clear p2
                  try clear c3
                  try clear c4
                  try clear c13
                  try clear c14
                  try clear c15
                  try clear c16
                  try clear c17
                  try clear c18
                  try clear c28
                  try clear c35
                  try clear c40
                  try clear c40b0
                  try clear c40b1
                  try clear c40b2
                  try clear c43
                  try clear hcz10_0
                  try clear hcz10_1
                  try clear hcz12_0
                  try clear hcz12_1
                  try clear hcz19_0
                  try clear hcz19_1
                  try clear hcz21_0
                  try clear hcz21_1
                  try clear hcz36_0
                  try clear hcz36_1
                  try clear hcz38_0
                  try clear hcz38_1
                  try clear hfz10_0
                  try clear hfz10_1
                  try clear hfz12_0
                  try clear hfz12_1
                  try clear hfz19_0
                  try clear hfz19_1
                  try clear hfz21_0
                  try clear hfz21_1
                  try clear hfz36_0
                  try clear hfz36_1
                  try clear hfz38_0
                  try clear hfz38_1
                  try clear p2
                  obtain ⟨kq, x122_31, rfl, HA, HJ31, HO_10, HO_16, BK348, BK365, HB⟩ := hcut
                  cases kq with
                  | zero => exact absurd HA.out (by simp [laws_FnGaps.j2])
                  | succ kj31 =>
                    have H := HA.out
                    clear HA
                    simp only [laws_FnGaps.j2] at H
                    by_cases c54 : x122_31 = true
                    · subst c54
                      have H1 : (some false) = some r := by rw [if_pos rfl] at H; exact H
                      clear H
                      have H := H1
                      clear H1
                      as_aux_lemma =>
                        obtain rfl := Option.some.inj H
                        go_wp2
                        go_ret
                        exact ⟨by first | rfl | (simp [errW_none, errW_some] <;> rfl) | (simp [*, errW_none, errW_some] <;> rfl), by repeat (first | (with_reducible first | exact HB.out | apply below_alloc | apply pw_below_drewN | apply below_drew1 | refine below_set ?_ GE348.out | refine below_set ?_ GE365.out) | exact HB.out)⟩
                    · replace c54 := Bool.eq_false_iff.mpr c54
                      subst c54
                      have H1 : (if t369 = true then (laws_FnGaps.l0 kj31 t346 t347 t349 t350 t353 t364 t366 0 t344 t345 t362 t363) else (laws_FnGaps.j4 kj31 t346 t347 t349 t350 t353 t344 t345)) = some r := by rw [if_neg (show ¬ (false = true) by decide)] at H; exact H
                      clear H
                      have H := H1
                      clear H1
                      have HC55 := Aside0.mk H
                      clear H
                      go_upto_if 123 with (fail)
                      go_cut [] (fun wc => ∃ (kq : Nat), Aside0 (laws_FnGaps.j4 kq t346 t347 t349 t350 t353 t344 t345 = some r) ∧ Aside0 (kq ≤ kj31) ∧ Aside0 (Kd.R (Kd.int .i64) 3 wc w.heap.size (fun _ => True) v354 t353) ∧ Aside0 (wc.heap[gb348]? = some (.cells #[.int .i64 t344, .bool t345] 25 (0, 0))) ∧ Aside0 (wc.heap[gb365]? = some (.cells #[.int .i64 t362, .bool t363] 25 (0, 0))) ∧ Aside0 (Below w.heap.size w wc))
                      case first =>
                        have H := HC55.out
                        clear HC55
                        by_cases c56 : t369 = true
                        · subst c56
                          have H1 : (laws_FnGaps.l0 kj31 t346 t347 t349 t350 t353 t364 t366 0 t344 t345 t362 t363) = some r := by rw [if_pos rfl] at H; exact H
                          clear H
                          have H := H1
                          clear H1
                          have H' := Aside0.mk H
                          clear H
                          go_wp2
                          go_loopg [20] kj31 (fun kq v20 w' => ∃ (x20_4 : Int), v20 = .int .i64 x20_4 ∧ Aside0 (laws_FnGaps.l0 kq t346 t347 t349 t350 t353 t364 t366 x20_4 t344 t345 t362 t363 = some r) ∧ Aside0 (kq ≤ kj31) ∧ Aside0 (Kd.R (Kd.int .i64) 3 w' w.heap.size (fun k_ => some k_ ≠ (v367 : Value).ownBlock) v354 t353) ∧ Aside0 (Kd.R (Kd.int .i64) 3 w' w.heap.size (fun k_ => some k_ ≠ (v354 : Value).ownBlock) v367 t366) ∧ Aside0 (w'.heap[gb348]? = some (.cells #[.int .i64 t344, .bool t345] 25 (0, 0))) ∧ Aside0 (w'.heap[gb365]? = some (.cells #[.int .i64 t362, .bool t363] 25 (0, 0))) ∧ Aside0 (Below w.heap.size w w'))
                          case atStart => exact ⟨(0), (by first | rfl | (simp; done) | (simp only [i64_w, i32_w]; done) | (simp only [i64_w, i32_w] <;> (first | rfl | simp)) | (simp [*]; done)), H', ⟨Nat.le_refl _⟩, ⟨by (with_reducible repeat (first | apply Kd.R_alloc | apply Kd.R_drewN | apply Kd.R_drew)); exact HO_10.out⟩, ⟨by (with_reducible repeat (first | apply Kd.R_alloc | apply Kd.R_drewN | apply Kd.R_drew)); exact HO_16.out⟩, ⟨by (with_reducible repeat (first | refine blk_drewN ?_ _ | refine blk_drew ?_ | refine blk_alloc ?_ _)); exact BK348.out⟩, ⟨by (with_reducible repeat (first | refine blk_drewN ?_ _ | refine blk_drew ?_ | refine blk_alloc ?_ _)); exact BK365.out⟩, ⟨by repeat (first | (with_reducible first | exact HB.out | apply below_alloc | apply pw_below_drewN | apply below_drew1 | refine below_set ?_ GE348.out | refine below_set ?_ GE365.out) | exact HB.out)⟩⟩
                          case round =>
                            clear H'
                            try clear c1
                            try clear c2
                            try clear p2
                            try clear c3
                            try clear c4
                            try clear c5
                            try clear c13
                            try clear c14
                            try clear c15
                            try clear c16
                            try clear c17
                            try clear c18
                            try clear c28
                            try clear c35
                            try clear c40
                            try clear c40b0
                            try clear c40b1
                            try clear c40b2
                            try clear c43
                            try clear c54
                            try clear c56
                            try clear hcz10_0
                            try clear hcz10_1
                            try clear hcz12_0
                            try clear hcz12_1
                            try clear hcz19_0
                            try clear hcz19_1
                            try clear hcz21_0
                            try clear hcz21_1
                            try clear hcz36_0
                            try clear hcz36_1
                            try clear hcz38_0
                            try clear hcz38_1
                            try clear hfz10_0
                            try clear hfz10_1
                            try clear hfz12_0
                            try clear hfz12_1
                            try clear hfz19_0
                            try clear hfz19_1
                            try clear hfz21_0
                            try clear hfz21_1
                            try clear hfz36_0
                            try clear hfz36_1
                            try clear hfz38_0
                            try clear hfz38_1
                            try clear p2
                            obtain ⟨x20_4, rfl, HA, HK4, HO_10, HO_16, BK348, BK365, HB⟩ := hrel
                            cases gk with
                            | zero => exact absurd HA.out (by simp [laws_FnGaps.l0])
                            | succ k4 =>
                              have H := HA.out
                              clear HA
                              simp only [laws_FnGaps.l0] at H
                              by_cases c57 : x20_4 < t362
                              · rw [if_pos c57] at H
                                have c57b0 : decide (x20_4 < t362) = true := decide_eq_true c57
                                clear c57
                                (first | rw [c57b0] | (simp only [i64_w, i32_w]; rw [c57b0]) | skip)
                                replace H := Option.bind_eq_some_iff.mp H
                                obtain ⟨⟨t377, t378⟩, A580, H⟩ := H
                                replace H : (if t378 = true then ((laws_rHas.f k4 t366 x20_4).bind fun t379 => (if (t379 != (t377 == 1)) = true then (some false) else (laws_FnGaps.l0 k4 t346 t347 t349 t350 t353 t364 t366 (wrap64 (x20_4 + 1)) t344 t345 t362 t363))) else (some false)) = some r := H
                                have A58 := Aside0.mk A580
                                clear A580
                                by_cases c59 : t378 = true
                                · subst c59
                                  have H1 : ((laws_rHas.f k4 t366 x20_4).bind fun t379 => (if (t379 != (t377 == 1)) = true then (some false) else (laws_FnGaps.l0 k4 t346 t347 t349 t350 t353 t364 t366 (wrap64 (x20_4 + 1)) t344 t345 t362 t363))) = some r := by rw [if_pos rfl] at H; exact H
                                  clear H
                                  have H := H1
                                  clear H1
                                  replace H := Option.bind_eq_some_iff.mp H
                                  obtain ⟨t379, A600, H⟩ := H
                                  replace H : (if (t379 != (t377 == 1)) = true then (some false) else (laws_FnGaps.l0 k4 t346 t347 t349 t350 t353 t364 t366 (wrap64 (x20_4 + 1)) t344 t345 t362 t363)) = some r := H
                                  have A60 := Aside0.mk A600
                                  clear A600
                                  by_cases c61 : (t379 != (t377 == 1)) = true
                                  · rw [if_pos c61] at H
                                    have c61b0 : (t379 != (t377 == 1)) = true := c61
                                    (try (have c61b1 : decide (t379 = (t377 == 1)) = false := by simpa using c61))
                                    (try (have c61b2 : (t379 == (t377 == 1)) = false := by simpa using c61))
                                    (try (have c61b3 : ¬ (t379 = (t377 == 1)) := by simpa using c61))
                                    clear c61
                                    as_aux_lemma =>
                                      obtain rfl := Option.some.inj H
                                      have hnb62 := NB365_348.out
                                      have hnc62 := NB348_365.out
                                      have hcz63_0 : wr.cell? ⟨gb365, 0, none⟩ = some (.int .i64 t362) := (blk_cell BK365.out 0).trans rfl
                                      have hcz63_1 : wr.cell? ⟨gb365, 1, none⟩ = some (.bool t363) := (blk_cell BK365.out 1).trans rfl
                                      have hfz63_0 := blk_frozen BK365.out 0
                                      have hfz63_1 := blk_frozen BK365.out 1
                                      go_wp2_with (first | ((with_reducible refine gate_callee (f := 9) rfl ?_); refine goesL_ (some 134) rfl rfl Try.func9 (by kernel_rfl) rfl #[.agg #[.int .i64 t362, .bool t363], .int .i64 t364, .int .i64 x20_4] rfl (by (try simp only [List.map_toArray, List.map_cons, List.map_nil]); first | done | rfl | (simp only [List.length_drop, List.length_take]; rfl)) ?_; (with_reducible refine (impl_GapOf.calls k4 t362 t363 t364 x20_4 t377 true _ A58.out).mono ?_); rintro e w64 ⟨rfl, hb⟩; refine ⟨_, rfl, ?_⟩; have n0_ := Aside0.mk (Kd.R_below (by (with_reducible repeat (first | apply Kd.R_alloc | apply Kd.R_drewN | apply Kd.R_drew)); exact HO_10.out) hb); have n1_ := Aside0.mk (Kd.R_below (by (with_reducible repeat (first | apply Kd.R_alloc | apply Kd.R_drewN | apply Kd.R_drew)); exact HO_16.out) hb); have n2_ := Aside0.mk (blk_below (g := gb348) (o := .cells #[.int .i64 t344, .bool t345] 25 (0, 0)) (by (with_reducible repeat (first | refine blk_drewN ?_ _ | refine blk_drew ?_ | refine blk_alloc ?_ _)); exact BK348.out) hb); have n3_ := Aside0.mk (blk_below (g := gb365) (o := .cells #[.int .i64 t362, .bool t363] 25 (0, 0)) (by (with_reducible repeat (first | refine blk_drewN ?_ _ | refine blk_drew ?_ | refine blk_alloc ?_ _)); exact BK365.out) hb); have n4_ := Aside0.mk (below_step (by repeat (first | (with_reducible first | exact HB.out | apply below_alloc | apply pw_below_drewN | apply below_drew1 | refine below_set ?_ GE348.out | refine below_set ?_ GE365.out) | exact HB.out)) hb); clear HO_10; clear HO_16; clear BK348; clear BK365; clear HB; have HO_10 := n0_; have HO_16 := n1_; have BK348 := n2_; have BK365 := n3_; have HB := n4_; clear n0_ n1_ n2_ n3_ n4_; (try clear hb); (try clear hb2); (try clear hk); (try clear hi); obtain ⟨Ao65, co65, eo65⟩ := Kd.R_slice HO_16.out; subst eo65) | (go_at_call 19; (with_reducible refine (laws_rHas.calls k4 _ _ t366 x20_4 t379 _ ?side1 ?side2 A60.out).mono ?_); (case side1 => repeat (first | exact (Kd.R_reads' HO_16.out).2.2 | (with_reducible refine Kd.C_alloc ?_ _) | (with_reducible refine Kd.C_drewN ?_ _) | (with_reducible refine Kd.C_drew ?_))); (case side2 => exact (Kd.R_reads' HO_16.out).2.1); rintro e w' ⟨rfl, ⟨nd, rfl⟩⟩))
                                      go_ret
                                      exact ⟨by first | rfl | (simp [errW_none, errW_some] <;> rfl) | (simp [*, errW_none, errW_some] <;> rfl), by repeat (first | (with_reducible first | exact HB.out | apply below_alloc | apply pw_below_drewN | apply below_drew1 | refine below_set ?_ GE348.out | refine below_set ?_ GE365.out) | exact HB.out)⟩
                                  · rw [if_neg c61] at H
                                    have c61b0 : (t379 != (t377 == 1)) = false := by simpa using c61
                                    (try (have c61b1 : decide (t379 = (t377 == 1)) = true := by simpa using c61))
                                    (try (have c61b2 : (t379 == (t377 == 1)) = true := by simpa using c61))
                                    clear c61
                                    as_aux_lemma =>
                                      have H' := Aside0.mk H
                                      clear H
                                      have hnb66 := NB365_348.out
                                      have hnc66 := NB348_365.out
                                      have hcz67_0 : wr.cell? ⟨gb365, 0, none⟩ = some (.int .i64 t362) := (blk_cell BK365.out 0).trans rfl
                                      have hcz67_1 : wr.cell? ⟨gb365, 1, none⟩ = some (.bool t363) := (blk_cell BK365.out 1).trans rfl
                                      have hfz67_0 := blk_frozen BK365.out 0
                                      have hfz67_1 := blk_frozen BK365.out 1
                                      go_wp2_with (first | ((with_reducible refine gate_callee (f := 9) rfl ?_); refine goesL_ (some 134) rfl rfl Try.func9 (by kernel_rfl) rfl #[.agg #[.int .i64 t362, .bool t363], .int .i64 t364, .int .i64 x20_4] rfl (by (try simp only [List.map_toArray, List.map_cons, List.map_nil]); first | done | rfl | (simp only [List.length_drop, List.length_take]; rfl)) ?_; (with_reducible refine (impl_GapOf.calls k4 t362 t363 t364 x20_4 t377 true _ A58.out).mono ?_); rintro e w68 ⟨rfl, hb⟩; refine ⟨_, rfl, ?_⟩; have n0_ := Aside0.mk (Kd.R_below (by (with_reducible repeat (first | apply Kd.R_alloc | apply Kd.R_drewN | apply Kd.R_drew)); exact HO_10.out) hb); have n1_ := Aside0.mk (Kd.R_below (by (with_reducible repeat (first | apply Kd.R_alloc | apply Kd.R_drewN | apply Kd.R_drew)); exact HO_16.out) hb); have n2_ := Aside0.mk (blk_below (g := gb348) (o := .cells #[.int .i64 t344, .bool t345] 25 (0, 0)) (by (with_reducible repeat (first | refine blk_drewN ?_ _ | refine blk_drew ?_ | refine blk_alloc ?_ _)); exact BK348.out) hb); have n3_ := Aside0.mk (blk_below (g := gb365) (o := .cells #[.int .i64 t362, .bool t363] 25 (0, 0)) (by (with_reducible repeat (first | refine blk_drewN ?_ _ | refine blk_drew ?_ | refine blk_alloc ?_ _)); exact BK365.out) hb); have n4_ := Aside0.mk (below_step (by repeat (first | (with_reducible first | exact HB.out | apply below_alloc | apply pw_below_drewN | apply below_drew1 | refine below_set ?_ GE348.out | refine below_set ?_ GE365.out) | exact HB.out)) hb); clear HO_10; clear HO_16; clear BK348; clear BK365; clear HB; have HO_10 := n0_; have HO_16 := n1_; have BK348 := n2_; have BK365 := n3_; have HB := n4_; clear n0_ n1_ n2_ n3_ n4_; (try clear hb); (try clear hb2); (try clear hk); (try clear hi); obtain ⟨Ao69, co69, eo69⟩ := Kd.R_slice HO_16.out; subst eo69) | (go_at_call 19; (with_reducible refine (laws_rHas.calls k4 _ _ t366 x20_4 t379 _ ?side1 ?side2 A60.out).mono ?_); (case side1 => repeat (first | exact (Kd.R_reads' HO_16.out).2.2 | (with_reducible refine Kd.C_alloc ?_ _) | (with_reducible refine Kd.C_drewN ?_ _) | (with_reducible refine Kd.C_drew ?_))); (case side2 => exact (Kd.R_reads' HO_16.out).2.1); rintro e w' ⟨rfl, ⟨nd, rfl⟩⟩))
                                      go_roundg k4
                                      case measure => have := HJ6.out; have := HJ17.out; have := HJ31.out; have := HK4.out; omega
                                      case rel => exact ⟨(wrap64 (x20_4 + 1)), (by first | rfl | (simp; done) | (simp only [i64_w, i32_w]; done) | (simp only [i64_w, i32_w] <;> (first | rfl | simp)) | (simp [*]; done)), H', ⟨by have := HJ6.out; have := HJ17.out; have := HJ31.out; have := HK4.out; omega⟩, ⟨by (with_reducible repeat (first | apply Kd.R_alloc | apply Kd.R_drewN | apply Kd.R_drew)); exact HO_10.out⟩, ⟨by (with_reducible repeat (first | apply Kd.R_alloc | apply Kd.R_drewN | apply Kd.R_drew)); exact HO_16.out⟩, ⟨by (with_reducible repeat (first | refine blk_drewN ?_ _ | refine blk_drew ?_ | refine blk_alloc ?_ _)); exact BK348.out⟩, ⟨by (with_reducible repeat (first | refine blk_drewN ?_ _ | refine blk_drew ?_ | refine blk_alloc ?_ _)); exact BK365.out⟩, ⟨by repeat (first | (with_reducible first | exact HB.out | apply below_alloc | apply pw_below_drewN | apply below_drew1 | refine below_set ?_ GE348.out | refine below_set ?_ GE365.out) | exact HB.out)⟩⟩
                                · replace c59 := Bool.eq_false_iff.mpr c59
                                  subst c59
                                  have H1 : (some false) = some r := by rw [if_neg (show ¬ (false = true) by decide)] at H; exact H
                                  clear H
                                  have H := H1
                                  clear H1
                                  as_aux_lemma =>
                                    obtain rfl := Option.some.inj H
                                    have hnb70 := NB365_348.out
                                    have hnc70 := NB348_365.out
                                    have hcz71_0 : wr.cell? ⟨gb365, 0, none⟩ = some (.int .i64 t362) := (blk_cell BK365.out 0).trans rfl
                                    have hcz71_1 : wr.cell? ⟨gb365, 1, none⟩ = some (.bool t363) := (blk_cell BK365.out 1).trans rfl
                                    have hfz71_0 := blk_frozen BK365.out 0
                                    have hfz71_1 := blk_frozen BK365.out 1
                                    go_wp2_with (first | ((with_reducible refine gate_callee (f := 9) rfl ?_); refine goesL_ (some 134) rfl rfl Try.func9 (by kernel_rfl) rfl #[.agg #[.int .i64 t362, .bool t363], .int .i64 t364, .int .i64 x20_4] rfl (by (try simp only [List.map_toArray, List.map_cons, List.map_nil]); first | done | rfl | (simp only [List.length_drop, List.length_take]; rfl)) ?_; (with_reducible refine (impl_GapOf.calls k4 t362 t363 t364 x20_4 t377 false _ A58.out).mono ?_); rintro e w72 ⟨rfl, hb⟩; refine ⟨_, rfl, ?_⟩; have n0_ := Aside0.mk (Kd.R_below (by (with_reducible repeat (first | apply Kd.R_alloc | apply Kd.R_drewN | apply Kd.R_drew)); exact HO_10.out) hb); have n1_ := Aside0.mk (Kd.R_below (by (with_reducible repeat (first | apply Kd.R_alloc | apply Kd.R_drewN | apply Kd.R_drew)); exact HO_16.out) hb); have n2_ := Aside0.mk (blk_below (g := gb348) (o := .cells #[.int .i64 t344, .bool t345] 25 (0, 0)) (by (with_reducible repeat (first | refine blk_drewN ?_ _ | refine blk_drew ?_ | refine blk_alloc ?_ _)); exact BK348.out) hb); have n3_ := Aside0.mk (blk_below (g := gb365) (o := .cells #[.int .i64 t362, .bool t363] 25 (0, 0)) (by (with_reducible repeat (first | refine blk_drewN ?_ _ | refine blk_drew ?_ | refine blk_alloc ?_ _)); exact BK365.out) hb); have n4_ := Aside0.mk (below_step (by repeat (first | (with_reducible first | exact HB.out | apply below_alloc | apply pw_below_drewN | apply below_drew1 | refine below_set ?_ GE348.out | refine below_set ?_ GE365.out) | exact HB.out)) hb); clear HO_10; clear HO_16; clear BK348; clear BK365; clear HB; have HO_10 := n0_; have HO_16 := n1_; have BK348 := n2_; have BK365 := n3_; have HB := n4_; clear n0_ n1_ n2_ n3_ n4_; (try clear hb); (try clear hb2); (try clear hk); (try clear hi)))
                                    go_ret
                                    exact ⟨by first | rfl | (simp [errW_none, errW_some] <;> rfl) | (simp [*, errW_none, errW_some] <;> rfl), by repeat (first | (with_reducible first | exact HB.out | apply below_alloc | apply pw_below_drewN | apply below_drew1 | refine below_set ?_ GE348.out | refine below_set ?_ GE365.out) | exact HB.out)⟩
                              · rw [if_neg c57] at H
                                have c57b0 : decide (x20_4 < t362) = false := decide_eq_false c57
                                clear c57
                                (first | rw [c57b0] | (simp only [i64_w, i32_w]; rw [c57b0]) | skip)
                                as_aux_lemma =>
                                  have H' := Aside0.mk H
                                  clear H
                                  have hnb73 := NB365_348.out
                                  have hnc73 := NB348_365.out
                                  have hcz74_0 : wr.cell? ⟨gb365, 0, none⟩ = some (.int .i64 t362) := (blk_cell BK365.out 0).trans rfl
                                  have hcz74_1 : wr.cell? ⟨gb365, 1, none⟩ = some (.bool t363) := (blk_cell BK365.out 1).trans rfl
                                  have hfz74_0 := blk_frozen BK365.out 0
                                  have hfz74_1 := blk_frozen BK365.out 1
                                  go_wp2
                                  go_meet
                                  case rel => exact ⟨_, H', ⟨by have := HJ6.out; have := HJ17.out; have := HJ31.out; have := HK4.out; first | omega | exact Nat.le_refl _⟩, ⟨by (with_reducible repeat (first | apply Kd.R_alloc | apply Kd.R_drewN | apply Kd.R_drew)); exact Kd.R_mono HO_10.out (fun _ hk => trivial)⟩, ⟨by (with_reducible repeat (first | refine blk_drewN ?_ _ | refine blk_drew ?_ | refine blk_alloc ?_ _)); exact BK348.out⟩, ⟨by (with_reducible repeat (first | refine blk_drewN ?_ _ | refine blk_drew ?_ | refine blk_alloc ?_ _)); exact BK365.out⟩, ⟨by repeat (first | (with_reducible first | exact HB.out | apply below_alloc | apply pw_below_drewN | apply below_drew1 | refine below_set ?_ GE348.out | refine below_set ?_ GE365.out) | exact HB.out)⟩⟩
                        · replace c56 := Bool.eq_false_iff.mpr c56
                          subst c56
                          have H1 : (laws_FnGaps.j4 kj31 t346 t347 t349 t350 t353 t344 t345) = some r := by rw [if_neg (show ¬ (false = true) by decide)] at H; exact H
                          clear H
                          have H := H1
                          clear H1
                          as_aux_lemma =>
                            have H' := Aside0.mk H
                            clear H
                            go_wp2
                            go_meet
                            case rel => exact ⟨_, H', ⟨by have := HJ6.out; have := HJ17.out; have := HJ31.out; first | omega | exact Nat.le_refl _⟩, ⟨by (with_reducible repeat (first | apply Kd.R_alloc | apply Kd.R_drewN | apply Kd.R_drew)); exact Kd.R_mono HO_10.out (fun _ hk => trivial)⟩, ⟨by (with_reducible repeat (first | refine blk_drewN ?_ _ | refine blk_drew ?_ | refine blk_alloc ?_ _)); exact BK348.out⟩, ⟨by (with_reducible repeat (first | refine blk_drewN ?_ _ | refine blk_drew ?_ | refine blk_alloc ?_ _)); exact BK365.out⟩, ⟨by repeat (first | (with_reducible first | exact HB.out | apply below_alloc | apply pw_below_drewN | apply below_drew1 | refine below_set ?_ GE348.out | refine below_set ?_ GE365.out) | exact HB.out)⟩⟩
                      case rest =>
                        clear HC55
                        try clear c1
                        try clear c2
                        try clear p2
                        try clear c3
                        try clear c4
                        try clear c5
                        try clear c6
                        try clear p6
                        try clear c7
                        try clear c9
                        try clear c13
                        try clear c14
                        try clear c15
                        try clear c16
                        try clear c17
                        try clear c18
                        try clear c28
                        try clear c35
                        try clear c40
                        try clear c40b0
                        try clear c40b1
                        try clear c40b2
                        try clear c43
                        try clear c54
                        try clear c56
                        try clear c57
                        try clear c57b0
                        try clear c59
                        try clear c61
                        try clear c61b0
                        try clear c61b1
                        try clear c61b2
                        try clear c62
                        try clear p64
                        try clear c66
                        try clear c70
                        try clear c73
                        try clear hcz10_0
                        try clear hcz10_1
                        try clear hcz12_0
                        try clear hcz12_1
                        try clear hcz19_0
                        try clear hcz19_1
                        try clear hcz21_0
                        try clear hcz21_1
                        try clear hcz36_0
                        try clear hcz36_1
                        try clear hcz38_0
                        try clear hcz38_1
                        try clear hcz63_0
                        try clear hcz63_1
                        try clear hcz67_0
                        try clear hcz67_1
                        try clear hcz71_0
                        try clear hcz71_1
                        try clear hcz74_0
                        try clear hcz74_1
                        try clear hfz10_0
                        try clear hfz10_1
                        try clear hfz12_0
                        try clear hfz12_1
                        try clear hfz19_0
                        try clear hfz19_1
                        try clear hfz21_0
                        try clear hfz21_1
                        try clear hfz36_0
                        try clear hfz36_1
                        try clear hfz38_0
                        try clear hfz38_1
                        try clear hfz63_0
                        try clear hfz63_1
                        try clear hfz67_0
                        try clear hfz67_1
                        try clear hfz71_0
                        try clear hfz71_1
                        try clear hfz74_0
                        try clear hfz74_1
                        try clear p2
                        obtain ⟨kq, HA, HJ54, HO_10, BK348, BK365, HB⟩ := hcut
                        cases kq with
                        | zero => exact absurd HA.out (by simp [laws_FnGaps.j4])
                        | succ kj54 =>
                          have H := HA.out
                          clear HA
                          simp only [laws_FnGaps.j4] at H
                          by_cases c75 : t350 = true
                          · subst c75
                            have H1 : ((impl_GapOf.f kj54 t344 t345 t347 t346).bind fun bt380 => ((impl_IsWalk.f kj54 t344 t345 t353).bind fun bt382 => (if bt380.2 = true then (if bt382.2 = true then (if bt380.1 = t349 then (if bt382.1 = true then (if (t353.length : Int) = (wrap64 (t349 + 1)) then (if 0 ≤ t349 then (if t349 < (t353.length : Int) then (laws_FnGaps.j5 kj54 t346 t347 t349 ((rd t353 t349) != t347) t344 t345) else (none)) else (none)) else (laws_FnGaps.j5 kj54 t346 t347 t349 true t344 t345)) else (laws_FnGaps.j5 kj54 t346 t347 t349 true t344 t345)) else (laws_FnGaps.j5 kj54 t346 t347 t349 true t344 t345)) else (laws_FnGaps.j5 kj54 t346 t347 t349 true t344 t345)) else (laws_FnGaps.j5 kj54 t346 t347 t349 true t344 t345)))) = some r := by rw [if_pos rfl] at H; exact H
                            clear H
                            have H := H1
                            clear H1
                            replace H := Option.bind_eq_some_iff.mp H
                            obtain ⟨⟨t380, t381⟩, A760, H⟩ := H
                            replace H : ((impl_IsWalk.f kj54 t344 t345 t353).bind fun bt382 => (if t381 = true then (if bt382.2 = true then (if t380 = t349 then (if bt382.1 = true then (if (t353.length : Int) = (wrap64 (t349 + 1)) then (if 0 ≤ t349 then (if t349 < (t353.length : Int) then (laws_FnGaps.j5 kj54 t346 t347 t349 ((rd t353 t349) != t347) t344 t345) else (none)) else (none)) else (laws_FnGaps.j5 kj54 t346 t347 t349 true t344 t345)) else (laws_FnGaps.j5 kj54 t346 t347 t349 true t344 t345)) else (laws_FnGaps.j5 kj54 t346 t347 t349 true t344 t345)) else (laws_FnGaps.j5 kj54 t346 t347 t349 true t344 t345)) else (laws_FnGaps.j5 kj54 t346 t347 t349 true t344 t345))) = some r := H
                            have A76 := Aside0.mk A760
                            clear A760
                            replace H := Option.bind_eq_some_iff.mp H
                            obtain ⟨⟨t382, t383⟩, A770, H⟩ := H
                            replace H : (if t381 = true then (if t383 = true then (if t380 = t349 then (if t382 = true then (if (t353.length : Int) = (wrap64 (t349 + 1)) then (if 0 ≤ t349 then (if t349 < (t353.length : Int) then (laws_FnGaps.j5 kj54 t346 t347 t349 ((rd t353 t349) != t347) t344 t345) else (none)) else (none)) else (laws_FnGaps.j5 kj54 t346 t347 t349 true t344 t345)) else (laws_FnGaps.j5 kj54 t346 t347 t349 true t344 t345)) else (laws_FnGaps.j5 kj54 t346 t347 t349 true t344 t345)) else (laws_FnGaps.j5 kj54 t346 t347 t349 true t344 t345)) else (laws_FnGaps.j5 kj54 t346 t347 t349 true t344 t345)) = some r := H
                            have A77 := Aside0.mk A770
                            clear A770
                            have HC78 := Aside0.mk H
                            clear H
                            have hnb79 := NB348_365.out
                            have hnc79 := NB365_348.out
                            have hcz80_0 : wc.cell? ⟨gb348, 0, none⟩ = some (.int .i64 t344) := (blk_cell BK348.out 0).trans rfl
                            have hcz80_1 : wc.cell? ⟨gb348, 1, none⟩ = some (.bool t345) := (blk_cell BK348.out 1).trans rfl
                            have hfz80_0 := blk_frozen BK348.out 0
                            have hfz80_1 := blk_frozen BK348.out 1
                            go_upto_region 28 with (first | ((with_reducible refine gate_callee (f := 9) rfl ?_); refine goesL_ (some 153) rfl rfl Try.func9 (by kernel_rfl) rfl #[.agg #[.int .i64 t344, .bool t345], .int .i64 t347, .int .i64 t346] rfl (by (try simp only [List.map_toArray, List.map_cons, List.map_nil]); first | done | rfl | (simp only [List.length_drop, List.length_take]; rfl)) ?_; (with_reducible refine (impl_GapOf.calls kj54 t344 t345 t347 t346 t380 t381 _ A76.out).mono ?_); rintro e w81 ⟨rfl, hb⟩; refine ⟨_, rfl, ?_⟩; have n0_ := Aside0.mk (Kd.R_below (by (with_reducible repeat (first | apply Kd.R_alloc | apply Kd.R_drewN | apply Kd.R_drew)); exact HO_10.out) hb); have n1_ := Aside0.mk (blk_below (g := gb348) (o := .cells #[.int .i64 t344, .bool t345] 25 (0, 0)) (by (with_reducible repeat (first | refine blk_drewN ?_ _ | refine blk_drew ?_ | refine blk_alloc ?_ _)); exact BK348.out) hb); have n2_ := Aside0.mk (blk_below (g := gb365) (o := .cells #[.int .i64 t362, .bool t363] 25 (0, 0)) (by (with_reducible repeat (first | refine blk_drewN ?_ _ | refine blk_drew ?_ | refine blk_alloc ?_ _)); exact BK365.out) hb); have n3_ := Aside0.mk (below_step (by repeat (first | (with_reducible first | exact HB.out | apply below_alloc | apply pw_below_drewN | apply below_drew1 | refine below_set ?_ GE348.out | refine below_set ?_ GE365.out) | exact HB.out)) hb); clear HO_10; clear BK348; clear BK365; clear HB; have HO_10 := n0_; have BK348 := n1_; have BK365 := n2_; have HB := n3_; clear n0_ n1_ n2_ n3_; (try clear hb); (try clear hb2); (try clear hk); (try clear hi); have hcz82_0 : w81.cell? ⟨gb348, 0, none⟩ = some (.int .i64 t344) := (blk_cell BK348.out 0).trans rfl; have hcz82_1 : w81.cell? ⟨gb348, 1, none⟩ = some (.bool t345) := (blk_cell BK348.out 1).trans rfl; have hfz82_0 := blk_frozen BK348.out 0; have hfz82_1 := blk_frozen BK348.out 1; obtain ⟨Ao83, co83, eo83⟩ := Kd.R_slice HO_10.out; subst eo83) | ((with_reducible refine gate_callee (f := 20) rfl ?_); refine goesL_ (some 159) rfl rfl Try.func20 (by kernel_rfl) rfl #[.agg #[.int .i64 t344, .bool t345], .slice Ao83 t353.length co83] rfl (by (try simp only [List.map_toArray, List.map_cons, List.map_nil]); first | done | rfl | (simp only [List.length_drop, List.length_take]; rfl)) ?_; (with_reducible refine (impl_IsWalk.calls kj54 t344 t345 _ _ t353 t382 t383 _ ?side1 ?side2 A77.out).mono ?_); (case side1 => repeat (first | exact (Kd.R_reads' HO_10.out).2.2 | (with_reducible refine Kd.C_alloc ?_ _) | (with_reducible refine Kd.C_drewN ?_ _) | (with_reducible refine Kd.C_drew ?_))); (case side2 => exact (Kd.R_reads' HO_10.out).2.1); rintro e w84 ⟨rfl, hb⟩; refine ⟨_, rfl, ?_⟩; have n0_ := Aside0.mk (Kd.R_below (by (with_reducible repeat (first | apply Kd.R_alloc | apply Kd.R_drewN | apply Kd.R_drew)); exact HO_10.out) hb); have n1_ := Aside0.mk (blk_below (g := gb348) (o := .cells #[.int .i64 t344, .bool t345] 25 (0, 0)) (by (with_reducible repeat (first | refine blk_drewN ?_ _ | refine blk_drew ?_ | refine blk_alloc ?_ _)); exact BK348.out) hb); have n2_ := Aside0.mk (blk_below (g := gb365) (o := .cells #[.int .i64 t362, .bool t363] 25 (0, 0)) (by (with_reducible repeat (first | refine blk_drewN ?_ _ | refine blk_drew ?_ | refine blk_alloc ?_ _)); exact BK365.out) hb); have n3_ := Aside0.mk (below_step (by repeat (first | (with_reducible first | exact HB.out | apply below_alloc | apply pw_below_drewN | apply below_drew1 | refine below_set ?_ GE348.out | refine below_set ?_ GE365.out) | exact HB.out)) hb); clear HO_10; clear BK348; clear BK365; clear HB; have HO_10 := n0_; have BK348 := n1_; have BK365 := n2_; have HB := n3_; clear n0_ n1_ n2_ n3_; (try clear hb); (try clear hb2); (try clear hk); (try clear hi)))
                            (try simp only [Act.put, List.setIfInBounds_toArray, List.set_cons_zero, List.set_cons_succ])
                            go_cut [191] (fun v191 wc => ∃ (kq : Nat) (x191_77 : Bool), v191 = .bool x191_77 ∧ Aside0 (laws_FnGaps.j5 kq t346 t347 t349 x191_77 t344 t345 = some r) ∧ Aside0 (kq ≤ kj54) ∧ Aside0 (wc.heap[gb348]? = some (.cells #[.int .i64 t344, .bool t345] 25 (0, 0))) ∧ Aside0 (wc.heap[gb365]? = some (.cells #[.int .i64 t362, .bool t363] 25 (0, 0))) ∧ Aside0 (Below w.heap.size w wc))
                            case first =>
                              have H := HC78.out
                              clear HC78
                              by_cases c85 : t381 = true
                              · subst c85
                                have H1 : (if t383 = true then (if t380 = t349 then (if t382 = true then (if (t353.length : Int) = (wrap64 (t349 + 1)) then (if 0 ≤ t349 then (if t349 < (t353.length : Int) then (laws_FnGaps.j5 kj54 t346 t347 t349 ((rd t353 t349) != t347) t344 t345) else (none)) else (none)) else (laws_FnGaps.j5 kj54 t346 t347 t349 true t344 t345)) else (laws_FnGaps.j5 kj54 t346 t347 t349 true t344 t345)) else (laws_FnGaps.j5 kj54 t346 t347 t349 true t344 t345)) else (laws_FnGaps.j5 kj54 t346 t347 t349 true t344 t345)) = some r := by rw [if_pos rfl] at H; exact H
                                clear H
                                have H := H1
                                clear H1
                                by_cases c86 : t383 = true
                                · subst c86
                                  have H1 : (if t380 = t349 then (if t382 = true then (if (t353.length : Int) = (wrap64 (t349 + 1)) then (if 0 ≤ t349 then (if t349 < (t353.length : Int) then (laws_FnGaps.j5 kj54 t346 t347 t349 ((rd t353 t349) != t347) t344 t345) else (none)) else (none)) else (laws_FnGaps.j5 kj54 t346 t347 t349 true t344 t345)) else (laws_FnGaps.j5 kj54 t346 t347 t349 true t344 t345)) else (laws_FnGaps.j5 kj54 t346 t347 t349 true t344 t345)) = some r := by rw [if_pos rfl] at H; exact H
                                  clear H
                                  have H := H1
                                  clear H1
                                  by_cases c87 : t380 = t349
                                  · rw [if_pos c87] at H
                                    have c87b0 : (t380 == t349) = true := beq_iff_eq.mpr c87
                                    have c87b1 : (t380 != t349) = false := bne_eq_false_iff_eq.mpr c87
                                    clear c87
                                    (first | rw [c87b0] | (simp only [i64_w, i32_w]; rw [c87b0]) | skip)
                                    by_cases c88 : t382 = true
                                    · subst c88
                                      have H1 : (if (t353.length : Int) = (wrap64 (t349 + 1)) then (if 0 ≤ t349 then (if t349 < (t353.length : Int) then (laws_FnGaps.j5 kj54 t346 t347 t349 ((rd t353 t349) != t347) t344 t345) else (none)) else (none)) else (laws_FnGaps.j5 kj54 t346 t347 t349 true t344 t345)) = some r := by rw [if_pos rfl] at H; exact H
                                      clear H
                                      have H := H1
                                      clear H1
                                      by_cases c89 : (t353.length : Int) = (wrap64 (t349 + 1))
                                      · rw [if_pos c89] at H
                                        have c89b0 : ((t353.length : Int) == (wrap64 (t349 + 1))) = true := beq_iff_eq.mpr c89
                                        have c89b1 : ((t353.length : Int) != (wrap64 (t349 + 1))) = false := bne_eq_false_iff_eq.mpr c89
                                        clear c89
                                        by_cases c90 : 0 ≤ t349
                                        · rw [if_pos c90] at H
                                          have c90b0 : decide (0 ≤ t349) = true := decide_eq_true c90
                                          clear c90
                                          by_cases c91 : t349 < (t353.length : Int)
                                          · rw [if_pos c91] at H
                                            have c91b0 : decide (t349 < (t353.length : Int)) = true := decide_eq_true c91
                                            clear c91
                                            as_aux_lemma =>
                                              have H' := Aside0.mk H
                                              clear H
                                              have p384 : 0 ≤ (t349 : Int) := of_decide_eq_true (by first | (with_reducible assumption) | assumption)
                                              have q384 : t349 < (t353.length : Int) := of_decide_eq_true (by first | (with_reducible assumption) | assumption)
                                              obtain ⟨ad384, e384, hx384_0⟩ := Kd.at_int (Kd.R_reads' HO_10.out).2.2 t349 p384 q384
                                              cases e384
                                              replace p384 := eq_true p384
                                              replace q384 := eq_true q384
                                              go_wp2
                                              go_meet
                                              case rel => exact ⟨_, (((rd t353 t349) != t347)), (by first | rfl | (simp; done) | (simp only [i64_w, i32_w]; done) | (simp only [i64_w, i32_w] <;> (first | rfl | simp)) | (simp [*]; done)), H', ⟨by have := HJ6.out; have := HJ17.out; have := HJ31.out; have := HJ54.out; first | omega | exact Nat.le_refl _⟩, ⟨by (with_reducible repeat (first | refine blk_drewN ?_ _ | refine blk_drew ?_ | refine blk_alloc ?_ _)); exact BK348.out⟩, ⟨by (with_reducible repeat (first | refine blk_drewN ?_ _ | refine blk_drew ?_ | refine blk_alloc ?_ _)); exact BK365.out⟩, ⟨by repeat (first | (with_reducible first | exact HB.out | apply below_alloc | apply pw_below_drewN | apply below_drew1 | refine below_set ?_ GE348.out | refine below_set ?_ GE365.out) | exact HB.out)⟩⟩
                                          · rw [if_neg c91] at H
                                            exact absurd H (by simp)
                                        · rw [if_neg c90] at H
                                          exact absurd H (by simp)
                                      · rw [if_neg c89] at H
                                        have c89b0 : ((t353.length : Int) == (wrap64 (t349 + 1))) = false := beq_eq_false_iff_ne.mpr c89
                                        have c89b1 : ((t353.length : Int) != (wrap64 (t349 + 1))) = true := bne_iff_ne.mpr c89
                                        as_aux_lemma =>
                                          have H' := Aside0.mk H
                                          clear H
                                          go_wp2
                                          go_meet
                                          case rel => exact ⟨_, (true), (by first | rfl | (simp; done) | (simp only [i64_w, i32_w]; done) | (simp only [i64_w, i32_w] <;> (first | rfl | simp)) | (simp [*]; done)), H', ⟨by have := HJ6.out; have := HJ17.out; have := HJ31.out; have := HJ54.out; first | omega | exact Nat.le_refl _⟩, ⟨by (with_reducible repeat (first | refine blk_drewN ?_ _ | refine blk_drew ?_ | refine blk_alloc ?_ _)); exact BK348.out⟩, ⟨by (with_reducible repeat (first | refine blk_drewN ?_ _ | refine blk_drew ?_ | refine blk_alloc ?_ _)); exact BK365.out⟩, ⟨by repeat (first | (with_reducible first | exact HB.out | apply below_alloc | apply pw_below_drewN | apply below_drew1 | refine below_set ?_ GE348.out | refine below_set ?_ GE365.out) | exact HB.out)⟩⟩
                                    · replace c88 := Bool.eq_false_iff.mpr c88
                                      subst c88
                                      have H1 : (laws_FnGaps.j5 kj54 t346 t347 t349 true t344 t345) = some r := by rw [if_neg (show ¬ (false = true) by decide)] at H; exact H
                                      clear H
                                      have H := H1
                                      clear H1
                                      as_aux_lemma =>
                                        have H' := Aside0.mk H
                                        clear H
                                        go_wp2
                                        go_meet
                                        case rel => exact ⟨_, (true), (by first | rfl | (simp; done) | (simp only [i64_w, i32_w]; done) | (simp only [i64_w, i32_w] <;> (first | rfl | simp)) | (simp [*]; done)), H', ⟨by have := HJ6.out; have := HJ17.out; have := HJ31.out; have := HJ54.out; first | omega | exact Nat.le_refl _⟩, ⟨by (with_reducible repeat (first | refine blk_drewN ?_ _ | refine blk_drew ?_ | refine blk_alloc ?_ _)); exact BK348.out⟩, ⟨by (with_reducible repeat (first | refine blk_drewN ?_ _ | refine blk_drew ?_ | refine blk_alloc ?_ _)); exact BK365.out⟩, ⟨by repeat (first | (with_reducible first | exact HB.out | apply below_alloc | apply pw_below_drewN | apply below_drew1 | refine below_set ?_ GE348.out | refine below_set ?_ GE365.out) | exact HB.out)⟩⟩
                                  · rw [if_neg c87] at H
                                    have c87b0 : (t380 == t349) = false := beq_eq_false_iff_ne.mpr c87
                                    have c87b1 : (t380 != t349) = true := bne_iff_ne.mpr c87
                                    (first | rw [c87b0] | (simp only [i64_w, i32_w]; rw [c87b0]) | skip)
                                    as_aux_lemma =>
                                      have H' := Aside0.mk H
                                      clear H
                                      go_wp2
                                      go_meet
                                      case rel => exact ⟨_, (true), (by first | rfl | (simp; done) | (simp only [i64_w, i32_w]; done) | (simp only [i64_w, i32_w] <;> (first | rfl | simp)) | (simp [*]; done)), H', ⟨by have := HJ6.out; have := HJ17.out; have := HJ31.out; have := HJ54.out; first | omega | exact Nat.le_refl _⟩, ⟨by (with_reducible repeat (first | refine blk_drewN ?_ _ | refine blk_drew ?_ | refine blk_alloc ?_ _)); exact BK348.out⟩, ⟨by (with_reducible repeat (first | refine blk_drewN ?_ _ | refine blk_drew ?_ | refine blk_alloc ?_ _)); exact BK365.out⟩, ⟨by repeat (first | (with_reducible first | exact HB.out | apply below_alloc | apply pw_below_drewN | apply below_drew1 | refine below_set ?_ GE348.out | refine below_set ?_ GE365.out) | exact HB.out)⟩⟩
                                · replace c86 := Bool.eq_false_iff.mpr c86
                                  subst c86
                                  have H1 : (laws_FnGaps.j5 kj54 t346 t347 t349 true t344 t345) = some r := by rw [if_neg (show ¬ (false = true) by decide)] at H; exact H
                                  clear H
                                  have H := H1
                                  clear H1
                                  as_aux_lemma =>
                                    have H' := Aside0.mk H
                                    clear H
                                    go_wp2
                                    go_meet
                                    case rel => exact ⟨_, (true), (by first | rfl | (simp; done) | (simp only [i64_w, i32_w]; done) | (simp only [i64_w, i32_w] <;> (first | rfl | simp)) | (simp [*]; done)), H', ⟨by have := HJ6.out; have := HJ17.out; have := HJ31.out; have := HJ54.out; first | omega | exact Nat.le_refl _⟩, ⟨by (with_reducible repeat (first | refine blk_drewN ?_ _ | refine blk_drew ?_ | refine blk_alloc ?_ _)); exact BK348.out⟩, ⟨by (with_reducible repeat (first | refine blk_drewN ?_ _ | refine blk_drew ?_ | refine blk_alloc ?_ _)); exact BK365.out⟩, ⟨by repeat (first | (with_reducible first | exact HB.out | apply below_alloc | apply pw_below_drewN | apply below_drew1 | refine below_set ?_ GE348.out | refine below_set ?_ GE365.out) | exact HB.out)⟩⟩
                              · replace c85 := Bool.eq_false_iff.mpr c85
                                subst c85
                                have H1 : (laws_FnGaps.j5 kj54 t346 t347 t349 true t344 t345) = some r := by rw [if_neg (show ¬ (false = true) by decide)] at H; exact H
                                clear H
                                have H := H1
                                clear H1
                                as_aux_lemma =>
                                  have H' := Aside0.mk H
                                  clear H
                                  go_wp2
                                  go_meet
                                  case rel => exact ⟨_, (true), (by first | rfl | (simp; done) | (simp only [i64_w, i32_w]; done) | (simp only [i64_w, i32_w] <;> (first | rfl | simp)) | (simp [*]; done)), H', ⟨by have := HJ6.out; have := HJ17.out; have := HJ31.out; have := HJ54.out; first | omega | exact Nat.le_refl _⟩, ⟨by (with_reducible repeat (first | refine blk_drewN ?_ _ | refine blk_drew ?_ | refine blk_alloc ?_ _)); exact BK348.out⟩, ⟨by (with_reducible repeat (first | refine blk_drewN ?_ _ | refine blk_drew ?_ | refine blk_alloc ?_ _)); exact BK365.out⟩, ⟨by repeat (first | (with_reducible first | exact HB.out | apply below_alloc | apply pw_below_drewN | apply below_drew1 | refine below_set ?_ GE348.out | refine below_set ?_ GE365.out) | exact HB.out)⟩⟩
                            case rest =>
                              clear HC78
                              try clear c1
                              try clear c2
                              try clear p2
                              try clear c3
                              try clear p3
                              try clear q3
                              try clear hx3
                              try clear c4
                              try clear c5
                              try clear c6
                              try clear p6
                              try clear c7
                              try clear c8
                              try clear c9
                              try clear c13
                              try clear c14
                              try clear c15
                              try clear c16
                              try clear c17
                              try clear c18
                              try clear c20
                              try clear c28
                              try clear c35
                              try clear p38
                              try clear q38
                              try clear hx38
                              try clear c40
                              try clear c40b0
                              try clear c40b1
                              try clear c40b2
                              try clear c43
                              try clear c54
                              try clear c56
                              try clear c57
                              try clear c57b0
                              try clear c59
                              try clear c61
                              try clear c61b0
                              try clear c61b1
                              try clear c61b2
                              try clear c62
                              try clear p64
                              try clear c66
                              try clear c70
                              try clear c73
                              try clear c75
                              try clear c79
                              try clear c85
                              try clear c86
                              try clear c87
                              try clear c87b0
                              try clear c87b1
                              try clear c88
                              try clear c89
                              try clear c89b0
                              try clear c89b1
                              try clear c90
                              try clear c90b0
                              try clear c91
                              try clear c91b0
                              try clear hcz10_0
                              try clear hcz10_1
                              try clear hcz12_0
                              try clear hcz12_1
                              try clear hcz19_0
                              try clear hcz19_1
                              try clear hcz21_0
                              try clear hcz21_1
                              try clear hcz36_0
                              try clear hcz36_1
                              try clear hcz38_0
                              try clear hcz38_1
                              try clear hcz63_0
                              try clear hcz63_1
                              try clear hcz67_0
                              try clear hcz67_1
                              try clear hcz71_0
                              try clear hcz71_1
                              try clear hcz74_0
                              try clear hcz74_1
                              try clear hcz80_0
                              try clear hcz80_1
                              try clear hcz82_0
                              try clear hcz82_1
                              try clear hfz10_0
                              try clear hfz10_1
                              try clear hfz12_0
                              try clear hfz12_1
                              try clear hfz19_0
                              try clear hfz19_1
                              try clear hfz21_0
                              try clear hfz21_1
                              try clear hfz36_0
                              try clear hfz36_1
                              try clear hfz38_0
                              try clear hfz38_1
                              try clear hfz63_0
                              try clear hfz63_1
                              try clear hfz67_0
                              try clear hfz67_1
                              try clear hfz71_0
                              try clear hfz71_1
                              try clear hfz74_0
                              try clear hfz74_1
                              try clear hfz80_0
                              try clear hfz80_1
                              try clear hfz82_0
                              try clear hfz82_1
                              try clear hx384_0
                              try clear p2
                              try clear p384
                              try clear p6
                              try clear p64
                              try clear q384
                              obtain ⟨kq, x191_77, rfl, HA, HJ77, BK348, BK365, HB⟩ := hcut
                              cases kq with
                              | zero => exact absurd HA.out (by simp [laws_FnGaps.j5])
                              | succ kj77 =>
                                have H := HA.out
                                clear HA
                                simp only [laws_FnGaps.j5] at H
                                by_cases c92 : x191_77 = true
                                · subst c92
                                  have H1 : (some false) = some r := by rw [if_pos rfl] at H; exact H
                                  clear H
                                  have H := H1
                                  clear H1
                                  as_aux_lemma =>
                                    obtain rfl := Option.some.inj H
                                    go_wp2
                                    go_ret
                                    exact ⟨by first | rfl | (simp [errW_none, errW_some] <;> rfl) | (simp [*, errW_none, errW_some] <;> rfl), by repeat (first | (with_reducible first | exact HB.out | apply below_alloc | apply pw_below_drewN | apply below_drew1 | refine below_set ?_ GE348.out | refine below_set ?_ GE365.out) | exact HB.out)⟩
                                · replace c92 := Bool.eq_false_iff.mpr c92
                                  subst c92
                                  have H1 : (laws_FnGaps.l1 kj77 t346 t347 t349 0 t344 t345) = some r := by rw [if_neg (show ¬ (false = true) by decide)] at H; exact H
                                  clear H
                                  have H := H1
                                  clear H1
                                  have H' := Aside0.mk H
                                  clear H
                                  go_wp2
                                  go_loopg [27] kj77 (fun kq v27 w' => ∃ (x27_6 : Int), v27 = .int .i64 x27_6 ∧ Aside0 (laws_FnGaps.l1 kq t346 t347 t349 x27_6 t344 t345 = some r) ∧ Aside0 (kq ≤ kj77) ∧ Aside0 (w'.heap[gb348]? = some (.cells #[.int .i64 t344, .bool t345] 25 (0, 0))) ∧ Aside0 (w'.heap[gb365]? = some (.cells #[.int .i64 t362, .bool t363] 25 (0, 0))) ∧ Aside0 (Below w.heap.size w w'))
                                  case atStart => exact ⟨(0), (by first | rfl | (simp; done) | (simp only [i64_w, i32_w]; done) | (simp only [i64_w, i32_w] <;> (first | rfl | simp)) | (simp [*]; done)), H', ⟨Nat.le_refl _⟩, ⟨by (with_reducible repeat (first | refine blk_drewN ?_ _ | refine blk_drew ?_ | refine blk_alloc ?_ _)); exact BK348.out⟩, ⟨by (with_reducible repeat (first | refine blk_drewN ?_ _ | refine blk_drew ?_ | refine blk_alloc ?_ _)); exact BK365.out⟩, ⟨by repeat (first | (with_reducible first | exact HB.out | apply below_alloc | apply pw_below_drewN | apply below_drew1 | refine below_set ?_ GE348.out | refine below_set ?_ GE365.out) | exact HB.out)⟩⟩
                                  case round =>
                                    clear H'
                                    try clear c1
                                    try clear c2
                                    try clear p2
                                    try clear c3
                                    try clear p3
                                    try clear q3
                                    try clear hx3
                                    try clear c4
                                    try clear c5
                                    try clear c6
                                    try clear p6
                                    try clear c7
                                    try clear c8
                                    try clear c9
                                    try clear c13
                                    try clear c14
                                    try clear c15
                                    try clear c16
                                    try clear c17
                                    try clear c18
                                    try clear c20
                                    try clear c28
                                    try clear c35
                                    try clear p38
                                    try clear q38
                                    try clear hx38
                                    try clear c40
                                    try clear c40b0
                                    try clear c40b1
                                    try clear c40b2
                                    try clear c43
                                    try clear c54
                                    try clear c56
                                    try clear c57
                                    try clear c57b0
                                    try clear c59
                                    try clear c61
                                    try clear c61b0
                                    try clear c61b1
                                    try clear c61b2
                                    try clear c62
                                    try clear p64
                                    try clear c66
                                    try clear c70
                                    try clear c73
                                    try clear c75
                                    try clear c79
                                    try clear c85
                                    try clear c86
                                    try clear c87
                                    try clear c87b0
                                    try clear c87b1
                                    try clear c88
                                    try clear c89
                                    try clear c89b0
                                    try clear c89b1
                                    try clear c90
                                    try clear c90b0
                                    try clear c91
                                    try clear c91b0
                                    try clear c92
                                    try clear hcz10_0
                                    try clear hcz10_1
                                    try clear hcz12_0
                                    try clear hcz12_1
                                    try clear hcz19_0
                                    try clear hcz19_1
                                    try clear hcz21_0
                                    try clear hcz21_1
                                    try clear hcz36_0
                                    try clear hcz36_1
                                    try clear hcz38_0
                                    try clear hcz38_1
                                    try clear hcz63_0
                                    try clear hcz63_1
                                    try clear hcz67_0
                                    try clear hcz67_1
                                    try clear hcz71_0
                                    try clear hcz71_1
                                    try clear hcz74_0
                                    try clear hcz74_1
                                    try clear hcz80_0
                                    try clear hcz80_1
                                    try clear hcz82_0
                                    try clear hcz82_1
                                    try clear hfz10_0
                                    try clear hfz10_1
                                    try clear hfz12_0
                                    try clear hfz12_1
                                    try clear hfz19_0
                                    try clear hfz19_1
                                    try clear hfz21_0
                                    try clear hfz21_1
                                    try clear hfz36_0
                                    try clear hfz36_1
                                    try clear hfz38_0
                                    try clear hfz38_1
                                    try clear hfz63_0
                                    try clear hfz63_1
                                    try clear hfz67_0
                                    try clear hfz67_1
                                    try clear hfz71_0
                                    try clear hfz71_1
                                    try clear hfz74_0
                                    try clear hfz74_1
                                    try clear hfz80_0
                                    try clear hfz80_1
                                    try clear hfz82_0
                                    try clear hfz82_1
                                    try clear hx384_0
                                    try clear p2
                                    try clear p3
                                    try clear p38
                                    try clear p384
                                    try clear p6
                                    try clear p64
                                    try clear q3
                                    try clear q38
                                    try clear q384
                                    obtain ⟨x27_6, rfl, HA, HK6, BK348, BK365, HB⟩ := hrel
                                    cases gk with
                                    | zero => exact absurd HA.out (by simp [laws_FnGaps.l1])
                                    | succ k6 =>
                                      have H := HA.out
                                      clear HA
                                      simp only [laws_FnGaps.l1] at H
                                      by_cases c93 : x27_6 < t344
                                      · rw [if_pos c93] at H
                                        have c93b0 : decide (x27_6 < t344) = true := decide_eq_true c93
                                        clear c93
                                        replace H := Option.bind_eq_some_iff.mp H
                                        obtain ⟨⟨t385, t386⟩, A940, H⟩ := H
                                        replace H : ((impl_GapOf.f k6 t344 t345 x27_6 t347).bind fun bt387 => (if t386 = true then (if bt387.2 = true then (if t349 > (wrap64 (t385 + bt387.1)) then (some false) else (laws_FnGaps.l1 k6 t346 t347 t349 (wrap64 (x27_6 + 1)) t344 t345)) else (some false)) else (some false))) = some r := H
                                        have A94 := Aside0.mk A940
                                        clear A940
                                        replace H := Option.bind_eq_some_iff.mp H
                                        obtain ⟨⟨t387, t388⟩, A950, H⟩ := H
                                        replace H : (if t386 = true then (if t388 = true then (if t349 > (wrap64 (t385 + t387)) then (some false) else (laws_FnGaps.l1 k6 t346 t347 t349 (wrap64 (x27_6 + 1)) t344 t345)) else (some false)) else (some false)) = some r := H
                                        have A95 := Aside0.mk A950
                                        clear A950
                                        by_cases c96 : t386 = true
                                        · subst c96
                                          have H1 : (if t388 = true then (if t349 > (wrap64 (t385 + t387)) then (some false) else (laws_FnGaps.l1 k6 t346 t347 t349 (wrap64 (x27_6 + 1)) t344 t345)) else (some false)) = some r := by rw [if_pos rfl] at H; exact H
                                          clear H
                                          have H := H1
                                          clear H1
                                          by_cases c97 : t388 = true
                                          · subst c97
                                            have H1 : (if t349 > (wrap64 (t385 + t387)) then (some false) else (laws_FnGaps.l1 k6 t346 t347 t349 (wrap64 (x27_6 + 1)) t344 t345)) = some r := by rw [if_pos rfl] at H; exact H
                                            clear H
                                            have H := H1
                                            clear H1
                                            by_cases c98 : t349 > (wrap64 (t385 + t387))
                                            · rw [if_pos c98] at H
                                              have c98b0 : decide ((wrap64 (t385 + t387)) < t349) = true := decide_eq_true c98
                                              clear c98
                                              as_aux_lemma =>
                                                obtain rfl := Option.some.inj H
                                                have hnb99 := NB348_365.out
                                                have hnc99 := NB365_348.out
                                                have hcz100_0 : wr.cell? ⟨gb348, 0, none⟩ = some (.int .i64 t344) := (blk_cell BK348.out 0).trans rfl
                                                have hcz100_1 : wr.cell? ⟨gb348, 1, none⟩ = some (.bool t345) := (blk_cell BK348.out 1).trans rfl
                                                have hfz100_0 := blk_frozen BK348.out 0
                                                have hfz100_1 := blk_frozen BK348.out 1
                                                go_wp2_with (first | ((with_reducible refine gate_callee (f := 9) rfl ?_); refine goesL_ (some 202) rfl rfl Try.func9 (by kernel_rfl) rfl #[.agg #[.int .i64 t344, .bool t345], .int .i64 t346, .int .i64 x27_6] rfl (by (try simp only [List.map_toArray, List.map_cons, List.map_nil]); first | done | rfl | (simp only [List.length_drop, List.length_take]; rfl)) ?_; (with_reducible refine (impl_GapOf.calls k6 t344 t345 t346 x27_6 t385 true _ A94.out).mono ?_); rintro e w101 ⟨rfl, hb⟩; refine ⟨_, rfl, ?_⟩; have n0_ := Aside0.mk (blk_below (g := gb348) (o := .cells #[.int .i64 t344, .bool t345] 25 (0, 0)) (by (with_reducible repeat (first | refine blk_drewN ?_ _ | refine blk_drew ?_ | refine blk_alloc ?_ _)); exact BK348.out) hb); have n1_ := Aside0.mk (blk_below (g := gb365) (o := .cells #[.int .i64 t362, .bool t363] 25 (0, 0)) (by (with_reducible repeat (first | refine blk_drewN ?_ _ | refine blk_drew ?_ | refine blk_alloc ?_ _)); exact BK365.out) hb); have n2_ := Aside0.mk (below_step (by repeat (first | (with_reducible first | exact HB.out | apply below_alloc | apply pw_below_drewN | apply below_drew1 | refine below_set ?_ GE348.out | refine below_set ?_ GE365.out) | exact HB.out)) hb); clear BK348; clear BK365; clear HB; have BK348 := n0_; have BK365 := n1_; have HB := n2_; clear n0_ n1_ n2_; (try clear hb); (try clear hb2); (try clear hk); (try clear hi); have hcz102_0 : w101.cell? ⟨gb348, 0, none⟩ = some (.int .i64 t344) := (blk_cell BK348.out 0).trans rfl; have hcz102_1 : w101.cell? ⟨gb348, 1, none⟩ = some (.bool t345) := (blk_cell BK348.out 1).trans rfl; have hfz102_0 := blk_frozen BK348.out 0; have hfz102_1 := blk_frozen BK348.out 1) | ((with_reducible refine gate_callee (f := 9) rfl ?_); refine goesL_ (some 209) rfl rfl Try.func9 (by kernel_rfl) rfl #[.agg #[.int .i64 t344, .bool t345], .int .i64 x27_6, .int .i64 t347] rfl (by (try simp only [List.map_toArray, List.map_cons, List.map_nil]); first | done | rfl | (simp only [List.length_drop, List.length_take]; rfl)) ?_; (with_reducible refine (impl_GapOf.calls k6 t344 t345 x27_6 t347 t387 true _ A95.out).mono ?_); rintro e w103 ⟨rfl, hb⟩; refine ⟨_, rfl, ?_⟩; have n0_ := Aside0.mk (blk_below (g := gb348) (o := .cells #[.int .i64 t344, .bool t345] 25 (0, 0)) (by (with_reducible repeat (first | refine blk_drewN ?_ _ | refine blk_drew ?_ | refine blk_alloc ?_ _)); exact BK348.out) hb); have n1_ := Aside0.mk (blk_below (g := gb365) (o := .cells #[.int .i64 t362, .bool t363] 25 (0, 0)) (by (with_reducible repeat (first | refine blk_drewN ?_ _ | refine blk_drew ?_ | refine blk_alloc ?_ _)); exact BK365.out) hb); have n2_ := Aside0.mk (below_step (by repeat (first | (with_reducible first | exact HB.out | apply below_alloc | apply pw_below_drewN | apply below_drew1 | refine below_set ?_ GE348.out | refine below_set ?_ GE365.out) | exact HB.out)) hb); clear BK348; clear BK365; clear HB; have BK348 := n0_; have BK365 := n1_; have HB := n2_; clear n0_ n1_ n2_; (try clear hb); (try clear hb2); (try clear hk); (try clear hi)))
                                                go_ret
                                                exact ⟨by first | rfl | (simp [errW_none, errW_some] <;> rfl) | (simp [*, errW_none, errW_some] <;> rfl), by repeat (first | (with_reducible first | exact HB.out | apply below_alloc | apply pw_below_drewN | apply below_drew1 | refine below_set ?_ GE348.out | refine below_set ?_ GE365.out) | exact HB.out)⟩
                                            · rw [if_neg c98] at H
                                              have c98b0 : decide ((wrap64 (t385 + t387)) < t349) = false := decide_eq_false c98
                                              clear c98
                                              as_aux_lemma =>
                                                have H' := Aside0.mk H
                                                clear H
                                                have hnb104 := NB348_365.out
                                                have hnc104 := NB365_348.out
                                                have hcz105_0 : wr.cell? ⟨gb348, 0, none⟩ = some (.int .i64 t344) := (blk_cell BK348.out 0).trans rfl
                                                have hcz105_1 : wr.cell? ⟨gb348, 1, none⟩ = some (.bool t345) := (blk_cell BK348.out 1).trans rfl
                                                have hfz105_0 := blk_frozen BK348.out 0
                                                have hfz105_1 := blk_frozen BK348.out 1
                                                go_wp2_with (first | ((with_reducible refine gate_callee (f := 9) rfl ?_); refine goesL_ (some 202) rfl rfl Try.func9 (by kernel_rfl) rfl #[.agg #[.int .i64 t344, .bool t345], .int .i64 t346, .int .i64 x27_6] rfl (by (try simp only [List.map_toArray, List.map_cons, List.map_nil]); first | done | rfl | (simp only [List.length_drop, List.length_take]; rfl)) ?_; (with_reducible refine (impl_GapOf.calls k6 t344 t345 t346 x27_6 t385 true _ A94.out).mono ?_); rintro e w106 ⟨rfl, hb⟩; refine ⟨_, rfl, ?_⟩; have n0_ := Aside0.mk (blk_below (g := gb348) (o := .cells #[.int .i64 t344, .bool t345] 25 (0, 0)) (by (with_reducible repeat (first | refine blk_drewN ?_ _ | refine blk_drew ?_ | refine blk_alloc ?_ _)); exact BK348.out) hb); have n1_ := Aside0.mk (blk_below (g := gb365) (o := .cells #[.int .i64 t362, .bool t363] 25 (0, 0)) (by (with_reducible repeat (first | refine blk_drewN ?_ _ | refine blk_drew ?_ | refine blk_alloc ?_ _)); exact BK365.out) hb); have n2_ := Aside0.mk (below_step (by repeat (first | (with_reducible first | exact HB.out | apply below_alloc | apply pw_below_drewN | apply below_drew1 | refine below_set ?_ GE348.out | refine below_set ?_ GE365.out) | exact HB.out)) hb); clear BK348; clear BK365; clear HB; have BK348 := n0_; have BK365 := n1_; have HB := n2_; clear n0_ n1_ n2_; (try clear hb); (try clear hb2); (try clear hk); (try clear hi); have hcz107_0 : w106.cell? ⟨gb348, 0, none⟩ = some (.int .i64 t344) := (blk_cell BK348.out 0).trans rfl; have hcz107_1 : w106.cell? ⟨gb348, 1, none⟩ = some (.bool t345) := (blk_cell BK348.out 1).trans rfl; have hfz107_0 := blk_frozen BK348.out 0; have hfz107_1 := blk_frozen BK348.out 1) | ((with_reducible refine gate_callee (f := 9) rfl ?_); refine goesL_ (some 209) rfl rfl Try.func9 (by kernel_rfl) rfl #[.agg #[.int .i64 t344, .bool t345], .int .i64 x27_6, .int .i64 t347] rfl (by (try simp only [List.map_toArray, List.map_cons, List.map_nil]); first | done | rfl | (simp only [List.length_drop, List.length_take]; rfl)) ?_; (with_reducible refine (impl_GapOf.calls k6 t344 t345 x27_6 t347 t387 true _ A95.out).mono ?_); rintro e w108 ⟨rfl, hb⟩; refine ⟨_, rfl, ?_⟩; have n0_ := Aside0.mk (blk_below (g := gb348) (o := .cells #[.int .i64 t344, .bool t345] 25 (0, 0)) (by (with_reducible repeat (first | refine blk_drewN ?_ _ | refine blk_drew ?_ | refine blk_alloc ?_ _)); exact BK348.out) hb); have n1_ := Aside0.mk (blk_below (g := gb365) (o := .cells #[.int .i64 t362, .bool t363] 25 (0, 0)) (by (with_reducible repeat (first | refine blk_drewN ?_ _ | refine blk_drew ?_ | refine blk_alloc ?_ _)); exact BK365.out) hb); have n2_ := Aside0.mk (below_step (by repeat (first | (with_reducible first | exact HB.out | apply below_alloc | apply pw_below_drewN | apply below_drew1 | refine below_set ?_ GE348.out | refine below_set ?_ GE365.out) | exact HB.out)) hb); clear BK348; clear BK365; clear HB; have BK348 := n0_; have BK365 := n1_; have HB := n2_; clear n0_ n1_ n2_; (try clear hb); (try clear hb2); (try clear hk); (try clear hi)))
                                                go_roundg k6
                                                case measure => have := HJ6.out; have := HJ17.out; have := HJ31.out; have := HJ54.out; have := HJ77.out; have := HK6.out; omega
                                                case rel => exact ⟨(wrap64 (x27_6 + 1)), (by first | rfl | (simp; done) | (simp only [i64_w, i32_w]; done) | (simp only [i64_w, i32_w] <;> (first | rfl | simp)) | (simp [*]; done)), H', ⟨by have := HJ6.out; have := HJ17.out; have := HJ31.out; have := HJ54.out; have := HJ77.out; have := HK6.out; omega⟩, ⟨by (with_reducible repeat (first | refine blk_drewN ?_ _ | refine blk_drew ?_ | refine blk_alloc ?_ _)); exact BK348.out⟩, ⟨by (with_reducible repeat (first | refine blk_drewN ?_ _ | refine blk_drew ?_ | refine blk_alloc ?_ _)); exact BK365.out⟩, ⟨by repeat (first | (with_reducible first | exact HB.out | apply below_alloc | apply pw_below_drewN | apply below_drew1 | refine below_set ?_ GE348.out | refine below_set ?_ GE365.out) | exact HB.out)⟩⟩
                                          · replace c97 := Bool.eq_false_iff.mpr c97
                                            subst c97
                                            have H1 : (some false) = some r := by rw [if_neg (show ¬ (false = true) by decide)] at H; exact H
                                            clear H
                                            have H := H1
                                            clear H1
                                            as_aux_lemma =>
                                              obtain rfl := Option.some.inj H
                                              have hnb109 := NB348_365.out
                                              have hnc109 := NB365_348.out
                                              have hcz110_0 : wr.cell? ⟨gb348, 0, none⟩ = some (.int .i64 t344) := (blk_cell BK348.out 0).trans rfl
                                              have hcz110_1 : wr.cell? ⟨gb348, 1, none⟩ = some (.bool t345) := (blk_cell BK348.out 1).trans rfl
                                              have hfz110_0 := blk_frozen BK348.out 0
                                              have hfz110_1 := blk_frozen BK348.out 1
                                              go_wp2_with (first | ((with_reducible refine gate_callee (f := 9) rfl ?_); refine goesL_ (some 202) rfl rfl Try.func9 (by kernel_rfl) rfl #[.agg #[.int .i64 t344, .bool t345], .int .i64 t346, .int .i64 x27_6] rfl (by (try simp only [List.map_toArray, List.map_cons, List.map_nil]); first | done | rfl | (simp only [List.length_drop, List.length_take]; rfl)) ?_; (with_reducible refine (impl_GapOf.calls k6 t344 t345 t346 x27_6 t385 true _ A94.out).mono ?_); rintro e w111 ⟨rfl, hb⟩; refine ⟨_, rfl, ?_⟩; have n0_ := Aside0.mk (blk_below (g := gb348) (o := .cells #[.int .i64 t344, .bool t345] 25 (0, 0)) (by (with_reducible repeat (first | refine blk_drewN ?_ _ | refine blk_drew ?_ | refine blk_alloc ?_ _)); exact BK348.out) hb); have n1_ := Aside0.mk (blk_below (g := gb365) (o := .cells #[.int .i64 t362, .bool t363] 25 (0, 0)) (by (with_reducible repeat (first | refine blk_drewN ?_ _ | refine blk_drew ?_ | refine blk_alloc ?_ _)); exact BK365.out) hb); have n2_ := Aside0.mk (below_step (by repeat (first | (with_reducible first | exact HB.out | apply below_alloc | apply pw_below_drewN | apply below_drew1 | refine below_set ?_ GE348.out | refine below_set ?_ GE365.out) | exact HB.out)) hb); clear BK348; clear BK365; clear HB; have BK348 := n0_; have BK365 := n1_; have HB := n2_; clear n0_ n1_ n2_; (try clear hb); (try clear hb2); (try clear hk); (try clear hi); have hcz112_0 : w111.cell? ⟨gb348, 0, none⟩ = some (.int .i64 t344) := (blk_cell BK348.out 0).trans rfl; have hcz112_1 : w111.cell? ⟨gb348, 1, none⟩ = some (.bool t345) := (blk_cell BK348.out 1).trans rfl; have hfz112_0 := blk_frozen BK348.out 0; have hfz112_1 := blk_frozen BK348.out 1) | ((with_reducible refine gate_callee (f := 9) rfl ?_); refine goesL_ (some 209) rfl rfl Try.func9 (by kernel_rfl) rfl #[.agg #[.int .i64 t344, .bool t345], .int .i64 x27_6, .int .i64 t347] rfl (by (try simp only [List.map_toArray, List.map_cons, List.map_nil]); first | done | rfl | (simp only [List.length_drop, List.length_take]; rfl)) ?_; (with_reducible refine (impl_GapOf.calls k6 t344 t345 x27_6 t347 t387 false _ A95.out).mono ?_); rintro e w113 ⟨rfl, hb⟩; refine ⟨_, rfl, ?_⟩; have n0_ := Aside0.mk (blk_below (g := gb348) (o := .cells #[.int .i64 t344, .bool t345] 25 (0, 0)) (by (with_reducible repeat (first | refine blk_drewN ?_ _ | refine blk_drew ?_ | refine blk_alloc ?_ _)); exact BK348.out) hb); have n1_ := Aside0.mk (blk_below (g := gb365) (o := .cells #[.int .i64 t362, .bool t363] 25 (0, 0)) (by (with_reducible repeat (first | refine blk_drewN ?_ _ | refine blk_drew ?_ | refine blk_alloc ?_ _)); exact BK365.out) hb); have n2_ := Aside0.mk (below_step (by repeat (first | (with_reducible first | exact HB.out | apply below_alloc | apply pw_below_drewN | apply below_drew1 | refine below_set ?_ GE348.out | refine below_set ?_ GE365.out) | exact HB.out)) hb); clear BK348; clear BK365; clear HB; have BK348 := n0_; have BK365 := n1_; have HB := n2_; clear n0_ n1_ n2_; (try clear hb); (try clear hb2); (try clear hk); (try clear hi)))
                                              go_ret
                                              exact ⟨by first | rfl | (simp [errW_none, errW_some] <;> rfl) | (simp [*, errW_none, errW_some] <;> rfl), by repeat (first | (with_reducible first | exact HB.out | apply below_alloc | apply pw_below_drewN | apply below_drew1 | refine below_set ?_ GE348.out | refine below_set ?_ GE365.out) | exact HB.out)⟩
                                        · replace c96 := Bool.eq_false_iff.mpr c96
                                          subst c96
                                          have H1 : (some false) = some r := by rw [if_neg (show ¬ (false = true) by decide)] at H; exact H
                                          clear H
                                          have H := H1
                                          clear H1
                                          as_aux_lemma =>
                                            obtain rfl := Option.some.inj H
                                            have hnb114 := NB348_365.out
                                            have hnc114 := NB365_348.out
                                            have hcz115_0 : wr.cell? ⟨gb348, 0, none⟩ = some (.int .i64 t344) := (blk_cell BK348.out 0).trans rfl
                                            have hcz115_1 : wr.cell? ⟨gb348, 1, none⟩ = some (.bool t345) := (blk_cell BK348.out 1).trans rfl
                                            have hfz115_0 := blk_frozen BK348.out 0
                                            have hfz115_1 := blk_frozen BK348.out 1
                                            go_wp2_with (first | ((with_reducible refine gate_callee (f := 9) rfl ?_); refine goesL_ (some 202) rfl rfl Try.func9 (by kernel_rfl) rfl #[.agg #[.int .i64 t344, .bool t345], .int .i64 t346, .int .i64 x27_6] rfl (by (try simp only [List.map_toArray, List.map_cons, List.map_nil]); first | done | rfl | (simp only [List.length_drop, List.length_take]; rfl)) ?_; (with_reducible refine (impl_GapOf.calls k6 t344 t345 t346 x27_6 t385 false _ A94.out).mono ?_); rintro e w116 ⟨rfl, hb⟩; refine ⟨_, rfl, ?_⟩; have n0_ := Aside0.mk (blk_below (g := gb348) (o := .cells #[.int .i64 t344, .bool t345] 25 (0, 0)) (by (with_reducible repeat (first | refine blk_drewN ?_ _ | refine blk_drew ?_ | refine blk_alloc ?_ _)); exact BK348.out) hb); have n1_ := Aside0.mk (blk_below (g := gb365) (o := .cells #[.int .i64 t362, .bool t363] 25 (0, 0)) (by (with_reducible repeat (first | refine blk_drewN ?_ _ | refine blk_drew ?_ | refine blk_alloc ?_ _)); exact BK365.out) hb); have n2_ := Aside0.mk (below_step (by repeat (first | (with_reducible first | exact HB.out | apply below_alloc | apply pw_below_drewN | apply below_drew1 | refine below_set ?_ GE348.out | refine below_set ?_ GE365.out) | exact HB.out)) hb); clear BK348; clear BK365; clear HB; have BK348 := n0_; have BK365 := n1_; have HB := n2_; clear n0_ n1_ n2_; (try clear hb); (try clear hb2); (try clear hk); (try clear hi); have hcz117_0 : w116.cell? ⟨gb348, 0, none⟩ = some (.int .i64 t344) := (blk_cell BK348.out 0).trans rfl; have hcz117_1 : w116.cell? ⟨gb348, 1, none⟩ = some (.bool t345) := (blk_cell BK348.out 1).trans rfl; have hfz117_0 := blk_frozen BK348.out 0; have hfz117_1 := blk_frozen BK348.out 1) | ((with_reducible refine gate_callee (f := 9) rfl ?_); refine goesL_ (some 209) rfl rfl Try.func9 (by kernel_rfl) rfl #[.agg #[.int .i64 t344, .bool t345], .int .i64 x27_6, .int .i64 t347] rfl (by (try simp only [List.map_toArray, List.map_cons, List.map_nil]); first | done | rfl | (simp only [List.length_drop, List.length_take]; rfl)) ?_; (with_reducible refine (impl_GapOf.calls k6 t344 t345 x27_6 t347 t387 t388 _ A95.out).mono ?_); rintro e w118 ⟨rfl, hb⟩; refine ⟨_, rfl, ?_⟩; have n0_ := Aside0.mk (blk_below (g := gb348) (o := .cells #[.int .i64 t344, .bool t345] 25 (0, 0)) (by (with_reducible repeat (first | refine blk_drewN ?_ _ | refine blk_drew ?_ | refine blk_alloc ?_ _)); exact BK348.out) hb); have n1_ := Aside0.mk (blk_below (g := gb365) (o := .cells #[.int .i64 t362, .bool t363] 25 (0, 0)) (by (with_reducible repeat (first | refine blk_drewN ?_ _ | refine blk_drew ?_ | refine blk_alloc ?_ _)); exact BK365.out) hb); have n2_ := Aside0.mk (below_step (by repeat (first | (with_reducible first | exact HB.out | apply below_alloc | apply pw_below_drewN | apply below_drew1 | refine below_set ?_ GE348.out | refine below_set ?_ GE365.out) | exact HB.out)) hb); clear BK348; clear BK365; clear HB; have BK348 := n0_; have BK365 := n1_; have HB := n2_; clear n0_ n1_ n2_; (try clear hb); (try clear hb2); (try clear hk); (try clear hi)))
                                            go_ret
                                            exact ⟨by first | rfl | (simp [errW_none, errW_some] <;> rfl) | (simp [*, errW_none, errW_some] <;> rfl), by repeat (first | (with_reducible first | exact HB.out | apply below_alloc | apply pw_below_drewN | apply below_drew1 | refine below_set ?_ GE348.out | refine below_set ?_ GE365.out) | exact HB.out)⟩
                                      · rw [if_neg c93] at H
                                        have c93b0 : decide (x27_6 < t344) = false := decide_eq_false c93
                                        clear c93
                                        as_aux_lemma =>
                                          obtain rfl := Option.some.inj H
                                          have hnb119 := NB348_365.out
                                          have hnc119 := NB365_348.out
                                          have hcz120_0 : wr.cell? ⟨gb348, 0, none⟩ = some (.int .i64 t344) := (blk_cell BK348.out 0).trans rfl
                                          have hcz120_1 : wr.cell? ⟨gb348, 1, none⟩ = some (.bool t345) := (blk_cell BK348.out 1).trans rfl
                                          have hfz120_0 := blk_frozen BK348.out 0
                                          have hfz120_1 := blk_frozen BK348.out 1
                                          go_wp2
                                          go_ret
                                          exact ⟨by first | rfl | (simp [errW_none, errW_some] <;> rfl) | (simp [*, errW_none, errW_some] <;> rfl), by repeat (first | (with_reducible first | exact HB.out | apply below_alloc | apply pw_below_drewN | apply below_drew1 | refine below_set ?_ GE348.out | refine below_set ?_ GE365.out) | exact HB.out)⟩
                          · replace c75 := Bool.eq_false_iff.mpr c75
                            subst c75
                            have H1 : (some true) = some r := by rw [if_neg (show ¬ (false = true) by decide)] at H; exact H
                            clear H
                            have H := H1
                            clear H1
                            as_aux_lemma =>
                              obtain rfl := Option.some.inj H
                              go_wp2
                              go_ret
                              exact ⟨by first | rfl | (simp [errW_none, errW_some] <;> rfl) | (simp [*, errW_none, errW_some] <;> rfl), by repeat (first | (with_reducible first | exact HB.out | apply below_alloc | apply pw_below_drewN | apply below_drew1 | refine below_set ?_ GE348.out | refine below_set ?_ GE365.out) | exact HB.out)⟩

/-- THE ONE PURE STATEMENT of laws_FnGaps: yours. -/
def laws_FnGaps.Pure : Prop := ∀ (l0 : List Int), l0.length ≤ maxLen → l0.length * 1 ≤ 140737488351232 → (∀ x ∈ l0, (Lit.int .u8 x).wf = true) → ∃ k, laws_FnGaps.f k l0 = some true
theorem laws_FnGaps.walk (P : laws_FnGaps.Pure) (a0 : Option Addr) (len0 cap0 : Nat) (z0 : List Int) (w : World) (w0 : (a0 = none ∧ len0 = 0 ∧ cap0 = 0 ∧ z0 = []) ∨ ∃ x, a0 = some x ∧ len0 ≤ cap0 ∧ cap0 ≤ maxLen ∧ z0.length = cap0 ∧ (∀ i, i < z0.length → w.cell? (x.add i) = some (.int .u8 (z0.getD i 0))) ∧ ∀ n ∈ z0, (Lit.int .u8 n).wf = true) (y0 : len0 * 1 ≤ 140737488351232) :
    Calls Try.prog 3 #[.slice a0 len0 cap0] w fun e w' => e = .returned (.bool true) ∧ Below w.heap.size w w' := by
  obtain ⟨l0, rfl, hr0, hm0, hw0, hc0⟩ := ReadsInt.ofRowC w0
  obtain ⟨k, h⟩ := P l0 hm0 y0 hw0
  refine (laws_FnGaps.calls k _ _ l0 true w (Kd.C_of_reads (d := (0 : Int)) (h1 := fun _ => rfl) hr0) hc0 h).mono ?_
  rintro e w' ⟨rfl, hd⟩
  exact ⟨rfl, hd⟩

end Go.Proofs.Ytogflbocmiogpaa.PFnGaps
