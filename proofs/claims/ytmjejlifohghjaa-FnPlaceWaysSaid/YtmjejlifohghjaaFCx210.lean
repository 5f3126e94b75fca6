import Derived.Test.YtmjejlifohghjaaFCx0
import Derived.Test.YtmjejlifohghjaaFCx1
import Derived.Test.YtmjejlifohghjaaFCx2
import Derived.Test.YtmjejlifohghjaaFCx3
import Derived.Test.YtmjejlifohghjaaFCx4
import Derived.Test.YtmjejlifohghjaaFCx5
import Derived.Test.YtmjejlifohghjaaFCx8
import Derived.Test.YtmjejlifohghjaaFCx10
import Derived.Test.YtmjejlifohghjaaFCx11
import Derived.Test.YtmjejlifohghjaaFCx13
import Derived.Test.YtmjejlifohghjaaFCx15
import Derived.Test.YtmjejlifohghjaaFCx17
import Derived.Test.YtmjejlifohghjaaFCx19
import Derived.Test.YtmjejlifohghjaaFCx20
-- laid by pr.py (wip/tools) over the kit's printer; Lean checks it
namespace Go.Proofs.Ytmjejlifohghjaa.FC
open Go.RowKit Go.Proofs.YtmjejlifohghjaaW.PrintWords Go.Proofs.YtmjejlifohghjaaW.PrintLast Go.Proofs.YtmjejlifohghjaaW.PrintMore
attribute [local go_sem] max2_int min2_int max_two min_two max_three min_three max_four min_four   -- for this text's walks alone
set_option linter.unusedVariables false
set_option linter.unusedSimpArgs false

attribute [local go_sem high] eqA25
/-! ### laws_FnPlaceWays: function 11 -/
mutual
def laws_FnPlaceWays.j0 : Nat → Bool → List (S25) → Bool → Int → Int → List (S25) → List (S25) → Bool → Bool → Int → Int → Bool → Int → Int → Bool → Int → Int → Bool → Int → Int → Bool → Option (Bool)
  | 0, _, _, _, _, _, _, _, _, _, _, _, _, _, _, _, _, _, _, _, _, _ => none
  | k + 1, x8, x9, x12, x13, x16, x19, x21, x23, x151, x356000, x356001, x356002, x357000, x357001, x357002, x374000, x374001, x374002, x395000, x395001, x395002 => if x151 = true then (some false) else (if x12 = true then ((impl_PlaceDistance.f x357000 x357001 x357002 x356000 x356001 x356002).bind fun bt397 => (if bt397.2 = true then (if bt397.1 = x13 then (if ((x13 == 0) != (x356000 == x357000 && (x356001 == x357001 && (x356002 == x357002)))) = true then (some false) else (laws_FnPlaceWays.j1 k x8 x9 x13 x16 x19 x21 x23 x356000 x356001 x356002 x357000 x357001 x357002 x374000 x374001 x374002 x395000 x395001 x395002)) else (some false)) else (some false))) else (laws_FnPlaceWays.j1 k x8 x9 x13 x16 x19 x21 x23 x356000 x356001 x356002 x357000 x357001 x357002 x374000 x374001 x374002 x395000 x395001 x395002))
def laws_FnPlaceWays.j1 : Nat → Bool → List (S25) → Int → Int → List (S25) → List (S25) → Bool → Int → Int → Bool → Int → Int → Bool → Int → Int → Bool → Int → Int → Bool → Option (Bool)
  | 0, _, _, _, _, _, _, _, _, _, _, _, _, _, _, _, _, _, _, _ => none
  | k + 1, x8, x9, x13, x16, x19, x21, x23, x356000, x356001, x356002, x357000, x357001, x357002, x374000, x374001, x374002, x395000, x395001, x395002 => if x8 = true then (if (x9.length : Int) = (wrap64 (x13 + 1)) then (if 0 < (x9.length : Int) then (if (!(((rd_T25 x9 0).f0) == x356000) || (!(((rd_T25 x9 0).f1) == x356001) || (!(((rd_T25 x9 0).f2) == x356002)))) = true then (laws_FnPlaceWays.j2 k x9 x16 x19 x21 x23 true x374000 x374001 x374002 x395000 x395001 x395002) else (if 0 ≤ x13 then (if x13 < (x9.length : Int) then (laws_FnPlaceWays.j2 k x9 x16 x19 x21 x23 (!(((rd_T25 x9 x13).f0) == x357000) || (!(((rd_T25 x9 x13).f1) == x357001) || (!(((rd_T25 x9 x13).f2) == x357002)))) x374000 x374001 x374002 x395000 x395001 x395002) else (none)) else (none))) else (none)) else (laws_FnPlaceWays.j2 k x9 x16 x19 x21 x23 true x374000 x374001 x374002 x395000 x395001 x395002)) else (laws_FnPlaceWays.j4 k x16 x19 x21 x23 x374000 x374001 x374002 x395000 x395001 x395002)
def laws_FnPlaceWays.j4 : Nat → Int → List (S25) → List (S25) → Bool → Int → Int → Bool → Int → Int → Bool → Option (Bool)
  | 0, _, _, _, _, _, _, _, _, _, _ => none
  | k + 1, x16, x19, x21, x23, x374000, x374001, x374002, x395000, x395001, x395002 => laws_FnPlaceWays.l1 k x16 x21 x23 (-1) x19 (x19.length : Int) 0 x374000 x374001 x374002 x395000 x395001 x395002
def laws_FnPlaceWays.l1 : Nat → Int → List (S25) → Bool → Int → List (S25) → Int → Int → Int → Int → Bool → Int → Int → Bool → Option (Bool)
  | 0, _, _, _, _, _, _, _, _, _, _, _, _, _ => none
  | k + 1, x16, x21, x23, x31, x220, x221, x222, x374000, x374001, x374002, x395000, x395001, x395002 => if x222 < x221 then (if 0 ≤ x222 then (if x222 < (x220.length : Int) then ((impl_PlaceDistance.f x374000 x374001 x374002 ((rd_T25 x220 x222).f0) ((rd_T25 x220 x222).f1) ((rd_T25 x220 x222).f2)).bind fun bt407 => ((spec_PlaceCode.f ((rd_T25 x220 x222).f0) ((rd_T25 x220 x222).f1) ((rd_T25 x220 x222).f2)).bind fun bt409 => (if bt407.2 = true then (if bt407.1 > x16 then (some false) else (if bt409.2 = true then (if bt409.1 ≤ x31 then (some false) else (laws_FnPlaceWays.l1 k x16 x21 x23 bt409.1 x220 x221 (wrap64 (x222 + 1)) x374000 x374001 x374002 x395000 x395001 x395002)) else (some false))) else (some false)))) else (none)) else (none)) else (if x23 = true then (laws_FnPlaceWays.l2 k 0 x21 (x21.length : Int) 0 x395000 x395001 x395002) else (some true))
def laws_FnPlaceWays.l2 : Nat → Int → List (S25) → Int → Int → Int → Int → Bool → Option (Bool)
  | 0, _, _, _, _, _, _, _ => none
  | k + 1, x38, x256, x257, x258, x395000, x395001, x395002 => if x258 < x257 then (if 0 ≤ x258 then (if x258 < (x256.length : Int) then (if (((rd_T25 x256 x258).f0) == x395000 && (((rd_T25 x256 x258).f1) == x395001 && (((rd_T25 x256 x258).f2) == x395002))) = true then (laws_FnPlaceWays.l2 k (wrap64 (x38 + 1)) x256 x257 (wrap64 (x258 + 1)) x395000 x395001 x395002) else (laws_FnPlaceWays.l2 k x38 x256 x257 (wrap64 (x258 + 1)) x395000 x395001 x395002)) else (none)) else (none)) else (some (decide (x38 > 0)))
def laws_FnPlaceWays.j2 : Nat → List (S25) → Int → List (S25) → List (S25) → Bool → Bool → Int → Int → Bool → Int → Int → Bool → Option (Bool)
  | 0, _, _, _, _, _, _, _, _, _, _, _, _ => none
  | k + 1, x9, x16, x19, x21, x23, x194, x374000, x374001, x374002, x395000, x395001, x395002 => if x194 = true then (some false) else (laws_FnPlaceWays.l0 k x9 x16 x19 x21 x23 1 x374000 x374001 x374002 x395000 x395001 x395002)
def laws_FnPlaceWays.l0 : Nat → List (S25) → Int → List (S25) → List (S25) → Bool → Int → Int → Int → Bool → Int → Int → Bool → Option (Bool)
  | 0, _, _, _, _, _, _, _, _, _, _, _, _ => none
  | k + 1, x9, x16, x19, x21, x23, x28, x374000, x374001, x374002, x395000, x395001, x395002 => if x28 < (x9.length : Int) then (if 0 ≤ (wrap64 (x28 - 1)) then (if (wrap64 (x28 - 1)) < (x9.length : Int) then (if 0 ≤ x28 then ((impl_PlaceDistance.f ((rd_T25 x9 (wrap64 (x28 - 1))).f0) ((rd_T25 x9 (wrap64 (x28 - 1))).f1) ((rd_T25 x9 (wrap64 (x28 - 1))).f2) ((rd_T25 x9 x28).f0) ((rd_T25 x9 x28).f1) ((rd_T25 x9 x28).f2)).bind fun bt403 => (if bt403.2 = true then (if bt403.1 = 1 then (laws_FnPlaceWays.l0 k x9 x16 x19 x21 x23 (wrap64 (x28 + 1)) x374000 x374001 x374002 x395000 x395001 x395002) else (some false)) else (some false))) else (none)) else (none)) else (none)) else (laws_FnPlaceWays.j4 k x16 x19 x21 x23 x374000 x374001 x374002 x395000 x395001 x395002)
end
def laws_FnPlaceWays.f (k : Nat) (l0 : List Int) (l1 : List Int) : Option (Bool) := if (wrap64 ((l0.length : Int) + (l1.length : Int))) > 1048576 then (some true) else ((spec_DrawWayOfPlaces.f k l0).bind fun bt349 => ((impl_WayOfPlaces.f k bt349.1 bt349.2.1 bt349.2.2.1 bt349.2.2.2.1 bt349.2.2.2.2.1 bt349.2.2.2.2.2).bind fun bt357 => ((spec_WayOfPlaces.f k bt349.1 bt349.2.1 bt349.2.2.1 bt349.2.2.2.1 bt349.2.2.2.2.1 bt349.2.2.2.2.2).bind fun bt361 => ((impl_PlaceDistance.f bt349.1 bt349.2.1 bt349.2.2.1 bt349.2.2.2.1 bt349.2.2.2.2.1 bt349.2.2.2.2.2).bind fun bt365 => ((spec_PlaceDistance.f bt349.1 bt349.2.1 bt349.2.2.1 bt349.2.2.2.1 bt349.2.2.2.2.1 bt349.2.2.2.2.2).bind fun bt367 => ((spec_DrawPlacesWithin.f k l1).bind fun bt369 => ((impl_PlacesWithin.f k bt369.1 bt369.2.1 bt369.2.2.1 bt369.2.2.2).bind fun bt374 => ((spec_PlacesWithin.f k bt369.1 bt369.2.1 bt369.2.2.1 bt369.2.2.2).bind fun bt378 => ((spec_DrawCommonPlace.f k l1).bind fun t382 => ((impl_CommonPlace.f k t382).bind fun bt385 => ((spec_CommonPlace.f k t382).bind fun bt390 => (if (bt357.2 != bt361.2) = true then (laws_FnPlaceWays.j0 k bt357.2 bt361.1 bt365.2 bt367.1 bt369.2.2.2 bt378.1 t382 bt385.2.2.2 true bt349.1 bt349.2.1 bt349.2.2.1 bt349.2.2.2.1 bt349.2.2.2.2.1 bt349.2.2.2.2.2 bt369.1 bt369.2.1 bt369.2.2.1 bt390.1 bt390.2.1 bt390.2.2.1) else ((laws_qPlaces.f k bt357.1 bt361.1).bind fun t395 => (if t395 = true then (if (bt365.2 != bt367.2) = true then (laws_FnPlaceWays.j0 k bt357.2 bt361.1 bt365.2 bt367.1 bt369.2.2.2 bt378.1 t382 bt385.2.2.2 true bt349.1 bt349.2.1 bt349.2.2.1 bt349.2.2.2.1 bt349.2.2.2.2.1 bt349.2.2.2.2.2 bt369.1 bt369.2.1 bt369.2.2.1 bt390.1 bt390.2.1 bt390.2.2.1) else (if bt365.1 = bt367.1 then (if (bt374.2 != bt378.2) = true then (laws_FnPlaceWays.j0 k bt357.2 bt361.1 bt365.2 bt367.1 bt369.2.2.2 bt378.1 t382 bt385.2.2.2 true bt349.1 bt349.2.1 bt349.2.2.1 bt349.2.2.2.1 bt349.2.2.2.2.1 bt349.2.2.2.2.2 bt369.1 bt369.2.1 bt369.2.2.1 bt390.1 bt390.2.1 bt390.2.2.1) else ((laws_qPlaces.f k bt374.1 bt378.1).bind fun t396 => (if t396 = true then (if (bt385.2.2.2 != bt390.2.2.2) = true then (laws_FnPlaceWays.j0 k bt357.2 bt361.1 bt365.2 bt367.1 bt369.2.2.2 bt378.1 t382 bt385.2.2.2 true bt349.1 bt349.2.1 bt349.2.2.1 bt349.2.2.2.1 bt349.2.2.2.2.1 bt349.2.2.2.2.2 bt369.1 bt369.2.1 bt369.2.2.1 bt390.1 bt390.2.1 bt390.2.2.1) else (if (!(bt385.1 == bt390.1) || (!(bt385.2.1 == bt390.2.1) || (!(bt385.2.2.1 == bt390.2.2.1)))) = true then (laws_FnPlaceWays.j0 k bt357.2 bt361.1 bt365.2 bt367.1 bt369.2.2.2 bt378.1 t382 bt385.2.2.2 true bt349.1 bt349.2.1 bt349.2.2.1 bt349.2.2.2.1 bt349.2.2.2.2.1 bt349.2.2.2.2.2 bt369.1 bt369.2.1 bt369.2.2.1 bt390.1 bt390.2.1 bt390.2.2.1) else (if bt357.2 = true then (laws_FnPlaceWays.j0 k bt357.2 bt361.1 bt365.2 bt367.1 bt369.2.2.2 bt378.1 t382 bt385.2.2.2 (!bt365.2) bt349.1 bt349.2.1 bt349.2.2.1 bt349.2.2.2.1 bt349.2.2.2.2.1 bt349.2.2.2.2.2 bt369.1 bt369.2.1 bt369.2.2.1 bt390.1 bt390.2.1 bt390.2.2.1) else (laws_FnPlaceWays.j0 k bt357.2 bt361.1 bt365.2 bt367.1 bt369.2.2.2 bt378.1 t382 bt385.2.2.2 false bt349.1 bt349.2.1 bt349.2.2.1 bt349.2.2.2.1 bt349.2.2.2.2.1 bt349.2.2.2.2.2 bt369.1 bt369.2.1 bt369.2.2.1 bt390.1 bt390.2.1 bt390.2.2.1)))) else (laws_FnPlaceWays.j0 k bt357.2 bt361.1 bt365.2 bt367.1 bt369.2.2.2 bt378.1 t382 bt385.2.2.2 true bt349.1 bt349.2.1 bt349.2.2.1 bt349.2.2.2.1 bt349.2.2.2.2.1 bt349.2.2.2.2.2 bt369.1 bt369.2.1 bt369.2.2.1 bt390.1 bt390.2.1 bt390.2.2.1)))) else (laws_FnPlaceWays.j0 k bt357.2 bt361.1 bt365.2 bt367.1 bt369.2.2.2 bt378.1 t382 bt385.2.2.2 true bt349.1 bt349.2.1 bt349.2.2.1 bt349.2.2.2.1 bt349.2.2.2.2.1 bt349.2.2.2.2.2 bt369.1 bt369.2.1 bt369.2.2.1 bt390.1 bt390.2.1 bt390.2.2.1))) else (laws_FnPlaceWays.j0 k bt357.2 bt361.1 bt365.2 bt367.1 bt369.2.2.2 bt378.1 t382 bt385.2.2.2 true bt349.1 bt349.2.1 bt349.2.2.1 bt349.2.2.2.1 bt349.2.2.2.2.1 bt349.2.2.2.2.2 bt369.1 bt369.2.1 bt369.2.2.1 bt390.1 bt390.2.1 bt390.2.2.1)))))))))))))))
theorem laws_FnPlaceWays.mono_l : ∀ k, (∀ y0 y1 y2 y3 y4 y5 y6 y7 y8 y9 y10 y11 y12 y13 y14 y15 y16 y17 y18 y19 y20, LeO (laws_FnPlaceWays.j0 k y0 y1 y2 y3 y4 y5 y6 y7 y8 y9 y10 y11 y12 y13 y14 y15 y16 y17 y18 y19 y20) (laws_FnPlaceWays.j0 (k + 1) y0 y1 y2 y3 y4 y5 y6 y7 y8 y9 y10 y11 y12 y13 y14 y15 y16 y17 y18 y19 y20)) ∧ (∀ y0 y1 y2 y3 y4 y5 y6 y7 y8 y9 y10 y11 y12 y13 y14 y15 y16 y17 y18, LeO (laws_FnPlaceWays.j1 k y0 y1 y2 y3 y4 y5 y6 y7 y8 y9 y10 y11 y12 y13 y14 y15 y16 y17 y18) (laws_FnPlaceWays.j1 (k + 1) y0 y1 y2 y3 y4 y5 y6 y7 y8 y9 y10 y11 y12 y13 y14 y15 y16 y17 y18)) ∧ (∀ y0 y1 y2 y3 y4 y5 y6 y7 y8 y9, LeO (laws_FnPlaceWays.j4 k y0 y1 y2 y3 y4 y5 y6 y7 y8 y9) (laws_FnPlaceWays.j4 (k + 1) y0 y1 y2 y3 y4 y5 y6 y7 y8 y9)) ∧ (∀ y0 y1 y2 y3 y4 y5 y6 y7 y8 y9 y10 y11 y12, LeO (laws_FnPlaceWays.l1 k y0 y1 y2 y3 y4 y5 y6 y7 y8 y9 y10 y11 y12) (laws_FnPlaceWays.l1 (k + 1) y0 y1 y2 y3 y4 y5 y6 y7 y8 y9 y10 y11 y12)) ∧ (∀ y0 y1 y2 y3 y4 y5 y6, LeO (laws_FnPlaceWays.l2 k y0 y1 y2 y3 y4 y5 y6) (laws_FnPlaceWays.l2 (k + 1) y0 y1 y2 y3 y4 y5 y6)) ∧ (∀ y0 y1 y2 y3 y4 y5 y6 y7 y8 y9 y10 y11, LeO (laws_FnPlaceWays.j2 k y0 y1 y2 y3 y4 y5 y6 y7 y8 y9 y10 y11) (laws_FnPlaceWays.j2 (k + 1) y0 y1 y2 y3 y4 y5 y6 y7 y8 y9 y10 y11)) ∧ (∀ y0 y1 y2 y3 y4 y5 y6 y7 y8 y9 y10 y11, LeO (laws_FnPlaceWays.l0 k y0 y1 y2 y3 y4 y5 y6 y7 y8 y9 y10 y11) (laws_FnPlaceWays.l0 (k + 1) y0 y1 y2 y3 y4 y5 y6 y7 y8 y9 y10 y11))
  | 0 => ⟨fun _ _ _ _ _ _ _ _ _ _ _ _ _ _ _ _ _ _ _ _ _ r h => by simp [laws_FnPlaceWays.j0] at h, fun _ _ _ _ _ _ _ _ _ _ _ _ _ _ _ _ _ _ _ r h => by simp [laws_FnPlaceWays.j1] at h, fun _ _ _ _ _ _ _ _ _ _ r h => by simp [laws_FnPlaceWays.j4] at h, fun _ _ _ _ _ _ _ _ _ _ _ _ _ r h => by simp [laws_FnPlaceWays.l1] at h, fun _ _ _ _ _ _ _ r h => by simp [laws_FnPlaceWays.l2] at h, fun _ _ _ _ _ _ _ _ _ _ _ _ r h => by simp [laws_FnPlaceWays.j2] at h, fun _ _ _ _ _ _ _ _ _ _ _ _ r h => by simp [laws_FnPlaceWays.l0] at h⟩
  | k + 1 => by
    obtain ⟨ih0, ih1, ih2, ih3, ih4, ih5, ih6⟩ := laws_FnPlaceWays.mono_l k
    refine ⟨?_, ?_, ?_, ?_, ?_, ?_, ?_⟩
    · intro y0 y1 y2 y3 y4 y5 y6 y7 y8 y9 y10 y11 y12 y13 y14 y15 y16 y17 y18 y19 y20
      unfold laws_FnPlaceWays.j0
      repeat' first
      | (with_reducible exact ih0 _ _ _ _ _ _ _ _ _ _ _ _ _ _ _ _ _ _ _ _ _)
      | (with_reducible exact ih1 _ _ _ _ _ _ _ _ _ _ _ _ _ _ _ _ _ _ _)
      | (with_reducible exact ih2 _ _ _ _ _ _ _ _ _ _)
      | (with_reducible exact ih3 _ _ _ _ _ _ _ _ _ _ _ _ _)
      | (with_reducible exact ih4 _ _ _ _ _ _ _)
      | (with_reducible exact ih5 _ _ _ _ _ _ _ _ _ _ _ _)
      | (with_reducible exact ih6 _ _ _ _ _ _ _ _ _ _ _ _)
      | (with_reducible exact impl_CommonPlace.mono _ _)
      | (with_reducible exact impl_PlacesWithin.mono _ _ _ _ _)
      | (with_reducible exact impl_WayOfPlaces.mono _ _ _ _ _ _ _)
      | (with_reducible exact laws_qPlaces.mono _ _ _)
      | (with_reducible exact spec_CommonPlace.mono _ _)
      | (with_reducible exact spec_DrawCommonPlace.mono _ _)
      | (with_reducible exact spec_DrawPlacesWithin.mono _ _)
      | (with_reducible exact spec_DrawWayOfPlaces.mono _ _)
      | (with_reducible exact spec_PlacesWithin.mono _ _ _ _ _)
      | (with_reducible exact spec_WayOfPlaces.mono _ _ _ _ _ _ _)
      | (with_reducible exact LeO.refl _)
      | (with_reducible exact LeO.none _)
      | (with_reducible refine LeO.ite ?_ ?_)
      | (with_reducible refine LeO.bind ?_ (fun _ => ?_))
      | exact ih0 _ _ _ _ _ _ _ _ _ _ _ _ _ _ _ _ _ _ _ _ _
      | exact ih1 _ _ _ _ _ _ _ _ _ _ _ _ _ _ _ _ _ _ _
      | exact ih2 _ _ _ _ _ _ _ _ _ _
      | exact ih3 _ _ _ _ _ _ _ _ _ _ _ _ _
      | exact ih4 _ _ _ _ _ _ _
      | exact ih5 _ _ _ _ _ _ _ _ _ _ _ _
      | exact ih6 _ _ _ _ _ _ _ _ _ _ _ _
      | exact impl_CommonPlace.mono _ _
      | exact impl_PlacesWithin.mono _ _ _ _ _
      | exact impl_WayOfPlaces.mono _ _ _ _ _ _ _
      | exact laws_qPlaces.mono _ _ _
      | exact spec_CommonPlace.mono _ _
      | exact spec_DrawCommonPlace.mono _ _
      | exact spec_DrawPlacesWithin.mono _ _
      | exact spec_DrawWayOfPlaces.mono _ _
      | exact spec_PlacesWithin.mono _ _ _ _ _
      | exact spec_WayOfPlaces.mono _ _ _ _ _ _ _
      | exact LeO.none _
      | refine LeO.ite ?_ ?_
      | refine LeO.bind ?_ (fun _ => ?_)
    · intro y0 y1 y2 y3 y4 y5 y6 y7 y8 y9 y10 y11 y12 y13 y14 y15 y16 y17 y18
      unfold laws_FnPlaceWays.j1
      repeat' first
      | (with_reducible exact ih0 _ _ _ _ _ _ _ _ _ _ _ _ _ _ _ _ _ _ _ _ _)
      | (with_reducible exact ih1 _ _ _ _ _ _ _ _ _ _ _ _ _ _ _ _ _ _ _)
      | (with_reducible exact ih2 _ _ _ _ _ _ _ _ _ _)
      | (with_reducible exact ih3 _ _ _ _ _ _ _ _ _ _ _ _ _)
      | (with_reducible exact ih4 _ _ _ _ _ _ _)
      | (with_reducible exact ih5 _ _ _ _ _ _ _ _ _ _ _ _)
      | (with_reducible exact ih6 _ _ _ _ _ _ _ _ _ _ _ _)
      | (with_reducible exact impl_CommonPlace.mono _ _)
      | (with_reducible exact impl_PlacesWithin.mono _ _ _ _ _)
      | (with_reducible exact impl_WayOfPlaces.mono _ _ _ _ _ _ _)
      | (with_reducible exact laws_qPlaces.mono _ _ _)
      | (with_reducible exact spec_CommonPlace.mono _ _)
      | (with_reducible exact spec_DrawCommonPlace.mono _ _)
      | (with_reducible exact spec_DrawPlacesWithin.mono _ _)
      | (with_reducible exact spec_DrawWayOfPlaces.mono _ _)
      | (with_reducible exact spec_PlacesWithin.mono _ _ _ _ _)
      | (with_reducible exact spec_WayOfPlaces.mono _ _ _ _ _ _ _)
      | (with_reducible exact LeO.refl _)
      | (with_reducible exact LeO.none _)
      | (with_reducible refine LeO.ite ?_ ?_)
      | (with_reducible refine LeO.bind ?_ (fun _ => ?_))
      | exact ih0 _ _ _ _ _ _ _ _ _ _ _ _ _ _ _ _ _ _ _ _ _
      | exact ih1 _ _ _ _ _ _ _ _ _ _ _ _ _ _ _ _ _ _ _
      | exact ih2 _ _ _ _ _ _ _ _ _ _
      | exact ih3 _ _ _ _ _ _ _ _ _ _ _ _ _
      | exact ih4 _ _ _ _ _ _ _
      | exact ih5 _ _ _ _ _ _ _ _ _ _ _ _
      | exact ih6 _ _ _ _ _ _ _ _ _ _ _ _
      | exact impl_CommonPlace.mono _ _
      | exact impl_PlacesWithin.mono _ _ _ _ _
      | exact impl_WayOfPlaces.mono _ _ _ _ _ _ _
      | exact laws_qPlaces.mono _ _ _
      | exact spec_CommonPlace.mono _ _
      | exact spec_DrawCommonPlace.mono _ _
      | exact spec_DrawPlacesWithin.mono _ _
      | exact spec_DrawWayOfPlaces.mono _ _
      | exact spec_PlacesWithin.mono _ _ _ _ _
      | exact spec_WayOfPlaces.mono _ _ _ _ _ _ _
      | exact LeO.none _
      | refine LeO.ite ?_ ?_
      | refine LeO.bind ?_ (fun _ => ?_)
    · intro y0 y1 y2 y3 y4 y5 y6 y7 y8 y9
      unfold laws_FnPlaceWays.j4
      repeat' first
      | (with_reducible exact ih0 _ _ _ _ _ _ _ _ _ _ _ _ _ _ _ _ _ _ _ _ _)
      | (with_reducible exact ih1 _ _ _ _ _ _ _ _ _ _ _ _ _ _ _ _ _ _ _)
      | (with_reducible exact ih2 _ _ _ _ _ _ _ _ _ _)
      | (with_reducible exact ih3 _ _ _ _ _ _ _ _ _ _ _ _ _)
      | (with_reducible exact ih4 _ _ _ _ _ _ _)
      | (with_reducible exact ih5 _ _ _ _ _ _ _ _ _ _ _ _)
      | (with_reducible exact ih6 _ _ _ _ _ _ _ _ _ _ _ _)
      | (with_reducible exact impl_CommonPlace.mono _ _)
      | (with_reducible exact impl_PlacesWithin.mono _ _ _ _ _)
      | (with_reducible exact impl_WayOfPlaces.mono _ _ _ _ _ _ _)
      | (with_reducible exact laws_qPlaces.mono _ _ _)
      | (with_reducible exact spec_CommonPlace.mono _ _)
      | (with_reducible exact spec_DrawCommonPlace.mono _ _)
      | (with_reducible exact spec_DrawPlacesWithin.mono _ _)
      | (with_reducible exact spec_DrawWayOfPlaces.mono _ _)
      | (with_reducible exact spec_PlacesWithin.mono _ _ _ _ _)
      | (with_reducible exact spec_WayOfPlaces.mono _ _ _ _ _ _ _)
      | (with_reducible exact LeO.refl _)
      | (with_reducible exact LeO.none _)
      | (with_reducible refine LeO.ite ?_ ?_)
      | (with_reducible refine LeO.bind ?_ (fun _ => ?_))
      | exact ih0 _ _ _ _ _ _ _ _ _ _ _ _ _ _ _ _ _ _ _ _ _
      | exact ih1 _ _ _ _ _ _ _ _ _ _ _ _ _ _ _ _ _ _ _
      | exact ih2 _ _ _ _ _ _ _ _ _ _
      | exact ih3 _ _ _ _ _ _ _ _ _ _ _ _ _
      | exact ih4 _ _ _ _ _ _ _
      | exact ih5 _ _ _ _ _ _ _ _ _ _ _ _
      | exact ih6 _ _ _ _ _ _ _ _ _ _ _ _
      | exact impl_CommonPlace.mono _ _
      | exact impl_PlacesWithin.mono _ _ _ _ _
      | exact impl_WayOfPlaces.mono _ _ _ _ _ _ _
      | exact laws_qPlaces.mono _ _ _
      | exact spec_CommonPlace.mono _ _
      | exact spec_DrawCommonPlace.mono _ _
      | exact spec_DrawPlacesWithin.mono _ _
      | exact spec_DrawWayOfPlaces.mono _ _
      | exact spec_PlacesWithin.mono _ _ _ _ _
      | exact spec_WayOfPlaces.mono _ _ _ _ _ _ _
      | exact LeO.none _
      | refine LeO.ite ?_ ?_
      | refine LeO.bind ?_ (fun _ => ?_)
    · intro y0 y1 y2 y3 y4 y5 y6 y7 y8 y9 y10 y11 y12
      unfold laws_FnPlaceWays.l1
      repeat' first
      | (with_reducible exact ih0 _ _ _ _ _ _ _ _ _ _ _ _ _ _ _ _ _ _ _ _ _)
      | (with_reducible exact ih1 _ _ _ _ _ _ _ _ _ _ _ _ _ _ _ _ _ _ _)
      | (with_reducible exact ih2 _ _ _ _ _ _ _ _ _ _)
      | (with_reducible exact ih3 _ _ _ _ _ _ _ _ _ _ _ _ _)
      | (with_reducible exact ih4 _ _ _ _ _ _ _)
      | (with_reducible exact ih5 _ _ _ _ _ _ _ _ _ _ _ _)
      | (with_reducible exact ih6 _ _ _ _ _ _ _ _ _ _ _ _)
      | (with_reducible exact impl_CommonPlace.mono _ _)
      | (with_reducible exact impl_PlacesWithin.mono _ _ _ _ _)
      | (with_reducible exact impl_WayOfPlaces.mono _ _ _ _ _ _ _)
      | (with_reducible exact laws_qPlaces.mono _ _ _)
      | (with_reducible exact spec_CommonPlace.mono _ _)
      | (with_reducible exact spec_DrawCommonPlace.mono _ _)
      | (with_reducible exact spec_DrawPlacesWithin.mono _ _)
      | (with_reducible exact spec_DrawWayOfPlaces.mono _ _)
      | (with_reducible exact spec_PlacesWithin.mono _ _ _ _ _)
      | (with_reducible exact spec_WayOfPlaces.mono _ _ _ _ _ _ _)
      | (with_reducible exact LeO.refl _)
      | (with_reducible exact LeO.none _)
      | (with_reducible refine LeO.ite ?_ ?_)
      | (with_reducible refine LeO.bind ?_ (fun _ => ?_))
      | exact ih0 _ _ _ _ _ _ _ _ _ _ _ _ _ _ _ _ _ _ _ _ _
      | exact ih1 _ _ _ _ _ _ _ _ _ _ _ _ _ _ _ _ _ _ _
      | exact ih2 _ _ _ _ _ _ _ _ _ _
      | exact ih3 _ _ _ _ _ _ _ _ _ _ _ _ _
      | exact ih4 _ _ _ _ _ _ _
      | exact ih5 _ _ _ _ _ _ _ _ _ _ _ _
      | exact ih6 _ _ _ _ _ _ _ _ _ _ _ _
      | exact impl_CommonPlace.mono _ _
      | exact impl_PlacesWithin.mono _ _ _ _ _
      | exact impl_WayOfPlaces.mono _ _ _ _ _ _ _
      | exact laws_qPlaces.mono _ _ _
      | exact spec_CommonPlace.mono _ _
      | exact spec_DrawCommonPlace.mono _ _
      | exact spec_DrawPlacesWithin.mono _ _
      | exact spec_DrawWayOfPlaces.mono _ _
      | exact spec_PlacesWithin.mono _ _ _ _ _
      | exact spec_WayOfPlaces.mono _ _ _ _ _ _ _
      | exact LeO.none _
      | refine LeO.ite ?_ ?_
      | refine LeO.bind ?_ (fun _ => ?_)
    · intro y0 y1 y2 y3 y4 y5 y6
      unfold laws_FnPlaceWays.l2
      repeat' first
      | (with_reducible exact ih0 _ _ _ _ _ _ _ _ _ _ _ _ _ _ _ _ _ _ _ _ _)
      | (with_reducible exact ih1 _ _ _ _ _ _ _ _ _ _ _ _ _ _ _ _ _ _ _)
      | (with_reducible exact ih2 _ _ _ _ _ _ _ _ _ _)
      | (with_reducible exact ih3 _ _ _ _ _ _ _ _ _ _ _ _ _)
      | (with_reducible exact ih4 _ _ _ _ _ _ _)
      | (with_reducible exact ih5 _ _ _ _ _ _ _ _ _ _ _ _)
      | (with_reducible exact ih6 _ _ _ _ _ _ _ _ _ _ _ _)
      | (with_reducible exact impl_CommonPlace.mono _ _)
      | (with_reducible exact impl_PlacesWithin.mono _ _ _ _ _)
      | (with_reducible exact impl_WayOfPlaces.mono _ _ _ _ _ _ _)
      | (with_reducible exact laws_qPlaces.mono _ _ _)
      | (with_reducible exact spec_CommonPlace.mono _ _)
      | (with_reducible exact spec_DrawCommonPlace.mono _ _)
      | (with_reducible exact spec_DrawPlacesWithin.mono _ _)
      | (with_reducible exact spec_DrawWayOfPlaces.mono _ _)
      | (with_reducible exact spec_PlacesWithin.mono _ _ _ _ _)
      | (with_reducible exact spec_WayOfPlaces.mono _ _ _ _ _ _ _)
      | (with_reducible exact LeO.refl _)
      | (with_reducible exact LeO.none _)
      | (with_reducible refine LeO.ite ?_ ?_)
      | (with_reducible refine LeO.bind ?_ (fun _ => ?_))
      | exact ih0 _ _ _ _ _ _ _ _ _ _ _ _ _ _ _ _ _ _ _ _ _
      | exact ih1 _ _ _ _ _ _ _ _ _ _ _ _ _ _ _ _ _ _ _
      | exact ih2 _ _ _ _ _ _ _ _ _ _
      | exact ih3 _ _ _ _ _ _ _ _ _ _ _ _ _
      | exact ih4 _ _ _ _ _ _ _
      | exact ih5 _ _ _ _ _ _ _ _ _ _ _ _
      | exact ih6 _ _ _ _ _ _ _ _ _ _ _ _
      | exact impl_CommonPlace.mono _ _
      | exact impl_PlacesWithin.mono _ _ _ _ _
      | exact impl_WayOfPlaces.mono _ _ _ _ _ _ _
      | exact laws_qPlaces.mono _ _ _
      | exact spec_CommonPlace.mono _ _
      | exact spec_DrawCommonPlace.mono _ _
      | exact spec_DrawPlacesWithin.mono _ _
      | exact spec_DrawWayOfPlaces.mono _ _
      | exact spec_PlacesWithin.mono _ _ _ _ _
      | exact spec_WayOfPlaces.mono _ _ _ _ _ _ _
      | exact LeO.none _
      | refine LeO.ite ?_ ?_
      | refine LeO.bind ?_ (fun _ => ?_)
    · intro y0 y1 y2 y3 y4 y5 y6 y7 y8 y9 y10 y11
      unfold laws_FnPlaceWays.j2
      repeat' first
      | (with_reducible exact ih0 _ _ _ _ _ _ _ _ _ _ _ _ _ _ _ _ _ _ _ _ _)
      | (with_reducible exact ih1 _ _ _ _ _ _ _ _ _ _ _ _ _ _ _ _ _ _ _)
      | (with_reducible exact ih2 _ _ _ _ _ _ _ _ _ _)
      | (with_reducible exact ih3 _ _ _ _ _ _ _ _ _ _ _ _ _)
      | (with_reducible exact ih4 _ _ _ _ _ _ _)
      | (with_reducible exact ih5 _ _ _ _ _ _ _ _ _ _ _ _)
      | (with_reducible exact ih6 _ _ _ _ _ _ _ _ _ _ _ _)
      | (with_reducible exact impl_CommonPlace.mono _ _)
      | (with_reducible exact impl_PlacesWithin.mono _ _ _ _ _)
      | (with_reducible exact impl_WayOfPlaces.mono _ _ _ _ _ _ _)
      | (with_reducible exact laws_qPlaces.mono _ _ _)
      | (with_reducible exact spec_CommonPlace.mono _ _)
      | (with_reducible exact spec_DrawCommonPlace.mono _ _)
      | (with_reducible exact spec_DrawPlacesWithin.mono _ _)
      | (with_reducible exact spec_DrawWayOfPlaces.mono _ _)
      | (with_reducible exact spec_PlacesWithin.mono _ _ _ _ _)
      | (with_reducible exact spec_WayOfPlaces.mono _ _ _ _ _ _ _)
      | (with_reducible exact LeO.refl _)
      | (with_reducible exact LeO.none _)
      | (with_reducible refine LeO.ite ?_ ?_)
      | (with_reducible refine LeO.bind ?_ (fun _ => ?_))
      | exact ih0 _ _ _ _ _ _ _ _ _ _ _ _ _ _ _ _ _ _ _ _ _
      | exact ih1 _ _ _ _ _ _ _ _ _ _ _ _ _ _ _ _ _ _ _
      | exact ih2 _ _ _ _ _ _ _ _ _ _
      | exact ih3 _ _ _ _ _ _ _ _ _ _ _ _ _
      | exact ih4 _ _ _ _ _ _ _
      | exact ih5 _ _ _ _ _ _ _ _ _ _ _ _
      | exact ih6 _ _ _ _ _ _ _ _ _ _ _ _
      | exact impl_CommonPlace.mono _ _
      | exact impl_PlacesWithin.mono _ _ _ _ _
      | exact impl_WayOfPlaces.mono _ _ _ _ _ _ _
      | exact laws_qPlaces.mono _ _ _
      | exact spec_CommonPlace.mono _ _
      | exact spec_DrawCommonPlace.mono _ _
      | exact spec_DrawPlacesWithin.mono _ _
      | exact spec_DrawWayOfPlaces.mono _ _
      | exact spec_PlacesWithin.mono _ _ _ _ _
      | exact spec_WayOfPlaces.mono _ _ _ _ _ _ _
      | exact LeO.none _
      | refine LeO.ite ?_ ?_
      | refine LeO.bind ?_ (fun _ => ?_)
    · intro y0 y1 y2 y3 y4 y5 y6 y7 y8 y9 y10 y11
      unfold laws_FnPlaceWays.l0
      repeat' first
      | (with_reducible exact ih0 _ _ _ _ _ _ _ _ _ _ _ _ _ _ _ _ _ _ _ _ _)
      | (with_reducible exact ih1 _ _ _ _ _ _ _ _ _ _ _ _ _ _ _ _ _ _ _)
      | (with_reducible exact ih2 _ _ _ _ _ _ _ _ _ _)
      | (with_reducible exact ih3 _ _ _ _ _ _ _ _ _ _ _ _ _)
      | (with_reducible exact ih4 _ _ _ _ _ _ _)
      | (with_reducible exact ih5 _ _ _ _ _ _ _ _ _ _ _ _)
      | (with_reducible exact ih6 _ _ _ _ _ _ _ _ _ _ _ _)
      | (with_reducible exact impl_CommonPlace.mono _ _)
      | (with_reducible exact impl_PlacesWithin.mono _ _ _ _ _)
      | (with_reducible exact impl_WayOfPlaces.mono _ _ _ _ _ _ _)
      | (with_reducible exact laws_qPlaces.mono _ _ _)
      | (with_reducible exact spec_CommonPlace.mono _ _)
      | (with_reducible exact spec_DrawCommonPlace.mono _ _)
      | (with_reducible exact spec_DrawPlacesWithin.mono _ _)
      | (with_reducible exact spec_DrawWayOfPlaces.mono _ _)
      | (with_reducible exact spec_PlacesWithin.mono _ _ _ _ _)
      | (with_reducible exact spec_WayOfPlaces.mono _ _ _ _ _ _ _)
      | (with_reducible exact LeO.refl _)
      | (with_reducible exact LeO.none _)
      | (with_reducible refine LeO.ite ?_ ?_)
      | (with_reducible refine LeO.bind ?_ (fun _ => ?_))
      | exact ih0 _ _ _ _ _ _ _ _ _ _ _ _ _ _ _ _ _ _ _ _ _
      | exact ih1 _ _ _ _ _ _ _ _ _ _ _ _ _ _ _ _ _ _ _
      | exact ih2 _ _ _ _ _ _ _ _ _ _
      | exact ih3 _ _ _ _ _ _ _ _ _ _ _ _ _
      | exact ih4 _ _ _ _ _ _ _
      | exact ih5 _ _ _ _ _ _ _ _ _ _ _ _
      | exact ih6 _ _ _ _ _ _ _ _ _ _ _ _
      | exact impl_CommonPlace.mono _ _
      | exact impl_PlacesWithin.mono _ _ _ _ _
      | exact impl_WayOfPlaces.mono _ _ _ _ _ _ _
      | exact laws_qPlaces.mono _ _ _
      | exact spec_CommonPlace.mono _ _
      | exact spec_DrawCommonPlace.mono _ _
      | exact spec_DrawPlacesWithin.mono _ _
      | exact spec_DrawWayOfPlaces.mono _ _
      | exact spec_PlacesWithin.mono _ _ _ _ _
      | exact spec_WayOfPlaces.mono _ _ _ _ _ _ _
      | exact LeO.none _
      | refine LeO.ite ?_ ?_
      | refine LeO.bind ?_ (fun _ => ?_)
theorem laws_FnPlaceWays.mono : ∀ a0 a1 k, LeO (laws_FnPlaceWays.f k a0 a1) (laws_FnPlaceWays.f (k + 1) a0 a1) := by
  intro a0 a1 k
  obtain ⟨ih0, ih1, ih2, ih3, ih4, ih5, ih6⟩ := laws_FnPlaceWays.mono_l k
  unfold laws_FnPlaceWays.f
  repeat' first
    | (with_reducible exact ih0 _ _ _ _ _ _ _ _ _ _ _ _ _ _ _ _ _ _ _ _ _)
    | (with_reducible exact ih1 _ _ _ _ _ _ _ _ _ _ _ _ _ _ _ _ _ _ _)
    | (with_reducible exact ih2 _ _ _ _ _ _ _ _ _ _)
    | (with_reducible exact ih3 _ _ _ _ _ _ _ _ _ _ _ _ _)
    | (with_reducible exact ih4 _ _ _ _ _ _ _)
    | (with_reducible exact ih5 _ _ _ _ _ _ _ _ _ _ _ _)
    | (with_reducible exact ih6 _ _ _ _ _ _ _ _ _ _ _ _)
    | (with_reducible exact impl_CommonPlace.mono _ _)
    | (with_reducible exact impl_PlacesWithin.mono _ _ _ _ _)
    | (with_reducible exact impl_WayOfPlaces.mono _ _ _ _ _ _ _)
    | (with_reducible exact laws_qPlaces.mono _ _ _)
    | (with_reducible exact spec_CommonPlace.mono _ _)
    | (with_reducible exact spec_DrawCommonPlace.mono _ _)
    | (with_reducible exact spec_DrawPlacesWithin.mono _ _)
    | (with_reducible exact spec_DrawWayOfPlaces.mono _ _)
    | (with_reducible exact spec_PlacesWithin.mono _ _ _ _ _)
    | (with_reducible exact spec_WayOfPlaces.mono _ _ _ _ _ _ _)
    | (with_reducible exact LeO.refl _)
    | (with_reducible exact LeO.none _)
    | (with_reducible refine LeO.ite ?_ ?_)
    | (with_reducible refine LeO.bind ?_ (fun _ => ?_))
    | exact ih0 _ _ _ _ _ _ _ _ _ _ _ _ _ _ _ _ _ _ _ _ _
    | exact ih1 _ _ _ _ _ _ _ _ _ _ _ _ _ _ _ _ _ _ _
    | exact ih2 _ _ _ _ _ _ _ _ _ _
    | exact ih3 _ _ _ _ _ _ _ _ _ _ _ _ _
    | exact ih4 _ _ _ _ _ _ _
    | exact ih5 _ _ _ _ _ _ _ _ _ _ _ _
    | exact ih6 _ _ _ _ _ _ _ _ _ _ _ _
    | exact impl_CommonPlace.mono _ _
    | exact impl_PlacesWithin.mono _ _ _ _ _
    | exact impl_WayOfPlaces.mono _ _ _ _ _ _ _
    | exact laws_qPlaces.mono _ _ _
    | exact spec_CommonPlace.mono _ _
    | exact spec_DrawCommonPlace.mono _ _
    | exact spec_DrawPlacesWithin.mono _ _
    | exact spec_DrawWayOfPlaces.mono _ _
    | exact spec_PlacesWithin.mono _ _ _ _ _
    | exact spec_WayOfPlaces.mono _ _ _ _ _ _ _
    | exact LeO.none _
    | refine LeO.ite ?_ ?_
    | refine LeO.bind ?_ (fun _ => ?_)
def laws_FnPlaceWays.T21 : Bool × List (List Nat × List Nat) := (true, [([], []), ([0], [0]), ([], []), ([2], [2]), ([1, 3], [1, 3]), ([4], [4]), ([5], [5]), ([6, 5], [5, 6]), ([7, 5], [5, 7]), ([5], [5]), ([8, 9, 5], [5, 8, 9]), ([5, 10], [5, 10]), ([11, 5], [11]), ([12], [12]), ([12], [12]), ([13, 14, 12], [12, 13, 14]), ([15, 12], [12, 15]), ([12], [12]), ([16, 17, 12], [12, 16, 17]), ([12, 18], [12, 18])])
def laws_FnPlaceWays.B21 : List Nat := [0, 1, 0, 4, 15, 31, 63, 127, 255, 63, 1023, 2047, 4095, 8191, 8191, 32767, 65535, 8191, 262143, 524287]
theorem laws_FnPlaceWays.tab21 : rtab .any (opsOf Try.f11 21) = laws_FnPlaceWays.T21 := by kernel_rfl
theorem laws_FnPlaceWays.bits21 : waitsOk laws_FnPlaceWays.T21.2 laws_FnPlaceWays.B21 = true := by kernel_rfl
def laws_FnPlaceWays.T26 : Bool × List (List Nat × List Nat) := (true, [([], []), ([], []), ([1], [1]), ([0, 2], [0, 2]), ([3], [3]), ([], []), ([], []), ([5, 6], [5, 6]), ([7], [7]), ([4, 8], [4, 8]), ([9], [9]), ([10], [10]), ([10], [10]), ([11, 9, 0, 1, 2, 3, 4, 5, 6, 7, 8, 9, 10, 11], [11]), ([12, 13, 0, 1, 2, 3, 4, 5, 6, 7, 8, 9, 10, 11, 12, 13], [12])])
def laws_FnPlaceWays.B26 : List Nat := [0, 0, 2, 7, 15, 0, 0, 96, 224, 511, 1023, 2047, 2047, 4095, 16383]
theorem laws_FnPlaceWays.tab26 : rtab .any (opsOf Try.f11 26) = laws_FnPlaceWays.T26 := by kernel_rfl
theorem laws_FnPlaceWays.bits26 : waitsOk laws_FnPlaceWays.T26.2 laws_FnPlaceWays.B26 = true := by kernel_rfl
/-- The code behind so many steps. -/
def laws_FnPlaceWays.dropSeq : Nat → Code → Code
  | n + 1, .seq _ b => laws_FnPlaceWays.dropSeq n b
  | _, c => c
end Go.Proofs.Ytmjejlifohghjaa.FC
