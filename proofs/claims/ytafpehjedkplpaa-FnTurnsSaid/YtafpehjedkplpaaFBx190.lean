import Derived.Test.YtafpehjedkplpaaFBx0
import Derived.Test.YtafpehjedkplpaaFBx1
import Derived.Test.YtafpehjedkplpaaFBx2
import Derived.Test.YtafpehjedkplpaaFBx4
import Derived.Test.YtafpehjedkplpaaFBx6
import Derived.Test.YtafpehjedkplpaaFBx7
import Derived.Test.YtafpehjedkplpaaFBx9
import Derived.Test.YtafpehjedkplpaaFBx11
import Derived.Test.YtafpehjedkplpaaFBx13
import Derived.Test.YtafpehjedkplpaaFBx14
import Derived.Test.YtafpehjedkplpaaFBx16
import Derived.Test.YtafpehjedkplpaaFBx17
import Derived.Test.YtafpehjedkplpaaFBx18
-- laid by pr.py (wip/tools) over the kit's printer; Lean checks it
namespace Go.Proofs.Ytafpehjedkplpaa.FB
open Go.RowKit Go.Proofs.YtafpehjedkplpaaW.PrintWords Go.Proofs.YtafpehjedkplpaaW.PrintLast Go.Proofs.YtafpehjedkplpaaW.PrintMore
attribute [local go_sem] max2_int min2_int max_two min_two max_three min_three max_four min_four   -- for this text's walks alone
set_option linter.unusedVariables false
set_option linter.unusedSimpArgs false

attribute [local go_sem high] eqA28
/-! ### laws_FnTurns: function 14 -/
mutual
def laws_FnTurns.j0 : Nat → List Int → Int → Int → Bool → Bool → Int → Int → Int → Int → Option (Bool)
  | 0, _, _, _, _, _, _, _, _, _ => none
  | k + 1, x1, x6, x7, x9, x74, x328000, x328001, x332000, x332001 => if x74 = true then (some false) else (if x9 = true then ((impl_TurnHand.f k x332000 x332001 x6 (wrap64 (-x7))).bind fun bt336 => (if bt336.2.2 = true then (if (!(bt336.1 == x328000) || (!(bt336.2.1 == x328001))) = true then (laws_FnTurns.j1 k x1 x6 true x328000 x328001) else ((impl_IsOrient.f x332000 x332001).bind fun t340 => (laws_FnTurns.j1 k x1 x6 (!t340) x328000 x328001))) else (laws_FnTurns.j1 k x1 x6 true x328000 x328001))) else (laws_FnTurns.j3 k x1))
def laws_FnTurns.j3 : Nat → List Int → Option (Bool)
  | 0, _ => none
  | k + 1, x1 => (spec_DrawTurnWay.f k x1).bind fun bt350 => ((impl_TurnWay.f k bt350.1 bt350.2.1 bt350.2.2.1 bt350.2.2.2).bind fun bt356 => ((spec_TurnWay.f k bt350.1 bt350.2.1 bt350.2.2.1 bt350.2.2.2).bind fun bt360 => ((impl_LeastTurns.f k bt350.1 bt350.2.1 bt350.2.2.1 bt350.2.2.2).bind fun bt364 => ((spec_LeastTurns.f k bt350.1 bt350.2.1 bt350.2.2.1 bt350.2.2.2).bind fun bt366 => (if (bt356.2 != bt360.2) = true then (laws_FnTurns.j4 k x1 bt356.2 bt360.1 bt366.1 true bt350.1 bt350.2.1 bt350.2.2.1 bt350.2.2.2) else ((laws_sameInts.f k bt356.1 bt360.1).bind fun t368 => (if t368 = true then (if (bt364.2 != bt366.2) = true then (laws_FnTurns.j4 k x1 bt356.2 bt360.1 bt366.1 true bt350.1 bt350.2.1 bt350.2.2.1 bt350.2.2.2) else (if bt364.1 = bt366.1 then (laws_FnTurns.j4 k x1 bt356.2 bt360.1 bt366.1 (bt356.2 != bt364.2) bt350.1 bt350.2.1 bt350.2.2.1 bt350.2.2.2) else (laws_FnTurns.j4 k x1 bt356.2 bt360.1 bt366.1 true bt350.1 bt350.2.1 bt350.2.2.1 bt350.2.2.2))) else (laws_FnTurns.j4 k x1 bt356.2 bt360.1 bt366.1 true bt350.1 bt350.2.1 bt350.2.2.1 bt350.2.2.2))))))))
def laws_FnTurns.j4 : Nat → List Int → Bool → List Int → Int → Bool → Int → Int → Int → Int → Option (Bool)
  | 0, _, _, _, _, _, _, _, _, _ => none
  | k + 1, x1, x23, x24, x28, x180, x355000, x355001, x356000, x356001 => if x180 = true then (some false) else (if x23 = true then ((impl_LeastTurns.f k x356000 x356001 x355000 x355001).bind fun bt369 => (laws_FnTurns.l1 k x1 x24 x28 bt369.1 bt369.2 x24 (x24.length : Int) 0 x355000 x355001 x356000 x356001 x355000 x355001)) else (laws_FnTurns.j6 k x1))
def laws_FnTurns.j6 : Nat → List Int → Option (Bool)
  | 0, _ => none
  | k + 1, x1 => (spec_DrawThirdDir.f k x1).bind fun bt381 => ((impl_ThirdDir.f bt381.1 bt381.2).bind fun bt384 => ((spec_ThirdDir.f k bt381.1 bt381.2).bind fun bt386 => (if (bt384.2 != bt386.2) = true then (laws_FnTurns.j7 k bt384.2 bt386.1 true bt381.1 bt381.2) else (laws_FnTurns.j7 k bt384.2 bt386.1 (bt384.1 != bt386.1) bt381.1 bt381.2))))
def laws_FnTurns.j7 : Nat → Bool → Int → Bool → Int → Int → Option (Bool)
  | 0, _, _, _, _, _ => none
  | k + 1, x41, x42, x269, x384000, x384001 => if x269 = true then (some false) else (if x41 = true then (if x42 = x384000 then (some false) else (if x42 = x384001 then (some false) else ((impl_IsOrient.f x384000 x42).bind fun t388 => (if t388 = true then ((impl_IsOrient.f x384001 x42).bind fun t389 => (some t389)) else (some false))))) else (some true))
def laws_FnTurns.l1 : Nat → List Int → List Int → Int → Int → Bool → List Int → Int → Int → Int → Int → Int → Int → Int → Int → Option (Bool)
  | 0, _, _, _, _, _, _, _, _, _, _, _, _, _, _ => none
  | k + 1, x1, x24, x28, x30, x31, x189, x190, x191, x355000, x355001, x356000, x356001, x372000, x372001 => if x191 < x190 then (if 0 ≤ x191 then (if x191 < (x189.length : Int) then ((impl_TurnHand.f k x372000 x372001 (rd x189 x191) 1).bind fun bt373 => ((spec_TurnHand.f k x372000 x372001 (rd x189 x191) 1).bind fun bt377 => (if bt373.2.2 = true then (if bt377.2.2 = true then (if (!(bt373.1 == bt377.1) || (!(bt373.2.1 == bt377.2.1))) = true then (some false) else (laws_FnTurns.l1 k x1 x24 x28 x30 x31 x189 x190 (wrap64 (x191 + 1)) x355000 x355001 x356000 x356001 bt377.1 bt377.2.1)) else (some false)) else (some false)))) else (none)) else (none)) else (if (!(x372000 == x356000) || (!(x372001 == x356001))) = true then (some false) else (if (x24.length : Int) = x28 then (if x28 > 3 then (some false) else (if ((x28 == 0) != (x355000 == x356000 && (x355001 == x356001))) = true then (some false) else (if x31 = true then (if x30 = x28 then (laws_FnTurns.j6 k x1) else (some false)) else (some false)))) else (some false)))
def laws_FnTurns.j1 : Nat → List Int → Int → Bool → Int → Int → Option (Bool)
  | 0, _, _, _, _, _ => none
  | k + 1, x1, x6, x95, x328000, x328001 => if x95 = true then (some false) else (laws_FnTurns.l0 k x1 x6 0 x328000 x328001 x328000 x328001)
def laws_FnTurns.l0 : Nat → List Int → Int → Int → Int → Int → Int → Int → Option (Bool)
  | 0, _, _, _, _, _, _, _ => none
  | k + 1, x1, x6, x15, x328000, x328001, x342000, x342001 => if x15 < 4 then ((impl_TurnHand.f k x342000 x342001 x6 1).bind fun bt342 => ((spec_TurnHand.f k x342000 x342001 x6 1).bind fun bt346 => (if bt342.2.2 = true then (if bt346.2.2 = true then (if (!(bt342.1 == bt346.1) || (!(bt342.2.1 == bt346.2.1))) = true then (some false) else (laws_FnTurns.l0 k x1 x6 (wrap64 (x15 + 1)) x328000 x328001 bt346.1 bt346.2.1)) else (some false)) else (some false)))) else (if (!(x342000 == x328000) || (!(x342001 == x328001))) = true then (some false) else (laws_FnTurns.j3 k x1))
end
def laws_FnTurns.f (k : Nat) (l0 : List Int) (l1 : List Int) : Option (Bool) := (laws_big.f l0 l1).bind fun t322 => (if t322 = true then (some true) else ((spec_DrawTurnHand.f k l0).bind fun bt323 => ((impl_TurnHand.f k bt323.1 bt323.2.1 bt323.2.2.1 bt323.2.2.2).bind fun bt328 => ((spec_TurnHand.f k bt323.1 bt323.2.1 bt323.2.2.1 bt323.2.2.2).bind fun bt332 => (if (bt328.2.2 != bt332.2.2) = true then (laws_FnTurns.j0 k l1 bt323.2.2.1 bt323.2.2.2 bt328.2.2 true bt323.1 bt323.2.1 bt328.1 bt328.2.1) else (laws_FnTurns.j0 k l1 bt323.2.2.1 bt323.2.2.2 bt328.2.2 (!(bt328.1 == bt332.1) || (!(bt328.2.1 == bt332.2.1))) bt323.1 bt323.2.1 bt328.1 bt328.2.1))))))
theorem laws_FnTurns.mono_l : ∀ k, (∀ y0 y1 y2 y3 y4 y5 y6 y7 y8, LeO (laws_FnTurns.j0 k y0 y1 y2 y3 y4 y5 y6 y7 y8) (laws_FnTurns.j0 (k + 1) y0 y1 y2 y3 y4 y5 y6 y7 y8)) ∧ (∀ y0, LeO (laws_FnTurns.j3 k y0) (laws_FnTurns.j3 (k + 1) y0)) ∧ (∀ y0 y1 y2 y3 y4 y5 y6 y7 y8, LeO (laws_FnTurns.j4 k y0 y1 y2 y3 y4 y5 y6 y7 y8) (laws_FnTurns.j4 (k + 1) y0 y1 y2 y3 y4 y5 y6 y7 y8)) ∧ (∀ y0, LeO (laws_FnTurns.j6 k y0) (laws_FnTurns.j6 (k + 1) y0)) ∧ (∀ y0 y1 y2 y3 y4, LeO (laws_FnTurns.j7 k y0 y1 y2 y3 y4) (laws_FnTurns.j7 (k + 1) y0 y1 y2 y3 y4)) ∧ (∀ y0 y1 y2 y3 y4 y5 y6 y7 y8 y9 y10 y11 y12 y13, LeO (laws_FnTurns.l1 k y0 y1 y2 y3 y4 y5 y6 y7 y8 y9 y10 y11 y12 y13) (laws_FnTurns.l1 (k + 1) y0 y1 y2 y3 y4 y5 y6 y7 y8 y9 y10 y11 y12 y13)) ∧ (∀ y0 y1 y2 y3 y4, LeO (laws_FnTurns.j1 k y0 y1 y2 y3 y4) (laws_FnTurns.j1 (k + 1) y0 y1 y2 y3 y4)) ∧ (∀ y0 y1 y2 y3 y4 y5 y6, LeO (laws_FnTurns.l0 k y0 y1 y2 y3 y4 y5 y6) (laws_FnTurns.l0 (k + 1) y0 y1 y2 y3 y4 y5 y6))
  | 0 => ⟨fun _ _ _ _ _ _ _ _ _ r h => by simp [laws_FnTurns.j0] at h, fun _ r h => by simp [laws_FnTurns.j3] at h, fun _ _ _ _ _ _ _ _ _ r h => by simp [laws_FnTurns.j4] at h, fun _ r h => by simp [laws_FnTurns.j6] at h, fun _ _ _ _ _ r h => by simp [laws_FnTurns.j7] at h, fun _ _ _ _ _ _ _ _ _ _ _ _ _ _ r h => by simp [laws_FnTurns.l1] at h, fun _ _ _ _ _ r h => by simp [laws_FnTurns.j1] at h, fun _ _ _ _ _ _ _ r h => by simp [laws_FnTurns.l0] at h⟩
  | k + 1 => by
    obtain ⟨ih0, ih1, ih2, ih3, ih4, ih5, ih6, ih7⟩ := laws_FnTurns.mono_l k
    refine ⟨?_, ?_, ?_, ?_, ?_, ?_, ?_, ?_⟩
    · intro y0 y1 y2 y3 y4 y5 y6 y7 y8
      unfold laws_FnTurns.j0
      repeat' first
      | (with_reducible exact ih0 _ _ _ _ _ _ _ _ _)
      | (with_reducible exact ih1 _)
      | (with_reducible exact ih2 _ _ _ _ _ _ _ _ _)
      | (with_reducible exact ih3 _)
      | (with_reducible exact ih4 _ _ _ _ _)
      | (with_reducible exact ih5 _ _ _ _ _ _ _ _ _ _ _ _ _ _)
      | (with_reducible exact ih6 _ _ _ _ _)
      | (with_reducible exact ih7 _ _ _ _ _ _ _)
      | (with_reducible exact impl_LeastTurns.mono _ _ _ _ _)
      | (with_reducible exact impl_TurnHand.mono _ _ _ _ _)
      | (with_reducible exact impl_TurnWay.mono _ _ _ _ _)
      | (with_reducible exact laws_sameInts.mono _ _ _)
      | (with_reducible exact spec_DrawThirdDir.mono _ _)
      | (with_reducible exact spec_DrawTurnHand.mono _ _)
      | (with_reducible exact spec_DrawTurnWay.mono _ _)
      | (with_reducible exact spec_LeastTurns.mono _ _ _ _ _)
      | (with_reducible exact spec_ThirdDir.mono _ _ _)
      | (with_reducible exact spec_TurnHand.mono _ _ _ _ _)
      | (with_reducible exact spec_TurnWay.mono _ _ _ _ _)
      | (with_reducible exact LeO.refl _)
      | (with_reducible exact LeO.none _)
      | (with_reducible refine LeO.ite ?_ ?_)
      | (with_reducible refine LeO.bind ?_ (fun _ => ?_))
      | exact ih0 _ _ _ _ _ _ _ _ _
      | exact ih1 _
      | exact ih2 _ _ _ _ _ _ _ _ _
      | exact ih3 _
      | exact ih4 _ _ _ _ _
      | exact ih5 _ _ _ _ _ _ _ _ _ _ _ _ _ _
      | exact ih6 _ _ _ _ _
      | exact ih7 _ _ _ _ _ _ _
      | exact impl_LeastTurns.mono _ _ _ _ _
      | exact impl_TurnHand.mono _ _ _ _ _
      | exact impl_TurnWay.mono _ _ _ _ _
      | exact laws_sameInts.mono _ _ _
      | exact spec_DrawThirdDir.mono _ _
      | exact spec_DrawTurnHand.mono _ _
      | exact spec_DrawTurnWay.mono _ _
      | exact spec_LeastTurns.mono _ _ _ _ _
      | exact spec_ThirdDir.mono _ _ _
      | exact spec_TurnHand.mono _ _ _ _ _
      | exact spec_TurnWay.mono _ _ _ _ _
      | exact LeO.none _
      | refine LeO.ite ?_ ?_
      | refine LeO.bind ?_ (fun _ => ?_)
    · intro y0
      unfold laws_FnTurns.j3
      repeat' first
      | (with_reducible exact ih0 _ _ _ _ _ _ _ _ _)
      | (with_reducible exact ih1 _)
      | (with_reducible exact ih2 _ _ _ _ _ _ _ _ _)
      | (with_reducible exact ih3 _)
      | (with_reducible exact ih4 _ _ _ _ _)
      | (with_reducible exact ih5 _ _ _ _ _ _ _ _ _ _ _ _ _ _)
      | (with_reducible exact ih6 _ _ _ _ _)
      | (with_reducible exact ih7 _ _ _ _ _ _ _)
      | (with_reducible exact impl_LeastTurns.mono _ _ _ _ _)
      | (with_reducible exact impl_TurnHand.mono _ _ _ _ _)
      | (with_reducible exact impl_TurnWay.mono _ _ _ _ _)
      | (with_reducible exact laws_sameInts.mono _ _ _)
      | (with_reducible exact spec_DrawThirdDir.mono _ _)
      | (with_reducible exact spec_DrawTurnHand.mono _ _)
      | (with_reducible exact spec_DrawTurnWay.mono _ _)
      | (with_reducible exact spec_LeastTurns.mono _ _ _ _ _)
      | (with_reducible exact spec_ThirdDir.mono _ _ _)
      | (with_reducible exact spec_TurnHand.mono _ _ _ _ _)
      | (with_reducible exact spec_TurnWay.mono _ _ _ _ _)
      | (with_reducible exact LeO.refl _)
      | (with_reducible exact LeO.none _)
      | (with_reducible refine LeO.ite ?_ ?_)
      | (with_reducible refine LeO.bind ?_ (fun _ => ?_))
      | exact ih0 _ _ _ _ _ _ _ _ _
      | exact ih1 _
      | exact ih2 _ _ _ _ _ _ _ _ _
      | exact ih3 _
      | exact ih4 _ _ _ _ _
      | exact ih5 _ _ _ _ _ _ _ _ _ _ _ _ _ _
      | exact ih6 _ _ _ _ _
      | exact ih7 _ _ _ _ _ _ _
      | exact impl_LeastTurns.mono _ _ _ _ _
      | exact impl_TurnHand.mono _ _ _ _ _
      | exact impl_TurnWay.mono _ _ _ _ _
      | exact laws_sameInts.mono _ _ _
      | exact spec_DrawThirdDir.mono _ _
      | exact spec_DrawTurnHand.mono _ _
      | exact spec_DrawTurnWay.mono _ _
      | exact spec_LeastTurns.mono _ _ _ _ _
      | exact spec_ThirdDir.mono _ _ _
      | exact spec_TurnHand.mono _ _ _ _ _
      | exact spec_TurnWay.mono _ _ _ _ _
      | exact LeO.none _
      | refine LeO.ite ?_ ?_
      | refine LeO.bind ?_ (fun _ => ?_)
    · intro y0 y1 y2 y3 y4 y5 y6 y7 y8
      unfold laws_FnTurns.j4
      repeat' first
      | (with_reducible exact ih0 _ _ _ _ _ _ _ _ _)
      | (with_reducible exact ih1 _)
      | (with_reducible exact ih2 _ _ _ _ _ _ _ _ _)
      | (with_reducible exact ih3 _)
      | (with_reducible exact ih4 _ _ _ _ _)
      | (with_reducible exact ih5 _ _ _ _ _ _ _ _ _ _ _ _ _ _)
      | (with_reducible exact ih6 _ _ _ _ _)
      | (with_reducible exact ih7 _ _ _ _ _ _ _)
      | (with_reducible exact impl_LeastTurns.mono _ _ _ _ _)
      | (with_reducible exact impl_TurnHand.mono _ _ _ _ _)
      | (with_reducible exact impl_TurnWay.mono _ _ _ _ _)
      | (with_reducible exact laws_sameInts.mono _ _ _)
      | (with_reducible exact spec_DrawThirdDir.mono _ _)
      | (with_reducible exact spec_DrawTurnHand.mono _ _)
      | (with_reducible exact spec_DrawTurnWay.mono _ _)
      | (with_reducible exact spec_LeastTurns.mono _ _ _ _ _)
      | (with_reducible exact spec_ThirdDir.mono _ _ _)
      | (with_reducible exact spec_TurnHand.mono _ _ _ _ _)
      | (with_reducible exact spec_TurnWay.mono _ _ _ _ _)
      | (with_reducible exact LeO.refl _)
      | (with_reducible exact LeO.none _)
      | (with_reducible refine LeO.ite ?_ ?_)
      | (with_reducible refine LeO.bind ?_ (fun _ => ?_))
      | exact ih0 _ _ _ _ _ _ _ _ _
      | exact ih1 _
      | exact ih2 _ _ _ _ _ _ _ _ _
      | exact ih3 _
      | exact ih4 _ _ _ _ _
      | exact ih5 _ _ _ _ _ _ _ _ _ _ _ _ _ _
      | exact ih6 _ _ _ _ _
      | exact ih7 _ _ _ _ _ _ _
      | exact impl_LeastTurns.mono _ _ _ _ _
      | exact impl_TurnHand.mono _ _ _ _ _
      | exact impl_TurnWay.mono _ _ _ _ _
      | exact laws_sameInts.mono _ _ _
      | exact spec_DrawThirdDir.mono _ _
      | exact spec_DrawTurnHand.mono _ _
      | exact spec_DrawTurnWay.mono _ _
      | exact spec_LeastTurns.mono _ _ _ _ _
      | exact spec_ThirdDir.mono _ _ _
      | exact spec_TurnHand.mono _ _ _ _ _
      | exact spec_TurnWay.mono _ _ _ _ _
      | exact LeO.none _
      | refine LeO.ite ?_ ?_
      | refine LeO.bind ?_ (fun _ => ?_)
    · intro y0
      unfold laws_FnTurns.j6
      repeat' first
      | (with_reducible exact ih0 _ _ _ _ _ _ _ _ _)
      | (with_reducible exact ih1 _)
      | (with_reducible exact ih2 _ _ _ _ _ _ _ _ _)
      | (with_reducible exact ih3 _)
      | (with_reducible exact ih4 _ _ _ _ _)
      | (with_reducible exact ih5 _ _ _ _ _ _ _ _ _ _ _ _ _ _)
      | (with_reducible exact ih6 _ _ _ _ _)
      | (with_reducible exact ih7 _ _ _ _ _ _ _)
      | (with_reducible exact impl_LeastTurns.mono _ _ _ _ _)
      | (with_reducible exact impl_TurnHand.mono _ _ _ _ _)
      | (with_reducible exact impl_TurnWay.mono _ _ _ _ _)
      | (with_reducible exact laws_sameInts.mono _ _ _)
      | (with_reducible exact spec_DrawThirdDir.mono _ _)
      | (with_reducible exact spec_DrawTurnHand.mono _ _)
      | (with_reducible exact spec_DrawTurnWay.mono _ _)
      | (with_reducible exact spec_LeastTurns.mono _ _ _ _ _)
      | (with_reducible exact spec_ThirdDir.mono _ _ _)
      | (with_reducible exact spec_TurnHand.mono _ _ _ _ _)
      | (with_reducible exact spec_TurnWay.mono _ _ _ _ _)
      | (with_reducible exact LeO.refl _)
      | (with_reducible exact LeO.none _)
      | (with_reducible refine LeO.ite ?_ ?_)
      | (with_reducible refine LeO.bind ?_ (fun _ => ?_))
      | exact ih0 _ _ _ _ _ _ _ _ _
      | exact ih1 _
      | exact ih2 _ _ _ _ _ _ _ _ _
      | exact ih3 _
      | exact ih4 _ _ _ _ _
      | exact ih5 _ _ _ _ _ _ _ _ _ _ _ _ _ _
      | exact ih6 _ _ _ _ _
      | exact ih7 _ _ _ _ _ _ _
      | exact impl_LeastTurns.mono _ _ _ _ _
      | exact impl_TurnHand.mono _ _ _ _ _
      | exact impl_TurnWay.mono _ _ _ _ _
      | exact laws_sameInts.mono _ _ _
      | exact spec_DrawThirdDir.mono _ _
      | exact spec_DrawTurnHand.mono _ _
      | exact spec_DrawTurnWay.mono _ _
      | exact spec_LeastTurns.mono _ _ _ _ _
      | exact spec_ThirdDir.mono _ _ _
      | exact spec_TurnHand.mono _ _ _ _ _
      | exact spec_TurnWay.mono _ _ _ _ _
      | exact LeO.none _
      | refine LeO.ite ?_ ?_
      | refine LeO.bind ?_ (fun _ => ?_)
    · intro y0 y1 y2 y3 y4
      unfold laws_FnTurns.j7
      repeat' first
      | (with_reducible exact ih0 _ _ _ _ _ _ _ _ _)
      | (with_reducible exact ih1 _)
      | (with_reducible exact ih2 _ _ _ _ _ _ _ _ _)
      | (with_reducible exact ih3 _)
      | (with_reducible exact ih4 _ _ _ _ _)
      | (with_reducible exact ih5 _ _ _ _ _ _ _ _ _ _ _ _ _ _)
      | (with_reducible exact ih6 _ _ _ _ _)
      | (with_reducible exact ih7 _ _ _ _ _ _ _)
      | (with_reducible exact impl_LeastTurns.mono _ _ _ _ _)
      | (with_reducible exact impl_TurnHand.mono _ _ _ _ _)
      | (with_reducible exact impl_TurnWay.mono _ _ _ _ _)
      | (with_reducible exact laws_sameInts.mono _ _ _)
      | (with_reducible exact spec_DrawThirdDir.mono _ _)
      | (with_reducible exact spec_DrawTurnHand.mono _ _)
      | (with_reducible exact spec_DrawTurnWay.mono _ _)
      | (with_reducible exact spec_LeastTurns.mono _ _ _ _ _)
      | (with_reducible exact spec_ThirdDir.mono _ _ _)
      | (with_reducible exact spec_TurnHand.mono _ _ _ _ _)
      | (with_reducible exact spec_TurnWay.mono _ _ _ _ _)
      | (with_reducible exact LeO.refl _)
      | (with_reducible exact LeO.none _)
      | (with_reducible refine LeO.ite ?_ ?_)
      | (with_reducible refine LeO.bind ?_ (fun _ => ?_))
      | exact ih0 _ _ _ _ _ _ _ _ _
      | exact ih1 _
      | exact ih2 _ _ _ _ _ _ _ _ _
      | exact ih3 _
      | exact ih4 _ _ _ _ _
      | exact ih5 _ _ _ _ _ _ _ _ _ _ _ _ _ _
      | exact ih6 _ _ _ _ _
      | exact ih7 _ _ _ _ _ _ _
      | exact impl_LeastTurns.mono _ _ _ _ _
      | exact impl_TurnHand.mono _ _ _ _ _
      | exact impl_TurnWay.mono _ _ _ _ _
      | exact laws_sameInts.mono _ _ _
      | exact spec_DrawThirdDir.mono _ _
      | exact spec_DrawTurnHand.mono _ _
      | exact spec_DrawTurnWay.mono _ _
      | exact spec_LeastTurns.mono _ _ _ _ _
      | exact spec_ThirdDir.mono _ _ _
      | exact spec_TurnHand.mono _ _ _ _ _
      | exact spec_TurnWay.mono _ _ _ _ _
      | exact LeO.none _
      | refine LeO.ite ?_ ?_
      | refine LeO.bind ?_ (fun _ => ?_)
    · intro y0 y1 y2 y3 y4 y5 y6 y7 y8 y9 y10 y11 y12 y13
      unfold laws_FnTurns.l1
      repeat' first
      | (with_reducible exact ih0 _ _ _ _ _ _ _ _ _)
      | (with_reducible exact ih1 _)
      | (with_reducible exact ih2 _ _ _ _ _ _ _ _ _)
      | (with_reducible exact ih3 _)
      | (with_reducible exact ih4 _ _ _ _ _)
      | (with_reducible exact ih5 _ _ _ _ _ _ _ _ _ _ _ _ _ _)
      | (with_reducible exact ih6 _ _ _ _ _)
      | (with_reducible exact ih7 _ _ _ _ _ _ _)
      | (with_reducible exact impl_LeastTurns.mono _ _ _ _ _)
      | (with_reducible exact impl_TurnHand.mono _ _ _ _ _)
      | (with_reducible exact impl_TurnWay.mono _ _ _ _ _)
      | (with_reducible exact laws_sameInts.mono _ _ _)
      | (with_reducible exact spec_DrawThirdDir.mono _ _)
      | (with_reducible exact spec_DrawTurnHand.mono _ _)
      | (with_reducible exact spec_DrawTurnWay.mono _ _)
      | (with_reducible exact spec_LeastTurns.mono _ _ _ _ _)
      | (with_reducible exact spec_ThirdDir.mono _ _ _)
      | (with_reducible exact spec_TurnHand.mono _ _ _ _ _)
      | (with_reducible exact spec_TurnWay.mono _ _ _ _ _)
      | (with_reducible exact LeO.refl _)
      | (with_reducible exact LeO.none _)
      | (with_reducible refine LeO.ite ?_ ?_)
      | (with_reducible refine LeO.bind ?_ (fun _ => ?_))
      | exact ih0 _ _ _ _ _ _ _ _ _
      | exact ih1 _
      | exact ih2 _ _ _ _ _ _ _ _ _
      | exact ih3 _
      | exact ih4 _ _ _ _ _
      | exact ih5 _ _ _ _ _ _ _ _ _ _ _ _ _ _
      | exact ih6 _ _ _ _ _
      | exact ih7 _ _ _ _ _ _ _
      | exact impl_LeastTurns.mono _ _ _ _ _
      | exact impl_TurnHand.mono _ _ _ _ _
      | exact impl_TurnWay.mono _ _ _ _ _
      | exact laws_sameInts.mono _ _ _
      | exact spec_DrawThirdDir.mono _ _
      | exact spec_DrawTurnHand.mono _ _
      | exact spec_DrawTurnWay.mono _ _
      | exact spec_LeastTurns.mono _ _ _ _ _
      | exact spec_ThirdDir.mono _ _ _
      | exact spec_TurnHand.mono _ _ _ _ _
      | exact spec_TurnWay.mono _ _ _ _ _
      | exact LeO.none _
      | refine LeO.ite ?_ ?_
      | refine LeO.bind ?_ (fun _ => ?_)
    · intro y0 y1 y2 y3 y4
      unfold laws_FnTurns.j1
      repeat' first
      | (with_reducible exact ih0 _ _ _ _ _ _ _ _ _)
      | (with_reducible exact ih1 _)
      | (with_reducible exact ih2 _ _ _ _ _ _ _ _ _)
      | (with_reducible exact ih3 _)
      | (with_reducible exact ih4 _ _ _ _ _)
      | (with_reducible exact ih5 _ _ _ _ _ _ _ _ _ _ _ _ _ _)
      | (with_reducible exact ih6 _ _ _ _ _)
      | (with_reducible exact ih7 _ _ _ _ _ _ _)
      | (with_reducible exact impl_LeastTurns.mono _ _ _ _ _)
      | (with_reducible exact impl_TurnHand.mono _ _ _ _ _)
      | (with_reducible exact impl_TurnWay.mono _ _ _ _ _)
      | (with_reducible exact laws_sameInts.mono _ _ _)
      | (with_reducible exact spec_DrawThirdDir.mono _ _)
      | (with_reducible exact spec_DrawTurnHand.mono _ _)
      | (with_reducible exact spec_DrawTurnWay.mono _ _)
      | (with_reducible exact spec_LeastTurns.mono _ _ _ _ _)
      | (with_reducible exact spec_ThirdDir.mono _ _ _)
      | (with_reducible exact spec_TurnHand.mono _ _ _ _ _)
      | (with_reducible exact spec_TurnWay.mono _ _ _ _ _)
      | (with_reducible exact LeO.refl _)
      | (with_reducible exact LeO.none _)
      | (with_reducible refine LeO.ite ?_ ?_)
      | (with_reducible refine LeO.bind ?_ (fun _ => ?_))
      | exact ih0 _ _ _ _ _ _ _ _ _
      | exact ih1 _
      | exact ih2 _ _ _ _ _ _ _ _ _
      | exact ih3 _
      | exact ih4 _ _ _ _ _
      | exact ih5 _ _ _ _ _ _ _ _ _ _ _ _ _ _
      | exact ih6 _ _ _ _ _
      | exact ih7 _ _ _ _ _ _ _
      | exact impl_LeastTurns.mono _ _ _ _ _
      | exact impl_TurnHand.mono _ _ _ _ _
      | exact impl_TurnWay.mono _ _ _ _ _
      | exact laws_sameInts.mono _ _ _
      | exact spec_DrawThirdDir.mono _ _
      | exact spec_DrawTurnHand.mono _ _
      | exact spec_DrawTurnWay.mono _ _
      | exact spec_LeastTurns.mono _ _ _ _ _
      | exact spec_ThirdDir.mono _ _ _
      | exact spec_TurnHand.mono _ _ _ _ _
      | exact spec_TurnWay.mono _ _ _ _ _
      | exact LeO.none _
      | refine LeO.ite ?_ ?_
      | refine LeO.bind ?_ (fun _ => ?_)
    · intro y0 y1 y2 y3 y4 y5 y6
      unfold laws_FnTurns.l0
      repeat' first
      | (with_reducible exact ih0 _ _ _ _ _ _ _ _ _)
      | (with_reducible exact ih1 _)
      | (with_reducible exact ih2 _ _ _ _ _ _ _ _ _)
      | (with_reducible exact ih3 _)
      | (with_reducible exact ih4 _ _ _ _ _)
      | (with_reducible exact ih5 _ _ _ _ _ _ _ _ _ _ _ _ _ _)
      | (with_reducible exact ih6 _ _ _ _ _)
      | (with_reducible exact ih7 _ _ _ _ _ _ _)
      | (with_reducible exact impl_LeastTurns.mono _ _ _ _ _)
      | (with_reducible exact impl_TurnHand.mono _ _ _ _ _)
      | (with_reducible exact impl_TurnWay.mono _ _ _ _ _)
      | (with_reducible exact laws_sameInts.mono _ _ _)
      | (with_reducible exact spec_DrawThirdDir.mono _ _)
      | (with_reducible exact spec_DrawTurnHand.mono _ _)
      | (with_reducible exact spec_DrawTurnWay.mono _ _)
      | (with_reducible exact spec_LeastTurns.mono _ _ _ _ _)
      | (with_reducible exact spec_ThirdDir.mono _ _ _)
      | (with_reducible exact spec_TurnHand.mono _ _ _ _ _)
      | (with_reducible exact spec_TurnWay.mono _ _ _ _ _)
      | (with_reducible exact LeO.refl _)
      | (with_reducible exact LeO.none _)
      | (with_reducible refine LeO.ite ?_ ?_)
      | (with_reducible refine LeO.bind ?_ (fun _ => ?_))
      | exact ih0 _ _ _ _ _ _ _ _ _
      | exact ih1 _
      | exact ih2 _ _ _ _ _ _ _ _ _
      | exact ih3 _
      | exact ih4 _ _ _ _ _
      | exact ih5 _ _ _ _ _ _ _ _ _ _ _ _ _ _
      | exact ih6 _ _ _ _ _
      | exact ih7 _ _ _ _ _ _ _
      | exact impl_LeastTurns.mono _ _ _ _ _
      | exact impl_TurnHand.mono _ _ _ _ _
      | exact impl_TurnWay.mono _ _ _ _ _
      | exact laws_sameInts.mono _ _ _
      | exact spec_DrawThirdDir.mono _ _
      | exact spec_DrawTurnHand.mono _ _
      | exact spec_DrawTurnWay.mono _ _
      | exact spec_LeastTurns.mono _ _ _ _ _
      | exact spec_ThirdDir.mono _ _ _
      | exact spec_TurnHand.mono _ _ _ _ _
      | exact spec_TurnWay.mono _ _ _ _ _
      | exact LeO.none _
      | refine LeO.ite ?_ ?_
      | refine LeO.bind ?_ (fun _ => ?_)
theorem laws_FnTurns.mono : ∀ a0 a1 k, LeO (laws_FnTurns.f k a0 a1) (laws_FnTurns.f (k + 1) a0 a1) := by
  intro a0 a1 k
  obtain ⟨ih0, ih1, ih2, ih3, ih4, ih5, ih6, ih7⟩ := laws_FnTurns.mono_l k
  unfold laws_FnTurns.f
  repeat' first
    | (with_reducible exact ih0 _ _ _ _ _ _ _ _ _)
    | (with_reducible exact ih1 _)
    | (with_reducible exact ih2 _ _ _ _ _ _ _ _ _)
    | (with_reducible exact ih3 _)
    | (with_reducible exact ih4 _ _ _ _ _)
    | (with_reducible exact ih5 _ _ _ _ _ _ _ _ _ _ _ _ _ _)
    | (with_reducible exact ih6 _ _ _ _ _)
    | (with_reducible exact ih7 _ _ _ _ _ _ _)
    | (with_reducible exact impl_LeastTurns.mono _ _ _ _ _)
    | (with_reducible exact impl_TurnHand.mono _ _ _ _ _)
    | (with_reducible exact impl_TurnWay.mono _ _ _ _ _)
    | (with_reducible exact laws_sameInts.mono _ _ _)
    | (with_reducible exact spec_DrawThirdDir.mono _ _)
    | (with_reducible exact spec_DrawTurnHand.mono _ _)
    | (with_reducible exact spec_DrawTurnWay.mono _ _)
    | (with_reducible exact spec_LeastTurns.mono _ _ _ _ _)
    | (with_reducible exact spec_ThirdDir.mono _ _ _)
    | (with_reducible exact spec_TurnHand.mono _ _ _ _ _)
    | (with_reducible exact spec_TurnWay.mono _ _ _ _ _)
    | (with_reducible exact LeO.refl _)
    | (with_reducible exact LeO.none _)
    | (with_reducible refine LeO.ite ?_ ?_)
    | (with_reducible refine LeO.bind ?_ (fun _ => ?_))
    | exact ih0 _ _ _ _ _ _ _ _ _
    | exact ih1 _
    | exact ih2 _ _ _ _ _ _ _ _ _
    | exact ih3 _
    | exact ih4 _ _ _ _ _
    | exact ih5 _ _ _ _ _ _ _ _ _ _ _ _ _ _
    | exact ih6 _ _ _ _ _
    | exact ih7 _ _ _ _ _ _ _
    | exact impl_LeastTurns.mono _ _ _ _ _
    | exact impl_TurnHand.mono _ _ _ _ _
    | exact impl_TurnWay.mono _ _ _ _ _
    | exact laws_sameInts.mono _ _ _
    | exact spec_DrawThirdDir.mono _ _
    | exact spec_DrawTurnHand.mono _ _
    | exact spec_DrawTurnWay.mono _ _
    | exact spec_LeastTurns.mono _ _ _ _ _
    | exact spec_ThirdDir.mono _ _ _
    | exact spec_TurnHand.mono _ _ _ _ _
    | exact spec_TurnWay.mono _ _ _ _ _
    | exact LeO.none _
    | refine LeO.ite ?_ ?_
    | refine LeO.bind ?_ (fun _ => ?_)
/-- The code behind so many steps. -/
def laws_FnTurns.dropSeq : Nat → Code → Code
  | n + 1, .seq _ b => laws_FnTurns.dropSeq n b
  | _, c => c
end Go.Proofs.Ytafpehjedkplpaa.FB
