-- Written by this session's own program (xprint.py) over the kit's print.py: functions, contracts and rows of the laws of one seat.
import Derived.Test.YtnoapomobflknaaZsXs0
import Derived.Test.YtnoapomobflknaaZsXs1
import Derived.Test.YtnoapomobflknaaZsXs2
import Derived.Test.YtnoapomobflknaaZsXs4
import Derived.Test.YtnoapomobflknaaZsXs6
import Derived.Test.YtnoapomobflknaaZsXs7
import Derived.Test.YtnoapomobflknaaZsXs8
import Derived.Test.YtnoapomobflknaaZsXs9
import Derived.Test.YtnoapomobflknaaZsXs10
import Derived.Test.YtnoapomobflknaaZsXs11
import Derived.Test.YtnoapomobflknaaZsXs12
namespace Go.Proofs.Ytnoapomobflknaa.Xs
open Go.RowKit Go.Proofs.YtnoapomobflknaaW.PrintWords Go.Proofs.YtnoapomobflknaaW.PrintLast Go.Proofs.YtnoapomobflknaaW.PrintMore
attribute [local go_sem] max2_int min2_int max_two min_two max_three min_three max_four min_four   -- for this text's walks alone
set_option linter.unusedVariables false
set_option linter.unusedSimpArgs false

/-! ### laws_FnLimitedSweeps: function 4 -/
mutual
def laws_FnLimitedSweeps.j0 : Nat → List Int → List Int → Int → List Int → Bool → Bool → Option (Bool)
  | 0, _, _, _, _, _, _ => none
  | k + 1, x0, x3, x4, x5, x6, x73 => if x73 = true then (some false) else ((impl_LimitedWord.f k x3 x4).bind fun bt490 => ((spec_LimitedWord.f k x3 x4).bind fun bt492 => (if bt490.1.toList = bt492.1.toList then (if (bt490.2 != bt492.2) = true then (laws_FnLimitedSweeps.j1 k x0 x3 x4 x5 x6 bt490.1 true) else (laws_FnLimitedSweeps.j1 k x0 x3 x4 x5 x6 bt490.1 (bt490.2 != x6))) else (laws_FnLimitedSweeps.j1 k x0 x3 x4 x5 x6 bt490.1 true))))
def laws_FnLimitedSweeps.j1 : Nat → List Int → List Int → Int → List Int → Bool → ByteArray → Bool → Option (Bool)
  | 0, _, _, _, _, _, _, _ => none
  | k + 1, x0, x3, x4, x5, x6, x9, x98 => if x98 = true then (some false) else ((impl_CountLimitedSweeps.f k x3 x4).bind fun bt494 => ((spec_CountLimitedSweeps.f k x3 x4).bind fun bt496 => (if bt494.1 = bt496.1 then (if (bt494.2 != bt496.2) = true then (laws_FnLimitedSweeps.j2 k x0 x3 x4 x5 x6 x9 bt494.1 bt494.2 true) else (if bt494.2 = true then (laws_FnLimitedSweeps.j2 k x0 x3 x4 x5 x6 x9 bt494.1 bt494.2 (!x6)) else (laws_FnLimitedSweeps.j2 k x0 x3 x4 x5 x6 x9 bt494.1 bt494.2 false))) else (laws_FnLimitedSweeps.j2 k x0 x3 x4 x5 x6 x9 bt494.1 bt494.2 true))))
def laws_FnLimitedSweeps.j2 : Nat → List Int → List Int → Int → List Int → Bool → ByteArray → Int → Bool → Bool → Option (Bool)
  | 0, _, _, _, _, _, _, _, _, _ => none
  | k + 1, x0, x3, x4, x5, x6, x9, x13, x14, x125 => if x125 = true then (some false) else ((spec_DrawMostWithin.f k x0).bind fun bt498 => ((impl_MostWithin.f k bt498.1 bt498.2).bind fun bt502 => ((spec_MostWithin.f k bt498.1 bt498.2).bind fun bt504 => (if bt502.1 = bt504.1 then (laws_FnLimitedSweeps.j3 k x0 x3 x4 x5 x6 x9 x13 x14 bt498.1 bt498.2 bt502.1 bt502.2 (bt502.2 != bt504.2)) else (laws_FnLimitedSweeps.j3 k x0 x3 x4 x5 x6 x9 x13 x14 bt498.1 bt498.2 bt502.1 bt502.2 true)))))
def laws_FnLimitedSweeps.j3 : Nat → List Int → List Int → Int → List Int → Bool → ByteArray → Int → Bool → List Int → Int → Int → Bool → Bool → Option (Bool)
  | 0, _, _, _, _, _, _, _, _, _, _, _, _, _ => none
  | k + 1, x0, x3, x4, x5, x6, x9, x13, x14, x17, x18, x19, x20, x150 => if x150 = true then (some false) else ((spec_DrawBubbleOrder.f k x0).bind fun t506 => ((impl_BubbleOrder.f k t506).bind fun bt509 => ((spec_BubbleOrder.f k t506).bind fun bt513 => (if (bt509.2 != bt513.2) = true then (laws_FnLimitedSweeps.j4 k x3 x4 x5 x6 x9 x13 x14 x17 x18 x19 x20 t506 bt509.1 bt509.2 true) else ((laws_rInts.f k bt509.1 bt513.1).bind fun t517 => (laws_FnLimitedSweeps.j4 k x3 x4 x5 x6 x9 x13 x14 x17 x18 x19 x20 t506 bt509.1 bt509.2 (!t517)))))))
def laws_FnLimitedSweeps.j4 : Nat → List Int → Int → List Int → Bool → ByteArray → Int → Bool → List Int → Int → Int → Bool → List Int → List Int → Bool → Bool → Option (Bool)
  | 0, _, _, _, _, _, _, _, _, _, _, _, _, _, _, _ => none
  | k + 1, x3, x4, x5, x6, x9, x13, x14, x17, x18, x19, x20, x23, x24, x25, x171 => if x171 = true then (some false) else (if x25 = true then ((impl_LimitedSweep.f k x23 1).bind fun bt518 => ((impl_LimitedSweep.f k x23 2).bind fun bt522 => ((impl_LimitedSweep.f k x23 (x23.length : Int)).bind fun bt526 => ((impl_SweepOrder.f k x23).bind fun bt530 => (if bt518.2 = true then (if bt522.2 = true then (if bt526.2 = true then (if bt530.2 = true then ((laws_rInts.f k bt518.1 x23).bind fun t534 => (if t534 = true then ((laws_rInts.f k bt522.1 x24).bind fun t535 => (if t535 = true then ((laws_rInts.f k bt526.1 bt530.1).bind fun t536 => (if t536 = true then (laws_FnLimitedSweeps.j5 k x3 x4 x5 x6 x9 x13 x14 x17 x18 x19 x20) else (some false))) else (some false))) else (some false))) else (some false)) else (some false)) else (some false)) else (some false)))))) else (laws_FnLimitedSweeps.j5 k x3 x4 x5 x6 x9 x13 x14 x17 x18 x19 x20))
def laws_FnLimitedSweeps.j5 : Nat → List Int → Int → List Int → Bool → ByteArray → Int → Bool → List Int → Int → Int → Bool → Option (Bool)
  | 0, _, _, _, _, _, _, _, _, _, _, _ => none
  | k + 1, x3, x4, x5, x6, x9, x13, x14, x17, x18, x19, x20 => if x20 = true then (laws_FnLimitedSweeps.j6 k x3 x4 x5 x6 x9 x13 x14 x17 x18 x19 (decide (x18 < 7))) else (laws_FnLimitedSweeps.j6 k x3 x4 x5 x6 x9 x13 x14 x17 x18 x19 false)
def laws_FnLimitedSweeps.j6 : Nat → List Int → Int → List Int → Bool → ByteArray → Int → Bool → List Int → Int → Int → Bool → Option (Bool)
  | 0, _, _, _, _, _, _, _, _, _, _, _ => none
  | k + 1, x3, x4, x5, x6, x9, x13, x14, x17, x18, x19, x231 => if x231 = true then ((impl_MostWithin.f k x17 (wrap64 (x18 + 1))).bind fun bt537 => (if bt537.2 = true then (if bt537.1 < x19 then (some false) else (laws_FnLimitedSweeps.j7 k x3 x4 x5 x6 x9 x13 x14)) else (some false))) else (laws_FnLimitedSweeps.j7 k x3 x4 x5 x6 x9 x13 x14)
def laws_FnLimitedSweeps.j7 : Nat → List Int → Int → List Int → Bool → ByteArray → Int → Bool → Option (Bool)
  | 0, _, _, _, _, _, _, _ => none
  | k + 1, x3, x4, x5, x6, x9, x13, x14 => if x6 = true then ((impl_RunWord.f k x3 x9).bind fun bt539 => ((impl_DepthOf.f k x9).bind fun bt543 => (if bt539.2 = true then (if bt543.2 = true then ((laws_rInts.f k bt539.1 x5).bind fun t545 => (if t545 = true then (if bt543.1 > x4 then (some false) else (laws_FnLimitedSweeps.j8 k x3 x4 x13 x14)) else (some false))) else (some false)) else (some false)))) else (laws_FnLimitedSweeps.j8 k x3 x4 x13 x14)
def laws_FnLimitedSweeps.j8 : Nat → List Int → Int → Int → Bool → Option (Bool)
  | 0, _, _, _, _ => none
  | k + 1, x3, x4, x13, x14 => if x14 = true then (laws_FnLimitedSweeps.l0 k x3 x4 x13 x3 0) else (some true)
def laws_FnLimitedSweeps.l0 : Nat → List Int → Int → Int → List Int → Int → Option (Bool)
  | 0, _, _, _, _, _ => none
  | k + 1, x3, x4, x13, x42, x43 => if x43 < x13 then ((impl_LimitedSweep.f k x42 x4).bind fun bt547 => (if bt547.2 = true then ((laws_rSorted.f k x42).bind fun t551 => (if t551 = true then (some false) else (laws_FnLimitedSweeps.l0 k x3 x4 x13 bt547.1 (wrap64 (x43 + 1))))) else (some false))) else ((laws_rSorted.f k x42).bind fun t546 => (if t546 = true then (if x13 < (x3.length : Int) then (some true) else (some (x13 == 0))) else (some false)))
end
def laws_FnLimitedSweeps.f (k : Nat) (l0 : List Int) : Option (Bool) := (laws_rBig.f l0).bind fun t476 => (if t476 = true then (some true) else ((spec_DrawLimitedSweep.f k l0).bind fun bt477 => ((impl_LimitedSweep.f k bt477.1 bt477.2).bind fun bt481 => ((spec_LimitedSweep.f k bt477.1 bt477.2).bind fun bt485 => (if (bt481.2 != bt485.2) = true then (laws_FnLimitedSweeps.j0 k l0 bt477.1 bt477.2 bt481.1 bt481.2 true) else ((laws_rInts.f k bt481.1 bt485.1).bind fun t489 => (laws_FnLimitedSweeps.j0 k l0 bt477.1 bt477.2 bt481.1 bt481.2 (!t489))))))))
theorem laws_FnLimitedSweeps.mono_l : ∀ k, (∀ y0 y1 y2 y3 y4 y5, LeO (laws_FnLimitedSweeps.j0 k y0 y1 y2 y3 y4 y5) (laws_FnLimitedSweeps.j0 (k + 1) y0 y1 y2 y3 y4 y5)) ∧ (∀ y0 y1 y2 y3 y4 y5 y6, LeO (laws_FnLimitedSweeps.j1 k y0 y1 y2 y3 y4 y5 y6) (laws_FnLimitedSweeps.j1 (k + 1) y0 y1 y2 y3 y4 y5 y6)) ∧ (∀ y0 y1 y2 y3 y4 y5 y6 y7 y8, LeO (laws_FnLimitedSweeps.j2 k y0 y1 y2 y3 y4 y5 y6 y7 y8) (laws_FnLimitedSweeps.j2 (k + 1) y0 y1 y2 y3 y4 y5 y6 y7 y8)) ∧ (∀ y0 y1 y2 y3 y4 y5 y6 y7 y8 y9 y10 y11 y12, LeO (laws_FnLimitedSweeps.j3 k y0 y1 y2 y3 y4 y5 y6 y7 y8 y9 y10 y11 y12) (laws_FnLimitedSweeps.j3 (k + 1) y0 y1 y2 y3 y4 y5 y6 y7 y8 y9 y10 y11 y12)) ∧ (∀ y0 y1 y2 y3 y4 y5 y6 y7 y8 y9 y10 y11 y12 y13 y14, LeO (laws_FnLimitedSweeps.j4 k y0 y1 y2 y3 y4 y5 y6 y7 y8 y9 y10 y11 y12 y13 y14) (laws_FnLimitedSweeps.j4 (k + 1) y0 y1 y2 y3 y4 y5 y6 y7 y8 y9 y10 y11 y12 y13 y14)) ∧ (∀ y0 y1 y2 y3 y4 y5 y6 y7 y8 y9 y10, LeO (laws_FnLimitedSweeps.j5 k y0 y1 y2 y3 y4 y5 y6 y7 y8 y9 y10) (laws_FnLimitedSweeps.j5 (k + 1) y0 y1 y2 y3 y4 y5 y6 y7 y8 y9 y10)) ∧ (∀ y0 y1 y2 y3 y4 y5 y6 y7 y8 y9 y10, LeO (laws_FnLimitedSweeps.j6 k y0 y1 y2 y3 y4 y5 y6 y7 y8 y9 y10) (laws_FnLimitedSweeps.j6 (k + 1) y0 y1 y2 y3 y4 y5 y6 y7 y8 y9 y10)) ∧ (∀ y0 y1 y2 y3 y4 y5 y6, LeO (laws_FnLimitedSweeps.j7 k y0 y1 y2 y3 y4 y5 y6) (laws_FnLimitedSweeps.j7 (k + 1) y0 y1 y2 y3 y4 y5 y6)) ∧ (∀ y0 y1 y2 y3, LeO (laws_FnLimitedSweeps.j8 k y0 y1 y2 y3) (laws_FnLimitedSweeps.j8 (k + 1) y0 y1 y2 y3)) ∧ (∀ y0 y1 y2 y3 y4, LeO (laws_FnLimitedSweeps.l0 k y0 y1 y2 y3 y4) (laws_FnLimitedSweeps.l0 (k + 1) y0 y1 y2 y3 y4))
  | 0 => ⟨fun _ _ _ _ _ _ r h => by simp [laws_FnLimitedSweeps.j0] at h, fun _ _ _ _ _ _ _ r h => by simp [laws_FnLimitedSweeps.j1] at h, fun _ _ _ _ _ _ _ _ _ r h => by simp [laws_FnLimitedSweeps.j2] at h, fun _ _ _ _ _ _ _ _ _ _ _ _ _ r h => by simp [laws_FnLimitedSweeps.j3] at h, fun _ _ _ _ _ _ _ _ _ _ _ _ _ _ _ r h => by simp [laws_FnLimitedSweeps.j4] at h, fun _ _ _ _ _ _ _ _ _ _ _ r h => by simp [laws_FnLimitedSweeps.j5] at h, fun _ _ _ _ _ _ _ _ _ _ _ r h => by simp [laws_FnLimitedSweeps.j6] at h, fun _ _ _ _ _ _ _ r h => by simp [laws_FnLimitedSweeps.j7] at h, fun _ _ _ _ r h => by simp [laws_FnLimitedSweeps.j8] at h, fun _ _ _ _ _ r h => by simp [laws_FnLimitedSweeps.l0] at h⟩
  | k + 1 => by
    obtain ⟨ih0, ih1, ih2, ih3, ih4, ih5, ih6, ih7, ih8, ih9⟩ := laws_FnLimitedSweeps.mono_l k
    refine ⟨?_, ?_, ?_, ?_, ?_, ?_, ?_, ?_, ?_, ?_⟩
    · intro y0 y1 y2 y3 y4 y5
      unfold laws_FnLimitedSweeps.j0
      repeat' first
      | (with_reducible exact ih0 _ _ _ _ _ _)
      | (with_reducible exact ih1 _ _ _ _ _ _ _)
      | (with_reducible exact ih2 _ _ _ _ _ _ _ _ _)
      | (with_reducible exact ih3 _ _ _ _ _ _ _ _ _ _ _ _ _)
      | (with_reducible exact ih4 _ _ _ _ _ _ _ _ _ _ _ _ _ _ _)
      | (with_reducible exact ih5 _ _ _ _ _ _ _ _ _ _ _)
      | (with_reducible exact ih6 _ _ _ _ _ _ _ _ _ _ _)
      | (with_reducible exact ih7 _ _ _ _ _ _ _)
      | (with_reducible exact ih8 _ _ _ _)
      | (with_reducible exact ih9 _ _ _ _ _)
      | (with_reducible exact impl_BubbleOrder.mono _ _)
      | (with_reducible exact impl_CountLimitedSweeps.mono _ _ _)
      | (with_reducible exact impl_DepthOf.mono _ _)
      | (with_reducible exact impl_LimitedSweep.mono _ _ _)
      | (with_reducible exact impl_LimitedWord.mono _ _ _)
      | (with_reducible exact impl_MostWithin.mono _ _ _)
      | (with_reducible exact impl_RunWord.mono _ _ _)
      | (with_reducible exact impl_SweepOrder.mono _ _)
      | (with_reducible exact laws_rInts.mono _ _ _)
      | (with_reducible exact laws_rSorted.mono _ _)
      | (with_reducible exact spec_BubbleOrder.mono _ _)
      | (with_reducible exact spec_CountLimitedSweeps.mono _ _ _)
      | (with_reducible exact spec_DrawBubbleOrder.mono _ _)
      | (with_reducible exact spec_DrawLimitedSweep.mono _ _)
      | (with_reducible exact spec_DrawMostWithin.mono _ _)
      | (with_reducible exact spec_LimitedSweep.mono _ _ _)
      | (with_reducible exact spec_LimitedWord.mono _ _ _)
      | (with_reducible exact spec_MostWithin.mono _ _ _)
      | (with_reducible exact LeO.refl _)
      | (with_reducible exact LeO.none _)
      | (with_reducible refine LeO.ite ?_ ?_)
      | (with_reducible refine LeO.bind ?_ (fun _ => ?_))
      | exact ih0 _ _ _ _ _ _
      | exact ih1 _ _ _ _ _ _ _
      | exact ih2 _ _ _ _ _ _ _ _ _
      | exact ih3 _ _ _ _ _ _ _ _ _ _ _ _ _
      | exact ih4 _ _ _ _ _ _ _ _ _ _ _ _ _ _ _
      | exact ih5 _ _ _ _ _ _ _ _ _ _ _
      | exact ih6 _ _ _ _ _ _ _ _ _ _ _
      | exact ih7 _ _ _ _ _ _ _
      | exact ih8 _ _ _ _
      | exact ih9 _ _ _ _ _
      | exact impl_BubbleOrder.mono _ _
      | exact impl_CountLimitedSweeps.mono _ _ _
      | exact impl_DepthOf.mono _ _
      | exact impl_LimitedSweep.mono _ _ _
      | exact impl_LimitedWord.mono _ _ _
      | exact impl_MostWithin.mono _ _ _
      | exact impl_RunWord.mono _ _ _
      | exact impl_SweepOrder.mono _ _
      | exact laws_rInts.mono _ _ _
      | exact laws_rSorted.mono _ _
      | exact spec_BubbleOrder.mono _ _
      | exact spec_CountLimitedSweeps.mono _ _ _
      | exact spec_DrawBubbleOrder.mono _ _
      | exact spec_DrawLimitedSweep.mono _ _
      | exact spec_DrawMostWithin.mono _ _
      | exact spec_LimitedSweep.mono _ _ _
      | exact spec_LimitedWord.mono _ _ _
      | exact spec_MostWithin.mono _ _ _
      | exact LeO.none _
      | refine LeO.ite ?_ ?_
      | refine LeO.bind ?_ (fun _ => ?_)
    · intro y0 y1 y2 y3 y4 y5 y6
      unfold laws_FnLimitedSweeps.j1
      repeat' first
      | (with_reducible exact ih0 _ _ _ _ _ _)
      | (with_reducible exact ih1 _ _ _ _ _ _ _)
      | (with_reducible exact ih2 _ _ _ _ _ _ _ _ _)
      | (with_reducible exact ih3 _ _ _ _ _ _ _ _ _ _ _ _ _)
      | (with_reducible exact ih4 _ _ _ _ _ _ _ _ _ _ _ _ _ _ _)
      | (with_reducible exact ih5 _ _ _ _ _ _ _ _ _ _ _)
      | (with_reducible exact ih6 _ _ _ _ _ _ _ _ _ _ _)
      | (with_reducible exact ih7 _ _ _ _ _ _ _)
      | (with_reducible exact ih8 _ _ _ _)
      | (with_reducible exact ih9 _ _ _ _ _)
      | (with_reducible exact impl_BubbleOrder.mono _ _)
      | (with_reducible exact impl_CountLimitedSweeps.mono _ _ _)
      | (with_reducible exact impl_DepthOf.mono _ _)
      | (with_reducible exact impl_LimitedSweep.mono _ _ _)
      | (with_reducible exact impl_LimitedWord.mono _ _ _)
      | (with_reducible exact impl_MostWithin.mono _ _ _)
      | (with_reducible exact impl_RunWord.mono _ _ _)
      | (with_reducible exact impl_SweepOrder.mono _ _)
      | (with_reducible exact laws_rInts.mono _ _ _)
      | (with_reducible exact laws_rSorted.mono _ _)
      | (with_reducible exact spec_BubbleOrder.mono _ _)
      | (with_reducible exact spec_CountLimitedSweeps.mono _ _ _)
      | (with_reducible exact spec_DrawBubbleOrder.mono _ _)
      | (with_reducible exact spec_DrawLimitedSweep.mono _ _)
      | (with_reducible exact spec_DrawMostWithin.mono _ _)
      | (with_reducible exact spec_LimitedSweep.mono _ _ _)
      | (with_reducible exact spec_LimitedWord.mono _ _ _)
      | (with_reducible exact spec_MostWithin.mono _ _ _)
      | (with_reducible exact LeO.refl _)
      | (with_reducible exact LeO.none _)
      | (with_reducible refine LeO.ite ?_ ?_)
      | (with_reducible refine LeO.bind ?_ (fun _ => ?_))
      | exact ih0 _ _ _ _ _ _
      | exact ih1 _ _ _ _ _ _ _
      | exact ih2 _ _ _ _ _ _ _ _ _
      | exact ih3 _ _ _ _ _ _ _ _ _ _ _ _ _
      | exact ih4 _ _ _ _ _ _ _ _ _ _ _ _ _ _ _
      | exact ih5 _ _ _ _ _ _ _ _ _ _ _
      | exact ih6 _ _ _ _ _ _ _ _ _ _ _
      | exact ih7 _ _ _ _ _ _ _
      | exact ih8 _ _ _ _
      | exact ih9 _ _ _ _ _
      | exact impl_BubbleOrder.mono _ _
      | exact impl_CountLimitedSweeps.mono _ _ _
      | exact impl_DepthOf.mono _ _
      | exact impl_LimitedSweep.mono _ _ _
      | exact impl_LimitedWord.mono _ _ _
      | exact impl_MostWithin.mono _ _ _
      | exact impl_RunWord.mono _ _ _
      | exact impl_SweepOrder.mono _ _
      | exact laws_rInts.mono _ _ _
      | exact laws_rSorted.mono _ _
      | exact spec_BubbleOrder.mono _ _
      | exact spec_CountLimitedSweeps.mono _ _ _
      | exact spec_DrawBubbleOrder.mono _ _
      | exact spec_DrawLimitedSweep.mono _ _
      | exact spec_DrawMostWithin.mono _ _
      | exact spec_LimitedSweep.mono _ _ _
      | exact spec_LimitedWord.mono _ _ _
      | exact spec_MostWithin.mono _ _ _
      | exact LeO.none _
      | refine LeO.ite ?_ ?_
      | refine LeO.bind ?_ (fun _ => ?_)
    · intro y0 y1 y2 y3 y4 y5 y6 y7 y8
      unfold laws_FnLimitedSweeps.j2
      repeat' first
      | (with_reducible exact ih0 _ _ _ _ _ _)
      | (with_reducible exact ih1 _ _ _ _ _ _ _)
      | (with_reducible exact ih2 _ _ _ _ _ _ _ _ _)
      | (with_reducible exact ih3 _ _ _ _ _ _ _ _ _ _ _ _ _)
      | (with_reducible exact ih4 _ _ _ _ _ _ _ _ _ _ _ _ _ _ _)
      | (with_reducible exact ih5 _ _ _ _ _ _ _ _ _ _ _)
      | (with_reducible exact ih6 _ _ _ _ _ _ _ _ _ _ _)
      | (with_reducible exact ih7 _ _ _ _ _ _ _)
      | (with_reducible exact ih8 _ _ _ _)
      | (with_reducible exact ih9 _ _ _ _ _)
      | (with_reducible exact impl_BubbleOrder.mono _ _)
      | (with_reducible exact impl_CountLimitedSweeps.mono _ _ _)
      | (with_reducible exact impl_DepthOf.mono _ _)
      | (with_reducible exact impl_LimitedSweep.mono _ _ _)
      | (with_reducible exact impl_LimitedWord.mono _ _ _)
      | (with_reducible exact impl_MostWithin.mono _ _ _)
      | (with_reducible exact impl_RunWord.mono _ _ _)
      | (with_reducible exact impl_SweepOrder.mono _ _)
      | (with_reducible exact laws_rInts.mono _ _ _)
      | (with_reducible exact laws_rSorted.mono _ _)
      | (with_reducible exact spec_BubbleOrder.mono _ _)
      | (with_reducible exact spec_CountLimitedSweeps.mono _ _ _)
      | (with_reducible exact spec_DrawBubbleOrder.mono _ _)
      | (with_reducible exact spec_DrawLimitedSweep.mono _ _)
      | (with_reducible exact spec_DrawMostWithin.mono _ _)
      | (with_reducible exact spec_LimitedSweep.mono _ _ _)
      | (with_reducible exact spec_LimitedWord.mono _ _ _)
      | (with_reducible exact spec_MostWithin.mono _ _ _)
      | (with_reducible exact LeO.refl _)
      | (with_reducible exact LeO.none _)
      | (with_reducible refine LeO.ite ?_ ?_)
      | (with_reducible refine LeO.bind ?_ (fun _ => ?_))
      | exact ih0 _ _ _ _ _ _
      | exact ih1 _ _ _ _ _ _ _
      | exact ih2 _ _ _ _ _ _ _ _ _
      | exact ih3 _ _ _ _ _ _ _ _ _ _ _ _ _
      | exact ih4 _ _ _ _ _ _ _ _ _ _ _ _ _ _ _
      | exact ih5 _ _ _ _ _ _ _ _ _ _ _
      | exact ih6 _ _ _ _ _ _ _ _ _ _ _
      | exact ih7 _ _ _ _ _ _ _
      | exact ih8 _ _ _ _
      | exact ih9 _ _ _ _ _
      | exact impl_BubbleOrder.mono _ _
      | exact impl_CountLimitedSweeps.mono _ _ _
      | exact impl_DepthOf.mono _ _
      | exact impl_LimitedSweep.mono _ _ _
      | exact impl_LimitedWord.mono _ _ _
      | exact impl_MostWithin.mono _ _ _
      | exact impl_RunWord.mono _ _ _
      | exact impl_SweepOrder.mono _ _
      | exact laws_rInts.mono _ _ _
      | exact laws_rSorted.mono _ _
      | exact spec_BubbleOrder.mono _ _
      | exact spec_CountLimitedSweeps.mono _ _ _
      | exact spec_DrawBubbleOrder.mono _ _
      | exact spec_DrawLimitedSweep.mono _ _
      | exact spec_DrawMostWithin.mono _ _
      | exact spec_LimitedSweep.mono _ _ _
      | exact spec_LimitedWord.mono _ _ _
      | exact spec_MostWithin.mono _ _ _
      | exact LeO.none _
      | refine LeO.ite ?_ ?_
      | refine LeO.bind ?_ (fun _ => ?_)
    · intro y0 y1 y2 y3 y4 y5 y6 y7 y8 y9 y10 y11 y12
      unfold laws_FnLimitedSweeps.j3
      repeat' first
      | (with_reducible exact ih0 _ _ _ _ _ _)
      | (with_reducible exact ih1 _ _ _ _ _ _ _)
      | (with_reducible exact ih2 _ _ _ _ _ _ _ _ _)
      | (with_reducible exact ih3 _ _ _ _ _ _ _ _ _ _ _ _ _)
      | (with_reducible exact ih4 _ _ _ _ _ _ _ _ _ _ _ _ _ _ _)
      | (with_reducible exact ih5 _ _ _ _ _ _ _ _ _ _ _)
      | (with_reducible exact ih6 _ _ _ _ _ _ _ _ _ _ _)
      | (with_reducible exact ih7 _ _ _ _ _ _ _)
      | (with_reducible exact ih8 _ _ _ _)
      | (with_reducible exact ih9 _ _ _ _ _)
      | (with_reducible exact impl_BubbleOrder.mono _ _)
      | (with_reducible exact impl_CountLimitedSweeps.mono _ _ _)
      | (with_reducible exact impl_DepthOf.mono _ _)
      | (with_reducible exact impl_LimitedSweep.mono _ _ _)
      | (with_reducible exact impl_LimitedWord.mono _ _ _)
      | (with_reducible exact impl_MostWithin.mono _ _ _)
      | (with_reducible exact impl_RunWord.mono _ _ _)
      | (with_reducible exact impl_SweepOrder.mono _ _)
      | (with_reducible exact laws_rInts.mono _ _ _)
      | (with_reducible exact laws_rSorted.mono _ _)
      | (with_reducible exact spec_BubbleOrder.mono _ _)
      | (with_reducible exact spec_CountLimitedSweeps.mono _ _ _)
      | (with_reducible exact spec_DrawBubbleOrder.mono _ _)
      | (with_reducible exact spec_DrawLimitedSweep.mono _ _)
      | (with_reducible exact spec_DrawMostWithin.mono _ _)
      | (with_reducible exact spec_LimitedSweep.mono _ _ _)
      | (with_reducible exact spec_LimitedWord.mono _ _ _)
      | (with_reducible exact spec_MostWithin.mono _ _ _)
      | (with_reducible exact LeO.refl _)
      | (with_reducible exact LeO.none _)
      | (with_reducible refine LeO.ite ?_ ?_)
      | (with_reducible refine LeO.bind ?_ (fun _ => ?_))
      | exact ih0 _ _ _ _ _ _
      | exact ih1 _ _ _ _ _ _ _
      | exact ih2 _ _ _ _ _ _ _ _ _
      | exact ih3 _ _ _ _ _ _ _ _ _ _ _ _ _
      | exact ih4 _ _ _ _ _ _ _ _ _ _ _ _ _ _ _
      | exact ih5 _ _ _ _ _ _ _ _ _ _ _
      | exact ih6 _ _ _ _ _ _ _ _ _ _ _
      | exact ih7 _ _ _ _ _ _ _
      | exact ih8 _ _ _ _
      | exact ih9 _ _ _ _ _
      | exact impl_BubbleOrder.mono _ _
      | exact impl_CountLimitedSweeps.mono _ _ _
      | exact impl_DepthOf.mono _ _
      | exact impl_LimitedSweep.mono _ _ _
      | exact impl_LimitedWord.mono _ _ _
      | exact impl_MostWithin.mono _ _ _
      | exact impl_RunWord.mono _ _ _
      | exact impl_SweepOrder.mono _ _
      | exact laws_rInts.mono _ _ _
      | exact laws_rSorted.mono _ _
      | exact spec_BubbleOrder.mono _ _
      | exact spec_CountLimitedSweeps.mono _ _ _
      | exact spec_DrawBubbleOrder.mono _ _
      | exact spec_DrawLimitedSweep.mono _ _
      | exact spec_DrawMostWithin.mono _ _
      | exact spec_LimitedSweep.mono _ _ _
      | exact spec_LimitedWord.mono _ _ _
      | exact spec_MostWithin.mono _ _ _
      | exact LeO.none _
      | refine LeO.ite ?_ ?_
      | refine LeO.bind ?_ (fun _ => ?_)
    · intro y0 y1 y2 y3 y4 y5 y6 y7 y8 y9 y10 y11 y12 y13 y14
      unfold laws_FnLimitedSweeps.j4
      repeat' first
      | (with_reducible exact ih0 _ _ _ _ _ _)
      | (with_reducible exact ih1 _ _ _ _ _ _ _)
      | (with_reducible exact ih2 _ _ _ _ _ _ _ _ _)
      | (with_reducible exact ih3 _ _ _ _ _ _ _ _ _ _ _ _ _)
      | (with_reducible exact ih4 _ _ _ _ _ _ _ _ _ _ _ _ _ _ _)
      | (with_reducible exact ih5 _ _ _ _ _ _ _ _ _ _ _)
      | (with_reducible exact ih6 _ _ _ _ _ _ _ _ _ _ _)
      | (with_reducible exact ih7 _ _ _ _ _ _ _)
      | (with_reducible exact ih8 _ _ _ _)
      | (with_reducible exact ih9 _ _ _ _ _)
      | (with_reducible exact impl_BubbleOrder.mono _ _)
      | (with_reducible exact impl_CountLimitedSweeps.mono _ _ _)
      | (with_reducible exact impl_DepthOf.mono _ _)
      | (with_reducible exact impl_LimitedSweep.mono _ _ _)
      | (with_reducible exact impl_LimitedWord.mono _ _ _)
      | (with_reducible exact impl_MostWithin.mono _ _ _)
      | (with_reducible exact impl_RunWord.mono _ _ _)
      | (with_reducible exact impl_SweepOrder.mono _ _)
      | (with_reducible exact laws_rInts.mono _ _ _)
      | (with_reducible exact laws_rSorted.mono _ _)
      | (with_reducible exact spec_BubbleOrder.mono _ _)
      | (with_reducible exact spec_CountLimitedSweeps.mono _ _ _)
      | (with_reducible exact spec_DrawBubbleOrder.mono _ _)
      | (with_reducible exact spec_DrawLimitedSweep.mono _ _)
      | (with_reducible exact spec_DrawMostWithin.mono _ _)
      | (with_reducible exact spec_LimitedSweep.mono _ _ _)
      | (with_reducible exact spec_LimitedWord.mono _ _ _)
      | (with_reducible exact spec_MostWithin.mono _ _ _)
      | (with_reducible exact LeO.refl _)
      | (with_reducible exact LeO.none _)
      | (with_reducible refine LeO.ite ?_ ?_)
      | (with_reducible refine LeO.bind ?_ (fun _ => ?_))
      | exact ih0 _ _ _ _ _ _
      | exact ih1 _ _ _ _ _ _ _
      | exact ih2 _ _ _ _ _ _ _ _ _
      | exact ih3 _ _ _ _ _ _ _ _ _ _ _ _ _
      | exact ih4 _ _ _ _ _ _ _ _ _ _ _ _ _ _ _
      | exact ih5 _ _ _ _ _ _ _ _ _ _ _
      | exact ih6 _ _ _ _ _ _ _ _ _ _ _
      | exact ih7 _ _ _ _ _ _ _
      | exact ih8 _ _ _ _
      | exact ih9 _ _ _ _ _
      | exact impl_BubbleOrder.mono _ _
      | exact impl_CountLimitedSweeps.mono _ _ _
      | exact impl_DepthOf.mono _ _
      | exact impl_LimitedSweep.mono _ _ _
      | exact impl_LimitedWord.mono _ _ _
      | exact impl_MostWithin.mono _ _ _
      | exact impl_RunWord.mono _ _ _
      | exact impl_SweepOrder.mono _ _
      | exact laws_rInts.mono _ _ _
      | exact laws_rSorted.mono _ _
      | exact spec_BubbleOrder.mono _ _
      | exact spec_CountLimitedSweeps.mono _ _ _
      | exact spec_DrawBubbleOrder.mono _ _
      | exact spec_DrawLimitedSweep.mono _ _
      | exact spec_DrawMostWithin.mono _ _
      | exact spec_LimitedSweep.mono _ _ _
      | exact spec_LimitedWord.mono _ _ _
      | exact spec_MostWithin.mono _ _ _
      | exact LeO.none _
      | refine LeO.ite ?_ ?_
      | refine LeO.bind ?_ (fun _ => ?_)
    · intro y0 y1 y2 y3 y4 y5 y6 y7 y8 y9 y10
      unfold laws_FnLimitedSweeps.j5
      repeat' first
      | (with_reducible exact ih0 _ _ _ _ _ _)
      | (with_reducible exact ih1 _ _ _ _ _ _ _)
      | (with_reducible exact ih2 _ _ _ _ _ _ _ _ _)
      | (with_reducible exact ih3 _ _ _ _ _ _ _ _ _ _ _ _ _)
      | (with_reducible exact ih4 _ _ _ _ _ _ _ _ _ _ _ _ _ _ _)
      | (with_reducible exact ih5 _ _ _ _ _ _ _ _ _ _ _)
      | (with_reducible exact ih6 _ _ _ _ _ _ _ _ _ _ _)
      | (with_reducible exact ih7 _ _ _ _ _ _ _)
      | (with_reducible exact ih8 _ _ _ _)
      | (with_reducible exact ih9 _ _ _ _ _)
      | (with_reducible exact impl_BubbleOrder.mono _ _)
      | (with_reducible exact impl_CountLimitedSweeps.mono _ _ _)
      | (with_reducible exact impl_DepthOf.mono _ _)
      | (with_reducible exact impl_LimitedSweep.mono _ _ _)
      | (with_reducible exact impl_LimitedWord.mono _ _ _)
      | (with_reducible exact impl_MostWithin.mono _ _ _)
      | (with_reducible exact impl_RunWord.mono _ _ _)
      | (with_reducible exact impl_SweepOrder.mono _ _)
      | (with_reducible exact laws_rInts.mono _ _ _)
      | (with_reducible exact laws_rSorted.mono _ _)
      | (with_reducible exact spec_BubbleOrder.mono _ _)
      | (with_reducible exact spec_CountLimitedSweeps.mono _ _ _)
      | (with_reducible exact spec_DrawBubbleOrder.mono _ _)
      | (with_reducible exact spec_DrawLimitedSweep.mono _ _)
      | (with_reducible exact spec_DrawMostWithin.mono _ _)
      | (with_reducible exact spec_LimitedSweep.mono _ _ _)
      | (with_reducible exact spec_LimitedWord.mono _ _ _)
      | (with_reducible exact spec_MostWithin.mono _ _ _)
      | (with_reducible exact LeO.refl _)
      | (with_reducible exact LeO.none _)
      | (with_reducible refine LeO.ite ?_ ?_)
      | (with_reducible refine LeO.bind ?_ (fun _ => ?_))
      | exact ih0 _ _ _ _ _ _
      | exact ih1 _ _ _ _ _ _ _
      | exact ih2 _ _ _ _ _ _ _ _ _
      | exact ih3 _ _ _ _ _ _ _ _ _ _ _ _ _
      | exact ih4 _ _ _ _ _ _ _ _ _ _ _ _ _ _ _
      | exact ih5 _ _ _ _ _ _ _ _ _ _ _
      | exact ih6 _ _ _ _ _ _ _ _ _ _ _
      | exact ih7 _ _ _ _ _ _ _
      | exact ih8 _ _ _ _
      | exact ih9 _ _ _ _ _
      | exact impl_BubbleOrder.mono _ _
      | exact impl_CountLimitedSweeps.mono _ _ _
      | exact impl_DepthOf.mono _ _
      | exact impl_LimitedSweep.mono _ _ _
      | exact impl_LimitedWord.mono _ _ _
      | exact impl_MostWithin.mono _ _ _
      | exact impl_RunWord.mono _ _ _
      | exact impl_SweepOrder.mono _ _
      | exact laws_rInts.mono _ _ _
      | exact laws_rSorted.mono _ _
      | exact spec_BubbleOrder.mono _ _
      | exact spec_CountLimitedSweeps.mono _ _ _
      | exact spec_DrawBubbleOrder.mono _ _
      | exact spec_DrawLimitedSweep.mono _ _
      | exact spec_DrawMostWithin.mono _ _
      | exact spec_LimitedSweep.mono _ _ _
      | exact spec_LimitedWord.mono _ _ _
      | exact spec_MostWithin.mono _ _ _
      | exact LeO.none _
      | refine LeO.ite ?_ ?_
      | refine LeO.bind ?_ (fun _ => ?_)
    · intro y0 y1 y2 y3 y4 y5 y6 y7 y8 y9 y10
      unfold laws_FnLimitedSweeps.j6
      repeat' first
      | (with_reducible exact ih0 _ _ _ _ _ _)
      | (with_reducible exact ih1 _ _ _ _ _ _ _)
      | (with_reducible exact ih2 _ _ _ _ _ _ _ _ _)
      | (with_reducible exact ih3 _ _ _ _ _ _ _ _ _ _ _ _ _)
      | (with_reducible exact ih4 _ _ _ _ _ _ _ _ _ _ _ _ _ _ _)
      | (with_reducible exact ih5 _ _ _ _ _ _ _ _ _ _ _)
      | (with_reducible exact ih6 _ _ _ _ _ _ _ _ _ _ _)
      | (with_reducible exact ih7 _ _ _ _ _ _ _)
      | (with_reducible exact ih8 _ _ _ _)
      | (with_reducible exact ih9 _ _ _ _ _)
      | (with_reducible exact impl_BubbleOrder.mono _ _)
      | (with_reducible exact impl_CountLimitedSweeps.mono _ _ _)
      | (with_reducible exact impl_DepthOf.mono _ _)
      | (with_reducible exact impl_LimitedSweep.mono _ _ _)
      | (with_reducible exact impl_LimitedWord.mono _ _ _)
      | (with_reducible exact impl_MostWithin.mono _ _ _)
      | (with_reducible exact impl_RunWord.mono _ _ _)
      | (with_reducible exact impl_SweepOrder.mono _ _)
      | (with_reducible exact laws_rInts.mono _ _ _)
      | (with_reducible exact laws_rSorted.mono _ _)
      | (with_reducible exact spec_BubbleOrder.mono _ _)
      | (with_reducible exact spec_CountLimitedSweeps.mono _ _ _)
      | (with_reducible exact spec_DrawBubbleOrder.mono _ _)
      | (with_reducible exact spec_DrawLimitedSweep.mono _ _)
      | (with_reducible exact spec_DrawMostWithin.mono _ _)
      | (with_reducible exact spec_LimitedSweep.mono _ _ _)
      | (with_reducible exact spec_LimitedWord.mono _ _ _)
      | (with_reducible exact spec_MostWithin.mono _ _ _)
      | (with_reducible exact LeO.refl _)
      | (with_reducible exact LeO.none _)
      | (with_reducible refine LeO.ite ?_ ?_)
      | (with_reducible refine LeO.bind ?_ (fun _ => ?_))
      | exact ih0 _ _ _ _ _ _
      | exact ih1 _ _ _ _ _ _ _
      | exact ih2 _ _ _ _ _ _ _ _ _
      | exact ih3 _ _ _ _ _ _ _ _ _ _ _ _ _
      | exact ih4 _ _ _ _ _ _ _ _ _ _ _ _ _ _ _
      | exact ih5 _ _ _ _ _ _ _ _ _ _ _
      | exact ih6 _ _ _ _ _ _ _ _ _ _ _
      | exact ih7 _ _ _ _ _ _ _
      | exact ih8 _ _ _ _
      | exact ih9 _ _ _ _ _
      | exact impl_BubbleOrder.mono _ _
      | exact impl_CountLimitedSweeps.mono _ _ _
      | exact impl_DepthOf.mono _ _
      | exact impl_LimitedSweep.mono _ _ _
      | exact impl_LimitedWord.mono _ _ _
      | exact impl_MostWithin.mono _ _ _
      | exact impl_RunWord.mono _ _ _
      | exact impl_SweepOrder.mono _ _
      | exact laws_rInts.mono _ _ _
      | exact laws_rSorted.mono _ _
      | exact spec_BubbleOrder.mono _ _
      | exact spec_CountLimitedSweeps.mono _ _ _
      | exact spec_DrawBubbleOrder.mono _ _
      | exact spec_DrawLimitedSweep.mono _ _
      | exact spec_DrawMostWithin.mono _ _
      | exact spec_LimitedSweep.mono _ _ _
      | exact spec_LimitedWord.mono _ _ _
      | exact spec_MostWithin.mono _ _ _
      | exact LeO.none _
      | refine LeO.ite ?_ ?_
      | refine LeO.bind ?_ (fun _ => ?_)
    · intro y0 y1 y2 y3 y4 y5 y6
      unfold laws_FnLimitedSweeps.j7
      repeat' first
      | (with_reducible exact ih0 _ _ _ _ _ _)
      | (with_reducible exact ih1 _ _ _ _ _ _ _)
      | (with_reducible exact ih2 _ _ _ _ _ _ _ _ _)
      | (with_reducible exact ih3 _ _ _ _ _ _ _ _ _ _ _ _ _)
      | (with_reducible exact ih4 _ _ _ _ _ _ _ _ _ _ _ _ _ _ _)
      | (with_reducible exact ih5 _ _ _ _ _ _ _ _ _ _ _)
      | (with_reducible exact ih6 _ _ _ _ _ _ _ _ _ _ _)
      | (with_reducible exact ih7 _ _ _ _ _ _ _)
      | (with_reducible exact ih8 _ _ _ _)
      | (with_reducible exact ih9 _ _ _ _ _)
      | (with_reducible exact impl_BubbleOrder.mono _ _)
      | (with_reducible exact impl_CountLimitedSweeps.mono _ _ _)
      | (with_reducible exact impl_DepthOf.mono _ _)
      | (with_reducible exact impl_LimitedSweep.mono _ _ _)
      | (with_reducible exact impl_LimitedWord.mono _ _ _)
      | (with_reducible exact impl_MostWithin.mono _ _ _)
      | (with_reducible exact impl_RunWord.mono _ _ _)
      | (with_reducible exact impl_SweepOrder.mono _ _)
      | (with_reducible exact laws_rInts.mono _ _ _)
      | (with_reducible exact laws_rSorted.mono _ _)
      | (with_reducible exact spec_BubbleOrder.mono _ _)
      | (with_reducible exact spec_CountLimitedSweeps.mono _ _ _)
      | (with_reducible exact spec_DrawBubbleOrder.mono _ _)
      | (with_reducible exact spec_DrawLimitedSweep.mono _ _)
      | (with_reducible exact spec_DrawMostWithin.mono _ _)
      | (with_reducible exact spec_LimitedSweep.mono _ _ _)
      | (with_reducible exact spec_LimitedWord.mono _ _ _)
      | (with_reducible exact spec_MostWithin.mono _ _ _)
      | (with_reducible exact LeO.refl _)
      | (with_reducible exact LeO.none _)
      | (with_reducible refine LeO.ite ?_ ?_)
      | (with_reducible refine LeO.bind ?_ (fun _ => ?_))
      | exact ih0 _ _ _ _ _ _
      | exact ih1 _ _ _ _ _ _ _
      | exact ih2 _ _ _ _ _ _ _ _ _
      | exact ih3 _ _ _ _ _ _ _ _ _ _ _ _ _
      | exact ih4 _ _ _ _ _ _ _ _ _ _ _ _ _ _ _
      | exact ih5 _ _ _ _ _ _ _ _ _ _ _
      | exact ih6 _ _ _ _ _ _ _ _ _ _ _
      | exact ih7 _ _ _ _ _ _ _
      | exact ih8 _ _ _ _
      | exact ih9 _ _ _ _ _
      | exact impl_BubbleOrder.mono _ _
      | exact impl_CountLimitedSweeps.mono _ _ _
      | exact impl_DepthOf.mono _ _
      | exact impl_LimitedSweep.mono _ _ _
      | exact impl_LimitedWord.mono _ _ _
      | exact impl_MostWithin.mono _ _ _
      | exact impl_RunWord.mono _ _ _
      | exact impl_SweepOrder.mono _ _
      | exact laws_rInts.mono _ _ _
      | exact laws_rSorted.mono _ _
      | exact spec_BubbleOrder.mono _ _
      | exact spec_CountLimitedSweeps.mono _ _ _
      | exact spec_DrawBubbleOrder.mono _ _
      | exact spec_DrawLimitedSweep.mono _ _
      | exact spec_DrawMostWithin.mono _ _
      | exact spec_LimitedSweep.mono _ _ _
      | exact spec_LimitedWord.mono _ _ _
      | exact spec_MostWithin.mono _ _ _
      | exact LeO.none _
      | refine LeO.ite ?_ ?_
      | refine LeO.bind ?_ (fun _ => ?_)
    · intro y0 y1 y2 y3
      unfold laws_FnLimitedSweeps.j8
      repeat' first
      | (with_reducible exact ih0 _ _ _ _ _ _)
      | (with_reducible exact ih1 _ _ _ _ _ _ _)
      | (with_reducible exact ih2 _ _ _ _ _ _ _ _ _)
      | (with_reducible exact ih3 _ _ _ _ _ _ _ _ _ _ _ _ _)
      | (with_reducible exact ih4 _ _ _ _ _ _ _ _ _ _ _ _ _ _ _)
      | (with_reducible exact ih5 _ _ _ _ _ _ _ _ _ _ _)
      | (with_reducible exact ih6 _ _ _ _ _ _ _ _ _ _ _)
      | (with_reducible exact ih7 _ _ _ _ _ _ _)
      | (with_reducible exact ih8 _ _ _ _)
      | (with_reducible exact ih9 _ _ _ _ _)
      | (with_reducible exact impl_BubbleOrder.mono _ _)
      | (with_reducible exact impl_CountLimitedSweeps.mono _ _ _)
      | (with_reducible exact impl_DepthOf.mono _ _)
      | (with_reducible exact impl_LimitedSweep.mono _ _ _)
      | (with_reducible exact impl_LimitedWord.mono _ _ _)
      | (with_reducible exact impl_MostWithin.mono _ _ _)
      | (with_reducible exact impl_RunWord.mono _ _ _)
      | (with_reducible exact impl_SweepOrder.mono _ _)
      | (with_reducible exact laws_rInts.mono _ _ _)
      | (with_reducible exact laws_rSorted.mono _ _)
      | (with_reducible exact spec_BubbleOrder.mono _ _)
      | (with_reducible exact spec_CountLimitedSweeps.mono _ _ _)
      | (with_reducible exact spec_DrawBubbleOrder.mono _ _)
      | (with_reducible exact spec_DrawLimitedSweep.mono _ _)
      | (with_reducible exact spec_DrawMostWithin.mono _ _)
      | (with_reducible exact spec_LimitedSweep.mono _ _ _)
      | (with_reducible exact spec_LimitedWord.mono _ _ _)
      | (with_reducible exact spec_MostWithin.mono _ _ _)
      | (with_reducible exact LeO.refl _)
      | (with_reducible exact LeO.none _)
      | (with_reducible refine LeO.ite ?_ ?_)
      | (with_reducible refine LeO.bind ?_ (fun _ => ?_))
      | exact ih0 _ _ _ _ _ _
      | exact ih1 _ _ _ _ _ _ _
      | exact ih2 _ _ _ _ _ _ _ _ _
      | exact ih3 _ _ _ _ _ _ _ _ _ _ _ _ _
      | exact ih4 _ _ _ _ _ _ _ _ _ _ _ _ _ _ _
      | exact ih5 _ _ _ _ _ _ _ _ _ _ _
      | exact ih6 _ _ _ _ _ _ _ _ _ _ _
      | exact ih7 _ _ _ _ _ _ _
      | exact ih8 _ _ _ _
      | exact ih9 _ _ _ _ _
      | exact impl_BubbleOrder.mono _ _
      | exact impl_CountLimitedSweeps.mono _ _ _
      | exact impl_DepthOf.mono _ _
      | exact impl_LimitedSweep.mono _ _ _
      | exact impl_LimitedWord.mono _ _ _
      | exact impl_MostWithin.mono _ _ _
      | exact impl_RunWord.mono _ _ _
      | exact impl_SweepOrder.mono _ _
      | exact laws_rInts.mono _ _ _
      | exact laws_rSorted.mono _ _
      | exact spec_BubbleOrder.mono _ _
      | exact spec_CountLimitedSweeps.mono _ _ _
      | exact spec_DrawBubbleOrder.mono _ _
      | exact spec_DrawLimitedSweep.mono _ _
      | exact spec_DrawMostWithin.mono _ _
      | exact spec_LimitedSweep.mono _ _ _
      | exact spec_LimitedWord.mono _ _ _
      | exact spec_MostWithin.mono _ _ _
      | exact LeO.none _
      | refine LeO.ite ?_ ?_
      | refine LeO.bind ?_ (fun _ => ?_)
    · intro y0 y1 y2 y3 y4
      unfold laws_FnLimitedSweeps.l0
      repeat' first
      | (with_reducible exact ih0 _ _ _ _ _ _)
      | (with_reducible exact ih1 _ _ _ _ _ _ _)
      | (with_reducible exact ih2 _ _ _ _ _ _ _ _ _)
      | (with_reducible exact ih3 _ _ _ _ _ _ _ _ _ _ _ _ _)
      | (with_reducible exact ih4 _ _ _ _ _ _ _ _ _ _ _ _ _ _ _)
      | (with_reducible exact ih5 _ _ _ _ _ _ _ _ _ _ _)
      | (with_reducible exact ih6 _ _ _ _ _ _ _ _ _ _ _)
      | (with_reducible exact ih7 _ _ _ _ _ _ _)
      | (with_reducible exact ih8 _ _ _ _)
      | (with_reducible exact ih9 _ _ _ _ _)
      | (with_reducible exact impl_BubbleOrder.mono _ _)
      | (with_reducible exact impl_CountLimitedSweeps.mono _ _ _)
      | (with_reducible exact impl_DepthOf.mono _ _)
      | (with_reducible exact impl_LimitedSweep.mono _ _ _)
      | (with_reducible exact impl_LimitedWord.mono _ _ _)
      | (with_reducible exact impl_MostWithin.mono _ _ _)
      | (with_reducible exact impl_RunWord.mono _ _ _)
      | (with_reducible exact impl_SweepOrder.mono _ _)
      | (with_reducible exact laws_rInts.mono _ _ _)
      | (with_reducible exact laws_rSorted.mono _ _)
      | (with_reducible exact spec_BubbleOrder.mono _ _)
      | (with_reducible exact spec_CountLimitedSweeps.mono _ _ _)
      | (with_reducible exact spec_DrawBubbleOrder.mono _ _)
      | (with_reducible exact spec_DrawLimitedSweep.mono _ _)
      | (with_reducible exact spec_DrawMostWithin.mono _ _)
      | (with_reducible exact spec_LimitedSweep.mono _ _ _)
      | (with_reducible exact spec_LimitedWord.mono _ _ _)
      | (with_reducible exact spec_MostWithin.mono _ _ _)
      | (with_reducible exact LeO.refl _)
      | (with_reducible exact LeO.none _)
      | (with_reducible refine LeO.ite ?_ ?_)
      | (with_reducible refine LeO.bind ?_ (fun _ => ?_))
      | exact ih0 _ _ _ _ _ _
      | exact ih1 _ _ _ _ _ _ _
      | exact ih2 _ _ _ _ _ _ _ _ _
      | exact ih3 _ _ _ _ _ _ _ _ _ _ _ _ _
      | exact ih4 _ _ _ _ _ _ _ _ _ _ _ _ _ _ _
      | exact ih5 _ _ _ _ _ _ _ _ _ _ _
      | exact ih6 _ _ _ _ _ _ _ _ _ _ _
      | exact ih7 _ _ _ _ _ _ _
      | exact ih8 _ _ _ _
      | exact ih9 _ _ _ _ _
      | exact impl_BubbleOrder.mono _ _
      | exact impl_CountLimitedSweeps.mono _ _ _
      | exact impl_DepthOf.mono _ _
      | exact impl_LimitedSweep.mono _ _ _
      | exact impl_LimitedWord.mono _ _ _
      | exact impl_MostWithin.mono _ _ _
      | exact impl_RunWord.mono _ _ _
      | exact impl_SweepOrder.mono _ _
      | exact laws_rInts.mono _ _ _
      | exact laws_rSorted.mono _ _
      | exact spec_BubbleOrder.mono _ _
      | exact spec_CountLimitedSweeps.mono _ _ _
      | exact spec_DrawBubbleOrder.mono _ _
      | exact spec_DrawLimitedSweep.mono _ _
      | exact spec_DrawMostWithin.mono _ _
      | exact spec_LimitedSweep.mono _ _ _
      | exact spec_LimitedWord.mono _ _ _
      | exact spec_MostWithin.mono _ _ _
      | exact LeO.none _
      | refine LeO.ite ?_ ?_
      | refine LeO.bind ?_ (fun _ => ?_)
theorem laws_FnLimitedSweeps.mono : ∀ a0 k, LeO (laws_FnLimitedSweeps.f k a0) (laws_FnLimitedSweeps.f (k + 1) a0) := by
  intro a0 k
  obtain ⟨ih0, ih1, ih2, ih3, ih4, ih5, ih6, ih7, ih8, ih9⟩ := laws_FnLimitedSweeps.mono_l k
  unfold laws_FnLimitedSweeps.f
  repeat' first
      | (with_reducible exact ih0 _ _ _ _ _ _)
      | (with_reducible exact ih1 _ _ _ _ _ _ _)
      | (with_reducible exact ih2 _ _ _ _ _ _ _ _ _)
      | (with_reducible exact ih3 _ _ _ _ _ _ _ _ _ _ _ _ _)
      | (with_reducible exact ih4 _ _ _ _ _ _ _ _ _ _ _ _ _ _ _)
      | (with_reducible exact ih5 _ _ _ _ _ _ _ _ _ _ _)
      | (with_reducible exact ih6 _ _ _ _ _ _ _ _ _ _ _)
      | (with_reducible exact ih7 _ _ _ _ _ _ _)
      | (with_reducible exact ih8 _ _ _ _)
      | (with_reducible exact ih9 _ _ _ _ _)
      | (with_reducible exact impl_BubbleOrder.mono _ _)
      | (with_reducible exact impl_CountLimitedSweeps.mono _ _ _)
      | (with_reducible exact impl_DepthOf.mono _ _)
      | (with_reducible exact impl_LimitedSweep.mono _ _ _)
      | (with_reducible exact impl_LimitedWord.mono _ _ _)
      | (with_reducible exact impl_MostWithin.mono _ _ _)
      | (with_reducible exact impl_RunWord.mono _ _ _)
      | (with_reducible exact impl_SweepOrder.mono _ _)
      | (with_reducible exact laws_rInts.mono _ _ _)
      | (with_reducible exact laws_rSorted.mono _ _)
      | (with_reducible exact spec_BubbleOrder.mono _ _)
      | (with_reducible exact spec_CountLimitedSweeps.mono _ _ _)
      | (with_reducible exact spec_DrawBubbleOrder.mono _ _)
      | (with_reducible exact spec_DrawLimitedSweep.mono _ _)
      | (with_reducible exact spec_DrawMostWithin.mono _ _)
      | (with_reducible exact spec_LimitedSweep.mono _ _ _)
      | (with_reducible exact spec_LimitedWord.mono _ _ _)
      | (with_reducible exact spec_MostWithin.mono _ _ _)
      | (with_reducible exact LeO.refl _)
      | (with_reducible exact LeO.none _)
      | (with_reducible refine LeO.ite ?_ ?_)
      | (with_reducible refine LeO.bind ?_ (fun _ => ?_))
      | exact ih0 _ _ _ _ _ _
      | exact ih1 _ _ _ _ _ _ _
      | exact ih2 _ _ _ _ _ _ _ _ _
      | exact ih3 _ _ _ _ _ _ _ _ _ _ _ _ _
      | exact ih4 _ _ _ _ _ _ _ _ _ _ _ _ _ _ _
      | exact ih5 _ _ _ _ _ _ _ _ _ _ _
      | exact ih6 _ _ _ _ _ _ _ _ _ _ _
      | exact ih7 _ _ _ _ _ _ _
      | exact ih8 _ _ _ _
      | exact ih9 _ _ _ _ _
      | exact impl_BubbleOrder.mono _ _
      | exact impl_CountLimitedSweeps.mono _ _ _
      | exact impl_DepthOf.mono _ _
      | exact impl_LimitedSweep.mono _ _ _
      | exact impl_LimitedWord.mono _ _ _
      | exact impl_MostWithin.mono _ _ _
      | exact impl_RunWord.mono _ _ _
      | exact impl_SweepOrder.mono _ _
      | exact laws_rInts.mono _ _ _
      | exact laws_rSorted.mono _ _
      | exact spec_BubbleOrder.mono _ _
      | exact spec_CountLimitedSweeps.mono _ _ _
      | exact spec_DrawBubbleOrder.mono _ _
      | exact spec_DrawLimitedSweep.mono _ _
      | exact spec_DrawMostWithin.mono _ _
      | exact spec_LimitedSweep.mono _ _ _
      | exact spec_LimitedWord.mono _ _ _
      | exact spec_MostWithin.mono _ _ _
      | exact LeO.none _
      | refine LeO.ite ?_ ?_
      | refine LeO.bind ?_ (fun _ => ?_)
theorem laws_FnLimitedSweeps.j0_no {k : Nat} {a0} {a1} {a2} {a3} {a4} (h : laws_FnLimitedSweeps.j0 k a0 a1 a2 a3 a4 true = some true) : False := by
  cases k with
  | zero => simp only [laws_FnLimitedSweeps.j0] at h; cases h
  | succ k => simp only [laws_FnLimitedSweeps.j0, ↓reduceIte] at h; cases h
theorem laws_FnLimitedSweeps.j1_no {k : Nat} {a0} {a1} {a2} {a3} {a4} {a5} (h : laws_FnLimitedSweeps.j1 k a0 a1 a2 a3 a4 a5 true = some true) : False := by
  cases k with
  | zero => simp only [laws_FnLimitedSweeps.j1] at h; cases h
  | succ k => simp only [laws_FnLimitedSweeps.j1, ↓reduceIte] at h; cases h
theorem laws_FnLimitedSweeps.j2_no {k : Nat} {a0} {a1} {a2} {a3} {a4} {a5} {a6} {a7} (h : laws_FnLimitedSweeps.j2 k a0 a1 a2 a3 a4 a5 a6 a7 true = some true) : False := by
  cases k with
  | zero => simp only [laws_FnLimitedSweeps.j2] at h; cases h
  | succ k => simp only [laws_FnLimitedSweeps.j2, ↓reduceIte] at h; cases h
theorem laws_FnLimitedSweeps.j3_no {k : Nat} {a0} {a1} {a2} {a3} {a4} {a5} {a6} {a7} {a8} {a9} {a10} {a11} (h : laws_FnLimitedSweeps.j3 k a0 a1 a2 a3 a4 a5 a6 a7 a8 a9 a10 a11 true = some true) : False := by
  cases k with
  | zero => simp only [laws_FnLimitedSweeps.j3] at h; cases h
  | succ k => simp only [laws_FnLimitedSweeps.j3, ↓reduceIte] at h; cases h
theorem laws_FnLimitedSweeps.j4_no {k : Nat} {a0} {a1} {a2} {a3} {a4} {a5} {a6} {a7} {a8} {a9} {a10} {a11} {a12} {a13} (h : laws_FnLimitedSweeps.j4 k a0 a1 a2 a3 a4 a5 a6 a7 a8 a9 a10 a11 a12 a13 true = some true) : False := by
  cases k with
  | zero => simp only [laws_FnLimitedSweeps.j4] at h; cases h
  | succ k => simp only [laws_FnLimitedSweeps.j4, ↓reduceIte] at h; cases h
set_option maxHeartbeats 8000000 in
set_option maxRecDepth 100000 in
theorem laws_FnLimitedSweeps.calls (k : Nat) (A0 : Option Addr) (c0 : Nat) (l0 : List Int) (r : Bool) (w : World) (hr0 : Kd.C (Kd.int .u8) w A0 l0.length l0) (hc0 : l0.length ≤ c0) (hr_ : Aside0 (r = true)) (h : laws_FnLimitedSweeps.f k l0 = some r) :
    Calls Try.prog 4 #[.slice A0 l0.length c0] w fun e w' => e = .returned (.bool r) ∧ Below w.heap.size w w' := by
  have HR0 := Aside0.mk hr0
  have HC0 := Aside0.mk hc0
  clear hr0 hc0
  have HB := Aside0.mk (Below.refl w.heap.size w)
  have H : ((laws_rBig.f l0).bind fun t476 => (if t476 = true then (some true) else ((spec_DrawLimitedSweep.f k l0).bind fun bt477 => ((impl_LimitedSweep.f k bt477.1 bt477.2).bind fun bt481 => ((spec_LimitedSweep.f k bt477.1 bt477.2).bind fun bt485 => (if (bt481.2 != bt485.2) = true then (laws_FnLimitedSweeps.j0 k l0 bt477.1 bt477.2 bt481.1 bt481.2 true) else ((laws_rInts.f k bt481.1 bt485.1).bind fun t489 => (laws_FnLimitedSweeps.j0 k l0 bt477.1 bt477.2 bt481.1 bt481.2 (!t489))))))))) = some r := h
  clear h
  replace H := Option.bind_eq_some_iff.mp H
  obtain ⟨t476, A20, H⟩ := H
  replace H : (if t476 = true then (some true) else ((spec_DrawLimitedSweep.f k l0).bind fun bt477 => ((impl_LimitedSweep.f k bt477.1 bt477.2).bind fun bt481 => ((spec_LimitedSweep.f k bt477.1 bt477.2).bind fun bt485 => (if (bt481.2 != bt485.2) = true then (laws_FnLimitedSweeps.j0 k l0 bt477.1 bt477.2 bt481.1 bt481.2 true) else ((laws_rInts.f k bt481.1 bt485.1).bind fun t489 => (laws_FnLimitedSweeps.j0 k l0 bt477.1 bt477.2 bt481.1 bt481.2 (!t489)))))))) = some r := H
  have A2 := Aside0.mk A20
  clear A20
  by_cases c3 : t476 = true
  · subst c3
    have H1 : (some true) = some r := by rw [if_pos rfl] at H; exact H
    clear H
    have H := H1
    clear H1
    obtain rfl := Option.some.inj H
    go_enter Try.func4, Try.ntmps4
    go_wp2_with (first | ((with_reducible refine gate_callee (f := 7) rfl ?_); refine goesL_ (some 47) rfl rfl Try.func7 (by kernel_rfl) rfl #[.slice A0 l0.length c0] rfl (by (try simp only [List.map_toArray, List.map_cons, List.map_nil]); first | done | rfl | (simp only [List.length_drop, List.length_take]; rfl)) ?_; (with_reducible refine (laws_rBig.calls _ _ l0 true _ ?side1 ?side2 A2.out).mono ?_); (case side1 => repeat (first | exact HR0.out | (with_reducible refine Kd.C_alloc ?_ _) | (with_reducible refine Kd.C_drewN ?_ _) | (with_reducible refine Kd.C_drew ?_))); (case side2 => exact HC0.out); rintro e w' ⟨rfl, ⟨nd, rfl⟩⟩; refine ⟨_, rfl, ?_⟩))
    go_ret
    exact ⟨by first | rfl | (simp [errW_none, errW_some] <;> rfl) | (simp [*, errW_none, errW_some] <;> rfl), by repeat (first | (with_reducible first | exact HB.out | apply below_alloc | apply pw_below_drewN | apply below_drew1) | exact HB.out)⟩
  · replace c3 := Bool.eq_false_iff.mpr c3
    subst c3
    have H1 : ((spec_DrawLimitedSweep.f k l0).bind fun bt477 => ((impl_LimitedSweep.f k bt477.1 bt477.2).bind fun bt481 => ((spec_LimitedSweep.f k bt477.1 bt477.2).bind fun bt485 => (if (bt481.2 != bt485.2) = true then (laws_FnLimitedSweeps.j0 k l0 bt477.1 bt477.2 bt481.1 bt481.2 true) else ((laws_rInts.f k bt481.1 bt485.1).bind fun t489 => (laws_FnLimitedSweeps.j0 k l0 bt477.1 bt477.2 bt481.1 bt481.2 (!t489))))))) = some r := by rw [if_neg (show ¬ (false = true) by decide)] at H; exact H
    clear H
    have H := H1
    clear H1
    replace H := Option.bind_eq_some_iff.mp H
    obtain ⟨⟨t477, t478⟩, A40, H⟩ := H
    replace H : ((impl_LimitedSweep.f k t477 t478).bind fun bt481 => ((spec_LimitedSweep.f k t477 t478).bind fun bt485 => (if (bt481.2 != bt485.2) = true then (laws_FnLimitedSweeps.j0 k l0 t477 t478 bt481.1 bt481.2 true) else ((laws_rInts.f k bt481.1 bt485.1).bind fun t489 => (laws_FnLimitedSweeps.j0 k l0 t477 t478 bt481.1 bt481.2 (!t489)))))) = some r := H
    have A4 := Aside0.mk A40
    clear A40
    replace H := Option.bind_eq_some_iff.mp H
    obtain ⟨⟨t481, t482⟩, A50, H⟩ := H
    replace H : ((spec_LimitedSweep.f k t477 t478).bind fun bt485 => (if (t482 != bt485.2) = true then (laws_FnLimitedSweeps.j0 k l0 t477 t478 t481 t482 true) else ((laws_rInts.f k t481 bt485.1).bind fun t489 => (laws_FnLimitedSweeps.j0 k l0 t477 t478 t481 t482 (!t489))))) = some r := H
    have A5 := Aside0.mk A50
    clear A50
    replace H := Option.bind_eq_some_iff.mp H
    obtain ⟨⟨t485, t486⟩, A60, H⟩ := H
    replace H : (if (t482 != t486) = true then (laws_FnLimitedSweeps.j0 k l0 t477 t478 t481 t482 true) else ((laws_rInts.f k t481 t485).bind fun t489 => (laws_FnLimitedSweeps.j0 k l0 t477 t478 t481 t482 (!t489)))) = some r := H
    have A6 := Aside0.mk A60
    clear A60
    have HC7 := Aside0.mk H
    clear H
    go_enter Try.func4, Try.ntmps4
    go_upto_region 6 with (first | ((with_reducible refine gate_callee (f := 7) rfl ?_); refine goesL_ (some 47) rfl rfl Try.func7 (by kernel_rfl) rfl #[.slice A0 l0.length c0] rfl (by (try simp only [List.map_toArray, List.map_cons, List.map_nil]); first | done | rfl | (simp only [List.length_drop, List.length_take]; rfl)) ?_; (with_reducible refine (laws_rBig.calls _ _ l0 false _ ?side1 ?side2 A2.out).mono ?_); (case side1 => repeat (first | exact HR0.out | (with_reducible refine Kd.C_alloc ?_ _) | (with_reducible refine Kd.C_drewN ?_ _) | (with_reducible refine Kd.C_drew ?_))); (case side2 => exact HC0.out); rintro e w' ⟨rfl, ⟨nd, rfl⟩⟩; refine ⟨_, rfl, ?_⟩) | ((with_reducible refine gate_callee (f := 24) rfl ?_); refine goesL_ (some 50) rfl rfl Try.func24 (by kernel_rfl) rfl #[.slice A0 l0.length c0] rfl (by (try simp only [List.map_toArray, List.map_cons, List.map_nil]); first | done | rfl | (simp only [List.length_drop, List.length_take]; rfl)) ?_; (with_reducible refine (spec_DrawLimitedSweep.calls k _ _ l0 t477 t478 _ ?side1 ?side2 A4.out).mono ?_); (case side1 => repeat (first | exact HR0.out | (with_reducible refine Kd.C_alloc ?_ _) | (with_reducible refine Kd.C_drewN ?_ _) | (with_reducible refine Kd.C_drew ?_))); (case side2 => exact HC0.out); rintro e w8 ⟨v479, rfl, ho0, hb⟩; refine ⟨_, rfl, ?_⟩; have n0_ := Aside0.mk (Kd.R_lower ho0 (below_size (by repeat (first | (with_reducible first | exact HB.out | apply below_alloc | apply pw_below_drewN | apply below_drew1) | exact HB.out)))); have n1_ := Aside0.mk (below_step (by repeat (first | (with_reducible first | exact HB.out | apply below_alloc | apply pw_below_drewN | apply below_drew1) | exact HB.out)) hb); clear HB; have HO480 := n0_; have HB := n1_; clear n0_ n1_; (try clear hb); (try clear hb2); (try clear hk); (try clear hi); (try clear ho0); obtain ⟨Ao9, co9, eo9⟩ := Kd.R_slice HO480.out; subst eo9) | ((with_reducible refine gate_callee (f := 25) rfl ?_); refine goesL_ (some 56) rfl rfl Try.func25 (by kernel_rfl) rfl #[.slice Ao9 t477.length co9, .int .i64 t478] rfl (by (try simp only [List.map_toArray, List.map_cons, List.map_nil]); first | done | rfl | (simp only [List.length_drop, List.length_take]; rfl)) ?_; (with_reducible refine (impl_LimitedSweep.calls k _ _ t477 t478 t481 t482 _ ?side1 ?side2 A5.out).mono ?_); (case side1 => repeat (first | exact (Kd.R_reads' HO480.out).2.2 | (with_reducible refine Kd.C_alloc ?_ _) | (with_reducible refine Kd.C_drewN ?_ _) | (with_reducible refine Kd.C_drew ?_))); (case side2 => exact (Kd.R_reads' HO480.out).2.1); rintro e w10 ⟨v483, rfl, ho0, hb⟩; refine ⟨_, rfl, ?_⟩; have n0_ := Aside0.mk (Kd.R_elder' (by (with_reducible repeat (first | apply Kd.R_alloc | apply Kd.R_drewN | apply Kd.R_drew)); exact HO480.out) (Kd.R_base ho0) hb); have n1_ := Aside0.mk (Kd.R_lower (Kd.R_new' ho0 (Kd.R_lt (by (with_reducible repeat (first | apply Kd.R_alloc | apply Kd.R_drewN | apply Kd.R_drew)); exact HO480.out))) (below_size (by repeat (first | (with_reducible first | exact HB.out | apply below_alloc | apply pw_below_drewN | apply below_drew1) | exact HB.out)))); have n2_ := Aside0.mk (below_step (by repeat (first | (with_reducible first | exact HB.out | apply below_alloc | apply pw_below_drewN | apply below_drew1) | exact HB.out)) hb); clear HO480; clear HB; have HO480 := n0_; have HO484 := n1_; have HB := n2_; clear n0_ n1_ n2_; (try clear hb); (try clear hb2); (try clear hk); (try clear hi); (try clear ho0)) | ((with_reducible refine gate_callee (f := 26) rfl ?_); refine goesL_ (some 62) rfl rfl Try.func26 (by kernel_rfl) rfl #[.slice Ao9 t477.length co9, .int .i64 t478] rfl (by (try simp only [List.map_toArray, List.map_cons, List.map_nil]); first | done | rfl | (simp only [List.length_drop, List.length_take]; rfl)) ?_; (with_reducible refine (spec_LimitedSweep.calls k _ _ t477 t478 t485 t486 _ ?side1 ?side2 A6.out).mono ?_); (case side1 => repeat (first | exact (Kd.R_reads' HO480.out).2.2 | (with_reducible refine Kd.C_alloc ?_ _) | (with_reducible refine Kd.C_drewN ?_ _) | (with_reducible refine Kd.C_drew ?_))); (case side2 => exact (Kd.R_reads' HO480.out).2.1); rintro e w11 ⟨v487, rfl, ho0, hb⟩; refine ⟨_, rfl, ?_⟩; have n0_ := Aside0.mk (Kd.R_elder' (by (with_reducible repeat (first | apply Kd.R_alloc | apply Kd.R_drewN | apply Kd.R_drew)); exact HO480.out) (Kd.R_base ho0) hb); have n1_ := Aside0.mk (Kd.R_elder' (by (with_reducible repeat (first | apply Kd.R_alloc | apply Kd.R_drewN | apply Kd.R_drew)); exact HO484.out) (Kd.R_base ho0) hb); have n2_ := Aside0.mk (Kd.R_lower (Kd.R_new' (Kd.R_new' ho0 (Kd.R_lt (by (with_reducible repeat (first | apply Kd.R_alloc | apply Kd.R_drewN | apply Kd.R_drew)); exact HO480.out))) (Kd.R_lt (by (with_reducible repeat (first | apply Kd.R_alloc | apply Kd.R_drewN | apply Kd.R_drew)); exact HO484.out))) (below_size (by repeat (first | (with_reducible first | exact HB.out | apply below_alloc | apply pw_below_drewN | apply below_drew1) | exact HB.out)))); have n3_ := Aside0.mk (below_step (by repeat (first | (with_reducible first | exact HB.out | apply below_alloc | apply pw_below_drewN | apply below_drew1) | exact HB.out)) hb); clear HO480; clear HO484; clear HB; have HO480 := n0_; have HO484 := n1_; have HO488 := n2_; have HB := n3_; clear n0_ n1_ n2_ n3_; (try clear hb); (try clear hb2); (try clear hk); (try clear hi); (try clear ho0)))
    (try simp only [Act.put, List.setIfInBounds_toArray, List.set_cons_zero, List.set_cons_succ])
    go_cut [73] (fun v73 wc => ∃ (kq : Nat) (x73_6 : Bool), v73 = .bool x73_6 ∧ Aside0 (laws_FnLimitedSweeps.j0 kq l0 t477 t478 t481 t482 x73_6 = some r) ∧ Aside0 (kq ≤ k) ∧ Aside0 (Kd.R (Kd.int .i64) 3 wc w.heap.size (fun k_ => some k_ ≠ (v483 : Value).ownBlock) (.slice Ao9 t477.length co9) t477) ∧ Aside0 (Kd.R (Kd.int .i64) 3 wc w.heap.size (fun k_ => some k_ ≠ ((.slice Ao9 t477.length co9) : Value).ownBlock) v483 t481) ∧ Aside0 (Below w.heap.size w wc))
    case first =>
      have H := HC7.out
      clear HC7
      by_cases c12 : (t482 != t486) = true
      · rw [if_pos c12] at H
        exact (laws_FnLimitedSweeps.j0_no (hr_.out ▸ H)).elim
      · rw [if_neg c12] at H
        have c12b0 : (t482 != t486) = false := by simpa using c12
        (try (have c12b1 : decide (t482 = t486) = true := by simpa using c12))
        (try (have c12b2 : (t482 == t486) = true := by simpa using c12))
        clear c12
        (first | rw [c12b0] | (simp only [i64_w, i32_w]; rw [c12b0]) | skip)
        replace H := Option.bind_eq_some_iff.mp H
        obtain ⟨t489, A130, H⟩ := H
        replace H : (laws_FnLimitedSweeps.j0 k l0 t477 t478 t481 t482 (!t489)) = some r := H
        have A13 := Aside0.mk A130
        clear A130
        have H' := Aside0.mk H
        clear H
        obtain ⟨Ao14, co14, eo14⟩ := Kd.R_slice HO484.out
        subst eo14
        obtain ⟨Ao15, co15, eo15⟩ := Kd.R_slice HO488.out
        subst eo15
        go_wp2_with (first | (go_at_call 15; (with_reducible refine (laws_rInts.calls k _ _ t481 _ _ t485 t489 _ ?side1 ?side2 ?side3 ?side4 A13.out).mono ?_); (case side1 => repeat (first | exact (Kd.R_reads' HO484.out).2.2 | (with_reducible refine Kd.C_alloc ?_ _) | (with_reducible refine Kd.C_drewN ?_ _) | (with_reducible refine Kd.C_drew ?_))); (case side2 => exact (Kd.R_reads' HO484.out).2.1); (case side3 => repeat (first | exact (Kd.R_reads' HO488.out).2.2 | (with_reducible refine Kd.C_alloc ?_ _) | (with_reducible refine Kd.C_drewN ?_ _) | (with_reducible refine Kd.C_drew ?_))); (case side4 => exact (Kd.R_reads' HO488.out).2.1); rintro e w' ⟨rfl, ⟨nd, rfl⟩⟩))
        go_meet
        case rel => exact ⟨_, (!t489), (by first | rfl | (simp; done) | (simp [*]; done)), H', ⟨by first | omega | exact Nat.le_refl _⟩, ⟨by (with_reducible repeat (first | apply Kd.R_alloc | apply Kd.R_drewN | apply Kd.R_drew)); exact Kd.R_mono HO480.out (fun _ hk => hk.1.2)⟩, ⟨by (with_reducible repeat (first | apply Kd.R_alloc | apply Kd.R_drewN | apply Kd.R_drew)); exact Kd.R_mono HO484.out (fun _ hk => hk.1.2)⟩, ⟨by repeat (first | (with_reducible first | exact HB.out | apply below_alloc | apply pw_below_drewN | apply below_drew1) | exact HB.out)⟩⟩
    case rest =>
      as_aux_lemma =>
        clear HC7
        try clear c1
        try clear c2
        try clear p2
        try clear c3
        try clear c4
        try clear c7
        try clear c12
        try clear c12b0
        try clear c12b1
        try clear c12b2
        obtain ⟨kq, x73_6, rfl, HA, HJ6, HO_3, HO_5, HB⟩ := hcut
        cases kq with
        | zero => exact absurd HA.out (by simp [laws_FnLimitedSweeps.j0])
        | succ kj6 =>
          have H := HA.out
          clear HA
          simp only [laws_FnLimitedSweeps.j0] at H
          by_cases c16 : x73_6 = true
          · subst c16
            have H1 : (some false) = some r := by rw [if_pos rfl] at H; exact H
            exact absurd ((Option.some.inj H1).trans hr_.out) Bool.false_ne_true
          · replace c16 := Bool.eq_false_iff.mpr c16
            subst c16
            have H1 : ((impl_LimitedWord.f kj6 t477 t478).bind fun bt490 => ((spec_LimitedWord.f kj6 t477 t478).bind fun bt492 => (if bt490.1.toList = bt492.1.toList then (if (bt490.2 != bt492.2) = true then (laws_FnLimitedSweeps.j1 kj6 l0 t477 t478 t481 t482 bt490.1 true) else (laws_FnLimitedSweeps.j1 kj6 l0 t477 t478 t481 t482 bt490.1 (bt490.2 != t482))) else (laws_FnLimitedSweeps.j1 kj6 l0 t477 t478 t481 t482 bt490.1 true)))) = some r := by rw [if_neg (show ¬ (false = true) by decide)] at H; exact H
            clear H
            have H := H1
            clear H1
            replace H := Option.bind_eq_some_iff.mp H
            obtain ⟨⟨t490, t491⟩, A170, H⟩ := H
            replace H : ((spec_LimitedWord.f kj6 t477 t478).bind fun bt492 => (if t490.toList = bt492.1.toList then (if (t491 != bt492.2) = true then (laws_FnLimitedSweeps.j1 kj6 l0 t477 t478 t481 t482 t490 true) else (laws_FnLimitedSweeps.j1 kj6 l0 t477 t478 t481 t482 t490 (t491 != t482))) else (laws_FnLimitedSweeps.j1 kj6 l0 t477 t478 t481 t482 t490 true))) = some r := H
            have A17 := Aside0.mk A170
            clear A170
            replace H := Option.bind_eq_some_iff.mp H
            obtain ⟨⟨t492, t493⟩, A180, H⟩ := H
            replace H : (if t490.toList = t492.toList then (if (t491 != t493) = true then (laws_FnLimitedSweeps.j1 kj6 l0 t477 t478 t481 t482 t490 true) else (laws_FnLimitedSweeps.j1 kj6 l0 t477 t478 t481 t482 t490 (t491 != t482))) else (laws_FnLimitedSweeps.j1 kj6 l0 t477 t478 t481 t482 t490 true)) = some r := H
            have A18 := Aside0.mk A180
            clear A180
            have HC19 := Aside0.mk H
            clear H
            go_upto_region 10 with (first | ((with_reducible refine gate_callee (f := 27) rfl ?_); refine goesL_ (some 77) rfl rfl Try.func27 (by kernel_rfl) rfl #[.slice Ao9 t477.length co9, .int .i64 t478] rfl (by (try simp only [List.map_toArray, List.map_cons, List.map_nil]); first | done | rfl | (simp only [List.length_drop, List.length_take]; rfl)) ?_; (with_reducible refine (impl_LimitedWord.calls kj6 _ _ t477 t478 t490 t491 _ ?side1 ?side2 A17.out).mono ?_); (case side1 => repeat (first | exact (Kd.R_reads' HO_3.out).2.2 | (with_reducible refine Kd.C_alloc ?_ _) | (with_reducible refine Kd.C_drewN ?_ _) | (with_reducible refine Kd.C_drew ?_))); (case side2 => exact (Kd.R_reads' HO_3.out).2.1); rintro e w20 ⟨rfl, hb⟩; refine ⟨_, rfl, ?_⟩; have n0_ := Aside0.mk (Kd.R_below (by (with_reducible repeat (first | apply Kd.R_alloc | apply Kd.R_drewN | apply Kd.R_drew)); exact HO_3.out) hb); have n1_ := Aside0.mk (Kd.R_below (by (with_reducible repeat (first | apply Kd.R_alloc | apply Kd.R_drewN | apply Kd.R_drew)); exact HO_5.out) hb); have n2_ := Aside0.mk (below_step (by repeat (first | (with_reducible first | exact HB.out | apply below_alloc | apply pw_below_drewN | apply below_drew1) | exact HB.out)) hb); clear HO_3; clear HO_5; clear HB; have HO_3 := n0_; have HO_5 := n1_; have HB := n2_; clear n0_ n1_ n2_; (try clear hb); (try clear hb2); (try clear hk); (try clear hi)) | ((with_reducible refine gate_callee (f := 28) rfl ?_); refine goesL_ (some 83) rfl rfl Try.func28 (by kernel_rfl) rfl #[.slice Ao9 t477.length co9, .int .i64 t478] rfl (by (try simp only [List.map_toArray, List.map_cons, List.map_nil]); first | done | rfl | (simp only [List.length_drop, List.length_take]; rfl)) ?_; (with_reducible refine (spec_LimitedWord.calls kj6 _ _ t477 t478 t492 t493 _ ?side1 ?side2 A18.out).mono ?_); (case side1 => repeat (first | exact (Kd.R_reads' HO_3.out).2.2 | (with_reducible refine Kd.C_alloc ?_ _) | (with_reducible refine Kd.C_drewN ?_ _) | (with_reducible refine Kd.C_drew ?_))); (case side2 => exact (Kd.R_reads' HO_3.out).2.1); rintro e w21 ⟨rfl, hb⟩; refine ⟨_, rfl, ?_⟩; have n0_ := Aside0.mk (Kd.R_below (by (with_reducible repeat (first | apply Kd.R_alloc | apply Kd.R_drewN | apply Kd.R_drew)); exact HO_3.out) hb); have n1_ := Aside0.mk (Kd.R_below (by (with_reducible repeat (first | apply Kd.R_alloc | apply Kd.R_drewN | apply Kd.R_drew)); exact HO_5.out) hb); have n2_ := Aside0.mk (below_step (by repeat (first | (with_reducible first | exact HB.out | apply below_alloc | apply pw_below_drewN | apply below_drew1) | exact HB.out)) hb); clear HO_3; clear HO_5; clear HB; have HO_3 := n0_; have HO_5 := n1_; have HB := n2_; clear n0_ n1_ n2_; (try clear hb); (try clear hb2); (try clear hk); (try clear hi)))
            (try simp only [Act.put, List.setIfInBounds_toArray, List.set_cons_zero, List.set_cons_succ])
            go_cut [98] (fun v98 wc => ∃ (kq : Nat) (x98_18 : Bool), v98 = .bool x98_18 ∧ Aside0 (laws_FnLimitedSweeps.j1 kq l0 t477 t478 t481 t482 t490 x98_18 = some r) ∧ Aside0 (kq ≤ kj6) ∧ Aside0 (Kd.R (Kd.int .i64) 3 wc w.heap.size (fun k_ => some k_ ≠ (v483 : Value).ownBlock) (.slice Ao9 t477.length co9) t477) ∧ Aside0 (Kd.R (Kd.int .i64) 3 wc w.heap.size (fun k_ => some k_ ≠ ((.slice Ao9 t477.length co9) : Value).ownBlock) v483 t481) ∧ Aside0 (Below w.heap.size w wc))
            case first =>
              have H := HC19.out
              clear HC19
              by_cases c22 : t490.toList = t492.toList
              · rw [if_pos c22] at H
                have c22b0 : (t490.toList == t492.toList) = true := beq_iff_eq.mpr c22
                have c22b1 : (t490.toList != t492.toList) = false := bne_eq_false_iff_eq.mpr c22
                clear c22
                (first | rw [c22b0] | (simp only [i64_w, i32_w]; rw [c22b0]) | skip)
                by_cases c23 : (t491 != t493) = true
                · rw [if_pos c23] at H
                  exact (laws_FnLimitedSweeps.j1_no (hr_.out ▸ H)).elim
                · rw [if_neg c23] at H
                  have c23b0 : (t491 != t493) = false := by simpa using c23
                  (try (have c23b1 : decide (t491 = t493) = true := by simpa using c23))
                  (try (have c23b2 : (t491 == t493) = true := by simpa using c23))
                  clear c23
                  have H' := Aside0.mk H
                  clear H
                  go_wp2
                  go_meet
                  case rel => exact ⟨_, ((t491 != t482)), (by first | rfl | (simp; done) | (simp [*]; done)), H', ⟨by have := HJ6.out; first | omega | exact Nat.le_refl _⟩, ⟨by (with_reducible repeat (first | apply Kd.R_alloc | apply Kd.R_drewN | apply Kd.R_drew)); exact HO_3.out⟩, ⟨by (with_reducible repeat (first | apply Kd.R_alloc | apply Kd.R_drewN | apply Kd.R_drew)); exact HO_5.out⟩, ⟨by repeat (first | (with_reducible first | exact HB.out | apply below_alloc | apply pw_below_drewN | apply below_drew1) | exact HB.out)⟩⟩
              · rw [if_neg c22] at H
                exact (laws_FnLimitedSweeps.j1_no (hr_.out ▸ H)).elim
            case rest =>
              as_aux_lemma =>
                clear HC19
                try clear c1
                try clear c2
                try clear p2
                try clear c3
                try clear c4
                try clear c7
                try clear c12
                try clear c12b0
                try clear c12b1
                try clear c12b2
                try clear c16
                try clear c22
                try clear c22b0
                try clear c22b1
                try clear c23
                try clear c23b0
                try clear c23b1
                try clear c23b2
                try clear p2
                obtain ⟨kq, x98_18, rfl, HA, HJ18, HO_3, HO_5, HB⟩ := hcut
                cases kq with
                | zero => exact absurd HA.out (by simp [laws_FnLimitedSweeps.j1])
                | succ kj18 =>
                  have H := HA.out
                  clear HA
                  simp only [laws_FnLimitedSweeps.j1] at H
                  by_cases c24 : x98_18 = true
                  · subst c24
                    have H1 : (some false) = some r := by rw [if_pos rfl] at H; exact H
                    exact absurd ((Option.some.inj H1).trans hr_.out) Bool.false_ne_true
                  · replace c24 := Bool.eq_false_iff.mpr c24
                    subst c24
                    have H1 : ((impl_CountLimitedSweeps.f kj18 t477 t478).bind fun bt494 => ((spec_CountLimitedSweeps.f kj18 t477 t478).bind fun bt496 => (if bt494.1 = bt496.1 then (if (bt494.2 != bt496.2) = true then (laws_FnLimitedSweeps.j2 kj18 l0 t477 t478 t481 t482 t490 bt494.1 bt494.2 true) else (if bt494.2 = true then (laws_FnLimitedSweeps.j2 kj18 l0 t477 t478 t481 t482 t490 bt494.1 bt494.2 (!t482)) else (laws_FnLimitedSweeps.j2 kj18 l0 t477 t478 t481 t482 t490 bt494.1 bt494.2 false))) else (laws_FnLimitedSweeps.j2 kj18 l0 t477 t478 t481 t482 t490 bt494.1 bt494.2 true)))) = some r := by rw [if_neg (show ¬ (false = true) by decide)] at H; exact H
                    clear H
                    have H := H1
                    clear H1
                    replace H := Option.bind_eq_some_iff.mp H
                    obtain ⟨⟨t494, t495⟩, A250, H⟩ := H
                    replace H : ((spec_CountLimitedSweeps.f kj18 t477 t478).bind fun bt496 => (if t494 = bt496.1 then (if (t495 != bt496.2) = true then (laws_FnLimitedSweeps.j2 kj18 l0 t477 t478 t481 t482 t490 t494 t495 true) else (if t495 = true then (laws_FnLimitedSweeps.j2 kj18 l0 t477 t478 t481 t482 t490 t494 t495 (!t482)) else (laws_FnLimitedSweeps.j2 kj18 l0 t477 t478 t481 t482 t490 t494 t495 false))) else (laws_FnLimitedSweeps.j2 kj18 l0 t477 t478 t481 t482 t490 t494 t495 true))) = some r := H
                    have A25 := Aside0.mk A250
                    clear A250
                    replace H := Option.bind_eq_some_iff.mp H
                    obtain ⟨⟨t496, t497⟩, A260, H⟩ := H
                    replace H : (if t494 = t496 then (if (t495 != t497) = true then (laws_FnLimitedSweeps.j2 kj18 l0 t477 t478 t481 t482 t490 t494 t495 true) else (if t495 = true then (laws_FnLimitedSweeps.j2 kj18 l0 t477 t478 t481 t482 t490 t494 t495 (!t482)) else (laws_FnLimitedSweeps.j2 kj18 l0 t477 t478 t481 t482 t490 t494 t495 false))) else (laws_FnLimitedSweeps.j2 kj18 l0 t477 t478 t481 t482 t490 t494 t495 true)) = some r := H
                    have A26 := Aside0.mk A260
                    clear A260
                    have HC27 := Aside0.mk H
                    clear H
                    go_upto_region 14 with (first | ((with_reducible refine gate_callee (f := 29) rfl ?_); refine goesL_ (some 102) rfl rfl Try.func29 (by kernel_rfl) rfl #[.slice Ao9 t477.length co9, .int .i64 t478] rfl (by (try simp only [List.map_toArray, List.map_cons, List.map_nil]); first | done | rfl | (simp only [List.length_drop, List.length_take]; rfl)) ?_; (with_reducible refine (impl_CountLimitedSweeps.calls kj18 (fun k_ => some k_ = (.slice Ao9 t477.length co9 : Value).ownBlock) _ _ t477 t478 t494 t495 _ ?side1 A25.out).mono ?_); (case side1 => exact Kd.R_V (Kd.R_tight rfl (HO_3.out))); rintro e w28 ⟨rfl, hb⟩; refine ⟨_, rfl, ?_⟩; have n0_ := Aside0.mk (Kd.R_below (by (with_reducible repeat (first | apply Kd.R_alloc | apply Kd.R_drewN | apply Kd.R_drew)); exact HO_3.out) hb); have n1_ := Aside0.mk (Kd.R_below (by (with_reducible repeat (first | apply Kd.R_alloc | apply Kd.R_drewN | apply Kd.R_drew)); exact HO_5.out) hb); have n2_ := Aside0.mk (below_step (by repeat (first | (with_reducible first | exact HB.out | apply below_alloc | apply pw_below_drewN | apply below_drew1) | exact HB.out)) hb); clear HO_3; clear HO_5; clear HB; have HO_3 := n0_; have HO_5 := n1_; have HB := n2_; clear n0_ n1_ n2_; (try clear hb); (try clear hb2); (try clear hk); (try clear hi)) | ((with_reducible refine gate_callee (f := 30) rfl ?_); refine goesL_ (some 108) rfl rfl Try.func30 (by kernel_rfl) rfl #[.slice Ao9 t477.length co9, .int .i64 t478] rfl (by (try simp only [List.map_toArray, List.map_cons, List.map_nil]); first | done | rfl | (simp only [List.length_drop, List.length_take]; rfl)) ?_; (with_reducible refine (spec_CountLimitedSweeps.calls kj18 _ _ t477 t478 t496 t497 _ ?side1 ?side2 A26.out).mono ?_); (case side1 => repeat (first | exact (Kd.R_reads' HO_3.out).2.2 | (with_reducible refine Kd.C_alloc ?_ _) | (with_reducible refine Kd.C_drewN ?_ _) | (with_reducible refine Kd.C_drew ?_))); (case side2 => exact (Kd.R_reads' HO_3.out).2.1); rintro e w29 ⟨rfl, hb⟩; refine ⟨_, rfl, ?_⟩; have n0_ := Aside0.mk (Kd.R_below (by (with_reducible repeat (first | apply Kd.R_alloc | apply Kd.R_drewN | apply Kd.R_drew)); exact HO_3.out) hb); have n1_ := Aside0.mk (Kd.R_below (by (with_reducible repeat (first | apply Kd.R_alloc | apply Kd.R_drewN | apply Kd.R_drew)); exact HO_5.out) hb); have n2_ := Aside0.mk (below_step (by repeat (first | (with_reducible first | exact HB.out | apply below_alloc | apply pw_below_drewN | apply below_drew1) | exact HB.out)) hb); clear HO_3; clear HO_5; clear HB; have HO_3 := n0_; have HO_5 := n1_; have HB := n2_; clear n0_ n1_ n2_; (try clear hb); (try clear hb2); (try clear hk); (try clear hi)))
                    (try simp only [Act.put, List.setIfInBounds_toArray, List.set_cons_zero, List.set_cons_succ])
                    go_cut [125] (fun v125 wc => ∃ (kq : Nat) (x125_26 : Bool), v125 = .bool x125_26 ∧ Aside0 (laws_FnLimitedSweeps.j2 kq l0 t477 t478 t481 t482 t490 t494 t495 x125_26 = some r) ∧ Aside0 (kq ≤ kj18) ∧ Aside0 (Kd.R (Kd.int .i64) 3 wc w.heap.size (fun k_ => some k_ ≠ (v483 : Value).ownBlock) (.slice Ao9 t477.length co9) t477) ∧ Aside0 (Kd.R (Kd.int .i64) 3 wc w.heap.size (fun k_ => some k_ ≠ ((.slice Ao9 t477.length co9) : Value).ownBlock) v483 t481) ∧ Aside0 (Below w.heap.size w wc))
                    case first =>
                      have H := HC27.out
                      clear HC27
                      by_cases c30 : t494 = t496
                      · rw [if_pos c30] at H
                        have c30b0 : (t494 == t496) = true := beq_iff_eq.mpr c30
                        have c30b1 : (t494 != t496) = false := bne_eq_false_iff_eq.mpr c30
                        clear c30
                        (first | rw [c30b0] | (simp only [i64_w, i32_w]; rw [c30b0]) | skip)
                        by_cases c31 : (t495 != t497) = true
                        · rw [if_pos c31] at H
                          exact (laws_FnLimitedSweeps.j2_no (hr_.out ▸ H)).elim
                        · rw [if_neg c31] at H
                          have c31b0 : (t495 != t497) = false := by simpa using c31
                          (try (have c31b1 : decide (t495 = t497) = true := by simpa using c31))
                          (try (have c31b2 : (t495 == t497) = true := by simpa using c31))
                          clear c31
                          by_cases c32 : t495 = true
                          · subst c32
                            have H1 : (laws_FnLimitedSweeps.j2 kj18 l0 t477 t478 t481 t482 t490 t494 true (!t482)) = some r := by rw [if_pos rfl] at H; exact H
                            clear H
                            have H := H1
                            clear H1
                            have H' := Aside0.mk H
                            clear H
                            go_wp2
                            go_meet
                            case rel => exact ⟨_, (!t482), (by first | rfl | (simp; done) | (simp [*]; done)), H', ⟨by have := HJ6.out; have := HJ18.out; first | omega | exact Nat.le_refl _⟩, ⟨by (with_reducible repeat (first | apply Kd.R_alloc | apply Kd.R_drewN | apply Kd.R_drew)); exact HO_3.out⟩, ⟨by (with_reducible repeat (first | apply Kd.R_alloc | apply Kd.R_drewN | apply Kd.R_drew)); exact HO_5.out⟩, ⟨by repeat (first | (with_reducible first | exact HB.out | apply below_alloc | apply pw_below_drewN | apply below_drew1) | exact HB.out)⟩⟩
                          · replace c32 := Bool.eq_false_iff.mpr c32
                            subst c32
                            have H1 : (laws_FnLimitedSweeps.j2 kj18 l0 t477 t478 t481 t482 t490 t494 false false) = some r := by rw [if_neg (show ¬ (false = true) by decide)] at H; exact H
                            clear H
                            have H := H1
                            clear H1
                            have H' := Aside0.mk H
                            clear H
                            go_wp2
                            go_meet
                            case rel => exact ⟨_, (false), (by first | rfl | (simp; done) | (simp [*]; done)), H', ⟨by have := HJ6.out; have := HJ18.out; first | omega | exact Nat.le_refl _⟩, ⟨by (with_reducible repeat (first | apply Kd.R_alloc | apply Kd.R_drewN | apply Kd.R_drew)); exact HO_3.out⟩, ⟨by (with_reducible repeat (first | apply Kd.R_alloc | apply Kd.R_drewN | apply Kd.R_drew)); exact HO_5.out⟩, ⟨by repeat (first | (with_reducible first | exact HB.out | apply below_alloc | apply pw_below_drewN | apply below_drew1) | exact HB.out)⟩⟩
                      · rw [if_neg c30] at H
                        exact (laws_FnLimitedSweeps.j2_no (hr_.out ▸ H)).elim
                    case rest =>
                      as_aux_lemma =>
                        clear HC27
                        try clear c1
                        try clear c2
                        try clear p2
                        try clear c3
                        try clear c4
                        try clear c7
                        try clear c12
                        try clear c12b0
                        try clear c12b1
                        try clear c12b2
                        try clear c16
                        try clear c22
                        try clear c22b0
                        try clear c22b1
                        try clear c23
                        try clear c23b0
                        try clear c23b1
                        try clear c23b2
                        try clear c24
                        try clear c25
                        try clear c26
                        try clear c27
                        try clear c28
                        try clear c29
                        try clear c30
                        try clear c30b0
                        try clear c30b1
                        try clear c31
                        try clear c31b0
                        try clear c31b1
                        try clear c31b2
                        try clear c32
                        try clear p2
                        obtain ⟨kq, x125_26, rfl, HA, HJ26, HO_3, HO_5, HB⟩ := hcut
                        cases kq with
                        | zero => exact absurd HA.out (by simp [laws_FnLimitedSweeps.j2])
                        | succ kj26 =>
                          have H := HA.out
                          clear HA
                          simp only [laws_FnLimitedSweeps.j2] at H
                          by_cases c33 : x125_26 = true
                          · subst c33
                            have H1 : (some false) = some r := by rw [if_pos rfl] at H; exact H
                            exact absurd ((Option.some.inj H1).trans hr_.out) Bool.false_ne_true
                          · replace c33 := Bool.eq_false_iff.mpr c33
                            subst c33
                            have H1 : ((spec_DrawMostWithin.f kj26 l0).bind fun bt498 => ((impl_MostWithin.f kj26 bt498.1 bt498.2).bind fun bt502 => ((spec_MostWithin.f kj26 bt498.1 bt498.2).bind fun bt504 => (if bt502.1 = bt504.1 then (laws_FnLimitedSweeps.j3 kj26 l0 t477 t478 t481 t482 t490 t494 t495 bt498.1 bt498.2 bt502.1 bt502.2 (bt502.2 != bt504.2)) else (laws_FnLimitedSweeps.j3 kj26 l0 t477 t478 t481 t482 t490 t494 t495 bt498.1 bt498.2 bt502.1 bt502.2 true))))) = some r := by rw [if_neg (show ¬ (false = true) by decide)] at H; exact H
                            clear H
                            have H := H1
                            clear H1
                            replace H := Option.bind_eq_some_iff.mp H
                            obtain ⟨⟨t498, t499⟩, A340, H⟩ := H
                            replace H : ((impl_MostWithin.f kj26 t498 t499).bind fun bt502 => ((spec_MostWithin.f kj26 t498 t499).bind fun bt504 => (if bt502.1 = bt504.1 then (laws_FnLimitedSweeps.j3 kj26 l0 t477 t478 t481 t482 t490 t494 t495 t498 t499 bt502.1 bt502.2 (bt502.2 != bt504.2)) else (laws_FnLimitedSweeps.j3 kj26 l0 t477 t478 t481 t482 t490 t494 t495 t498 t499 bt502.1 bt502.2 true)))) = some r := H
                            have A34 := Aside0.mk A340
                            clear A340
                            replace H := Option.bind_eq_some_iff.mp H
                            obtain ⟨⟨t502, t503⟩, A350, H⟩ := H
                            replace H : ((spec_MostWithin.f kj26 t498 t499).bind fun bt504 => (if t502 = bt504.1 then (laws_FnLimitedSweeps.j3 kj26 l0 t477 t478 t481 t482 t490 t494 t495 t498 t499 t502 t503 (t503 != bt504.2)) else (laws_FnLimitedSweeps.j3 kj26 l0 t477 t478 t481 t482 t490 t494 t495 t498 t499 t502 t503 true))) = some r := H
                            have A35 := Aside0.mk A350
                            clear A350
                            replace H := Option.bind_eq_some_iff.mp H
                            obtain ⟨⟨t504, t505⟩, A360, H⟩ := H
                            replace H : (if t502 = t504 then (laws_FnLimitedSweeps.j3 kj26 l0 t477 t478 t481 t482 t490 t494 t495 t498 t499 t502 t503 (t503 != t505)) else (laws_FnLimitedSweeps.j3 kj26 l0 t477 t478 t481 t482 t490 t494 t495 t498 t499 t502 t503 true)) = some r := H
                            have A36 := Aside0.mk A360
                            clear A360
                            have HC37 := Aside0.mk H
                            clear H
                            go_upto_region 19 with (first | ((with_reducible refine gate_callee (f := 31) rfl ?_); refine goesL_ (some 128) rfl rfl Try.func31 (by kernel_rfl) rfl #[.slice A0 l0.length c0] rfl (by (try simp only [List.map_toArray, List.map_cons, List.map_nil]); first | done | rfl | (simp only [List.length_drop, List.length_take]; rfl)) ?_; (with_reducible refine (spec_DrawMostWithin.calls kj26 _ _ l0 t498 t499 _ ?side1 ?side2 A34.out).mono ?_); (case side1 => repeat (first | exact (Kd.C_below HR0.out HB.out) | (with_reducible refine Kd.C_alloc ?_ _) | (with_reducible refine Kd.C_drewN ?_ _) | (with_reducible refine Kd.C_drew ?_))); (case side2 => exact HC0.out); rintro e w38 ⟨v500, rfl, ho0, hb⟩; refine ⟨_, rfl, ?_⟩; have n0_ := Aside0.mk (Kd.R_elder' (by (with_reducible repeat (first | apply Kd.R_alloc | apply Kd.R_drewN | apply Kd.R_drew)); exact HO_3.out) (Kd.R_base ho0) hb); have n1_ := Aside0.mk (Kd.R_elder' (by (with_reducible repeat (first | apply Kd.R_alloc | apply Kd.R_drewN | apply Kd.R_drew)); exact HO_5.out) (Kd.R_base ho0) hb); have n2_ := Aside0.mk (Kd.R_lower (Kd.R_new' (Kd.R_new' ho0 (Kd.R_lt (by (with_reducible repeat (first | apply Kd.R_alloc | apply Kd.R_drewN | apply Kd.R_drew)); exact HO_3.out))) (Kd.R_lt (by (with_reducible repeat (first | apply Kd.R_alloc | apply Kd.R_drewN | apply Kd.R_drew)); exact HO_5.out))) (below_size (by repeat (first | (with_reducible first | exact HB.out | apply below_alloc | apply pw_below_drewN | apply below_drew1) | exact HB.out)))); have n3_ := Aside0.mk (below_step (by repeat (first | (with_reducible first | exact HB.out | apply below_alloc | apply pw_below_drewN | apply below_drew1) | exact HB.out)) hb); clear HO_3; clear HO_5; clear HB; have HO_3 := n0_; have HO_5 := n1_; have HO501 := n2_; have HB := n3_; clear n0_ n1_ n2_ n3_; (try clear hb); (try clear hb2); (try clear hk); (try clear hi); (try clear ho0); obtain ⟨Ao39, co39, eo39⟩ := Kd.R_slice HO501.out; subst eo39) | ((with_reducible refine gate_callee (f := 32) rfl ?_); refine goesL_ (some 134) rfl rfl Try.func32 (by kernel_rfl) rfl #[.slice Ao39 t498.length co39, .int .i64 t499] rfl (by (try simp only [List.map_toArray, List.map_cons, List.map_nil]); first | done | rfl | (simp only [List.length_drop, List.length_take]; rfl)) ?_; (with_reducible refine (impl_MostWithin.calls kj26 (fun k_ => some k_ = (.slice Ao39 t498.length co39 : Value).ownBlock) _ _ t498 t499 t502 t503 _ ?side1 A35.out).mono ?_); (case side1 => exact Kd.R_V (Kd.R_tight rfl (HO501.out))); rintro e w40 ⟨rfl, hb⟩; refine ⟨_, rfl, ?_⟩; have n0_ := Aside0.mk (Kd.R_below (by (with_reducible repeat (first | apply Kd.R_alloc | apply Kd.R_drewN | apply Kd.R_drew)); exact HO_3.out) hb); have n1_ := Aside0.mk (Kd.R_below (by (with_reducible repeat (first | apply Kd.R_alloc | apply Kd.R_drewN | apply Kd.R_drew)); exact HO_5.out) hb); have n2_ := Aside0.mk (Kd.R_below (by (with_reducible repeat (first | apply Kd.R_alloc | apply Kd.R_drewN | apply Kd.R_drew)); exact HO501.out) hb); have n3_ := Aside0.mk (below_step (by repeat (first | (with_reducible first | exact HB.out | apply below_alloc | apply pw_below_drewN | apply below_drew1) | exact HB.out)) hb); clear HO_3; clear HO_5; clear HO501; clear HB; have HO_3 := n0_; have HO_5 := n1_; have HO501 := n2_; have HB := n3_; clear n0_ n1_ n2_ n3_; (try clear hb); (try clear hb2); (try clear hk); (try clear hi)) | ((with_reducible refine gate_callee (f := 33) rfl ?_); refine goesL_ (some 140) rfl rfl Try.func33 (by kernel_rfl) rfl #[.slice Ao39 t498.length co39, .int .i64 t499] rfl (by (try simp only [List.map_toArray, List.map_cons, List.map_nil]); first | done | rfl | (simp only [List.length_drop, List.length_take]; rfl)) ?_; (with_reducible refine (spec_MostWithin.calls kj26 _ _ t498 t499 t504 t505 _ ?side1 ?side2 A36.out).mono ?_); (case side1 => repeat (first | exact (Kd.R_reads' HO501.out).2.2 | (with_reducible refine Kd.C_alloc ?_ _) | (with_reducible refine Kd.C_drewN ?_ _) | (with_reducible refine Kd.C_drew ?_))); (case side2 => exact (Kd.R_reads' HO501.out).2.1); rintro e w41 ⟨rfl, hb⟩; refine ⟨_, rfl, ?_⟩; have n0_ := Aside0.mk (Kd.R_below (by (with_reducible repeat (first | apply Kd.R_alloc | apply Kd.R_drewN | apply Kd.R_drew)); exact HO_3.out) hb); have n1_ := Aside0.mk (Kd.R_below (by (with_reducible repeat (first | apply Kd.R_alloc | apply Kd.R_drewN | apply Kd.R_drew)); exact HO_5.out) hb); have n2_ := Aside0.mk (Kd.R_below (by (with_reducible repeat (first | apply Kd.R_alloc | apply Kd.R_drewN | apply Kd.R_drew)); exact HO501.out) hb); have n3_ := Aside0.mk (below_step (by repeat (first | (with_reducible first | exact HB.out | apply below_alloc | apply pw_below_drewN | apply below_drew1) | exact HB.out)) hb); clear HO_3; clear HO_5; clear HO501; clear HB; have HO_3 := n0_; have HO_5 := n1_; have HO501 := n2_; have HB := n3_; clear n0_ n1_ n2_ n3_; (try clear hb); (try clear hb2); (try clear hk); (try clear hi)))
                            (try simp only [Act.put, List.setIfInBounds_toArray, List.set_cons_zero, List.set_cons_succ])
                            go_cut [150] (fun v150 wc => ∃ (kq : Nat) (x150_36 : Bool), v150 = .bool x150_36 ∧ Aside0 (laws_FnLimitedSweeps.j3 kq l0 t477 t478 t481 t482 t490 t494 t495 t498 t499 t502 t503 x150_36 = some r) ∧ Aside0 (kq ≤ kj26) ∧ Aside0 (Kd.R (Kd.int .i64) 3 wc w.heap.size (fun k_ => some k_ ≠ (v483 : Value).ownBlock ∧ some k_ ≠ ((.slice Ao39 t498.length co39) : Value).ownBlock) (.slice Ao9 t477.length co9) t477) ∧ Aside0 (Kd.R (Kd.int .i64) 3 wc w.heap.size (fun k_ => some k_ ≠ ((.slice Ao9 t477.length co9) : Value).ownBlock ∧ some k_ ≠ ((.slice Ao39 t498.length co39) : Value).ownBlock) v483 t481) ∧ Aside0 (Kd.R (Kd.int .i64) 3 wc w.heap.size (fun k_ => some k_ ≠ ((.slice Ao9 t477.length co9) : Value).ownBlock ∧ some k_ ≠ (v483 : Value).ownBlock) (.slice Ao39 t498.length co39) t498) ∧ Aside0 (Below w.heap.size w wc))
                            case first =>
                              have H := HC37.out
                              clear HC37
                              by_cases c42 : t502 = t504
                              · rw [if_pos c42] at H
                                have c42b0 : (t502 == t504) = true := beq_iff_eq.mpr c42
                                have c42b1 : (t502 != t504) = false := bne_eq_false_iff_eq.mpr c42
                                clear c42
                                (first | rw [c42b0] | (simp only [i64_w, i32_w]; rw [c42b0]) | skip)
                                have H' := Aside0.mk H
                                clear H
                                go_wp2
                                go_meet
                                case rel => exact ⟨_, ((t503 != t505)), (by first | rfl | (simp; done) | (simp [*]; done)), H', ⟨by have := HJ6.out; have := HJ18.out; have := HJ26.out; first | omega | exact Nat.le_refl _⟩, ⟨by (with_reducible repeat (first | apply Kd.R_alloc | apply Kd.R_drewN | apply Kd.R_drew)); exact HO_3.out⟩, ⟨by (with_reducible repeat (first | apply Kd.R_alloc | apply Kd.R_drewN | apply Kd.R_drew)); exact HO_5.out⟩, ⟨by (with_reducible repeat (first | apply Kd.R_alloc | apply Kd.R_drewN | apply Kd.R_drew)); exact Kd.R_mono HO501.out (fun _ hk => ⟨hk.1.2, hk.2⟩)⟩, ⟨by repeat (first | (with_reducible first | exact HB.out | apply below_alloc | apply pw_below_drewN | apply below_drew1) | exact HB.out)⟩⟩
                              · rw [if_neg c42] at H
                                exact (laws_FnLimitedSweeps.j3_no (hr_.out ▸ H)).elim
                            case rest =>
                              as_aux_lemma =>
                                clear HC37
                                try clear c1
                                try clear c2
                                try clear p2
                                try clear c3
                                try clear c4
                                try clear c7
                                try clear c12
                                try clear c12b0
                                try clear c12b1
                                try clear c12b2
                                try clear c16
                                try clear c22
                                try clear c22b0
                                try clear c22b1
                                try clear c23
                                try clear c23b0
                                try clear c23b1
                                try clear c23b2
                                try clear c24
                                try clear c25
                                try clear c26
                                try clear c27
                                try clear c28
                                try clear c29
                                try clear c30
                                try clear c30b0
                                try clear c30b1
                                try clear c31
                                try clear c31b0
                                try clear c31b1
                                try clear c31b2
                                try clear c32
                                try clear c33
                                try clear c42
                                try clear c42b0
                                try clear c42b1
                                try clear p2
                                obtain ⟨kq, x150_36, rfl, HA, HJ36, HO_3, HO_5, HO_17, HB⟩ := hcut
                                cases kq with
                                | zero => exact absurd HA.out (by simp [laws_FnLimitedSweeps.j3])
                                | succ kj36 =>
                                  have H := HA.out
                                  clear HA
                                  simp only [laws_FnLimitedSweeps.j3] at H
                                  by_cases c43 : x150_36 = true
                                  · subst c43
                                    have H1 : (some false) = some r := by rw [if_pos rfl] at H; exact H
                                    exact absurd ((Option.some.inj H1).trans hr_.out) Bool.false_ne_true
                                  · replace c43 := Bool.eq_false_iff.mpr c43
                                    subst c43
                                    have H1 : ((spec_DrawBubbleOrder.f kj36 l0).bind fun t506 => ((impl_BubbleOrder.f kj36 t506).bind fun bt509 => ((spec_BubbleOrder.f kj36 t506).bind fun bt513 => (if (bt509.2 != bt513.2) = true then (laws_FnLimitedSweeps.j4 kj36 t477 t478 t481 t482 t490 t494 t495 t498 t499 t502 t503 t506 bt509.1 bt509.2 true) else ((laws_rInts.f kj36 bt509.1 bt513.1).bind fun t517 => (laws_FnLimitedSweeps.j4 kj36 t477 t478 t481 t482 t490 t494 t495 t498 t499 t502 t503 t506 bt509.1 bt509.2 (!t517))))))) = some r := by rw [if_neg (show ¬ (false = true) by decide)] at H; exact H
                                    clear H
                                    have H := H1
                                    clear H1
                                    replace H := Option.bind_eq_some_iff.mp H
                                    obtain ⟨t506, A440, H⟩ := H
                                    replace H : ((impl_BubbleOrder.f kj36 t506).bind fun bt509 => ((spec_BubbleOrder.f kj36 t506).bind fun bt513 => (if (bt509.2 != bt513.2) = true then (laws_FnLimitedSweeps.j4 kj36 t477 t478 t481 t482 t490 t494 t495 t498 t499 t502 t503 t506 bt509.1 bt509.2 true) else ((laws_rInts.f kj36 bt509.1 bt513.1).bind fun t517 => (laws_FnLimitedSweeps.j4 kj36 t477 t478 t481 t482 t490 t494 t495 t498 t499 t502 t503 t506 bt509.1 bt509.2 (!t517)))))) = some r := H
                                    have A44 := Aside0.mk A440
                                    clear A440
                                    replace H := Option.bind_eq_some_iff.mp H
                                    obtain ⟨⟨t509, t510⟩, A450, H⟩ := H
                                    replace H : ((spec_BubbleOrder.f kj36 t506).bind fun bt513 => (if (t510 != bt513.2) = true then (laws_FnLimitedSweeps.j4 kj36 t477 t478 t481 t482 t490 t494 t495 t498 t499 t502 t503 t506 t509 t510 true) else ((laws_rInts.f kj36 t509 bt513.1).bind fun t517 => (laws_FnLimitedSweeps.j4 kj36 t477 t478 t481 t482 t490 t494 t495 t498 t499 t502 t503 t506 t509 t510 (!t517))))) = some r := H
                                    have A45 := Aside0.mk A450
                                    clear A450
                                    replace H := Option.bind_eq_some_iff.mp H
                                    obtain ⟨⟨t513, t514⟩, A460, H⟩ := H
                                    replace H : (if (t510 != t514) = true then (laws_FnLimitedSweeps.j4 kj36 t477 t478 t481 t482 t490 t494 t495 t498 t499 t502 t503 t506 t509 t510 true) else ((laws_rInts.f kj36 t509 t513).bind fun t517 => (laws_FnLimitedSweeps.j4 kj36 t477 t478 t481 t482 t490 t494 t495 t498 t499 t502 t503 t506 t509 t510 (!t517)))) = some r := H
                                    have A46 := Aside0.mk A460
                                    clear A460
                                    have HC47 := Aside0.mk H
                                    clear H
                                    go_upto_region 24 with (first | ((with_reducible refine gate_callee (f := 34) rfl ?_); refine goesL_ (some 152) rfl rfl Try.func34 (by kernel_rfl) rfl #[.slice A0 l0.length c0] rfl (by (try simp only [List.map_toArray, List.map_cons, List.map_nil]); first | done | rfl | (simp only [List.length_drop, List.length_take]; rfl)) ?_; (with_reducible refine (spec_DrawBubbleOrder.calls kj36 _ _ l0 t506 _ ?side1 ?side2 A44.out).mono ?_); (case side1 => repeat (first | exact (Kd.C_below HR0.out HB.out) | (with_reducible refine Kd.C_alloc ?_ _) | (with_reducible refine Kd.C_drewN ?_ _) | (with_reducible refine Kd.C_drew ?_))); (case side2 => exact HC0.out); rintro e w48 ⟨v507, rfl, ho0, hb⟩; refine ⟨_, rfl, ?_⟩; have n0_ := Aside0.mk (Kd.R_elder' (by (with_reducible repeat (first | apply Kd.R_alloc | apply Kd.R_drewN | apply Kd.R_drew)); exact HO_3.out) (Kd.R_base ho0) hb); have n1_ := Aside0.mk (Kd.R_elder' (by (with_reducible repeat (first | apply Kd.R_alloc | apply Kd.R_drewN | apply Kd.R_drew)); exact HO_5.out) (Kd.R_base ho0) hb); have n2_ := Aside0.mk (Kd.R_elder' (by (with_reducible repeat (first | apply Kd.R_alloc | apply Kd.R_drewN | apply Kd.R_drew)); exact HO_17.out) (Kd.R_base ho0) hb); have n3_ := Aside0.mk (Kd.R_lower (Kd.R_new' (Kd.R_new' (Kd.R_new' ho0 (Kd.R_lt (by (with_reducible repeat (first | apply Kd.R_alloc | apply Kd.R_drewN | apply Kd.R_drew)); exact HO_3.out))) (Kd.R_lt (by (with_reducible repeat (first | apply Kd.R_alloc | apply Kd.R_drewN | apply Kd.R_drew)); exact HO_5.out))) (Kd.R_lt (by (with_reducible repeat (first | apply Kd.R_alloc | apply Kd.R_drewN | apply Kd.R_drew)); exact HO_17.out))) (below_size (by repeat (first | (with_reducible first | exact HB.out | apply below_alloc | apply pw_below_drewN | apply below_drew1) | exact HB.out)))); have n4_ := Aside0.mk (below_step (by repeat (first | (with_reducible first | exact HB.out | apply below_alloc | apply pw_below_drewN | apply below_drew1) | exact HB.out)) hb); clear HO_3; clear HO_5; clear HO_17; clear HB; have HO_3 := n0_; have HO_5 := n1_; have HO_17 := n2_; have HO508 := n3_; have HB := n4_; clear n0_ n1_ n2_ n3_ n4_; (try clear hb); (try clear hb2); (try clear hk); (try clear hi); (try clear ho0); obtain ⟨Ao49, co49, eo49⟩ := Kd.R_slice HO508.out; subst eo49) | ((with_reducible refine gate_callee (f := 35) rfl ?_); refine goesL_ (some 155) rfl rfl Try.func35 (by kernel_rfl) rfl #[.slice Ao49 t506.length co49] rfl (by (try simp only [List.map_toArray, List.map_cons, List.map_nil]); first | done | rfl | (simp only [List.length_drop, List.length_take]; rfl)) ?_; (with_reducible refine (impl_BubbleOrder.calls kj36 _ _ t506 t509 t510 _ ?side1 ?side2 A45.out).mono ?_); (case side1 => repeat (first | exact (Kd.R_reads' HO508.out).2.2 | (with_reducible refine Kd.C_alloc ?_ _) | (with_reducible refine Kd.C_drewN ?_ _) | (with_reducible refine Kd.C_drew ?_))); (case side2 => exact (Kd.R_reads' HO508.out).2.1); rintro e w50 ⟨v511, rfl, ho0, hb⟩; refine ⟨_, rfl, ?_⟩; have n0_ := Aside0.mk (Kd.R_elder' (by (with_reducible repeat (first | apply Kd.R_alloc | apply Kd.R_drewN | apply Kd.R_drew)); exact HO_3.out) (Kd.R_base ho0) hb); have n1_ := Aside0.mk (Kd.R_elder' (by (with_reducible repeat (first | apply Kd.R_alloc | apply Kd.R_drewN | apply Kd.R_drew)); exact HO_5.out) (Kd.R_base ho0) hb); have n2_ := Aside0.mk (Kd.R_elder' (by (with_reducible repeat (first | apply Kd.R_alloc | apply Kd.R_drewN | apply Kd.R_drew)); exact HO_17.out) (Kd.R_base ho0) hb); have n3_ := Aside0.mk (Kd.R_elder' (by (with_reducible repeat (first | apply Kd.R_alloc | apply Kd.R_drewN | apply Kd.R_drew)); exact HO508.out) (Kd.R_base ho0) hb); have n4_ := Aside0.mk (Kd.R_lower (Kd.R_new' (Kd.R_new' (Kd.R_new' (Kd.R_new' ho0 (Kd.R_lt (by (with_reducible repeat (first | apply Kd.R_alloc | apply Kd.R_drewN | apply Kd.R_drew)); exact HO_3.out))) (Kd.R_lt (by (with_reducible repeat (first | apply Kd.R_alloc | apply Kd.R_drewN | apply Kd.R_drew)); exact HO_5.out))) (Kd.R_lt (by (with_reducible repeat (first | apply Kd.R_alloc | apply Kd.R_drewN | apply Kd.R_drew)); exact HO_17.out))) (Kd.R_lt (by (with_reducible repeat (first | apply Kd.R_alloc | apply Kd.R_drewN | apply Kd.R_drew)); exact HO508.out))) (below_size (by repeat (first | (with_reducible first | exact HB.out | apply below_alloc | apply pw_below_drewN | apply below_drew1) | exact HB.out)))); have n5_ := Aside0.mk (below_step (by repeat (first | (with_reducible first | exact HB.out | apply below_alloc | apply pw_below_drewN | apply below_drew1) | exact HB.out)) hb); clear HO_3; clear HO_5; clear HO_17; clear HO508; clear HB; have HO_3 := n0_; have HO_5 := n1_; have HO_17 := n2_; have HO508 := n3_; have HO512 := n4_; have HB := n5_; clear n0_ n1_ n2_ n3_ n4_ n5_; (try clear hb); (try clear hb2); (try clear hk); (try clear hi); (try clear ho0)) | ((with_reducible refine gate_callee (f := 36) rfl ?_); refine goesL_ (some 160) rfl rfl Try.func36 (by kernel_rfl) rfl #[.slice Ao49 t506.length co49] rfl (by (try simp only [List.map_toArray, List.map_cons, List.map_nil]); first | done | rfl | (simp only [List.length_drop, List.length_take]; rfl)) ?_; (with_reducible refine (spec_BubbleOrder.calls kj36 _ _ t506 t513 t514 _ ?side1 ?side2 A46.out).mono ?_); (case side1 => repeat (first | exact (Kd.R_reads' HO508.out).2.2 | (with_reducible refine Kd.C_alloc ?_ _) | (with_reducible refine Kd.C_drewN ?_ _) | (with_reducible refine Kd.C_drew ?_))); (case side2 => exact (Kd.R_reads' HO508.out).2.1); rintro e w51 ⟨v515, rfl, ho0, hb⟩; refine ⟨_, rfl, ?_⟩; have n0_ := Aside0.mk (Kd.R_elder' (by (with_reducible repeat (first | apply Kd.R_alloc | apply Kd.R_drewN | apply Kd.R_drew)); exact HO_3.out) (Kd.R_base ho0) hb); have n1_ := Aside0.mk (Kd.R_elder' (by (with_reducible repeat (first | apply Kd.R_alloc | apply Kd.R_drewN | apply Kd.R_drew)); exact HO_5.out) (Kd.R_base ho0) hb); have n2_ := Aside0.mk (Kd.R_elder' (by (with_reducible repeat (first | apply Kd.R_alloc | apply Kd.R_drewN | apply Kd.R_drew)); exact HO_17.out) (Kd.R_base ho0) hb); have n3_ := Aside0.mk (Kd.R_elder' (by (with_reducible repeat (first | apply Kd.R_alloc | apply Kd.R_drewN | apply Kd.R_drew)); exact HO508.out) (Kd.R_base ho0) hb); have n4_ := Aside0.mk (Kd.R_elder' (by (with_reducible repeat (first | apply Kd.R_alloc | apply Kd.R_drewN | apply Kd.R_drew)); exact HO512.out) (Kd.R_base ho0) hb); have n5_ := Aside0.mk (Kd.R_lower (Kd.R_new' (Kd.R_new' (Kd.R_new' (Kd.R_new' (Kd.R_new' ho0 (Kd.R_lt (by (with_reducible repeat (first | apply Kd.R_alloc | apply Kd.R_drewN | apply Kd.R_drew)); exact HO_3.out))) (Kd.R_lt (by (with_reducible repeat (first | apply Kd.R_alloc | apply Kd.R_drewN | apply Kd.R_drew)); exact HO_5.out))) (Kd.R_lt (by (with_reducible repeat (first | apply Kd.R_alloc | apply Kd.R_drewN | apply Kd.R_drew)); exact HO_17.out))) (Kd.R_lt (by (with_reducible repeat (first | apply Kd.R_alloc | apply Kd.R_drewN | apply Kd.R_drew)); exact HO508.out))) (Kd.R_lt (by (with_reducible repeat (first | apply Kd.R_alloc | apply Kd.R_drewN | apply Kd.R_drew)); exact HO512.out))) (below_size (by repeat (first | (with_reducible first | exact HB.out | apply below_alloc | apply pw_below_drewN | apply below_drew1) | exact HB.out)))); have n6_ := Aside0.mk (below_step (by repeat (first | (with_reducible first | exact HB.out | apply below_alloc | apply pw_below_drewN | apply below_drew1) | exact HB.out)) hb); clear HO_3; clear HO_5; clear HO_17; clear HO508; clear HO512; clear HB; have HO_3 := n0_; have HO_5 := n1_; have HO_17 := n2_; have HO508 := n3_; have HO512 := n4_; have HO516 := n5_; have HB := n6_; clear n0_ n1_ n2_ n3_ n4_ n5_ n6_; (try clear hb); (try clear hb2); (try clear hk); (try clear hi); (try clear ho0)))
                                    (try simp only [Act.put, List.setIfInBounds_toArray, List.set_cons_zero, List.set_cons_succ])
                                    go_cut [171] (fun v171 wc => ∃ (kq : Nat) (x171_46 : Bool), v171 = .bool x171_46 ∧ Aside0 (laws_FnLimitedSweeps.j4 kq t477 t478 t481 t482 t490 t494 t495 t498 t499 t502 t503 t506 t509 t510 x171_46 = some r) ∧ Aside0 (kq ≤ kj36) ∧ Aside0 (Kd.R (Kd.int .i64) 3 wc w.heap.size (fun k_ => some k_ ≠ (v483 : Value).ownBlock ∧ some k_ ≠ ((.slice Ao39 t498.length co39) : Value).ownBlock ∧ some k_ ≠ ((.slice Ao49 t506.length co49) : Value).ownBlock ∧ some k_ ≠ (v511 : Value).ownBlock) (.slice Ao9 t477.length co9) t477) ∧ Aside0 (Kd.R (Kd.int .i64) 3 wc w.heap.size (fun k_ => some k_ ≠ ((.slice Ao9 t477.length co9) : Value).ownBlock ∧ some k_ ≠ ((.slice Ao39 t498.length co39) : Value).ownBlock ∧ some k_ ≠ ((.slice Ao49 t506.length co49) : Value).ownBlock ∧ some k_ ≠ (v511 : Value).ownBlock) v483 t481) ∧ Aside0 (Kd.R (Kd.int .i64) 3 wc w.heap.size (fun k_ => some k_ ≠ ((.slice Ao9 t477.length co9) : Value).ownBlock ∧ some k_ ≠ (v483 : Value).ownBlock ∧ some k_ ≠ ((.slice Ao49 t506.length co49) : Value).ownBlock ∧ some k_ ≠ (v511 : Value).ownBlock) (.slice Ao39 t498.length co39) t498) ∧ Aside0 (Kd.R (Kd.int .i64) 3 wc w.heap.size (fun k_ => some k_ ≠ ((.slice Ao9 t477.length co9) : Value).ownBlock ∧ some k_ ≠ (v483 : Value).ownBlock ∧ some k_ ≠ ((.slice Ao39 t498.length co39) : Value).ownBlock ∧ some k_ ≠ (v511 : Value).ownBlock) (.slice Ao49 t506.length co49) t506) ∧ Aside0 (Kd.R (Kd.int .i64) 3 wc w.heap.size (fun k_ => some k_ ≠ ((.slice Ao9 t477.length co9) : Value).ownBlock ∧ some k_ ≠ (v483 : Value).ownBlock ∧ some k_ ≠ ((.slice Ao39 t498.length co39) : Value).ownBlock ∧ some k_ ≠ ((.slice Ao49 t506.length co49) : Value).ownBlock) v511 t509) ∧ Aside0 (Below w.heap.size w wc))
                                    case first =>
                                      have H := HC47.out
                                      clear HC47
                                      by_cases c52 : (t510 != t514) = true
                                      · rw [if_pos c52] at H
                                        exact (laws_FnLimitedSweeps.j4_no (hr_.out ▸ H)).elim
                                      · rw [if_neg c52] at H
                                        have c52b0 : (t510 != t514) = false := by simpa using c52
                                        (try (have c52b1 : decide (t510 = t514) = true := by simpa using c52))
                                        (try (have c52b2 : (t510 == t514) = true := by simpa using c52))
                                        clear c52
                                        (first | rw [c52b0] | (simp only [i64_w, i32_w]; rw [c52b0]) | skip)
                                        replace H := Option.bind_eq_some_iff.mp H
                                        obtain ⟨t517, A530, H⟩ := H
                                        replace H : (laws_FnLimitedSweeps.j4 kj36 t477 t478 t481 t482 t490 t494 t495 t498 t499 t502 t503 t506 t509 t510 (!t517)) = some r := H
                                        have A53 := Aside0.mk A530
                                        clear A530
                                        have H' := Aside0.mk H
                                        clear H
                                        obtain ⟨Ao54, co54, eo54⟩ := Kd.R_slice HO512.out
                                        subst eo54
                                        obtain ⟨Ao55, co55, eo55⟩ := Kd.R_slice HO516.out
                                        subst eo55
                                        go_wp2_with (first | (go_at_call 15; (with_reducible refine (laws_rInts.calls kj36 _ _ t509 _ _ t513 t517 _ ?side1 ?side2 ?side3 ?side4 A53.out).mono ?_); (case side1 => repeat (first | exact (Kd.R_reads' HO512.out).2.2 | (with_reducible refine Kd.C_alloc ?_ _) | (with_reducible refine Kd.C_drewN ?_ _) | (with_reducible refine Kd.C_drew ?_))); (case side2 => exact (Kd.R_reads' HO512.out).2.1); (case side3 => repeat (first | exact (Kd.R_reads' HO516.out).2.2 | (with_reducible refine Kd.C_alloc ?_ _) | (with_reducible refine Kd.C_drewN ?_ _) | (with_reducible refine Kd.C_drew ?_))); (case side4 => exact (Kd.R_reads' HO516.out).2.1); rintro e w' ⟨rfl, ⟨nd, rfl⟩⟩))
                                        go_meet
                                        case rel => exact ⟨_, (!t517), (by first | rfl | (simp; done) | (simp [*]; done)), H', ⟨by have := HJ6.out; have := HJ18.out; have := HJ26.out; have := HJ36.out; first | omega | exact Nat.le_refl _⟩, ⟨by (with_reducible repeat (first | apply Kd.R_alloc | apply Kd.R_drewN | apply Kd.R_drew)); exact Kd.R_mono HO_3.out (fun _ hk => ⟨hk.1.1.1.1, ⟨hk.1.1.1.2, ⟨hk.1.1.2, hk.1.2⟩⟩⟩)⟩, ⟨by (with_reducible repeat (first | apply Kd.R_alloc | apply Kd.R_drewN | apply Kd.R_drew)); exact Kd.R_mono HO_5.out (fun _ hk => ⟨hk.1.1.1.1, ⟨hk.1.1.1.2, ⟨hk.1.1.2, hk.1.2⟩⟩⟩)⟩, ⟨by (with_reducible repeat (first | apply Kd.R_alloc | apply Kd.R_drewN | apply Kd.R_drew)); exact Kd.R_mono HO_17.out (fun _ hk => ⟨hk.1.1.1.1, ⟨hk.1.1.1.2, ⟨hk.1.1.2, hk.1.2⟩⟩⟩)⟩, ⟨by (with_reducible repeat (first | apply Kd.R_alloc | apply Kd.R_drewN | apply Kd.R_drew)); exact Kd.R_mono HO508.out (fun _ hk => ⟨hk.1.1.1.1.2, ⟨hk.1.1.1.2, ⟨hk.1.1.2, hk.1.2⟩⟩⟩)⟩, ⟨by (with_reducible repeat (first | apply Kd.R_alloc | apply Kd.R_drewN | apply Kd.R_drew)); exact Kd.R_mono HO512.out (fun _ hk => ⟨hk.1.1.1.1.2, ⟨hk.1.1.1.2, ⟨hk.1.1.2, hk.1.2⟩⟩⟩)⟩, ⟨by repeat (first | (with_reducible first | exact HB.out | apply below_alloc | apply pw_below_drewN | apply below_drew1) | exact HB.out)⟩⟩
                                    case rest =>
                                      as_aux_lemma =>
                                        clear HC47
                                        try clear c1
                                        try clear c2
                                        try clear p2
                                        try clear c3
                                        try clear c4
                                        try clear c5
                                        try clear c7
                                        try clear c12
                                        try clear c12b0
                                        try clear c12b1
                                        try clear c12b2
                                        try clear c16
                                        try clear c22
                                        try clear c22b0
                                        try clear c22b1
                                        try clear c23
                                        try clear c23b0
                                        try clear c23b1
                                        try clear c23b2
                                        try clear c24
                                        try clear c25
                                        try clear c26
                                        try clear c27
                                        try clear c28
                                        try clear c29
                                        try clear c30
                                        try clear c30b0
                                        try clear c30b1
                                        try clear c31
                                        try clear c31b0
                                        try clear c31b1
                                        try clear c31b2
                                        try clear c32
                                        try clear c33
                                        try clear c34
                                        try clear c35
                                        try clear c36
                                        try clear c42
                                        try clear c42b0
                                        try clear c42b1
                                        try clear c43
                                        try clear c52
                                        try clear c52b0
                                        try clear c52b1
                                        try clear c52b2
                                        try clear p2
                                        obtain ⟨kq, x171_46, rfl, HA, HJ46, HO_3, HO_5, HO_17, HO_23, HO_24, HB⟩ := hcut
                                        cases kq with
                                        | zero => exact absurd HA.out (by simp [laws_FnLimitedSweeps.j4])
                                        | succ kj46 =>
                                          have H := HA.out
                                          clear HA
                                          simp only [laws_FnLimitedSweeps.j4] at H
                                          by_cases c56 : x171_46 = true
                                          · subst c56
                                            have H1 : (some false) = some r := by rw [if_pos rfl] at H; exact H
                                            exact absurd ((Option.some.inj H1).trans hr_.out) Bool.false_ne_true
                                          · replace c56 := Bool.eq_false_iff.mpr c56
                                            subst c56
                                            have H1 : (if t510 = true then ((impl_LimitedSweep.f kj46 t506 1).bind fun bt518 => ((impl_LimitedSweep.f kj46 t506 2).bind fun bt522 => ((impl_LimitedSweep.f kj46 t506 (t506.length : Int)).bind fun bt526 => ((impl_SweepOrder.f kj46 t506).bind fun bt530 => (if bt518.2 = true then (if bt522.2 = true then (if bt526.2 = true then (if bt530.2 = true then ((laws_rInts.f kj46 bt518.1 t506).bind fun t534 => (if t534 = true then ((laws_rInts.f kj46 bt522.1 t509).bind fun t535 => (if t535 = true then ((laws_rInts.f kj46 bt526.1 bt530.1).bind fun t536 => (if t536 = true then (laws_FnLimitedSweeps.j5 kj46 t477 t478 t481 t482 t490 t494 t495 t498 t499 t502 t503) else (some false))) else (some false))) else (some false))) else (some false)) else (some false)) else (some false)) else (some false)))))) else (laws_FnLimitedSweeps.j5 kj46 t477 t478 t481 t482 t490 t494 t495 t498 t499 t502 t503)) = some r := by rw [if_neg (show ¬ (false = true) by decide)] at H; exact H
                                            clear H
                                            have H := H1
                                            clear H1
                                            have HC57 := Aside0.mk H
                                            clear H
                                            go_upto_if 172 with (fail)
                                            go_cut [] (fun wc => ∃ (kq : Nat), Aside0 (laws_FnLimitedSweeps.j5 kq t477 t478 t481 t482 t490 t494 t495 t498 t499 t502 t503 = some r) ∧ Aside0 (kq ≤ kj46) ∧ Aside0 (Kd.R (Kd.int .i64) 3 wc w.heap.size (fun k_ => some k_ ≠ (v483 : Value).ownBlock ∧ some k_ ≠ ((.slice Ao39 t498.length co39) : Value).ownBlock) (.slice Ao9 t477.length co9) t477) ∧ Aside0 (Kd.R (Kd.int .i64) 3 wc w.heap.size (fun k_ => some k_ ≠ ((.slice Ao9 t477.length co9) : Value).ownBlock ∧ some k_ ≠ ((.slice Ao39 t498.length co39) : Value).ownBlock) v483 t481) ∧ Aside0 (Kd.R (Kd.int .i64) 3 wc w.heap.size (fun k_ => some k_ ≠ ((.slice Ao9 t477.length co9) : Value).ownBlock ∧ some k_ ≠ (v483 : Value).ownBlock) (.slice Ao39 t498.length co39) t498) ∧ Aside0 (Below w.heap.size w wc))
                                            case first =>
                                              have H := HC57.out
                                              clear HC57
                                              by_cases c58 : t510 = true
                                              · subst c58
                                                have H1 : ((impl_LimitedSweep.f kj46 t506 1).bind fun bt518 => ((impl_LimitedSweep.f kj46 t506 2).bind fun bt522 => ((impl_LimitedSweep.f kj46 t506 (t506.length : Int)).bind fun bt526 => ((impl_SweepOrder.f kj46 t506).bind fun bt530 => (if bt518.2 = true then (if bt522.2 = true then (if bt526.2 = true then (if bt530.2 = true then ((laws_rInts.f kj46 bt518.1 t506).bind fun t534 => (if t534 = true then ((laws_rInts.f kj46 bt522.1 t509).bind fun t535 => (if t535 = true then ((laws_rInts.f kj46 bt526.1 bt530.1).bind fun t536 => (if t536 = true then (laws_FnLimitedSweeps.j5 kj46 t477 t478 t481 t482 t490 t494 t495 t498 t499 t502 t503) else (some false))) else (some false))) else (some false))) else (some false)) else (some false)) else (some false)) else (some false)))))) = some r := by rw [if_pos rfl] at H; exact H
                                                clear H
                                                have H := H1
                                                clear H1
                                                replace H := Option.bind_eq_some_iff.mp H
                                                obtain ⟨⟨t518, t519⟩, A590, H⟩ := H
                                                replace H : ((impl_LimitedSweep.f kj46 t506 2).bind fun bt522 => ((impl_LimitedSweep.f kj46 t506 (t506.length : Int)).bind fun bt526 => ((impl_SweepOrder.f kj46 t506).bind fun bt530 => (if t519 = true then (if bt522.2 = true then (if bt526.2 = true then (if bt530.2 = true then ((laws_rInts.f kj46 t518 t506).bind fun t534 => (if t534 = true then ((laws_rInts.f kj46 bt522.1 t509).bind fun t535 => (if t535 = true then ((laws_rInts.f kj46 bt526.1 bt530.1).bind fun t536 => (if t536 = true then (laws_FnLimitedSweeps.j5 kj46 t477 t478 t481 t482 t490 t494 t495 t498 t499 t502 t503) else (some false))) else (some false))) else (some false))) else (some false)) else (some false)) else (some false)) else (some false))))) = some r := H
                                                have A59 := Aside0.mk A590
                                                clear A590
                                                replace H := Option.bind_eq_some_iff.mp H
                                                obtain ⟨⟨t522, t523⟩, A600, H⟩ := H
                                                replace H : ((impl_LimitedSweep.f kj46 t506 (t506.length : Int)).bind fun bt526 => ((impl_SweepOrder.f kj46 t506).bind fun bt530 => (if t519 = true then (if t523 = true then (if bt526.2 = true then (if bt530.2 = true then ((laws_rInts.f kj46 t518 t506).bind fun t534 => (if t534 = true then ((laws_rInts.f kj46 t522 t509).bind fun t535 => (if t535 = true then ((laws_rInts.f kj46 bt526.1 bt530.1).bind fun t536 => (if t536 = true then (laws_FnLimitedSweeps.j5 kj46 t477 t478 t481 t482 t490 t494 t495 t498 t499 t502 t503) else (some false))) else (some false))) else (some false))) else (some false)) else (some false)) else (some false)) else (some false)))) = some r := H
                                                have A60 := Aside0.mk A600
                                                clear A600
                                                replace H := Option.bind_eq_some_iff.mp H
                                                obtain ⟨⟨t526, t527⟩, A610, H⟩ := H
                                                replace H : ((impl_SweepOrder.f kj46 t506).bind fun bt530 => (if t519 = true then (if t523 = true then (if t527 = true then (if bt530.2 = true then ((laws_rInts.f kj46 t518 t506).bind fun t534 => (if t534 = true then ((laws_rInts.f kj46 t522 t509).bind fun t535 => (if t535 = true then ((laws_rInts.f kj46 t526 bt530.1).bind fun t536 => (if t536 = true then (laws_FnLimitedSweeps.j5 kj46 t477 t478 t481 t482 t490 t494 t495 t498 t499 t502 t503) else (some false))) else (some false))) else (some false))) else (some false)) else (some false)) else (some false)) else (some false))) = some r := H
                                                have A61 := Aside0.mk A610
                                                clear A610
                                                replace H := Option.bind_eq_some_iff.mp H
                                                obtain ⟨⟨t530, t531⟩, A620, H⟩ := H
                                                replace H : (if t519 = true then (if t523 = true then (if t527 = true then (if t531 = true then ((laws_rInts.f kj46 t518 t506).bind fun t534 => (if t534 = true then ((laws_rInts.f kj46 t522 t509).bind fun t535 => (if t535 = true then ((laws_rInts.f kj46 t526 t530).bind fun t536 => (if t536 = true then (laws_FnLimitedSweeps.j5 kj46 t477 t478 t481 t482 t490 t494 t495 t498 t499 t502 t503) else (some false))) else (some false))) else (some false))) else (some false)) else (some false)) else (some false)) else (some false)) = some r := H
                                                have A62 := Aside0.mk A620
                                                clear A620
                                                by_cases c63 : t519 = true
                                                · subst c63
                                                  have H1 : (if t523 = true then (if t527 = true then (if t531 = true then ((laws_rInts.f kj46 t518 t506).bind fun t534 => (if t534 = true then ((laws_rInts.f kj46 t522 t509).bind fun t535 => (if t535 = true then ((laws_rInts.f kj46 t526 t530).bind fun t536 => (if t536 = true then (laws_FnLimitedSweeps.j5 kj46 t477 t478 t481 t482 t490 t494 t495 t498 t499 t502 t503) else (some false))) else (some false))) else (some false))) else (some false)) else (some false)) else (some false)) = some r := by rw [if_pos rfl] at H; exact H
                                                  clear H
                                                  have H := H1
                                                  clear H1
                                                  by_cases c64 : t523 = true
                                                  · subst c64
                                                    have H1 : (if t527 = true then (if t531 = true then ((laws_rInts.f kj46 t518 t506).bind fun t534 => (if t534 = true then ((laws_rInts.f kj46 t522 t509).bind fun t535 => (if t535 = true then ((laws_rInts.f kj46 t526 t530).bind fun t536 => (if t536 = true then (laws_FnLimitedSweeps.j5 kj46 t477 t478 t481 t482 t490 t494 t495 t498 t499 t502 t503) else (some false))) else (some false))) else (some false))) else (some false)) else (some false)) = some r := by rw [if_pos rfl] at H; exact H
                                                    clear H
                                                    have H := H1
                                                    clear H1
                                                    by_cases c65 : t527 = true
                                                    · subst c65
                                                      have H1 : (if t531 = true then ((laws_rInts.f kj46 t518 t506).bind fun t534 => (if t534 = true then ((laws_rInts.f kj46 t522 t509).bind fun t535 => (if t535 = true then ((laws_rInts.f kj46 t526 t530).bind fun t536 => (if t536 = true then (laws_FnLimitedSweeps.j5 kj46 t477 t478 t481 t482 t490 t494 t495 t498 t499 t502 t503) else (some false))) else (some false))) else (some false))) else (some false)) = some r := by rw [if_pos rfl] at H; exact H
                                                      clear H
                                                      have H := H1
                                                      clear H1
                                                      by_cases c66 : t531 = true
                                                      · subst c66
                                                        have H1 : ((laws_rInts.f kj46 t518 t506).bind fun t534 => (if t534 = true then ((laws_rInts.f kj46 t522 t509).bind fun t535 => (if t535 = true then ((laws_rInts.f kj46 t526 t530).bind fun t536 => (if t536 = true then (laws_FnLimitedSweeps.j5 kj46 t477 t478 t481 t482 t490 t494 t495 t498 t499 t502 t503) else (some false))) else (some false))) else (some false))) = some r := by rw [if_pos rfl] at H; exact H
                                                        clear H
                                                        have H := H1
                                                        clear H1
                                                        replace H := Option.bind_eq_some_iff.mp H
                                                        obtain ⟨t534, A670, H⟩ := H
                                                        replace H : (if t534 = true then ((laws_rInts.f kj46 t522 t509).bind fun t535 => (if t535 = true then ((laws_rInts.f kj46 t526 t530).bind fun t536 => (if t536 = true then (laws_FnLimitedSweeps.j5 kj46 t477 t478 t481 t482 t490 t494 t495 t498 t499 t502 t503) else (some false))) else (some false))) else (some false)) = some r := H
                                                        have A67 := Aside0.mk A670
                                                        clear A670
                                                        by_cases c68 : t534 = true
                                                        · subst c68
                                                          have H1 : ((laws_rInts.f kj46 t522 t509).bind fun t535 => (if t535 = true then ((laws_rInts.f kj46 t526 t530).bind fun t536 => (if t536 = true then (laws_FnLimitedSweeps.j5 kj46 t477 t478 t481 t482 t490 t494 t495 t498 t499 t502 t503) else (some false))) else (some false))) = some r := by rw [if_pos rfl] at H; exact H
                                                          clear H
                                                          have H := H1
                                                          clear H1
                                                          replace H := Option.bind_eq_some_iff.mp H
                                                          obtain ⟨t535, A690, H⟩ := H
                                                          replace H : (if t535 = true then ((laws_rInts.f kj46 t526 t530).bind fun t536 => (if t536 = true then (laws_FnLimitedSweeps.j5 kj46 t477 t478 t481 t482 t490 t494 t495 t498 t499 t502 t503) else (some false))) else (some false)) = some r := H
                                                          have A69 := Aside0.mk A690
                                                          clear A690
                                                          by_cases c70 : t535 = true
                                                          · subst c70
                                                            have H1 : ((laws_rInts.f kj46 t526 t530).bind fun t536 => (if t536 = true then (laws_FnLimitedSweeps.j5 kj46 t477 t478 t481 t482 t490 t494 t495 t498 t499 t502 t503) else (some false))) = some r := by rw [if_pos rfl] at H; exact H
                                                            clear H
                                                            have H := H1
                                                            clear H1
                                                            replace H := Option.bind_eq_some_iff.mp H
                                                            obtain ⟨t536, A710, H⟩ := H
                                                            replace H : (if t536 = true then (laws_FnLimitedSweeps.j5 kj46 t477 t478 t481 t482 t490 t494 t495 t498 t499 t502 t503) else (some false)) = some r := H
                                                            have A71 := Aside0.mk A710
                                                            clear A710
                                                            by_cases c72 : t536 = true
                                                            · subst c72
                                                              have H1 : (laws_FnLimitedSweeps.j5 kj46 t477 t478 t481 t482 t490 t494 t495 t498 t499 t502 t503) = some r := by rw [if_pos rfl] at H; exact H
                                                              clear H
                                                              have H := H1
                                                              clear H1
                                                              have H' := Aside0.mk H
                                                              clear H
                                                              go_wp2_with (first | ((with_reducible refine gate_callee (f := 25) rfl ?_); refine goesL_ (some 175) rfl rfl Try.func25 (by kernel_rfl) rfl #[.slice Ao49 t506.length co49, .int .i64 1] rfl (by (try simp only [List.map_toArray, List.map_cons, List.map_nil]); first | done | rfl | (simp only [List.length_drop, List.length_take]; rfl)) ?_; (with_reducible refine (impl_LimitedSweep.calls kj46 _ _ t506 1 t518 true _ ?side1 ?side2 A59.out).mono ?_); (case side1 => repeat (first | exact (Kd.R_reads' HO_23.out).2.2 | (with_reducible refine Kd.C_alloc ?_ _) | (with_reducible refine Kd.C_drewN ?_ _) | (with_reducible refine Kd.C_drew ?_))); (case side2 => exact (Kd.R_reads' HO_23.out).2.1); rintro e w73 ⟨v520, rfl, ho0, hb⟩; refine ⟨_, rfl, ?_⟩; have n0_ := Aside0.mk (Kd.R_elder' (by (with_reducible repeat (first | apply Kd.R_alloc | apply Kd.R_drewN | apply Kd.R_drew)); exact HO_3.out) (Kd.R_base ho0) hb); have n1_ := Aside0.mk (Kd.R_elder' (by (with_reducible repeat (first | apply Kd.R_alloc | apply Kd.R_drewN | apply Kd.R_drew)); exact HO_5.out) (Kd.R_base ho0) hb); have n2_ := Aside0.mk (Kd.R_elder' (by (with_reducible repeat (first | apply Kd.R_alloc | apply Kd.R_drewN | apply Kd.R_drew)); exact HO_17.out) (Kd.R_base ho0) hb); have n3_ := Aside0.mk (Kd.R_elder' (by (with_reducible repeat (first | apply Kd.R_alloc | apply Kd.R_drewN | apply Kd.R_drew)); exact HO_23.out) (Kd.R_base ho0) hb); have n4_ := Aside0.mk (Kd.R_elder' (by (with_reducible repeat (first | apply Kd.R_alloc | apply Kd.R_drewN | apply Kd.R_drew)); exact HO_24.out) (Kd.R_base ho0) hb); have n5_ := Aside0.mk (Kd.R_lower (Kd.R_new' (Kd.R_new' (Kd.R_new' (Kd.R_new' (Kd.R_new' ho0 (Kd.R_lt (by (with_reducible repeat (first | apply Kd.R_alloc | apply Kd.R_drewN | apply Kd.R_drew)); exact HO_3.out))) (Kd.R_lt (by (with_reducible repeat (first | apply Kd.R_alloc | apply Kd.R_drewN | apply Kd.R_drew)); exact HO_5.out))) (Kd.R_lt (by (with_reducible repeat (first | apply Kd.R_alloc | apply Kd.R_drewN | apply Kd.R_drew)); exact HO_17.out))) (Kd.R_lt (by (with_reducible repeat (first | apply Kd.R_alloc | apply Kd.R_drewN | apply Kd.R_drew)); exact HO_23.out))) (Kd.R_lt (by (with_reducible repeat (first | apply Kd.R_alloc | apply Kd.R_drewN | apply Kd.R_drew)); exact HO_24.out))) (below_size (by repeat (first | (with_reducible first | exact HB.out | apply below_alloc | apply pw_below_drewN | apply below_drew1) | exact HB.out)))); have n6_ := Aside0.mk (below_step (by repeat (first | (with_reducible first | exact HB.out | apply below_alloc | apply pw_below_drewN | apply below_drew1) | exact HB.out)) hb); clear HO_3; clear HO_5; clear HO_17; clear HO_23; clear HO_24; clear HB; have HO_3 := n0_; have HO_5 := n1_; have HO_17 := n2_; have HO_23 := n3_; have HO_24 := n4_; have HO521 := n5_; have HB := n6_; clear n0_ n1_ n2_ n3_ n4_ n5_ n6_; (try clear hb); (try clear hb2); (try clear hk); (try clear hi); (try clear ho0)) | ((with_reducible refine gate_callee (f := 25) rfl ?_); refine goesL_ (some 180) rfl rfl Try.func25 (by kernel_rfl) rfl #[.slice Ao49 t506.length co49, .int .i64 2] rfl (by (try simp only [List.map_toArray, List.map_cons, List.map_nil]); first | done | rfl | (simp only [List.length_drop, List.length_take]; rfl)) ?_; (with_reducible refine (impl_LimitedSweep.calls kj46 _ _ t506 2 t522 true _ ?side1 ?side2 A60.out).mono ?_); (case side1 => repeat (first | exact (Kd.R_reads' HO_23.out).2.2 | (with_reducible refine Kd.C_alloc ?_ _) | (with_reducible refine Kd.C_drewN ?_ _) | (with_reducible refine Kd.C_drew ?_))); (case side2 => exact (Kd.R_reads' HO_23.out).2.1); rintro e w74 ⟨v524, rfl, ho0, hb⟩; refine ⟨_, rfl, ?_⟩; have n0_ := Aside0.mk (Kd.R_elder' (by (with_reducible repeat (first | apply Kd.R_alloc | apply Kd.R_drewN | apply Kd.R_drew)); exact HO_3.out) (Kd.R_base ho0) hb); have n1_ := Aside0.mk (Kd.R_elder' (by (with_reducible repeat (first | apply Kd.R_alloc | apply Kd.R_drewN | apply Kd.R_drew)); exact HO_5.out) (Kd.R_base ho0) hb); have n2_ := Aside0.mk (Kd.R_elder' (by (with_reducible repeat (first | apply Kd.R_alloc | apply Kd.R_drewN | apply Kd.R_drew)); exact HO_17.out) (Kd.R_base ho0) hb); have n3_ := Aside0.mk (Kd.R_elder' (by (with_reducible repeat (first | apply Kd.R_alloc | apply Kd.R_drewN | apply Kd.R_drew)); exact HO_23.out) (Kd.R_base ho0) hb); have n4_ := Aside0.mk (Kd.R_elder' (by (with_reducible repeat (first | apply Kd.R_alloc | apply Kd.R_drewN | apply Kd.R_drew)); exact HO_24.out) (Kd.R_base ho0) hb); have n5_ := Aside0.mk (Kd.R_elder' (by (with_reducible repeat (first | apply Kd.R_alloc | apply Kd.R_drewN | apply Kd.R_drew)); exact HO521.out) (Kd.R_base ho0) hb); have n6_ := Aside0.mk (Kd.R_lower (Kd.R_new' (Kd.R_new' (Kd.R_new' (Kd.R_new' (Kd.R_new' (Kd.R_new' ho0 (Kd.R_lt (by (with_reducible repeat (first | apply Kd.R_alloc | apply Kd.R_drewN | apply Kd.R_drew)); exact HO_3.out))) (Kd.R_lt (by (with_reducible repeat (first | apply Kd.R_alloc | apply Kd.R_drewN | apply Kd.R_drew)); exact HO_5.out))) (Kd.R_lt (by (with_reducible repeat (first | apply Kd.R_alloc | apply Kd.R_drewN | apply Kd.R_drew)); exact HO_17.out))) (Kd.R_lt (by (with_reducible repeat (first | apply Kd.R_alloc | apply Kd.R_drewN | apply Kd.R_drew)); exact HO_23.out))) (Kd.R_lt (by (with_reducible repeat (first | apply Kd.R_alloc | apply Kd.R_drewN | apply Kd.R_drew)); exact HO_24.out))) (Kd.R_lt (by (with_reducible repeat (first | apply Kd.R_alloc | apply Kd.R_drewN | apply Kd.R_drew)); exact HO521.out))) (below_size (by repeat (first | (with_reducible first | exact HB.out | apply below_alloc | apply pw_below_drewN | apply below_drew1) | exact HB.out)))); have n7_ := Aside0.mk (below_step (by repeat (first | (with_reducible first | exact HB.out | apply below_alloc | apply pw_below_drewN | apply below_drew1) | exact HB.out)) hb); clear HO_3; clear HO_5; clear HO_17; clear HO_23; clear HO_24; clear HO521; clear HB; have HO_3 := n0_; have HO_5 := n1_; have HO_17 := n2_; have HO_23 := n3_; have HO_24 := n4_; have HO521 := n5_; have HO525 := n6_; have HB := n7_; clear n0_ n1_ n2_ n3_ n4_ n5_ n6_ n7_; (try clear hb); (try clear hb2); (try clear hk); (try clear hi); (try clear ho0)) | ((with_reducible refine gate_callee (f := 25) rfl ?_); refine goesL_ (some 187) rfl rfl Try.func25 (by kernel_rfl) rfl #[.slice Ao49 t506.length co49, .int .i64 (t506.length : Int)] rfl (by (try simp only [List.map_toArray, List.map_cons, List.map_nil]); first | done | rfl | (simp only [List.length_drop, List.length_take]; rfl)) ?_; (with_reducible refine (impl_LimitedSweep.calls kj46 _ _ t506 (t506.length : Int) t526 true _ ?side1 ?side2 A61.out).mono ?_); (case side1 => repeat (first | exact (Kd.R_reads' HO_23.out).2.2 | (with_reducible refine Kd.C_alloc ?_ _) | (with_reducible refine Kd.C_drewN ?_ _) | (with_reducible refine Kd.C_drew ?_))); (case side2 => exact (Kd.R_reads' HO_23.out).2.1); rintro e w75 ⟨v528, rfl, ho0, hb⟩; refine ⟨_, rfl, ?_⟩; have n0_ := Aside0.mk (Kd.R_elder' (by (with_reducible repeat (first | apply Kd.R_alloc | apply Kd.R_drewN | apply Kd.R_drew)); exact HO_3.out) (Kd.R_base ho0) hb); have n1_ := Aside0.mk (Kd.R_elder' (by (with_reducible repeat (first | apply Kd.R_alloc | apply Kd.R_drewN | apply Kd.R_drew)); exact HO_5.out) (Kd.R_base ho0) hb); have n2_ := Aside0.mk (Kd.R_elder' (by (with_reducible repeat (first | apply Kd.R_alloc | apply Kd.R_drewN | apply Kd.R_drew)); exact HO_17.out) (Kd.R_base ho0) hb); have n3_ := Aside0.mk (Kd.R_elder' (by (with_reducible repeat (first | apply Kd.R_alloc | apply Kd.R_drewN | apply Kd.R_drew)); exact HO_23.out) (Kd.R_base ho0) hb); have n4_ := Aside0.mk (Kd.R_elder' (by (with_reducible repeat (first | apply Kd.R_alloc | apply Kd.R_drewN | apply Kd.R_drew)); exact HO_24.out) (Kd.R_base ho0) hb); have n5_ := Aside0.mk (Kd.R_elder' (by (with_reducible repeat (first | apply Kd.R_alloc | apply Kd.R_drewN | apply Kd.R_drew)); exact HO521.out) (Kd.R_base ho0) hb); have n6_ := Aside0.mk (Kd.R_elder' (by (with_reducible repeat (first | apply Kd.R_alloc | apply Kd.R_drewN | apply Kd.R_drew)); exact HO525.out) (Kd.R_base ho0) hb); have n7_ := Aside0.mk (Kd.R_lower (Kd.R_new' (Kd.R_new' (Kd.R_new' (Kd.R_new' (Kd.R_new' (Kd.R_new' (Kd.R_new' ho0 (Kd.R_lt (by (with_reducible repeat (first | apply Kd.R_alloc | apply Kd.R_drewN | apply Kd.R_drew)); exact HO_3.out))) (Kd.R_lt (by (with_reducible repeat (first | apply Kd.R_alloc | apply Kd.R_drewN | apply Kd.R_drew)); exact HO_5.out))) (Kd.R_lt (by (with_reducible repeat (first | apply Kd.R_alloc | apply Kd.R_drewN | apply Kd.R_drew)); exact HO_17.out))) (Kd.R_lt (by (with_reducible repeat (first | apply Kd.R_alloc | apply Kd.R_drewN | apply Kd.R_drew)); exact HO_23.out))) (Kd.R_lt (by (with_reducible repeat (first | apply Kd.R_alloc | apply Kd.R_drewN | apply Kd.R_drew)); exact HO_24.out))) (Kd.R_lt (by (with_reducible repeat (first | apply Kd.R_alloc | apply Kd.R_drewN | apply Kd.R_drew)); exact HO521.out))) (Kd.R_lt (by (with_reducible repeat (first | apply Kd.R_alloc | apply Kd.R_drewN | apply Kd.R_drew)); exact HO525.out))) (below_size (by repeat (first | (with_reducible first | exact HB.out | apply below_alloc | apply pw_below_drewN | apply below_drew1) | exact HB.out)))); have n8_ := Aside0.mk (below_step (by repeat (first | (with_reducible first | exact HB.out | apply below_alloc | apply pw_below_drewN | apply below_drew1) | exact HB.out)) hb); clear HO_3; clear HO_5; clear HO_17; clear HO_23; clear HO_24; clear HO521; clear HO525; clear HB; have HO_3 := n0_; have HO_5 := n1_; have HO_17 := n2_; have HO_23 := n3_; have HO_24 := n4_; have HO521 := n5_; have HO525 := n6_; have HO529 := n7_; have HB := n8_; clear n0_ n1_ n2_ n3_ n4_ n5_ n6_ n7_ n8_; (try clear hb); (try clear hb2); (try clear hk); (try clear hi); (try clear ho0)) | ((with_reducible refine gate_callee (f := 37) rfl ?_); refine goesL_ (some 192) rfl rfl Try.func37 (by kernel_rfl) rfl #[.slice Ao49 t506.length co49] rfl (by (try simp only [List.map_toArray, List.map_cons, List.map_nil]); first | done | rfl | (simp only [List.length_drop, List.length_take]; rfl)) ?_; (with_reducible refine (impl_SweepOrder.calls kj46 _ _ t506 t530 true _ ?side1 ?side2 A62.out).mono ?_); (case side1 => repeat (first | exact (Kd.R_reads' HO_23.out).2.2 | (with_reducible refine Kd.C_alloc ?_ _) | (with_reducible refine Kd.C_drewN ?_ _) | (with_reducible refine Kd.C_drew ?_))); (case side2 => exact (Kd.R_reads' HO_23.out).2.1); rintro e w76 ⟨v532, rfl, ho0, hb⟩; refine ⟨_, rfl, ?_⟩; have n0_ := Aside0.mk (Kd.R_elder' (by (with_reducible repeat (first | apply Kd.R_alloc | apply Kd.R_drewN | apply Kd.R_drew)); exact HO_3.out) (Kd.R_base ho0) hb); have n1_ := Aside0.mk (Kd.R_elder' (by (with_reducible repeat (first | apply Kd.R_alloc | apply Kd.R_drewN | apply Kd.R_drew)); exact HO_5.out) (Kd.R_base ho0) hb); have n2_ := Aside0.mk (Kd.R_elder' (by (with_reducible repeat (first | apply Kd.R_alloc | apply Kd.R_drewN | apply Kd.R_drew)); exact HO_17.out) (Kd.R_base ho0) hb); have n3_ := Aside0.mk (Kd.R_elder' (by (with_reducible repeat (first | apply Kd.R_alloc | apply Kd.R_drewN | apply Kd.R_drew)); exact HO_23.out) (Kd.R_base ho0) hb); have n4_ := Aside0.mk (Kd.R_elder' (by (with_reducible repeat (first | apply Kd.R_alloc | apply Kd.R_drewN | apply Kd.R_drew)); exact HO_24.out) (Kd.R_base ho0) hb); have n5_ := Aside0.mk (Kd.R_elder' (by (with_reducible repeat (first | apply Kd.R_alloc | apply Kd.R_drewN | apply Kd.R_drew)); exact HO521.out) (Kd.R_base ho0) hb); have n6_ := Aside0.mk (Kd.R_elder' (by (with_reducible repeat (first | apply Kd.R_alloc | apply Kd.R_drewN | apply Kd.R_drew)); exact HO525.out) (Kd.R_base ho0) hb); have n7_ := Aside0.mk (Kd.R_elder' (by (with_reducible repeat (first | apply Kd.R_alloc | apply Kd.R_drewN | apply Kd.R_drew)); exact HO529.out) (Kd.R_base ho0) hb); have n8_ := Aside0.mk (Kd.R_lower (Kd.R_new' (Kd.R_new' (Kd.R_new' (Kd.R_new' (Kd.R_new' (Kd.R_new' (Kd.R_new' (Kd.R_new' ho0 (Kd.R_lt (by (with_reducible repeat (first | apply Kd.R_alloc | apply Kd.R_drewN | apply Kd.R_drew)); exact HO_3.out))) (Kd.R_lt (by (with_reducible repeat (first | apply Kd.R_alloc | apply Kd.R_drewN | apply Kd.R_drew)); exact HO_5.out))) (Kd.R_lt (by (with_reducible repeat (first | apply Kd.R_alloc | apply Kd.R_drewN | apply Kd.R_drew)); exact HO_17.out))) (Kd.R_lt (by (with_reducible repeat (first | apply Kd.R_alloc | apply Kd.R_drewN | apply Kd.R_drew)); exact HO_23.out))) (Kd.R_lt (by (with_reducible repeat (first | apply Kd.R_alloc | apply Kd.R_drewN | apply Kd.R_drew)); exact HO_24.out))) (Kd.R_lt (by (with_reducible repeat (first | apply Kd.R_alloc | apply Kd.R_drewN | apply Kd.R_drew)); exact HO521.out))) (Kd.R_lt (by (with_reducible repeat (first | apply Kd.R_alloc | apply Kd.R_drewN | apply Kd.R_drew)); exact HO525.out))) (Kd.R_lt (by (with_reducible repeat (first | apply Kd.R_alloc | apply Kd.R_drewN | apply Kd.R_drew)); exact HO529.out))) (below_size (by repeat (first | (with_reducible first | exact HB.out | apply below_alloc | apply pw_below_drewN | apply below_drew1) | exact HB.out)))); have n9_ := Aside0.mk (below_step (by repeat (first | (with_reducible first | exact HB.out | apply below_alloc | apply pw_below_drewN | apply below_drew1) | exact HB.out)) hb); clear HO_3; clear HO_5; clear HO_17; clear HO_23; clear HO_24; clear HO521; clear HO525; clear HO529; clear HB; have HO_3 := n0_; have HO_5 := n1_; have HO_17 := n2_; have HO_23 := n3_; have HO_24 := n4_; have HO521 := n5_; have HO525 := n6_; have HO529 := n7_; have HO533 := n8_; have HB := n9_; clear n0_ n1_ n2_ n3_ n4_ n5_ n6_ n7_ n8_ n9_; (try clear hb); (try clear hb2); (try clear hk); (try clear hi); (try clear ho0); obtain ⟨Ao77, co77, eo77⟩ := Kd.R_slice HO521.out; subst eo77) | (go_at_call 15; (with_reducible refine (laws_rInts.calls kj46 _ _ t518 _ _ t506 true _ ?side1 ?side2 ?side3 ?side4 A67.out).mono ?_); (case side1 => repeat (first | exact (Kd.R_reads' HO521.out).2.2 | (with_reducible refine Kd.C_alloc ?_ _) | (with_reducible refine Kd.C_drewN ?_ _) | (with_reducible refine Kd.C_drew ?_))); (case side2 => exact (Kd.R_reads' HO521.out).2.1); (case side3 => repeat (first | exact (Kd.R_reads' HO_23.out).2.2 | (with_reducible refine Kd.C_alloc ?_ _) | (with_reducible refine Kd.C_drewN ?_ _) | (with_reducible refine Kd.C_drew ?_))); (case side4 => exact (Kd.R_reads' HO_23.out).2.1); rintro e w' ⟨rfl, ⟨nd, rfl⟩⟩; obtain ⟨Ao78, co78, eo78⟩ := Kd.R_slice HO525.out; subst eo78; obtain ⟨Ao79, co79, eo79⟩ := Kd.R_slice HO_24.out; subst eo79) | (go_at_call 15; (with_reducible refine (laws_rInts.calls kj46 _ _ t522 _ _ t509 true _ ?side1 ?side2 ?side3 ?side4 A69.out).mono ?_); (case side1 => repeat (first | exact (Kd.R_reads' HO525.out).2.2 | (with_reducible refine Kd.C_alloc ?_ _) | (with_reducible refine Kd.C_drewN ?_ _) | (with_reducible refine Kd.C_drew ?_))); (case side2 => exact (Kd.R_reads' HO525.out).2.1); (case side3 => repeat (first | exact (Kd.R_reads' HO_24.out).2.2 | (with_reducible refine Kd.C_alloc ?_ _) | (with_reducible refine Kd.C_drewN ?_ _) | (with_reducible refine Kd.C_drew ?_))); (case side4 => exact (Kd.R_reads' HO_24.out).2.1); rintro e w' ⟨rfl, ⟨nd, rfl⟩⟩; obtain ⟨Ao80, co80, eo80⟩ := Kd.R_slice HO529.out; subst eo80; obtain ⟨Ao81, co81, eo81⟩ := Kd.R_slice HO533.out; subst eo81) | (go_at_call 15; (with_reducible refine (laws_rInts.calls kj46 _ _ t526 _ _ t530 true _ ?side1 ?side2 ?side3 ?side4 A71.out).mono ?_); (case side1 => repeat (first | exact (Kd.R_reads' HO529.out).2.2 | (with_reducible refine Kd.C_alloc ?_ _) | (with_reducible refine Kd.C_drewN ?_ _) | (with_reducible refine Kd.C_drew ?_))); (case side2 => exact (Kd.R_reads' HO529.out).2.1); (case side3 => repeat (first | exact (Kd.R_reads' HO533.out).2.2 | (with_reducible refine Kd.C_alloc ?_ _) | (with_reducible refine Kd.C_drewN ?_ _) | (with_reducible refine Kd.C_drew ?_))); (case side4 => exact (Kd.R_reads' HO533.out).2.1); rintro e w' ⟨rfl, ⟨nd, rfl⟩⟩))
                                                              go_meet
                                                              case rel => exact ⟨_, H', ⟨by have := HJ6.out; have := HJ18.out; have := HJ26.out; have := HJ36.out; have := HJ46.out; first | omega | exact Nat.le_refl _⟩, ⟨by (with_reducible repeat (first | apply Kd.R_alloc | apply Kd.R_drewN | apply Kd.R_drew)); exact Kd.R_mono HO_3.out (fun _ hk => ⟨hk.1.1.1.1.1, hk.1.1.1.1.2.1⟩)⟩, ⟨by (with_reducible repeat (first | apply Kd.R_alloc | apply Kd.R_drewN | apply Kd.R_drew)); exact Kd.R_mono HO_5.out (fun _ hk => ⟨hk.1.1.1.1.1, hk.1.1.1.1.2.1⟩)⟩, ⟨by (with_reducible repeat (first | apply Kd.R_alloc | apply Kd.R_drewN | apply Kd.R_drew)); exact Kd.R_mono HO_17.out (fun _ hk => ⟨hk.1.1.1.1.1, hk.1.1.1.1.2.1⟩)⟩, ⟨by repeat (first | (with_reducible first | exact HB.out | apply below_alloc | apply pw_below_drewN | apply below_drew1) | exact HB.out)⟩⟩
                                                            · replace c72 := Bool.eq_false_iff.mpr c72
                                                              subst c72
                                                              have H1 : (some false) = some r := by rw [if_neg (show ¬ (false = true) by decide)] at H; exact H
                                                              exact absurd ((Option.some.inj H1).trans hr_.out) Bool.false_ne_true
                                                          · replace c70 := Bool.eq_false_iff.mpr c70
                                                            subst c70
                                                            have H1 : (some false) = some r := by rw [if_neg (show ¬ (false = true) by decide)] at H; exact H
                                                            exact absurd ((Option.some.inj H1).trans hr_.out) Bool.false_ne_true
                                                        · replace c68 := Bool.eq_false_iff.mpr c68
                                                          subst c68
                                                          have H1 : (some false) = some r := by rw [if_neg (show ¬ (false = true) by decide)] at H; exact H
                                                          exact absurd ((Option.some.inj H1).trans hr_.out) Bool.false_ne_true
                                                      · replace c66 := Bool.eq_false_iff.mpr c66
                                                        subst c66
                                                        have H1 : (some false) = some r := by rw [if_neg (show ¬ (false = true) by decide)] at H; exact H
                                                        exact absurd ((Option.some.inj H1).trans hr_.out) Bool.false_ne_true
                                                    · replace c65 := Bool.eq_false_iff.mpr c65
                                                      subst c65
                                                      have H1 : (some false) = some r := by rw [if_neg (show ¬ (false = true) by decide)] at H; exact H
                                                      exact absurd ((Option.some.inj H1).trans hr_.out) Bool.false_ne_true
                                                  · replace c64 := Bool.eq_false_iff.mpr c64
                                                    subst c64
                                                    have H1 : (some false) = some r := by rw [if_neg (show ¬ (false = true) by decide)] at H; exact H
                                                    exact absurd ((Option.some.inj H1).trans hr_.out) Bool.false_ne_true
                                                · replace c63 := Bool.eq_false_iff.mpr c63
                                                  subst c63
                                                  have H1 : (some false) = some r := by rw [if_neg (show ¬ (false = true) by decide)] at H; exact H
                                                  exact absurd ((Option.some.inj H1).trans hr_.out) Bool.false_ne_true
                                              · replace c58 := Bool.eq_false_iff.mpr c58
                                                subst c58
                                                have H1 : (laws_FnLimitedSweeps.j5 kj46 t477 t478 t481 t482 t490 t494 t495 t498 t499 t502 t503) = some r := by rw [if_neg (show ¬ (false = true) by decide)] at H; exact H
                                                clear H
                                                have H := H1
                                                clear H1
                                                have H' := Aside0.mk H
                                                clear H
                                                go_wp2
                                                go_meet
                                                case rel => exact ⟨_, H', ⟨by have := HJ6.out; have := HJ18.out; have := HJ26.out; have := HJ36.out; have := HJ46.out; first | omega | exact Nat.le_refl _⟩, ⟨by (with_reducible repeat (first | apply Kd.R_alloc | apply Kd.R_drewN | apply Kd.R_drew)); exact Kd.R_mono HO_3.out (fun _ hk => ⟨hk.1, hk.2.1⟩)⟩, ⟨by (with_reducible repeat (first | apply Kd.R_alloc | apply Kd.R_drewN | apply Kd.R_drew)); exact Kd.R_mono HO_5.out (fun _ hk => ⟨hk.1, hk.2.1⟩)⟩, ⟨by (with_reducible repeat (first | apply Kd.R_alloc | apply Kd.R_drewN | apply Kd.R_drew)); exact Kd.R_mono HO_17.out (fun _ hk => ⟨hk.1, hk.2.1⟩)⟩, ⟨by repeat (first | (with_reducible first | exact HB.out | apply below_alloc | apply pw_below_drewN | apply below_drew1) | exact HB.out)⟩⟩
                                            case rest =>
                                              as_aux_lemma =>
                                                clear HC57
                                                try clear c1
                                                try clear c2
                                                try clear p2
                                                try clear c3
                                                try clear c4
                                                try clear c5
                                                try clear c6
                                                try clear c7
                                                try clear c12
                                                try clear c12b0
                                                try clear c12b1
                                                try clear c12b2
                                                try clear c16
                                                try clear c22
                                                try clear c22b0
                                                try clear c22b1
                                                try clear c23
                                                try clear c23b0
                                                try clear c23b1
                                                try clear c23b2
                                                try clear c24
                                                try clear c25
                                                try clear c26
                                                try clear c27
                                                try clear c28
                                                try clear c29
                                                try clear c30
                                                try clear c30b0
                                                try clear c30b1
                                                try clear c31
                                                try clear c31b0
                                                try clear c31b1
                                                try clear c31b2
                                                try clear c32
                                                try clear c33
                                                try clear c34
                                                try clear c35
                                                try clear c36
                                                try clear c37
                                                try clear c42
                                                try clear c42b0
                                                try clear c42b1
                                                try clear c43
                                                try clear c52
                                                try clear c52b0
                                                try clear c52b1
                                                try clear c52b2
                                                try clear c56
                                                try clear c58
                                                try clear c63
                                                try clear c64
                                                try clear c65
                                                try clear c66
                                                try clear c68
                                                try clear c70
                                                try clear c72
                                                try clear p2
                                                obtain ⟨kq, HA, HJ56, HO_3, HO_5, HO_17, HB⟩ := hcut
                                                cases kq with
                                                | zero => exact absurd HA.out (by simp [laws_FnLimitedSweeps.j5])
                                                | succ kj56 =>
                                                  have H := HA.out
                                                  clear HA
                                                  simp only [laws_FnLimitedSweeps.j5] at H
                                                  have HC119 := Aside0.mk H
                                                  clear H
                                                  go_upto_region 33 with (fail)
                                                  go_cut [231] (fun v231 wc => ∃ (kq : Nat) (x231_118 : Bool), v231 = .bool x231_118 ∧ Aside0 (laws_FnLimitedSweeps.j6 kq t477 t478 t481 t482 t490 t494 t495 t498 t499 t502 x231_118 = some r) ∧ Aside0 (kq ≤ kj56) ∧ Aside0 (Kd.R (Kd.int .i64) 3 wc w.heap.size (fun k_ => some k_ ≠ (v483 : Value).ownBlock ∧ some k_ ≠ ((.slice Ao39 t498.length co39) : Value).ownBlock) (.slice Ao9 t477.length co9) t477) ∧ Aside0 (Kd.R (Kd.int .i64) 3 wc w.heap.size (fun k_ => some k_ ≠ ((.slice Ao9 t477.length co9) : Value).ownBlock ∧ some k_ ≠ ((.slice Ao39 t498.length co39) : Value).ownBlock) v483 t481) ∧ Aside0 (Kd.R (Kd.int .i64) 3 wc w.heap.size (fun k_ => some k_ ≠ ((.slice Ao9 t477.length co9) : Value).ownBlock ∧ some k_ ≠ (v483 : Value).ownBlock) (.slice Ao39 t498.length co39) t498) ∧ Aside0 (Below w.heap.size w wc))
                                                  case first =>
                                                    have H := HC119.out
                                                    clear HC119
                                                    by_cases c120 : t503 = true
                                                    · subst c120
                                                      have H1 : (laws_FnLimitedSweeps.j6 kj56 t477 t478 t481 t482 t490 t494 t495 t498 t499 t502 (decide (t499 < 7))) = some r := by rw [if_pos rfl] at H; exact H
                                                      clear H
                                                      have H := H1
                                                      clear H1
                                                      have H' := Aside0.mk H
                                                      clear H
                                                      go_wp2
                                                      go_meet
                                                      case rel => exact ⟨_, (decide (t499 < 7)), (by first | rfl | (simp; done) | (simp [*]; done)), H', ⟨by have := HJ6.out; have := HJ18.out; have := HJ26.out; have := HJ36.out; have := HJ46.out; have := HJ56.out; first | omega | exact Nat.le_refl _⟩, ⟨by (with_reducible repeat (first | apply Kd.R_alloc | apply Kd.R_drewN | apply Kd.R_drew)); exact HO_3.out⟩, ⟨by (with_reducible repeat (first | apply Kd.R_alloc | apply Kd.R_drewN | apply Kd.R_drew)); exact HO_5.out⟩, ⟨by (with_reducible repeat (first | apply Kd.R_alloc | apply Kd.R_drewN | apply Kd.R_drew)); exact HO_17.out⟩, ⟨by repeat (first | (with_reducible first | exact HB.out | apply below_alloc | apply pw_below_drewN | apply below_drew1) | exact HB.out)⟩⟩
                                                    · replace c120 := Bool.eq_false_iff.mpr c120
                                                      subst c120
                                                      have H1 : (laws_FnLimitedSweeps.j6 kj56 t477 t478 t481 t482 t490 t494 t495 t498 t499 t502 false) = some r := by rw [if_neg (show ¬ (false = true) by decide)] at H; exact H
                                                      clear H
                                                      have H := H1
                                                      clear H1
                                                      have H' := Aside0.mk H
                                                      clear H
                                                      go_wp2
                                                      go_meet
                                                      case rel => exact ⟨_, (false), (by first | rfl | (simp; done) | (simp [*]; done)), H', ⟨by have := HJ6.out; have := HJ18.out; have := HJ26.out; have := HJ36.out; have := HJ46.out; have := HJ56.out; first | omega | exact Nat.le_refl _⟩, ⟨by (with_reducible repeat (first | apply Kd.R_alloc | apply Kd.R_drewN | apply Kd.R_drew)); exact HO_3.out⟩, ⟨by (with_reducible repeat (first | apply Kd.R_alloc | apply Kd.R_drewN | apply Kd.R_drew)); exact HO_5.out⟩, ⟨by (with_reducible repeat (first | apply Kd.R_alloc | apply Kd.R_drewN | apply Kd.R_drew)); exact HO_17.out⟩, ⟨by repeat (first | (with_reducible first | exact HB.out | apply below_alloc | apply pw_below_drewN | apply below_drew1) | exact HB.out)⟩⟩
                                                  case rest =>
                                                    as_aux_lemma =>
                                                      clear HC119
                                                      try clear c1
                                                      try clear c2
                                                      try clear p2
                                                      try clear c3
                                                      try clear c4
                                                      try clear c5
                                                      try clear c6
                                                      try clear c7
                                                      try clear c12
                                                      try clear c12b0
                                                      try clear c12b1
                                                      try clear c12b2
                                                      try clear c16
                                                      try clear c22
                                                      try clear c22b0
                                                      try clear c22b1
                                                      try clear c23
                                                      try clear c23b0
                                                      try clear c23b1
                                                      try clear c23b2
                                                      try clear c24
                                                      try clear c25
                                                      try clear c26
                                                      try clear c27
                                                      try clear c28
                                                      try clear c29
                                                      try clear c30
                                                      try clear c30b0
                                                      try clear c30b1
                                                      try clear c31
                                                      try clear c31b0
                                                      try clear c31b1
                                                      try clear c31b2
                                                      try clear c32
                                                      try clear c33
                                                      try clear c34
                                                      try clear c35
                                                      try clear c36
                                                      try clear c37
                                                      try clear c42
                                                      try clear c42b0
                                                      try clear c42b1
                                                      try clear c43
                                                      try clear c52
                                                      try clear c52b0
                                                      try clear c52b1
                                                      try clear c52b2
                                                      try clear c56
                                                      try clear c58
                                                      try clear c63
                                                      try clear c64
                                                      try clear c65
                                                      try clear c66
                                                      try clear c68
                                                      try clear c70
                                                      try clear c72
                                                      try clear c120
                                                      try clear p2
                                                      obtain ⟨kq, x231_118, rfl, HA, HJ118, HO_3, HO_5, HO_17, HB⟩ := hcut
                                                      cases kq with
                                                      | zero => exact absurd HA.out (by simp [laws_FnLimitedSweeps.j6])
                                                      | succ kj118 =>
                                                        have H := HA.out
                                                        clear HA
                                                        simp only [laws_FnLimitedSweeps.j6] at H
                                                        have HC121 := Aside0.mk H
                                                        clear H
                                                        go_upto_if 231 with (fail)
                                                        go_cut [] (fun wc => ∃ (kq : Nat), Aside0 (laws_FnLimitedSweeps.j7 kq t477 t478 t481 t482 t490 t494 t495 = some r) ∧ Aside0 (kq ≤ kj118) ∧ Aside0 (Kd.R (Kd.int .i64) 3 wc w.heap.size (fun k_ => some k_ ≠ (v483 : Value).ownBlock) (.slice Ao9 t477.length co9) t477) ∧ Aside0 (Kd.R (Kd.int .i64) 3 wc w.heap.size (fun k_ => some k_ ≠ ((.slice Ao9 t477.length co9) : Value).ownBlock) v483 t481) ∧ Aside0 (Below w.heap.size w wc))
                                                        case first =>
                                                          have H := HC121.out
                                                          clear HC121
                                                          by_cases c122 : x231_118 = true
                                                          · subst c122
                                                            have H1 : ((impl_MostWithin.f kj118 t498 (wrap64 (t499 + 1))).bind fun bt537 => (if bt537.2 = true then (if bt537.1 < t502 then (some false) else (laws_FnLimitedSweeps.j7 kj118 t477 t478 t481 t482 t490 t494 t495)) else (some false))) = some r := by rw [if_pos rfl] at H; exact H
                                                            clear H
                                                            have H := H1
                                                            clear H1
                                                            replace H := Option.bind_eq_some_iff.mp H
                                                            obtain ⟨⟨t537, t538⟩, A1230, H⟩ := H
                                                            replace H : (if t538 = true then (if t537 < t502 then (some false) else (laws_FnLimitedSweeps.j7 kj118 t477 t478 t481 t482 t490 t494 t495)) else (some false)) = some r := H
                                                            have A123 := Aside0.mk A1230
                                                            clear A1230
                                                            by_cases c124 : t538 = true
                                                            · subst c124
                                                              have H1 : (if t537 < t502 then (some false) else (laws_FnLimitedSweeps.j7 kj118 t477 t478 t481 t482 t490 t494 t495)) = some r := by rw [if_pos rfl] at H; exact H
                                                              clear H
                                                              have H := H1
                                                              clear H1
                                                              by_cases c125 : t537 < t502
                                                              · rw [if_pos c125] at H
                                                                exact absurd ((Option.some.inj H).trans hr_.out) Bool.false_ne_true
                                                              · rw [if_neg c125] at H
                                                                have c125b0 : decide (t537 < t502) = false := decide_eq_false c125
                                                                clear c125
                                                                (first | rw [c125b0] | (simp only [i64_w, i32_w]; rw [c125b0]) | skip)
                                                                have H' := Aside0.mk H
                                                                clear H
                                                                go_wp2_with (first | ((with_reducible refine gate_callee (f := 32) rfl ?_); refine goesL_ (some 236) rfl rfl Try.func32 (by kernel_rfl) rfl #[.slice Ao39 t498.length co39, .int .i64 (wrap64 (t499 + 1))] rfl (by (try simp only [List.map_toArray, List.map_cons, List.map_nil]); first | done | rfl | (simp only [List.length_drop, List.length_take]; rfl)) ?_; (with_reducible refine (impl_MostWithin.calls kj118 (fun k_ => some k_ = (.slice Ao39 t498.length co39 : Value).ownBlock) _ _ t498 (wrap64 (t499 + 1)) t537 true _ ?side1 A123.out).mono ?_); (case side1 => exact Kd.R_V (Kd.R_tight rfl (HO_17.out))); rintro e w127 ⟨rfl, hb⟩; refine ⟨_, rfl, ?_⟩; have n0_ := Aside0.mk (Kd.R_below (by (with_reducible repeat (first | apply Kd.R_alloc | apply Kd.R_drewN | apply Kd.R_drew)); exact HO_3.out) hb); have n1_ := Aside0.mk (Kd.R_below (by (with_reducible repeat (first | apply Kd.R_alloc | apply Kd.R_drewN | apply Kd.R_drew)); exact HO_5.out) hb); have n2_ := Aside0.mk (Kd.R_below (by (with_reducible repeat (first | apply Kd.R_alloc | apply Kd.R_drewN | apply Kd.R_drew)); exact HO_17.out) hb); have n3_ := Aside0.mk (below_step (by repeat (first | (with_reducible first | exact HB.out | apply below_alloc | apply pw_below_drewN | apply below_drew1) | exact HB.out)) hb); clear HO_3; clear HO_5; clear HO_17; clear HB; have HO_3 := n0_; have HO_5 := n1_; have HO_17 := n2_; have HB := n3_; clear n0_ n1_ n2_ n3_; (try clear hb); (try clear hb2); (try clear hk); (try clear hi)))
                                                                go_meet
                                                                case rel => exact ⟨_, H', ⟨by have := HJ6.out; have := HJ18.out; have := HJ26.out; have := HJ36.out; have := HJ46.out; have := HJ56.out; have := HJ118.out; first | omega | exact Nat.le_refl _⟩, ⟨by (with_reducible repeat (first | apply Kd.R_alloc | apply Kd.R_drewN | apply Kd.R_drew)); exact Kd.R_mono HO_3.out (fun _ hk => hk.1)⟩, ⟨by (with_reducible repeat (first | apply Kd.R_alloc | apply Kd.R_drewN | apply Kd.R_drew)); exact Kd.R_mono HO_5.out (fun _ hk => hk.1)⟩, ⟨by repeat (first | (with_reducible first | exact HB.out | apply below_alloc | apply pw_below_drewN | apply below_drew1) | exact HB.out)⟩⟩
                                                            · replace c124 := Bool.eq_false_iff.mpr c124
                                                              subst c124
                                                              have H1 : (some false) = some r := by rw [if_neg (show ¬ (false = true) by decide)] at H; exact H
                                                              exact absurd ((Option.some.inj H1).trans hr_.out) Bool.false_ne_true
                                                          · replace c122 := Bool.eq_false_iff.mpr c122
                                                            subst c122
                                                            have H1 : (laws_FnLimitedSweeps.j7 kj118 t477 t478 t481 t482 t490 t494 t495) = some r := by rw [if_neg (show ¬ (false = true) by decide)] at H; exact H
                                                            clear H
                                                            have H := H1
                                                            clear H1
                                                            have H' := Aside0.mk H
                                                            clear H
                                                            go_wp2
                                                            go_meet
                                                            case rel => exact ⟨_, H', ⟨by have := HJ6.out; have := HJ18.out; have := HJ26.out; have := HJ36.out; have := HJ46.out; have := HJ56.out; have := HJ118.out; first | omega | exact Nat.le_refl _⟩, ⟨by (with_reducible repeat (first | apply Kd.R_alloc | apply Kd.R_drewN | apply Kd.R_drew)); exact Kd.R_mono HO_3.out (fun _ hk => hk.1)⟩, ⟨by (with_reducible repeat (first | apply Kd.R_alloc | apply Kd.R_drewN | apply Kd.R_drew)); exact Kd.R_mono HO_5.out (fun _ hk => hk.1)⟩, ⟨by repeat (first | (with_reducible first | exact HB.out | apply below_alloc | apply pw_below_drewN | apply below_drew1) | exact HB.out)⟩⟩
                                                        case rest =>
                                                          as_aux_lemma =>
                                                            clear HC121
                                                            try clear c1
                                                            try clear c2
                                                            try clear p2
                                                            try clear c3
                                                            try clear c4
                                                            try clear c5
                                                            try clear c6
                                                            try clear p6
                                                            try clear c7
                                                            try clear c12
                                                            try clear c12b0
                                                            try clear c12b1
                                                            try clear c12b2
                                                            try clear c16
                                                            try clear c22
                                                            try clear c22b0
                                                            try clear c22b1
                                                            try clear c23
                                                            try clear c23b0
                                                            try clear c23b1
                                                            try clear c23b2
                                                            try clear c24
                                                            try clear c25
                                                            try clear c26
                                                            try clear c27
                                                            try clear c28
                                                            try clear c29
                                                            try clear c30
                                                            try clear c30b0
                                                            try clear c30b1
                                                            try clear c31
                                                            try clear c31b0
                                                            try clear c31b1
                                                            try clear c31b2
                                                            try clear c32
                                                            try clear c33
                                                            try clear c34
                                                            try clear c35
                                                            try clear c36
                                                            try clear c37
                                                            try clear c42
                                                            try clear c42b0
                                                            try clear c42b1
                                                            try clear c43
                                                            try clear c52
                                                            try clear c52b0
                                                            try clear c52b1
                                                            try clear c52b2
                                                            try clear c56
                                                            try clear c58
                                                            try clear c63
                                                            try clear c64
                                                            try clear p64
                                                            try clear c65
                                                            try clear c66
                                                            try clear c68
                                                            try clear c70
                                                            try clear c72
                                                            try clear c120
                                                            try clear c122
                                                            try clear c124
                                                            try clear c125
                                                            try clear c125b0
                                                            try clear p2
                                                            obtain ⟨kq, HA, HJ120, HO_3, HO_5, HB⟩ := hcut
                                                            cases kq with
                                                            | zero => exact absurd HA.out (by simp [laws_FnLimitedSweeps.j7])
                                                            | succ kj120 =>
                                                              have H := HA.out
                                                              clear HA
                                                              simp only [laws_FnLimitedSweeps.j7] at H
                                                              have HC129 := Aside0.mk H
                                                              clear H
                                                              go_upto_if 246 with (fail)
                                                              go_cut [] (fun wc => ∃ (kq : Nat), Aside0 (laws_FnLimitedSweeps.j8 kq t477 t478 t494 t495 = some r) ∧ Aside0 (kq ≤ kj120) ∧ Aside0 (Kd.R (Kd.int .i64) 3 wc w.heap.size (fun _ => True) (.slice Ao9 t477.length co9) t477) ∧ Aside0 (Below w.heap.size w wc))
                                                              case first =>
                                                                have H := HC129.out
                                                                clear HC129
                                                                by_cases c130 : t482 = true
                                                                · subst c130
                                                                  have H1 : ((impl_RunWord.f kj120 t477 t490).bind fun bt539 => ((impl_DepthOf.f kj120 t490).bind fun bt543 => (if bt539.2 = true then (if bt543.2 = true then ((laws_rInts.f kj120 bt539.1 t481).bind fun t545 => (if t545 = true then (if bt543.1 > t478 then (some false) else (laws_FnLimitedSweeps.j8 kj120 t477 t478 t494 t495)) else (some false))) else (some false)) else (some false)))) = some r := by rw [if_pos rfl] at H; exact H
                                                                  clear H
                                                                  have H := H1
                                                                  clear H1
                                                                  replace H := Option.bind_eq_some_iff.mp H
                                                                  obtain ⟨⟨t539, t540⟩, A1310, H⟩ := H
                                                                  replace H : ((impl_DepthOf.f kj120 t490).bind fun bt543 => (if t540 = true then (if bt543.2 = true then ((laws_rInts.f kj120 t539 t481).bind fun t545 => (if t545 = true then (if bt543.1 > t478 then (some false) else (laws_FnLimitedSweeps.j8 kj120 t477 t478 t494 t495)) else (some false))) else (some false)) else (some false))) = some r := H
                                                                  have A131 := Aside0.mk A1310
                                                                  clear A1310
                                                                  replace H := Option.bind_eq_some_iff.mp H
                                                                  obtain ⟨⟨t543, t544⟩, A1320, H⟩ := H
                                                                  replace H : (if t540 = true then (if t544 = true then ((laws_rInts.f kj120 t539 t481).bind fun t545 => (if t545 = true then (if t543 > t478 then (some false) else (laws_FnLimitedSweeps.j8 kj120 t477 t478 t494 t495)) else (some false))) else (some false)) else (some false)) = some r := H
                                                                  have A132 := Aside0.mk A1320
                                                                  clear A1320
                                                                  by_cases c133 : t540 = true
                                                                  · subst c133
                                                                    have H1 : (if t544 = true then ((laws_rInts.f kj120 t539 t481).bind fun t545 => (if t545 = true then (if t543 > t478 then (some false) else (laws_FnLimitedSweeps.j8 kj120 t477 t478 t494 t495)) else (some false))) else (some false)) = some r := by rw [if_pos rfl] at H; exact H
                                                                    clear H
                                                                    have H := H1
                                                                    clear H1
                                                                    by_cases c134 : t544 = true
                                                                    · subst c134
                                                                      have H1 : ((laws_rInts.f kj120 t539 t481).bind fun t545 => (if t545 = true then (if t543 > t478 then (some false) else (laws_FnLimitedSweeps.j8 kj120 t477 t478 t494 t495)) else (some false))) = some r := by rw [if_pos rfl] at H; exact H
                                                                      clear H
                                                                      have H := H1
                                                                      clear H1
                                                                      replace H := Option.bind_eq_some_iff.mp H
                                                                      obtain ⟨t545, A1350, H⟩ := H
                                                                      replace H : (if t545 = true then (if t543 > t478 then (some false) else (laws_FnLimitedSweeps.j8 kj120 t477 t478 t494 t495)) else (some false)) = some r := H
                                                                      have A135 := Aside0.mk A1350
                                                                      clear A1350
                                                                      by_cases c136 : t545 = true
                                                                      · subst c136
                                                                        have H1 : (if t543 > t478 then (some false) else (laws_FnLimitedSweeps.j8 kj120 t477 t478 t494 t495)) = some r := by rw [if_pos rfl] at H; exact H
                                                                        clear H
                                                                        have H := H1
                                                                        clear H1
                                                                        by_cases c137 : t543 > t478
                                                                        · rw [if_pos c137] at H
                                                                          exact absurd ((Option.some.inj H).trans hr_.out) Bool.false_ne_true
                                                                        · rw [if_neg c137] at H
                                                                          have c137b0 : decide (t478 < t543) = false := decide_eq_false c137
                                                                          clear c137
                                                                          (first | rw [c137b0] | (simp only [i64_w, i32_w]; rw [c137b0]) | skip)
                                                                          have H' := Aside0.mk H
                                                                          clear H
                                                                          go_wp2_with (first | ((with_reducible refine gate_callee (f := 38) rfl ?_); refine goesL_ (some 250) rfl rfl Try.func38 (by kernel_rfl) rfl #[.slice Ao9 t477.length co9, .string t490] rfl (by (try simp only [List.map_toArray, List.map_cons, List.map_nil]); first | done | rfl | (simp only [List.length_drop, List.length_take]; rfl)) ?_; (with_reducible refine (impl_RunWord.calls kj120 _ _ t477 t490 t539 true _ ?side1 ?side2 A131.out).mono ?_); (case side1 => repeat (first | exact (Kd.R_reads' HO_3.out).2.2 | (with_reducible refine Kd.C_alloc ?_ _) | (with_reducible refine Kd.C_drewN ?_ _) | (with_reducible refine Kd.C_drew ?_))); (case side2 => exact (Kd.R_reads' HO_3.out).2.1); rintro e w142 ⟨v541, rfl, ho0, hb⟩; refine ⟨_, rfl, ?_⟩; have n0_ := Aside0.mk (Kd.R_elder' (by (with_reducible repeat (first | apply Kd.R_alloc | apply Kd.R_drewN | apply Kd.R_drew)); exact HO_3.out) (Kd.R_base ho0) hb); have n1_ := Aside0.mk (Kd.R_elder' (by (with_reducible repeat (first | apply Kd.R_alloc | apply Kd.R_drewN | apply Kd.R_drew)); exact HO_5.out) (Kd.R_base ho0) hb); have n2_ := Aside0.mk (Kd.R_lower (Kd.R_new' (Kd.R_new' ho0 (Kd.R_lt (by (with_reducible repeat (first | apply Kd.R_alloc | apply Kd.R_drewN | apply Kd.R_drew)); exact HO_3.out))) (Kd.R_lt (by (with_reducible repeat (first | apply Kd.R_alloc | apply Kd.R_drewN | apply Kd.R_drew)); exact HO_5.out))) (below_size (by repeat (first | (with_reducible first | exact HB.out | apply below_alloc | apply pw_below_drewN | apply below_drew1) | exact HB.out)))); have n3_ := Aside0.mk (below_step (by repeat (first | (with_reducible first | exact HB.out | apply below_alloc | apply pw_below_drewN | apply below_drew1) | exact HB.out)) hb); clear HO_3; clear HO_5; clear HB; have HO_3 := n0_; have HO_5 := n1_; have HO542 := n2_; have HB := n3_; clear n0_ n1_ n2_ n3_; (try clear hb); (try clear hb2); (try clear hk); (try clear hi); (try clear ho0)) | ((with_reducible refine gate_callee (f := 39) rfl ?_); refine goesL_ (some 255) rfl rfl Try.func39 (by kernel_rfl) rfl #[.string t490] rfl (by (try simp only [List.map_toArray, List.map_cons, List.map_nil]); first | done | rfl | (simp only [List.length_drop, List.length_take]; rfl)) ?_; (with_reducible refine (impl_DepthOf.calls kj120 t490 t543 true _ A132.out).mono ?_); rintro e w143 ⟨rfl, hb⟩; refine ⟨_, rfl, ?_⟩; have n0_ := Aside0.mk (Kd.R_below (by (with_reducible repeat (first | apply Kd.R_alloc | apply Kd.R_drewN | apply Kd.R_drew)); exact HO_3.out) hb); have n1_ := Aside0.mk (Kd.R_below (by (with_reducible repeat (first | apply Kd.R_alloc | apply Kd.R_drewN | apply Kd.R_drew)); exact HO_5.out) hb); have n2_ := Aside0.mk (Kd.R_below (by (with_reducible repeat (first | apply Kd.R_alloc | apply Kd.R_drewN | apply Kd.R_drew)); exact HO542.out) hb); have n3_ := Aside0.mk (below_step (by repeat (first | (with_reducible first | exact HB.out | apply below_alloc | apply pw_below_drewN | apply below_drew1) | exact HB.out)) hb); clear HO_3; clear HO_5; clear HO542; clear HB; have HO_3 := n0_; have HO_5 := n1_; have HO542 := n2_; have HB := n3_; clear n0_ n1_ n2_ n3_; (try clear hb); (try clear hb2); (try clear hk); (try clear hi); obtain ⟨Ao144, co144, eo144⟩ := Kd.R_slice HO542.out; subst eo144; obtain ⟨Ao145, co145, eo145⟩ := Kd.R_slice HO_5.out; subst eo145) | (go_at_call 15; (with_reducible refine (laws_rInts.calls kj120 _ _ t539 _ _ t481 true _ ?side1 ?side2 ?side3 ?side4 A135.out).mono ?_); (case side1 => repeat (first | exact (Kd.R_reads' HO542.out).2.2 | (with_reducible refine Kd.C_alloc ?_ _) | (with_reducible refine Kd.C_drewN ?_ _) | (with_reducible refine Kd.C_drew ?_))); (case side2 => exact (Kd.R_reads' HO542.out).2.1); (case side3 => repeat (first | exact (Kd.R_reads' HO_5.out).2.2 | (with_reducible refine Kd.C_alloc ?_ _) | (with_reducible refine Kd.C_drewN ?_ _) | (with_reducible refine Kd.C_drew ?_))); (case side4 => exact (Kd.R_reads' HO_5.out).2.1); rintro e w' ⟨rfl, ⟨nd, rfl⟩⟩))
                                                                          go_meet
                                                                          case rel => exact ⟨_, H', ⟨by have := HJ6.out; have := HJ18.out; have := HJ26.out; have := HJ36.out; have := HJ46.out; have := HJ56.out; have := HJ118.out; have := HJ120.out; first | omega | exact Nat.le_refl _⟩, ⟨by (with_reducible repeat (first | apply Kd.R_alloc | apply Kd.R_drewN | apply Kd.R_drew)); exact Kd.R_mono HO_3.out (fun _ hk => trivial)⟩, ⟨by repeat (first | (with_reducible first | exact HB.out | apply below_alloc | apply pw_below_drewN | apply below_drew1) | exact HB.out)⟩⟩
                                                                      · replace c136 := Bool.eq_false_iff.mpr c136
                                                                        subst c136
                                                                        have H1 : (some false) = some r := by rw [if_neg (show ¬ (false = true) by decide)] at H; exact H
                                                                        exact absurd ((Option.some.inj H1).trans hr_.out) Bool.false_ne_true
                                                                    · replace c134 := Bool.eq_false_iff.mpr c134
                                                                      subst c134
                                                                      have H1 : (some false) = some r := by rw [if_neg (show ¬ (false = true) by decide)] at H; exact H
                                                                      exact absurd ((Option.some.inj H1).trans hr_.out) Bool.false_ne_true
                                                                  · replace c133 := Bool.eq_false_iff.mpr c133
                                                                    subst c133
                                                                    have H1 : (some false) = some r := by rw [if_neg (show ¬ (false = true) by decide)] at H; exact H
                                                                    exact absurd ((Option.some.inj H1).trans hr_.out) Bool.false_ne_true
                                                                · replace c130 := Bool.eq_false_iff.mpr c130
                                                                  subst c130
                                                                  have H1 : (laws_FnLimitedSweeps.j8 kj120 t477 t478 t494 t495) = some r := by rw [if_neg (show ¬ (false = true) by decide)] at H; exact H
                                                                  clear H
                                                                  have H := H1
                                                                  clear H1
                                                                  have H' := Aside0.mk H
                                                                  clear H
                                                                  go_wp2
                                                                  go_meet
                                                                  case rel => exact ⟨_, H', ⟨by have := HJ6.out; have := HJ18.out; have := HJ26.out; have := HJ36.out; have := HJ46.out; have := HJ56.out; have := HJ118.out; have := HJ120.out; first | omega | exact Nat.le_refl _⟩, ⟨by (with_reducible repeat (first | apply Kd.R_alloc | apply Kd.R_drewN | apply Kd.R_drew)); exact Kd.R_mono HO_3.out (fun _ hk => trivial)⟩, ⟨by repeat (first | (with_reducible first | exact HB.out | apply below_alloc | apply pw_below_drewN | apply below_drew1) | exact HB.out)⟩⟩
                                                              case rest =>
                                                                as_aux_lemma =>
                                                                  clear HC129
                                                                  try clear c1
                                                                  try clear c2
                                                                  try clear p2
                                                                  try clear c3
                                                                  try clear c4
                                                                  try clear c5
                                                                  try clear c6
                                                                  try clear p6
                                                                  try clear c7
                                                                  try clear c12
                                                                  try clear c12b0
                                                                  try clear c12b1
                                                                  try clear c12b2
                                                                  try clear c13
                                                                  try clear c16
                                                                  try clear c22
                                                                  try clear c22b0
                                                                  try clear c22b1
                                                                  try clear c23
                                                                  try clear c23b0
                                                                  try clear c23b1
                                                                  try clear c23b2
                                                                  try clear c24
                                                                  try clear c25
                                                                  try clear c26
                                                                  try clear c27
                                                                  try clear c28
                                                                  try clear c29
                                                                  try clear c30
                                                                  try clear c30b0
                                                                  try clear c30b1
                                                                  try clear c31
                                                                  try clear c31b0
                                                                  try clear c31b1
                                                                  try clear c31b2
                                                                  try clear c32
                                                                  try clear c33
                                                                  try clear c34
                                                                  try clear c35
                                                                  try clear c36
                                                                  try clear c37
                                                                  try clear c38
                                                                  try clear c39
                                                                  try clear c42
                                                                  try clear c42b0
                                                                  try clear c42b1
                                                                  try clear c43
                                                                  try clear c52
                                                                  try clear c52b0
                                                                  try clear c52b1
                                                                  try clear c52b2
                                                                  try clear c56
                                                                  try clear c58
                                                                  try clear c63
                                                                  try clear c64
                                                                  try clear p64
                                                                  try clear c65
                                                                  try clear c66
                                                                  try clear c68
                                                                  try clear c70
                                                                  try clear c72
                                                                  try clear c120
                                                                  try clear c122
                                                                  try clear c124
                                                                  try clear c125
                                                                  try clear c125b0
                                                                  try clear c130
                                                                  try clear c133
                                                                  try clear c134
                                                                  try clear c136
                                                                  try clear c137
                                                                  try clear c137b0
                                                                  try clear p2
                                                                  try clear p6
                                                                  try clear p64
                                                                  obtain ⟨kq, HA, HJ128, HO_3, HB⟩ := hcut
                                                                  cases kq with
                                                                  | zero => exact absurd HA.out (by simp [laws_FnLimitedSweeps.j8])
                                                                  | succ kj128 =>
                                                                    have H := HA.out
                                                                    clear HA
                                                                    simp only [laws_FnLimitedSweeps.j8] at H
                                                                    by_cases c154 : t495 = true
                                                                    · subst c154
                                                                      have H1 : (laws_FnLimitedSweeps.l0 kj128 t477 t478 t494 t477 0) = some r := by rw [if_pos rfl] at H; exact H
                                                                      clear H
                                                                      have H := H1
                                                                      clear H1
                                                                      have H' := Aside0.mk H
                                                                      clear H
                                                                      go_wp2
                                                                      go_loopg [42, 43] kj128 (fun kq v42 v43 w' => ∃ (x42_10 : List Int) (x43_10 : Int), v43 = .int .i64 x43_10 ∧ Aside0 (laws_FnLimitedSweeps.l0 kq t477 t478 t494 x42_10 x43_10 = some r) ∧ Aside0 (kq ≤ kj128) ∧ Aside0 (Kd.R (Kd.int .i64) 3 w' w.heap.size (fun _ => True) (.slice Ao9 t477.length co9) t477) ∧ Aside0 (Kd.R (Kd.int .i64) 3 w' w.heap.size (fun _ => True) v42 x42_10) ∧ Aside0 (Below w.heap.size w w'))
                                                                      case atStart => exact ⟨(t477), (0), (by first | rfl | (simp; done) | (simp [*]; done)), H', ⟨Nat.le_refl _⟩, ⟨by (with_reducible repeat (first | apply Kd.R_alloc | apply Kd.R_drewN | apply Kd.R_drew)); exact HO_3.out⟩, ⟨by (with_reducible repeat (first | apply Kd.R_alloc | apply Kd.R_drewN | apply Kd.R_drew)); exact HO_3.out⟩, ⟨by repeat (first | (with_reducible first | exact HB.out | apply below_alloc | apply pw_below_drewN | apply below_drew1) | exact HB.out)⟩⟩
                                                                      case round =>
                                                                        clear H'
                                                                        try clear c1
                                                                        try clear c2
                                                                        try clear p2
                                                                        try clear c3
                                                                        try clear c4
                                                                        try clear c5
                                                                        try clear c6
                                                                        try clear p6
                                                                        try clear c7
                                                                        try clear c12
                                                                        try clear c12b0
                                                                        try clear c12b1
                                                                        try clear c12b2
                                                                        try clear c13
                                                                        try clear c15
                                                                        try clear c16
                                                                        try clear c22
                                                                        try clear c22b0
                                                                        try clear c22b1
                                                                        try clear c23
                                                                        try clear c23b0
                                                                        try clear c23b1
                                                                        try clear c23b2
                                                                        try clear c24
                                                                        try clear c25
                                                                        try clear c26
                                                                        try clear c27
                                                                        try clear c28
                                                                        try clear c29
                                                                        try clear c30
                                                                        try clear c30b0
                                                                        try clear c30b1
                                                                        try clear c31
                                                                        try clear c31b0
                                                                        try clear c31b1
                                                                        try clear c31b2
                                                                        try clear c32
                                                                        try clear c33
                                                                        try clear c34
                                                                        try clear c35
                                                                        try clear c36
                                                                        try clear c37
                                                                        try clear c38
                                                                        try clear c39
                                                                        try clear c42
                                                                        try clear c42b0
                                                                        try clear c42b1
                                                                        try clear c43
                                                                        try clear c52
                                                                        try clear c52b0
                                                                        try clear c52b1
                                                                        try clear c52b2
                                                                        try clear c56
                                                                        try clear c58
                                                                        try clear c63
                                                                        try clear c64
                                                                        try clear p64
                                                                        try clear c65
                                                                        try clear c66
                                                                        try clear c68
                                                                        try clear c70
                                                                        try clear c72
                                                                        try clear c120
                                                                        try clear c122
                                                                        try clear c124
                                                                        try clear c125
                                                                        try clear c125b0
                                                                        try clear c130
                                                                        try clear c133
                                                                        try clear c134
                                                                        try clear c136
                                                                        try clear c137
                                                                        try clear c137b0
                                                                        try clear c154
                                                                        try clear p2
                                                                        try clear p6
                                                                        try clear p64
                                                                        obtain ⟨x42_10, x43_10, rfl, HA, HK10, HO_3, HO_42, HB⟩ := hrel
                                                                        cases gk with
                                                                        | zero => exact absurd HA.out (by simp [laws_FnLimitedSweeps.l0])
                                                                        | succ k10 =>
                                                                          have H := HA.out
                                                                          clear HA
                                                                          simp only [laws_FnLimitedSweeps.l0] at H
                                                                          by_cases c155 : x43_10 < t494
                                                                          · rw [if_pos c155] at H
                                                                            have c155b0 : decide (x43_10 < t494) = true := decide_eq_true c155
                                                                            clear c155
                                                                            replace H := Option.bind_eq_some_iff.mp H
                                                                            obtain ⟨⟨t547, t548⟩, A1560, H⟩ := H
                                                                            replace H : (if t548 = true then ((laws_rSorted.f k10 x42_10).bind fun t551 => (if t551 = true then (some false) else (laws_FnLimitedSweeps.l0 k10 t477 t478 t494 t547 (wrap64 (x43_10 + 1))))) else (some false)) = some r := H
                                                                            have A156 := Aside0.mk A1560
                                                                            clear A1560
                                                                            by_cases c157 : t548 = true
                                                                            · subst c157
                                                                              have H1 : ((laws_rSorted.f k10 x42_10).bind fun t551 => (if t551 = true then (some false) else (laws_FnLimitedSweeps.l0 k10 t477 t478 t494 t547 (wrap64 (x43_10 + 1))))) = some r := by rw [if_pos rfl] at H; exact H
                                                                              clear H
                                                                              have H := H1
                                                                              clear H1
                                                                              replace H := Option.bind_eq_some_iff.mp H
                                                                              obtain ⟨t551, A1580, H⟩ := H
                                                                              replace H : (if t551 = true then (some false) else (laws_FnLimitedSweeps.l0 k10 t477 t478 t494 t547 (wrap64 (x43_10 + 1)))) = some r := H
                                                                              have A158 := Aside0.mk A1580
                                                                              clear A1580
                                                                              by_cases c159 : t551 = true
                                                                              · subst c159
                                                                                have H1 : (some false) = some r := by rw [if_pos rfl] at H; exact H
                                                                                exact absurd ((Option.some.inj H1).trans hr_.out) Bool.false_ne_true
                                                                              · replace c159 := Bool.eq_false_iff.mpr c159
                                                                                subst c159
                                                                                have H1 : (laws_FnLimitedSweeps.l0 k10 t477 t478 t494 t547 (wrap64 (x43_10 + 1))) = some r := by rw [if_neg (show ¬ (false = true) by decide)] at H; exact H
                                                                                clear H
                                                                                have H := H1
                                                                                clear H1
                                                                                have H' := Aside0.mk H
                                                                                clear H
                                                                                obtain ⟨Ao162, co162, eo162⟩ := Kd.R_slice HO_42.out
                                                                                subst eo162
                                                                                go_wp2_with (first | ((with_reducible refine gate_callee (f := 25) rfl ?_); refine goesL_ (some 286) rfl rfl Try.func25 (by kernel_rfl) rfl #[.slice Ao162 x42_10.length co162, .int .i64 t478] rfl (by (try simp only [List.map_toArray, List.map_cons, List.map_nil]); first | done | rfl | (simp only [List.length_drop, List.length_take]; rfl)) ?_; (with_reducible refine (impl_LimitedSweep.calls k10 _ _ x42_10 t478 t547 true _ ?side1 ?side2 A156.out).mono ?_); (case side1 => repeat (first | exact (Kd.R_reads' HO_42.out).2.2 | (with_reducible refine Kd.C_alloc ?_ _) | (with_reducible refine Kd.C_drewN ?_ _) | (with_reducible refine Kd.C_drew ?_))); (case side2 => exact (Kd.R_reads' HO_42.out).2.1); rintro e w163 ⟨v549, rfl, ho0, hb⟩; refine ⟨_, rfl, ?_⟩; have n0_ := Aside0.mk (Kd.R_elder' (by (with_reducible repeat (first | apply Kd.R_alloc | apply Kd.R_drewN | apply Kd.R_drew)); exact HO_3.out) (Kd.R_base ho0) hb); have n1_ := Aside0.mk (Kd.R_elder' (by (with_reducible repeat (first | apply Kd.R_alloc | apply Kd.R_drewN | apply Kd.R_drew)); exact HO_42.out) (Kd.R_base ho0) hb); have n2_ := Aside0.mk (Kd.R_lower (Kd.R_new' (Kd.R_new' ho0 (Kd.R_lt (by (with_reducible repeat (first | apply Kd.R_alloc | apply Kd.R_drewN | apply Kd.R_drew)); exact HO_3.out))) (Kd.R_lt (by (with_reducible repeat (first | apply Kd.R_alloc | apply Kd.R_drewN | apply Kd.R_drew)); exact HO_42.out))) (below_size (by repeat (first | (with_reducible first | exact HB.out | apply below_alloc | apply pw_below_drewN | apply below_drew1) | exact HB.out)))); have n3_ := Aside0.mk (below_step (by repeat (first | (with_reducible first | exact HB.out | apply below_alloc | apply pw_below_drewN | apply below_drew1) | exact HB.out)) hb); clear HO_3; clear HO_42; clear HB; have HO_3 := n0_; have HO_42 := n1_; have HO550 := n2_; have HB := n3_; clear n0_ n1_ n2_ n3_; (try clear hb); (try clear hb2); (try clear hk); (try clear hi); (try clear ho0)) | (go_at_call 40; (with_reducible refine (laws_rSorted.calls k10 _ _ x42_10 false _ ?side1 ?side2 A158.out).mono ?_); (case side1 => repeat (first | exact (Kd.R_reads' HO_42.out).2.2 | (with_reducible refine Kd.C_alloc ?_ _) | (with_reducible refine Kd.C_drewN ?_ _) | (with_reducible refine Kd.C_drew ?_))); (case side2 => exact (Kd.R_reads' HO_42.out).2.1); rintro e w' ⟨rfl, ⟨nd, rfl⟩⟩))
                                                                                go_roundg k10
                                                                                case measure => have := HJ6.out; have := HJ18.out; have := HJ26.out; have := HJ36.out; have := HJ46.out; have := HJ56.out; have := HJ118.out; have := HJ120.out; have := HJ128.out; have := HK10.out; omega
                                                                                case rel => exact ⟨(t547), (wrap64 (x43_10 + 1)), (by first | rfl | (simp; done) | (simp [*]; done)), H', ⟨by have := HJ6.out; have := HJ18.out; have := HJ26.out; have := HJ36.out; have := HJ46.out; have := HJ56.out; have := HJ118.out; have := HJ120.out; have := HJ128.out; have := HK10.out; omega⟩, ⟨by (with_reducible repeat (first | apply Kd.R_alloc | apply Kd.R_drewN | apply Kd.R_drew)); exact Kd.R_mono HO_3.out (fun _ hk => (by first | exact hk.2 | exact trivial))⟩, ⟨by (with_reducible repeat (first | apply Kd.R_alloc | apply Kd.R_drewN | apply Kd.R_drew)); exact Kd.R_mono HO550.out (fun _ hk => (by first | exact hk.1.2 | exact trivial))⟩, ⟨by repeat (first | (with_reducible first | exact HB.out | apply below_alloc | apply pw_below_drewN | apply below_drew1) | exact HB.out)⟩⟩
                                                                            · replace c157 := Bool.eq_false_iff.mpr c157
                                                                              subst c157
                                                                              have H1 : (some false) = some r := by rw [if_neg (show ¬ (false = true) by decide)] at H; exact H
                                                                              exact absurd ((Option.some.inj H1).trans hr_.out) Bool.false_ne_true
                                                                          · rw [if_neg c155] at H
                                                                            have c155b0 : decide (x43_10 < t494) = false := decide_eq_false c155
                                                                            clear c155
                                                                            replace H := Option.bind_eq_some_iff.mp H
                                                                            obtain ⟨t546, A1660, H⟩ := H
                                                                            replace H : (if t546 = true then (if t494 < (t477.length : Int) then (some true) else (some (t494 == 0))) else (some false)) = some r := H
                                                                            have A166 := Aside0.mk A1660
                                                                            clear A1660
                                                                            by_cases c167 : t546 = true
                                                                            · subst c167
                                                                              have H1 : (if t494 < (t477.length : Int) then (some true) else (some (t494 == 0))) = some r := by rw [if_pos rfl] at H; exact H
                                                                              clear H
                                                                              have H := H1
                                                                              clear H1
                                                                              by_cases c168 : t494 < (t477.length : Int)
                                                                              · rw [if_pos c168] at H
                                                                                have c168b0 : decide (t494 < (t477.length : Int)) = true := decide_eq_true c168
                                                                                clear c168
                                                                                obtain rfl := Option.some.inj H
                                                                                obtain ⟨Ao169, co169, eo169⟩ := Kd.R_slice HO_42.out
                                                                                subst eo169
                                                                                go_wp2_with (first | ((with_reducible refine gate_callee (f := 40) rfl ?_); refine goesL_ (some 297) rfl rfl Try.func40 (by kernel_rfl) rfl #[.slice Ao169 x42_10.length co169] rfl (by (try simp only [List.map_toArray, List.map_cons, List.map_nil]); first | done | rfl | (simp only [List.length_drop, List.length_take]; rfl)) ?_; (with_reducible refine (laws_rSorted.calls k10 _ _ x42_10 true _ ?side1 ?side2 A166.out).mono ?_); (case side1 => repeat (first | exact (Kd.R_reads' HO_42.out).2.2 | (with_reducible refine Kd.C_alloc ?_ _) | (with_reducible refine Kd.C_drewN ?_ _) | (with_reducible refine Kd.C_drew ?_))); (case side2 => exact (Kd.R_reads' HO_42.out).2.1); rintro e w' ⟨rfl, ⟨nd, rfl⟩⟩; refine ⟨_, rfl, ?_⟩))
                                                                                go_ret
                                                                                exact ⟨by first | rfl | (simp [errW_none, errW_some] <;> rfl) | (simp [*, errW_none, errW_some] <;> rfl), by repeat (first | (with_reducible first | exact HB.out | apply below_alloc | apply pw_below_drewN | apply below_drew1) | exact HB.out)⟩
                                                                              · rw [if_neg c168] at H
                                                                                have c168b0 : decide (t494 < (t477.length : Int)) = false := decide_eq_false c168
                                                                                clear c168
                                                                                obtain rfl := Option.some.inj H
                                                                                obtain ⟨Ao170, co170, eo170⟩ := Kd.R_slice HO_42.out
                                                                                subst eo170
                                                                                go_wp2_with (first | ((with_reducible refine gate_callee (f := 40) rfl ?_); refine goesL_ (some 297) rfl rfl Try.func40 (by kernel_rfl) rfl #[.slice Ao170 x42_10.length co170] rfl (by (try simp only [List.map_toArray, List.map_cons, List.map_nil]); first | done | rfl | (simp only [List.length_drop, List.length_take]; rfl)) ?_; (with_reducible refine (laws_rSorted.calls k10 _ _ x42_10 true _ ?side1 ?side2 A166.out).mono ?_); (case side1 => repeat (first | exact (Kd.R_reads' HO_42.out).2.2 | (with_reducible refine Kd.C_alloc ?_ _) | (with_reducible refine Kd.C_drewN ?_ _) | (with_reducible refine Kd.C_drew ?_))); (case side2 => exact (Kd.R_reads' HO_42.out).2.1); rintro e w' ⟨rfl, ⟨nd, rfl⟩⟩; refine ⟨_, rfl, ?_⟩))
                                                                                go_ret
                                                                                exact ⟨by first | rfl | (simp [errW_none, errW_some] <;> rfl) | (simp [*, errW_none, errW_some] <;> rfl), by repeat (first | (with_reducible first | exact HB.out | apply below_alloc | apply pw_below_drewN | apply below_drew1) | exact HB.out)⟩
                                                                            · replace c167 := Bool.eq_false_iff.mpr c167
                                                                              subst c167
                                                                              have H1 : (some false) = some r := by rw [if_neg (show ¬ (false = true) by decide)] at H; exact H
                                                                              exact absurd ((Option.some.inj H1).trans hr_.out) Bool.false_ne_true
                                                                    · replace c154 := Bool.eq_false_iff.mpr c154
                                                                      subst c154
                                                                      have H1 : (some true) = some r := by rw [if_neg (show ¬ (false = true) by decide)] at H; exact H
                                                                      clear H
                                                                      have H := H1
                                                                      clear H1
                                                                      obtain rfl := Option.some.inj H
                                                                      go_wp2
                                                                      go_ret
                                                                      exact ⟨by first | rfl | (simp [errW_none, errW_some] <;> rfl) | (simp [*, errW_none, errW_some] <;> rfl), by repeat (first | (with_reducible first | exact HB.out | apply below_alloc | apply pw_below_drewN | apply below_drew1) | exact HB.out)⟩

/-- THE ONE PURE STATEMENT of laws_FnLimitedSweeps: yours. -/
def laws_FnLimitedSweeps.Pure : Prop := ∀ (l0 : List Int), l0.length ≤ maxLen → l0.length * 1 ≤ 140737488351232 → (∀ x ∈ l0, (Lit.int .u8 x).wf = true) → ∃ k, laws_FnLimitedSweeps.f k l0 = some true
theorem laws_FnLimitedSweeps.walk (P : laws_FnLimitedSweeps.Pure) (a0 : Option Addr) (len0 cap0 : Nat) (z0 : List Int) (w : World) (w0 : (a0 = none ∧ len0 = 0 ∧ cap0 = 0 ∧ z0 = []) ∨ ∃ x, a0 = some x ∧ len0 ≤ cap0 ∧ cap0 ≤ maxLen ∧ z0.length = cap0 ∧ (∀ i, i < z0.length → w.cell? (x.add i) = some (.int .u8 (z0.getD i 0))) ∧ ∀ n ∈ z0, (Lit.int .u8 n).wf = true) (y0 : len0 * 1 ≤ 140737488351232) :
    Calls Try.prog 4 #[.slice a0 len0 cap0] w fun e w' => e = .returned (.bool true) ∧ Below w.heap.size w w' := by
  obtain ⟨l0, rfl, hr0, hm0, hw0, hc0⟩ := ReadsInt.ofRowC w0
  obtain ⟨k, h⟩ := P l0 hm0 y0 hw0
  refine (laws_FnLimitedSweeps.calls k _ _ l0 true w (Kd.C_of_reads (d := (0 : Int)) (h1 := fun _ => rfl) hr0) hc0 ⟨rfl⟩ h).mono ?_
  rintro e w' ⟨rfl, hd⟩
  exact ⟨rfl, hd⟩

end Go.Proofs.Ytnoapomobflknaa.Xs
