-- Written by this session's own program (xprint.py) over the kit's print.py: functions, contracts and rows of the laws of one seat.
import Derived.Test.YtnoapomobflknaaZdXd0
import Derived.Test.YtnoapomobflknaaZdXd1
import Derived.Test.YtnoapomobflknaaZdXd2
import Derived.Test.YtnoapomobflknaaZdXd4
import Derived.Test.YtnoapomobflknaaZdXd9
import Derived.Test.YtnoapomobflknaaZdXd10
import Derived.Test.YtnoapomobflknaaZdXd11
import Derived.Test.YtnoapomobflknaaZdXdHbest
import Derived.Test.YtnoapomobflknaaZdXdHduel
import Derived.Test.YtnoapomobflknaaZdXdHscores
import Derived.Test.YtnoapomobflknaaZdXdHworst
namespace Go.Proofs.Ytnoapomobflknaa.Xd
open Go.RowKit Go.Proofs.YtnoapomobflknaaW.PrintWords Go.Proofs.YtnoapomobflknaaW.PrintLast Go.Proofs.YtnoapomobflknaaW.PrintMore
attribute [local go_sem] max2_int min2_int max_two min_two max_three min_three max_four min_four   -- for this text's walks alone
set_option linter.unusedVariables false
set_option linter.unusedSimpArgs false

attribute [local go_sem high] eqA40
/-! ### laws_FnDuels: function 3 -/
mutual
def laws_FnDuels.j0 : Nat → List Int → List Int → ByteArray → Int → Bool → Bool → Option (Bool)
  | 0, _, _, _, _, _, _ => none
  | k + 1, x0, x3, x4, x5, x6, x68 => if x68 = true then (some false) else ((impl_BestSigns.f k x3 x4).bind fun bt319 => ((spec_BestSigns.f k x3 x4).bind fun bt321 => (if bt319.1.toList = bt321.1.toList then (if (bt319.2 != bt321.2) = true then (laws_FnDuels.j1 k x0 x3 x4 x5 x6 bt319.1 true) else (laws_FnDuels.j1 k x0 x3 x4 x5 x6 bt319.1 (bt319.2 != x6))) else (laws_FnDuels.j1 k x0 x3 x4 x5 x6 bt319.1 true))))
def laws_FnDuels.j1 : Nat → List Int → List Int → ByteArray → Int → Bool → ByteArray → Bool → Option (Bool)
  | 0, _, _, _, _, _, _, _ => none
  | k + 1, x0, x3, x4, x5, x6, x9, x93 => if x93 = true then (some false) else ((impl_StackAfter.f k x3 x4).bind fun bt323 => ((spec_StackAfter.f k x3 x4).bind fun bt327 => (if (bt323.2 != bt327.2) = true then (laws_FnDuels.j2 k x0 x3 x4 x5 x6 x9 bt323.1 true) else (if (bt323.2 != x6) = true then (laws_FnDuels.j2 k x0 x3 x4 x5 x6 x9 bt323.1 true) else ((laws_rInts.f k bt323.1 bt327.1).bind fun t331 => (laws_FnDuels.j2 k x0 x3 x4 x5 x6 x9 bt323.1 (!t331)))))))
def laws_FnDuels.j2 : Nat → List Int → List Int → ByteArray → Int → Bool → ByteArray → List Int → Bool → Option (Bool)
  | 0, _, _, _, _, _, _, _, _ => none
  | k + 1, x0, x3, x4, x5, x6, x9, x13, x119 => if x119 = true then (some false) else ((impl_WorstSign.f k x3 x4).bind fun bt332 => ((spec_WorstSign.f k x3 x4).bind fun bt335 => (if bt332.1.toList = bt335.1.toList then (if bt332.2.1 = bt335.2.1 then (if (bt332.2.2 != bt335.2.2) = true then (laws_FnDuels.j3 k x0 x3 x4 x5 x6 x9 x13 bt332.1 bt332.2.1 true) else (if x6 = true then (if (bt332.2.2 != (decide ((x4.size : Int) < (wrap64 (2 * (x3.length : Int)))))) = true then (laws_FnDuels.j3 k x0 x3 x4 x5 x6 x9 x13 bt332.1 bt332.2.1 true) else (laws_FnDuels.j3 k x0 x3 x4 x5 x6 x9 x13 bt332.1 bt332.2.1 (decide (bt332.2.1 < 0)))) else (if (bt332.2.2 != false) = true then (laws_FnDuels.j3 k x0 x3 x4 x5 x6 x9 x13 bt332.1 bt332.2.1 true) else (laws_FnDuels.j3 k x0 x3 x4 x5 x6 x9 x13 bt332.1 bt332.2.1 (decide (bt332.2.1 < 0)))))) else (laws_FnDuels.j3 k x0 x3 x4 x5 x6 x9 x13 bt332.1 bt332.2.1 true)) else (laws_FnDuels.j3 k x0 x3 x4 x5 x6 x9 x13 bt332.1 bt332.2.1 true))))
def laws_FnDuels.j3 : Nat → List Int → List Int → ByteArray → Int → Bool → ByteArray → List Int → ByteArray → Int → Bool → Option (Bool)
  | 0, _, _, _, _, _, _, _, _, _, _ => none
  | k + 1, x0, x3, x4, x5, x6, x9, x13, x17, x18, x163 => if x163 = true then (some false) else ((spec_DrawNextSigns.f k x0).bind fun bt338 => ((impl_NextSigns.f k bt338.1 bt338.2).bind fun bt340 => ((spec_NextSigns.f k bt338.1 bt338.2).bind fun bt342 => (if bt340.1.toList = bt342.1.toList then (if (bt340.2 != bt342.2) = true then (laws_FnDuels.j4 k x3 x4 x5 x6 x9 x13 x17 x18 true) else ((impl_IsBeginning.f k bt338.1 bt338.2).bind fun t344 => (laws_FnDuels.j4 k x3 x4 x5 x6 x9 x13 x17 x18 (bt340.2 != t344)))) else (laws_FnDuels.j4 k x3 x4 x5 x6 x9 x13 x17 x18 true)))))
def laws_FnDuels.j4 : Nat → List Int → ByteArray → Int → Bool → ByteArray → List Int → ByteArray → Int → Bool → Option (Bool)
  | 0, _, _, _, _, _, _, _, _, _ => none
  | k + 1, x3, x4, x5, x6, x9, x13, x17, x18, x195 => if x195 = true then (some false) else ((impl_ScoresOf.f k x3 x4).bind fun bt345 => ((spec_ScoresOf.f k x3 x4).bind fun bt349 => (if (!(bt345.1 == bt349.1) || (!(bt345.2.1 == bt349.2.1))) = true then (laws_FnDuels.j5 k x3 x4 x5 x6 x9 x13 x17 x18 true) else (if (bt345.2.2 != bt349.2.2) = true then (laws_FnDuels.j5 k x3 x4 x5 x6 x9 x13 x17 x18 true) else (laws_FnDuels.j5 k x3 x4 x5 x6 x9 x13 x17 x18 (bt345.2.2 != x6))))))
def laws_FnDuels.j5 : Nat → List Int → ByteArray → Int → Bool → ByteArray → List Int → ByteArray → Int → Bool → Option (Bool)
  | 0, _, _, _, _, _, _, _, _, _ => none
  | k + 1, x3, x4, x5, x6, x9, x13, x17, x18, x220 => if x220 = true then (some false) else (if x6 = true then ((impl_NextSigns.f k (x3.length : Int) x4).bind fun bt353 => (if bt353.2 = true then (if (((bt353.1.size : Int) == 0) != ((x9.size : Int) == 0)) = true then (laws_FnDuels.j6 k x3 x4 x5 x9 x13 x17 x18 bt353.1 true) else (laws_FnDuels.j6 k x3 x4 x5 x9 x13 x17 x18 bt353.1 (decide ((x9.size : Int) > (bt353.1.size : Int))))) else (laws_FnDuels.j6 k x3 x4 x5 x9 x13 x17 x18 bt353.1 true))) else (some true))
def laws_FnDuels.j6 : Nat → List Int → ByteArray → Int → ByteArray → List Int → ByteArray → Int → ByteArray → Bool → Option (Bool)
  | 0, _, _, _, _, _, _, _, _, _ => none
  | k + 1, x3, x4, x5, x9, x13, x17, x18, x33, x247 => if x247 = true then (some false) else (laws_FnDuels.l0 k x3 x4 x5 x9 x13 x17 x18 x33 0)
def laws_FnDuels.l0 : Nat → List Int → ByteArray → Int → ByteArray → List Int → ByteArray → Int → ByteArray → Int → Option (Bool)
  | 0, _, _, _, _, _, _, _, _, _ => none
  | k + 1, x3, x4, x5, x9, x13, x17, x18, x33, x35 => if x35 < (x33.size : Int) then (if 0 ≤ x35 then (if x35 ≤ (wrap64 (x35 + 1)) then (if (wrap64 (x35 + 1)) ≤ (x33.size : Int) then (if (x33.extract (x35 : Int).toNat ((wrap64 (x35 + 1)) : Int).toNat).toList = ([79] : List UInt8) then (if 0 ≤ (wrap64 ((x13.length : Int) - 1)) then (if (wrap64 ((x13.length : Int) - 1)) < (x13.length : Int) then (laws_FnDuels.j8 k x3 x4 x5 x9 x13 x17 x18 x33 x35 (x33.extract (x35 : Int).toNat ((wrap64 (x35 + 1)) : Int).toNat) (rd x13 (wrap64 ((x13.length : Int) - 1)))) else (none)) else (none)) else (laws_FnDuels.j8 k x3 x4 x5 x9 x13 x17 x18 x33 x35 (x33.extract (x35 : Int).toNat ((wrap64 (x35 + 1)) : Int).toNat) 0)) else (none)) else (none)) else (none)) else (some true)
def laws_FnDuels.j8 : Nat → List Int → ByteArray → Int → ByteArray → List Int → ByteArray → Int → ByteArray → Int → ByteArray → Int → Option (Bool)
  | 0, _, _, _, _, _, _, _, _, _, _, _ => none
  | k + 1, x3, x4, x5, x9, x13, x17, x18, x33, x35, x36, x37 => if x4.size + x36.size ≤ 9223372036854775807 then ((impl_DuelValue.f k x3 (x4 ++ x36)).bind fun bt356 => (if bt356.2 = true then (laws_FnDuels.j9 k x3 x4 x5 x9 x13 x17 x18 x33 x35 x36 x37 bt356.1 (decide ((wrap64 (x37 - bt356.1)) > x5))) else (laws_FnDuels.j9 k x3 x4 x5 x9 x13 x17 x18 x33 x35 x36 x37 bt356.1 true))) else (none)
def laws_FnDuels.j9 : Nat → List Int → ByteArray → Int → ByteArray → List Int → ByteArray → Int → ByteArray → Int → ByteArray → Int → Int → Bool → Option (Bool)
  | 0, _, _, _, _, _, _, _, _, _, _, _, _, _ => none
  | k + 1, x3, x4, x5, x9, x13, x17, x18, x33, x35, x36, x37, x38, x283 => if x283 = true then (some false) else (laws_FnDuels.l1 k x3 x4 x5 x9 x13 x17 x18 x33 x35 x36 x37 x38 false 0)
def laws_FnDuels.l1 : Nat → List Int → ByteArray → Int → ByteArray → List Int → ByteArray → Int → ByteArray → Int → ByteArray → Int → Int → Bool → Int → Option (Bool)
  | 0, _, _, _, _, _, _, _, _, _, _, _, _, _, _ => none
  | k + 1, x3, x4, x5, x9, x13, x17, x18, x33, x35, x36, x37, x38, x40, x41 => if x41 < (x9.size : Int) then (if x40 = true then (laws_FnDuels.l1 k x3 x4 x5 x9 x13 x17 x18 x33 x35 x36 x37 x38 true (wrap64 (x41 + 1))) else (if 0 ≤ x41 then (if x41 ≤ (wrap64 (x41 + 1)) then (if (wrap64 (x41 + 1)) ≤ (x9.size : Int) then (laws_FnDuels.l1 k x3 x4 x5 x9 x13 x17 x18 x33 x35 x36 x37 x38 ((x9.extract (x41 : Int).toNat ((wrap64 (x41 + 1)) : Int).toNat).toList == x36.toList) (wrap64 (x41 + 1))) else (none)) else (none)) else (none))) else (if (x40 != ((wrap64 (x37 - x38)) == x5)) = true then (some false) else (if x36.toList = x17.toList then (if (wrap64 ((wrap64 (x5 - x37)) + x38)) = x18 then (laws_FnDuels.l0 k x3 x4 x5 x9 x13 x17 x18 x33 (wrap64 (x35 + 1))) else (some false)) else (laws_FnDuels.l0 k x3 x4 x5 x9 x13 x17 x18 x33 (wrap64 (x35 + 1)))))
end
def laws_FnDuels.f (k : Nat) (l0 : List Int) : Option (Bool) := (laws_rBig.f l0).bind fun t310 => (if t310 = true then (some true) else ((spec_DrawDuelValue.f k l0).bind fun bt311 => ((impl_DuelValue.f k bt311.1 bt311.2).bind fun bt315 => ((spec_DuelValue.f k bt311.1 bt311.2).bind fun bt317 => (if bt315.1 = bt317.1 then (laws_FnDuels.j0 k l0 bt311.1 bt311.2 bt315.1 bt315.2 (bt315.2 != bt317.2)) else (laws_FnDuels.j0 k l0 bt311.1 bt311.2 bt315.1 bt315.2 true))))))
theorem laws_FnDuels.mono_l : ∀ k, (∀ y0 y1 y2 y3 y4 y5, LeO (laws_FnDuels.j0 k y0 y1 y2 y3 y4 y5) (laws_FnDuels.j0 (k + 1) y0 y1 y2 y3 y4 y5)) ∧ (∀ y0 y1 y2 y3 y4 y5 y6, LeO (laws_FnDuels.j1 k y0 y1 y2 y3 y4 y5 y6) (laws_FnDuels.j1 (k + 1) y0 y1 y2 y3 y4 y5 y6)) ∧ (∀ y0 y1 y2 y3 y4 y5 y6 y7, LeO (laws_FnDuels.j2 k y0 y1 y2 y3 y4 y5 y6 y7) (laws_FnDuels.j2 (k + 1) y0 y1 y2 y3 y4 y5 y6 y7)) ∧ (∀ y0 y1 y2 y3 y4 y5 y6 y7 y8 y9, LeO (laws_FnDuels.j3 k y0 y1 y2 y3 y4 y5 y6 y7 y8 y9) (laws_FnDuels.j3 (k + 1) y0 y1 y2 y3 y4 y5 y6 y7 y8 y9)) ∧ (∀ y0 y1 y2 y3 y4 y5 y6 y7 y8, LeO (laws_FnDuels.j4 k y0 y1 y2 y3 y4 y5 y6 y7 y8) (laws_FnDuels.j4 (k + 1) y0 y1 y2 y3 y4 y5 y6 y7 y8)) ∧ (∀ y0 y1 y2 y3 y4 y5 y6 y7 y8, LeO (laws_FnDuels.j5 k y0 y1 y2 y3 y4 y5 y6 y7 y8) (laws_FnDuels.j5 (k + 1) y0 y1 y2 y3 y4 y5 y6 y7 y8)) ∧ (∀ y0 y1 y2 y3 y4 y5 y6 y7 y8, LeO (laws_FnDuels.j6 k y0 y1 y2 y3 y4 y5 y6 y7 y8) (laws_FnDuels.j6 (k + 1) y0 y1 y2 y3 y4 y5 y6 y7 y8)) ∧ (∀ y0 y1 y2 y3 y4 y5 y6 y7 y8, LeO (laws_FnDuels.l0 k y0 y1 y2 y3 y4 y5 y6 y7 y8) (laws_FnDuels.l0 (k + 1) y0 y1 y2 y3 y4 y5 y6 y7 y8)) ∧ (∀ y0 y1 y2 y3 y4 y5 y6 y7 y8 y9 y10, LeO (laws_FnDuels.j8 k y0 y1 y2 y3 y4 y5 y6 y7 y8 y9 y10) (laws_FnDuels.j8 (k + 1) y0 y1 y2 y3 y4 y5 y6 y7 y8 y9 y10)) ∧ (∀ y0 y1 y2 y3 y4 y5 y6 y7 y8 y9 y10 y11 y12, LeO (laws_FnDuels.j9 k y0 y1 y2 y3 y4 y5 y6 y7 y8 y9 y10 y11 y12) (laws_FnDuels.j9 (k + 1) y0 y1 y2 y3 y4 y5 y6 y7 y8 y9 y10 y11 y12)) ∧ (∀ y0 y1 y2 y3 y4 y5 y6 y7 y8 y9 y10 y11 y12 y13, LeO (laws_FnDuels.l1 k y0 y1 y2 y3 y4 y5 y6 y7 y8 y9 y10 y11 y12 y13) (laws_FnDuels.l1 (k + 1) y0 y1 y2 y3 y4 y5 y6 y7 y8 y9 y10 y11 y12 y13))
  | 0 => ⟨fun _ _ _ _ _ _ r h => by simp [laws_FnDuels.j0] at h, fun _ _ _ _ _ _ _ r h => by simp [laws_FnDuels.j1] at h, fun _ _ _ _ _ _ _ _ r h => by simp [laws_FnDuels.j2] at h, fun _ _ _ _ _ _ _ _ _ _ r h => by simp [laws_FnDuels.j3] at h, fun _ _ _ _ _ _ _ _ _ r h => by simp [laws_FnDuels.j4] at h, fun _ _ _ _ _ _ _ _ _ r h => by simp [laws_FnDuels.j5] at h, fun _ _ _ _ _ _ _ _ _ r h => by simp [laws_FnDuels.j6] at h, fun _ _ _ _ _ _ _ _ _ r h => by simp [laws_FnDuels.l0] at h, fun _ _ _ _ _ _ _ _ _ _ _ r h => by simp [laws_FnDuels.j8] at h, fun _ _ _ _ _ _ _ _ _ _ _ _ _ r h => by simp [laws_FnDuels.j9] at h, fun _ _ _ _ _ _ _ _ _ _ _ _ _ _ r h => by simp [laws_FnDuels.l1] at h⟩
  | k + 1 => by
    obtain ⟨ih0, ih1, ih2, ih3, ih4, ih5, ih6, ih7, ih8, ih9, ih10⟩ := laws_FnDuels.mono_l k
    refine ⟨?_, ?_, ?_, ?_, ?_, ?_, ?_, ?_, ?_, ?_, ?_⟩
    · intro y0 y1 y2 y3 y4 y5
      unfold laws_FnDuels.j0
      repeat' first
      | (with_reducible exact ih0 _ _ _ _ _ _)
      | (with_reducible exact ih1 _ _ _ _ _ _ _)
      | (with_reducible exact ih2 _ _ _ _ _ _ _ _)
      | (with_reducible exact ih3 _ _ _ _ _ _ _ _ _ _)
      | (with_reducible exact ih4 _ _ _ _ _ _ _ _ _)
      | (with_reducible exact ih5 _ _ _ _ _ _ _ _ _)
      | (with_reducible exact ih6 _ _ _ _ _ _ _ _ _)
      | (with_reducible exact ih7 _ _ _ _ _ _ _ _ _)
      | (with_reducible exact ih8 _ _ _ _ _ _ _ _ _ _ _)
      | (with_reducible exact ih9 _ _ _ _ _ _ _ _ _ _ _ _ _)
      | (with_reducible exact ih10 _ _ _ _ _ _ _ _ _ _ _ _ _ _)
      | (with_reducible exact impl_BestSigns.mono _ _ _)
      | (with_reducible exact impl_DuelValue.mono _ _ _)
      | (with_reducible exact impl_IsBeginning.mono _ _ _)
      | (with_reducible exact impl_NextSigns.mono _ _ _)
      | (with_reducible exact impl_ScoresOf.mono _ _ _)
      | (with_reducible exact impl_StackAfter.mono _ _ _)
      | (with_reducible exact impl_WorstSign.mono _ _ _)
      | (with_reducible exact laws_rInts.mono _ _ _)
      | (with_reducible exact spec_BestSigns.mono _ _ _)
      | (with_reducible exact spec_DrawDuelValue.mono _ _)
      | (with_reducible exact spec_DrawNextSigns.mono _ _)
      | (with_reducible exact spec_DuelValue.mono _ _ _)
      | (with_reducible exact spec_NextSigns.mono _ _ _)
      | (with_reducible exact spec_ScoresOf.mono _ _ _)
      | (with_reducible exact spec_StackAfter.mono _ _ _)
      | (with_reducible exact spec_WorstSign.mono _ _ _)
      | (with_reducible exact LeO.refl _)
      | (with_reducible exact LeO.none _)
      | (with_reducible refine LeO.ite ?_ ?_)
      | (with_reducible refine LeO.bind ?_ (fun _ => ?_))
      | exact ih0 _ _ _ _ _ _
      | exact ih1 _ _ _ _ _ _ _
      | exact ih2 _ _ _ _ _ _ _ _
      | exact ih3 _ _ _ _ _ _ _ _ _ _
      | exact ih4 _ _ _ _ _ _ _ _ _
      | exact ih5 _ _ _ _ _ _ _ _ _
      | exact ih6 _ _ _ _ _ _ _ _ _
      | exact ih7 _ _ _ _ _ _ _ _ _
      | exact ih8 _ _ _ _ _ _ _ _ _ _ _
      | exact ih9 _ _ _ _ _ _ _ _ _ _ _ _ _
      | exact ih10 _ _ _ _ _ _ _ _ _ _ _ _ _ _
      | exact impl_BestSigns.mono _ _ _
      | exact impl_DuelValue.mono _ _ _
      | exact impl_IsBeginning.mono _ _ _
      | exact impl_NextSigns.mono _ _ _
      | exact impl_ScoresOf.mono _ _ _
      | exact impl_StackAfter.mono _ _ _
      | exact impl_WorstSign.mono _ _ _
      | exact laws_rInts.mono _ _ _
      | exact spec_BestSigns.mono _ _ _
      | exact spec_DrawDuelValue.mono _ _
      | exact spec_DrawNextSigns.mono _ _
      | exact spec_DuelValue.mono _ _ _
      | exact spec_NextSigns.mono _ _ _
      | exact spec_ScoresOf.mono _ _ _
      | exact spec_StackAfter.mono _ _ _
      | exact spec_WorstSign.mono _ _ _
      | exact LeO.none _
      | refine LeO.ite ?_ ?_
      | refine LeO.bind ?_ (fun _ => ?_)
    · intro y0 y1 y2 y3 y4 y5 y6
      unfold laws_FnDuels.j1
      repeat' first
      | (with_reducible exact ih0 _ _ _ _ _ _)
      | (with_reducible exact ih1 _ _ _ _ _ _ _)
      | (with_reducible exact ih2 _ _ _ _ _ _ _ _)
      | (with_reducible exact ih3 _ _ _ _ _ _ _ _ _ _)
      | (with_reducible exact ih4 _ _ _ _ _ _ _ _ _)
      | (with_reducible exact ih5 _ _ _ _ _ _ _ _ _)
      | (with_reducible exact ih6 _ _ _ _ _ _ _ _ _)
      | (with_reducible exact ih7 _ _ _ _ _ _ _ _ _)
      | (with_reducible exact ih8 _ _ _ _ _ _ _ _ _ _ _)
      | (with_reducible exact ih9 _ _ _ _ _ _ _ _ _ _ _ _ _)
      | (with_reducible exact ih10 _ _ _ _ _ _ _ _ _ _ _ _ _ _)
      | (with_reducible exact impl_BestSigns.mono _ _ _)
      | (with_reducible exact impl_DuelValue.mono _ _ _)
      | (with_reducible exact impl_IsBeginning.mono _ _ _)
      | (with_reducible exact impl_NextSigns.mono _ _ _)
      | (with_reducible exact impl_ScoresOf.mono _ _ _)
      | (with_reducible exact impl_StackAfter.mono _ _ _)
      | (with_reducible exact impl_WorstSign.mono _ _ _)
      | (with_reducible exact laws_rInts.mono _ _ _)
      | (with_reducible exact spec_BestSigns.mono _ _ _)
      | (with_reducible exact spec_DrawDuelValue.mono _ _)
      | (with_reducible exact spec_DrawNextSigns.mono _ _)
      | (with_reducible exact spec_DuelValue.mono _ _ _)
      | (with_reducible exact spec_NextSigns.mono _ _ _)
      | (with_reducible exact spec_ScoresOf.mono _ _ _)
      | (with_reducible exact spec_StackAfter.mono _ _ _)
      | (with_reducible exact spec_WorstSign.mono _ _ _)
      | (with_reducible exact LeO.refl _)
      | (with_reducible exact LeO.none _)
      | (with_reducible refine LeO.ite ?_ ?_)
      | (with_reducible refine LeO.bind ?_ (fun _ => ?_))
      | exact ih0 _ _ _ _ _ _
      | exact ih1 _ _ _ _ _ _ _
      | exact ih2 _ _ _ _ _ _ _ _
      | exact ih3 _ _ _ _ _ _ _ _ _ _
      | exact ih4 _ _ _ _ _ _ _ _ _
      | exact ih5 _ _ _ _ _ _ _ _ _
      | exact ih6 _ _ _ _ _ _ _ _ _
      | exact ih7 _ _ _ _ _ _ _ _ _
      | exact ih8 _ _ _ _ _ _ _ _ _ _ _
      | exact ih9 _ _ _ _ _ _ _ _ _ _ _ _ _
      | exact ih10 _ _ _ _ _ _ _ _ _ _ _ _ _ _
      | exact impl_BestSigns.mono _ _ _
      | exact impl_DuelValue.mono _ _ _
      | exact impl_IsBeginning.mono _ _ _
      | exact impl_NextSigns.mono _ _ _
      | exact impl_ScoresOf.mono _ _ _
      | exact impl_StackAfter.mono _ _ _
      | exact impl_WorstSign.mono _ _ _
      | exact laws_rInts.mono _ _ _
      | exact spec_BestSigns.mono _ _ _
      | exact spec_DrawDuelValue.mono _ _
      | exact spec_DrawNextSigns.mono _ _
      | exact spec_DuelValue.mono _ _ _
      | exact spec_NextSigns.mono _ _ _
      | exact spec_ScoresOf.mono _ _ _
      | exact spec_StackAfter.mono _ _ _
      | exact spec_WorstSign.mono _ _ _
      | exact LeO.none _
      | refine LeO.ite ?_ ?_
      | refine LeO.bind ?_ (fun _ => ?_)
    · intro y0 y1 y2 y3 y4 y5 y6 y7
      unfold laws_FnDuels.j2
      repeat' first
      | (with_reducible exact ih0 _ _ _ _ _ _)
      | (with_reducible exact ih1 _ _ _ _ _ _ _)
      | (with_reducible exact ih2 _ _ _ _ _ _ _ _)
      | (with_reducible exact ih3 _ _ _ _ _ _ _ _ _ _)
      | (with_reducible exact ih4 _ _ _ _ _ _ _ _ _)
      | (with_reducible exact ih5 _ _ _ _ _ _ _ _ _)
      | (with_reducible exact ih6 _ _ _ _ _ _ _ _ _)
      | (with_reducible exact ih7 _ _ _ _ _ _ _ _ _)
      | (with_reducible exact ih8 _ _ _ _ _ _ _ _ _ _ _)
      | (with_reducible exact ih9 _ _ _ _ _ _ _ _ _ _ _ _ _)
      | (with_reducible exact ih10 _ _ _ _ _ _ _ _ _ _ _ _ _ _)
      | (with_reducible exact impl_BestSigns.mono _ _ _)
      | (with_reducible exact impl_DuelValue.mono _ _ _)
      | (with_reducible exact impl_IsBeginning.mono _ _ _)
      | (with_reducible exact impl_NextSigns.mono _ _ _)
      | (with_reducible exact impl_ScoresOf.mono _ _ _)
      | (with_reducible exact impl_StackAfter.mono _ _ _)
      | (with_reducible exact impl_WorstSign.mono _ _ _)
      | (with_reducible exact laws_rInts.mono _ _ _)
      | (with_reducible exact spec_BestSigns.mono _ _ _)
      | (with_reducible exact spec_DrawDuelValue.mono _ _)
      | (with_reducible exact spec_DrawNextSigns.mono _ _)
      | (with_reducible exact spec_DuelValue.mono _ _ _)
      | (with_reducible exact spec_NextSigns.mono _ _ _)
      | (with_reducible exact spec_ScoresOf.mono _ _ _)
      | (with_reducible exact spec_StackAfter.mono _ _ _)
      | (with_reducible exact spec_WorstSign.mono _ _ _)
      | (with_reducible exact LeO.refl _)
      | (with_reducible exact LeO.none _)
      | (with_reducible refine LeO.ite ?_ ?_)
      | (with_reducible refine LeO.bind ?_ (fun _ => ?_))
      | exact ih0 _ _ _ _ _ _
      | exact ih1 _ _ _ _ _ _ _
      | exact ih2 _ _ _ _ _ _ _ _
      | exact ih3 _ _ _ _ _ _ _ _ _ _
      | exact ih4 _ _ _ _ _ _ _ _ _
      | exact ih5 _ _ _ _ _ _ _ _ _
      | exact ih6 _ _ _ _ _ _ _ _ _
      | exact ih7 _ _ _ _ _ _ _ _ _
      | exact ih8 _ _ _ _ _ _ _ _ _ _ _
      | exact ih9 _ _ _ _ _ _ _ _ _ _ _ _ _
      | exact ih10 _ _ _ _ _ _ _ _ _ _ _ _ _ _
      | exact impl_BestSigns.mono _ _ _
      | exact impl_DuelValue.mono _ _ _
      | exact impl_IsBeginning.mono _ _ _
      | exact impl_NextSigns.mono _ _ _
      | exact impl_ScoresOf.mono _ _ _
      | exact impl_StackAfter.mono _ _ _
      | exact impl_WorstSign.mono _ _ _
      | exact laws_rInts.mono _ _ _
      | exact spec_BestSigns.mono _ _ _
      | exact spec_DrawDuelValue.mono _ _
      | exact spec_DrawNextSigns.mono _ _
      | exact spec_DuelValue.mono _ _ _
      | exact spec_NextSigns.mono _ _ _
      | exact spec_ScoresOf.mono _ _ _
      | exact spec_StackAfter.mono _ _ _
      | exact spec_WorstSign.mono _ _ _
      | exact LeO.none _
      | refine LeO.ite ?_ ?_
      | refine LeO.bind ?_ (fun _ => ?_)
    · intro y0 y1 y2 y3 y4 y5 y6 y7 y8 y9
      unfold laws_FnDuels.j3
      repeat' first
      | (with_reducible exact ih0 _ _ _ _ _ _)
      | (with_reducible exact ih1 _ _ _ _ _ _ _)
      | (with_reducible exact ih2 _ _ _ _ _ _ _ _)
      | (with_reducible exact ih3 _ _ _ _ _ _ _ _ _ _)
      | (with_reducible exact ih4 _ _ _ _ _ _ _ _ _)
      | (with_reducible exact ih5 _ _ _ _ _ _ _ _ _)
      | (with_reducible exact ih6 _ _ _ _ _ _ _ _ _)
      | (with_reducible exact ih7 _ _ _ _ _ _ _ _ _)
      | (with_reducible exact ih8 _ _ _ _ _ _ _ _ _ _ _)
      | (with_reducible exact ih9 _ _ _ _ _ _ _ _ _ _ _ _ _)
      | (with_reducible exact ih10 _ _ _ _ _ _ _ _ _ _ _ _ _ _)
      | (with_reducible exact impl_BestSigns.mono _ _ _)
      | (with_reducible exact impl_DuelValue.mono _ _ _)
      | (with_reducible exact impl_IsBeginning.mono _ _ _)
      | (with_reducible exact impl_NextSigns.mono _ _ _)
      | (with_reducible exact impl_ScoresOf.mono _ _ _)
      | (with_reducible exact impl_StackAfter.mono _ _ _)
      | (with_reducible exact impl_WorstSign.mono _ _ _)
      | (with_reducible exact laws_rInts.mono _ _ _)
      | (with_reducible exact spec_BestSigns.mono _ _ _)
      | (with_reducible exact spec_DrawDuelValue.mono _ _)
      | (with_reducible exact spec_DrawNextSigns.mono _ _)
      | (with_reducible exact spec_DuelValue.mono _ _ _)
      | (with_reducible exact spec_NextSigns.mono _ _ _)
      | (with_reducible exact spec_ScoresOf.mono _ _ _)
      | (with_reducible exact spec_StackAfter.mono _ _ _)
      | (with_reducible exact spec_WorstSign.mono _ _ _)
      | (with_reducible exact LeO.refl _)
      | (with_reducible exact LeO.none _)
      | (with_reducible refine LeO.ite ?_ ?_)
      | (with_reducible refine LeO.bind ?_ (fun _ => ?_))
      | exact ih0 _ _ _ _ _ _
      | exact ih1 _ _ _ _ _ _ _
      | exact ih2 _ _ _ _ _ _ _ _
      | exact ih3 _ _ _ _ _ _ _ _ _ _
      | exact ih4 _ _ _ _ _ _ _ _ _
      | exact ih5 _ _ _ _ _ _ _ _ _
      | exact ih6 _ _ _ _ _ _ _ _ _
      | exact ih7 _ _ _ _ _ _ _ _ _
      | exact ih8 _ _ _ _ _ _ _ _ _ _ _
      | exact ih9 _ _ _ _ _ _ _ _ _ _ _ _ _
      | exact ih10 _ _ _ _ _ _ _ _ _ _ _ _ _ _
      | exact impl_BestSigns.mono _ _ _
      | exact impl_DuelValue.mono _ _ _
      | exact impl_IsBeginning.mono _ _ _
      | exact impl_NextSigns.mono _ _ _
      | exact impl_ScoresOf.mono _ _ _
      | exact impl_StackAfter.mono _ _ _
      | exact impl_WorstSign.mono _ _ _
      | exact laws_rInts.mono _ _ _
      | exact spec_BestSigns.mono _ _ _
      | exact spec_DrawDuelValue.mono _ _
      | exact spec_DrawNextSigns.mono _ _
      | exact spec_DuelValue.mono _ _ _
      | exact spec_NextSigns.mono _ _ _
      | exact spec_ScoresOf.mono _ _ _
      | exact spec_StackAfter.mono _ _ _
      | exact spec_WorstSign.mono _ _ _
      | exact LeO.none _
      | refine LeO.ite ?_ ?_
      | refine LeO.bind ?_ (fun _ => ?_)
    · intro y0 y1 y2 y3 y4 y5 y6 y7 y8
      unfold laws_FnDuels.j4
      repeat' first
      | (with_reducible exact ih0 _ _ _ _ _ _)
      | (with_reducible exact ih1 _ _ _ _ _ _ _)
      | (with_reducible exact ih2 _ _ _ _ _ _ _ _)
      | (with_reducible exact ih3 _ _ _ _ _ _ _ _ _ _)
      | (with_reducible exact ih4 _ _ _ _ _ _ _ _ _)
      | (with_reducible exact ih5 _ _ _ _ _ _ _ _ _)
      | (with_reducible exact ih6 _ _ _ _ _ _ _ _ _)
      | (with_reducible exact ih7 _ _ _ _ _ _ _ _ _)
      | (with_reducible exact ih8 _ _ _ _ _ _ _ _ _ _ _)
      | (with_reducible exact ih9 _ _ _ _ _ _ _ _ _ _ _ _ _)
      | (with_reducible exact ih10 _ _ _ _ _ _ _ _ _ _ _ _ _ _)
      | (with_reducible exact impl_BestSigns.mono _ _ _)
      | (with_reducible exact impl_DuelValue.mono _ _ _)
      | (with_reducible exact impl_IsBeginning.mono _ _ _)
      | (with_reducible exact impl_NextSigns.mono _ _ _)
      | (with_reducible exact impl_ScoresOf.mono _ _ _)
      | (with_reducible exact impl_StackAfter.mono _ _ _)
      | (with_reducible exact impl_WorstSign.mono _ _ _)
      | (with_reducible exact laws_rInts.mono _ _ _)
      | (with_reducible exact spec_BestSigns.mono _ _ _)
      | (with_reducible exact spec_DrawDuelValue.mono _ _)
      | (with_reducible exact spec_DrawNextSigns.mono _ _)
      | (with_reducible exact spec_DuelValue.mono _ _ _)
      | (with_reducible exact spec_NextSigns.mono _ _ _)
      | (with_reducible exact spec_ScoresOf.mono _ _ _)
      | (with_reducible exact spec_StackAfter.mono _ _ _)
      | (with_reducible exact spec_WorstSign.mono _ _ _)
      | (with_reducible exact LeO.refl _)
      | (with_reducible exact LeO.none _)
      | (with_reducible refine LeO.ite ?_ ?_)
      | (with_reducible refine LeO.bind ?_ (fun _ => ?_))
      | exact ih0 _ _ _ _ _ _
      | exact ih1 _ _ _ _ _ _ _
      | exact ih2 _ _ _ _ _ _ _ _
      | exact ih3 _ _ _ _ _ _ _ _ _ _
      | exact ih4 _ _ _ _ _ _ _ _ _
      | exact ih5 _ _ _ _ _ _ _ _ _
      | exact ih6 _ _ _ _ _ _ _ _ _
      | exact ih7 _ _ _ _ _ _ _ _ _
      | exact ih8 _ _ _ _ _ _ _ _ _ _ _
      | exact ih9 _ _ _ _ _ _ _ _ _ _ _ _ _
      | exact ih10 _ _ _ _ _ _ _ _ _ _ _ _ _ _
      | exact impl_BestSigns.mono _ _ _
      | exact impl_DuelValue.mono _ _ _
      | exact impl_IsBeginning.mono _ _ _
      | exact impl_NextSigns.mono _ _ _
      | exact impl_ScoresOf.mono _ _ _
      | exact impl_StackAfter.mono _ _ _
      | exact impl_WorstSign.mono _ _ _
      | exact laws_rInts.mono _ _ _
      | exact spec_BestSigns.mono _ _ _
      | exact spec_DrawDuelValue.mono _ _
      | exact spec_DrawNextSigns.mono _ _
      | exact spec_DuelValue.mono _ _ _
      | exact spec_NextSigns.mono _ _ _
      | exact spec_ScoresOf.mono _ _ _
      | exact spec_StackAfter.mono _ _ _
      | exact spec_WorstSign.mono _ _ _
      | exact LeO.none _
      | refine LeO.ite ?_ ?_
      | refine LeO.bind ?_ (fun _ => ?_)
    · intro y0 y1 y2 y3 y4 y5 y6 y7 y8
      unfold laws_FnDuels.j5
      repeat' first
      | (with_reducible exact ih0 _ _ _ _ _ _)
      | (with_reducible exact ih1 _ _ _ _ _ _ _)
      | (with_reducible exact ih2 _ _ _ _ _ _ _ _)
      | (with_reducible exact ih3 _ _ _ _ _ _ _ _ _ _)
      | (with_reducible exact ih4 _ _ _ _ _ _ _ _ _)
      | (with_reducible exact ih5 _ _ _ _ _ _ _ _ _)
      | (with_reducible exact ih6 _ _ _ _ _ _ _ _ _)
      | (with_reducible exact ih7 _ _ _ _ _ _ _ _ _)
      | (with_reducible exact ih8 _ _ _ _ _ _ _ _ _ _ _)
      | (with_reducible exact ih9 _ _ _ _ _ _ _ _ _ _ _ _ _)
      | (with_reducible exact ih10 _ _ _ _ _ _ _ _ _ _ _ _ _ _)
      | (with_reducible exact impl_BestSigns.mono _ _ _)
      | (with_reducible exact impl_DuelValue.mono _ _ _)
      | (with_reducible exact impl_IsBeginning.mono _ _ _)
      | (with_reducible exact impl_NextSigns.mono _ _ _)
      | (with_reducible exact impl_ScoresOf.mono _ _ _)
      | (with_reducible exact impl_StackAfter.mono _ _ _)
      | (with_reducible exact impl_WorstSign.mono _ _ _)
      | (with_reducible exact laws_rInts.mono _ _ _)
      | (with_reducible exact spec_BestSigns.mono _ _ _)
      | (with_reducible exact spec_DrawDuelValue.mono _ _)
      | (with_reducible exact spec_DrawNextSigns.mono _ _)
      | (with_reducible exact spec_DuelValue.mono _ _ _)
      | (with_reducible exact spec_NextSigns.mono _ _ _)
      | (with_reducible exact spec_ScoresOf.mono _ _ _)
      | (with_reducible exact spec_StackAfter.mono _ _ _)
      | (with_reducible exact spec_WorstSign.mono _ _ _)
      | (with_reducible exact LeO.refl _)
      | (with_reducible exact LeO.none _)
      | (with_reducible refine LeO.ite ?_ ?_)
      | (with_reducible refine LeO.bind ?_ (fun _ => ?_))
      | exact ih0 _ _ _ _ _ _
      | exact ih1 _ _ _ _ _ _ _
      | exact ih2 _ _ _ _ _ _ _ _
      | exact ih3 _ _ _ _ _ _ _ _ _ _
      | exact ih4 _ _ _ _ _ _ _ _ _
      | exact ih5 _ _ _ _ _ _ _ _ _
      | exact ih6 _ _ _ _ _ _ _ _ _
      | exact ih7 _ _ _ _ _ _ _ _ _
      | exact ih8 _ _ _ _ _ _ _ _ _ _ _
      | exact ih9 _ _ _ _ _ _ _ _ _ _ _ _ _
      | exact ih10 _ _ _ _ _ _ _ _ _ _ _ _ _ _
      | exact impl_BestSigns.mono _ _ _
      | exact impl_DuelValue.mono _ _ _
      | exact impl_IsBeginning.mono _ _ _
      | exact impl_NextSigns.mono _ _ _
      | exact impl_ScoresOf.mono _ _ _
      | exact impl_StackAfter.mono _ _ _
      | exact impl_WorstSign.mono _ _ _
      | exact laws_rInts.mono _ _ _
      | exact spec_BestSigns.mono _ _ _
      | exact spec_DrawDuelValue.mono _ _
      | exact spec_DrawNextSigns.mono _ _
      | exact spec_DuelValue.mono _ _ _
      | exact spec_NextSigns.mono _ _ _
      | exact spec_ScoresOf.mono _ _ _
      | exact spec_StackAfter.mono _ _ _
      | exact spec_WorstSign.mono _ _ _
      | exact LeO.none _
      | refine LeO.ite ?_ ?_
      | refine LeO.bind ?_ (fun _ => ?_)
    · intro y0 y1 y2 y3 y4 y5 y6 y7 y8
      unfold laws_FnDuels.j6
      repeat' first
      | (with_reducible exact ih0 _ _ _ _ _ _)
      | (with_reducible exact ih1 _ _ _ _ _ _ _)
      | (with_reducible exact ih2 _ _ _ _ _ _ _ _)
      | (with_reducible exact ih3 _ _ _ _ _ _ _ _ _ _)
      | (with_reducible exact ih4 _ _ _ _ _ _ _ _ _)
      | (with_reducible exact ih5 _ _ _ _ _ _ _ _ _)
      | (with_reducible exact ih6 _ _ _ _ _ _ _ _ _)
      | (with_reducible exact ih7 _ _ _ _ _ _ _ _ _)
      | (with_reducible exact ih8 _ _ _ _ _ _ _ _ _ _ _)
      | (with_reducible exact ih9 _ _ _ _ _ _ _ _ _ _ _ _ _)
      | (with_reducible exact ih10 _ _ _ _ _ _ _ _ _ _ _ _ _ _)
      | (with_reducible exact impl_BestSigns.mono _ _ _)
      | (with_reducible exact impl_DuelValue.mono _ _ _)
      | (with_reducible exact impl_IsBeginning.mono _ _ _)
      | (with_reducible exact impl_NextSigns.mono _ _ _)
      | (with_reducible exact impl_ScoresOf.mono _ _ _)
      | (with_reducible exact impl_StackAfter.mono _ _ _)
      | (with_reducible exact impl_WorstSign.mono _ _ _)
      | (with_reducible exact laws_rInts.mono _ _ _)
      | (with_reducible exact spec_BestSigns.mono _ _ _)
      | (with_reducible exact spec_DrawDuelValue.mono _ _)
      | (with_reducible exact spec_DrawNextSigns.mono _ _)
      | (with_reducible exact spec_DuelValue.mono _ _ _)
      | (with_reducible exact spec_NextSigns.mono _ _ _)
      | (with_reducible exact spec_ScoresOf.mono _ _ _)
      | (with_reducible exact spec_StackAfter.mono _ _ _)
      | (with_reducible exact spec_WorstSign.mono _ _ _)
      | (with_reducible exact LeO.refl _)
      | (with_reducible exact LeO.none _)
      | (with_reducible refine LeO.ite ?_ ?_)
      | (with_reducible refine LeO.bind ?_ (fun _ => ?_))
      | exact ih0 _ _ _ _ _ _
      | exact ih1 _ _ _ _ _ _ _
      | exact ih2 _ _ _ _ _ _ _ _
      | exact ih3 _ _ _ _ _ _ _ _ _ _
      | exact ih4 _ _ _ _ _ _ _ _ _
      | exact ih5 _ _ _ _ _ _ _ _ _
      | exact ih6 _ _ _ _ _ _ _ _ _
      | exact ih7 _ _ _ _ _ _ _ _ _
      | exact ih8 _ _ _ _ _ _ _ _ _ _ _
      | exact ih9 _ _ _ _ _ _ _ _ _ _ _ _ _
      | exact ih10 _ _ _ _ _ _ _ _ _ _ _ _ _ _
      | exact impl_BestSigns.mono _ _ _
      | exact impl_DuelValue.mono _ _ _
      | exact impl_IsBeginning.mono _ _ _
      | exact impl_NextSigns.mono _ _ _
      | exact impl_ScoresOf.mono _ _ _
      | exact impl_StackAfter.mono _ _ _
      | exact impl_WorstSign.mono _ _ _
      | exact laws_rInts.mono _ _ _
      | exact spec_BestSigns.mono _ _ _
      | exact spec_DrawDuelValue.mono _ _
      | exact spec_DrawNextSigns.mono _ _
      | exact spec_DuelValue.mono _ _ _
      | exact spec_NextSigns.mono _ _ _
      | exact spec_ScoresOf.mono _ _ _
      | exact spec_StackAfter.mono _ _ _
      | exact spec_WorstSign.mono _ _ _
      | exact LeO.none _
      | refine LeO.ite ?_ ?_
      | refine LeO.bind ?_ (fun _ => ?_)
    · intro y0 y1 y2 y3 y4 y5 y6 y7 y8
      unfold laws_FnDuels.l0
      repeat' first
      | (with_reducible exact ih0 _ _ _ _ _ _)
      | (with_reducible exact ih1 _ _ _ _ _ _ _)
      | (with_reducible exact ih2 _ _ _ _ _ _ _ _)
      | (with_reducible exact ih3 _ _ _ _ _ _ _ _ _ _)
      | (with_reducible exact ih4 _ _ _ _ _ _ _ _ _)
      | (with_reducible exact ih5 _ _ _ _ _ _ _ _ _)
      | (with_reducible exact ih6 _ _ _ _ _ _ _ _ _)
      | (with_reducible exact ih7 _ _ _ _ _ _ _ _ _)
      | (with_reducible exact ih8 _ _ _ _ _ _ _ _ _ _ _)
      | (with_reducible exact ih9 _ _ _ _ _ _ _ _ _ _ _ _ _)
      | (with_reducible exact ih10 _ _ _ _ _ _ _ _ _ _ _ _ _ _)
      | (with_reducible exact impl_BestSigns.mono _ _ _)
      | (with_reducible exact impl_DuelValue.mono _ _ _)
      | (with_reducible exact impl_IsBeginning.mono _ _ _)
      | (with_reducible exact impl_NextSigns.mono _ _ _)
      | (with_reducible exact impl_ScoresOf.mono _ _ _)
      | (with_reducible exact impl_StackAfter.mono _ _ _)
      | (with_reducible exact impl_WorstSign.mono _ _ _)
      | (with_reducible exact laws_rInts.mono _ _ _)
      | (with_reducible exact spec_BestSigns.mono _ _ _)
      | (with_reducible exact spec_DrawDuelValue.mono _ _)
      | (with_reducible exact spec_DrawNextSigns.mono _ _)
      | (with_reducible exact spec_DuelValue.mono _ _ _)
      | (with_reducible exact spec_NextSigns.mono _ _ _)
      | (with_reducible exact spec_ScoresOf.mono _ _ _)
      | (with_reducible exact spec_StackAfter.mono _ _ _)
      | (with_reducible exact spec_WorstSign.mono _ _ _)
      | (with_reducible exact LeO.refl _)
      | (with_reducible exact LeO.none _)
      | (with_reducible refine LeO.ite ?_ ?_)
      | (with_reducible refine LeO.bind ?_ (fun _ => ?_))
      | exact ih0 _ _ _ _ _ _
      | exact ih1 _ _ _ _ _ _ _
      | exact ih2 _ _ _ _ _ _ _ _
      | exact ih3 _ _ _ _ _ _ _ _ _ _
      | exact ih4 _ _ _ _ _ _ _ _ _
      | exact ih5 _ _ _ _ _ _ _ _ _
      | exact ih6 _ _ _ _ _ _ _ _ _
      | exact ih7 _ _ _ _ _ _ _ _ _
      | exact ih8 _ _ _ _ _ _ _ _ _ _ _
      | exact ih9 _ _ _ _ _ _ _ _ _ _ _ _ _
      | exact ih10 _ _ _ _ _ _ _ _ _ _ _ _ _ _
      | exact impl_BestSigns.mono _ _ _
      | exact impl_DuelValue.mono _ _ _
      | exact impl_IsBeginning.mono _ _ _
      | exact impl_NextSigns.mono _ _ _
      | exact impl_ScoresOf.mono _ _ _
      | exact impl_StackAfter.mono _ _ _
      | exact impl_WorstSign.mono _ _ _
      | exact laws_rInts.mono _ _ _
      | exact spec_BestSigns.mono _ _ _
      | exact spec_DrawDuelValue.mono _ _
      | exact spec_DrawNextSigns.mono _ _
      | exact spec_DuelValue.mono _ _ _
      | exact spec_NextSigns.mono _ _ _
      | exact spec_ScoresOf.mono _ _ _
      | exact spec_StackAfter.mono _ _ _
      | exact spec_WorstSign.mono _ _ _
      | exact LeO.none _
      | refine LeO.ite ?_ ?_
      | refine LeO.bind ?_ (fun _ => ?_)
    · intro y0 y1 y2 y3 y4 y5 y6 y7 y8 y9 y10
      unfold laws_FnDuels.j8
      repeat' first
      | (with_reducible exact ih0 _ _ _ _ _ _)
      | (with_reducible exact ih1 _ _ _ _ _ _ _)
      | (with_reducible exact ih2 _ _ _ _ _ _ _ _)
      | (with_reducible exact ih3 _ _ _ _ _ _ _ _ _ _)
      | (with_reducible exact ih4 _ _ _ _ _ _ _ _ _)
      | (with_reducible exact ih5 _ _ _ _ _ _ _ _ _)
      | (with_reducible exact ih6 _ _ _ _ _ _ _ _ _)
      | (with_reducible exact ih7 _ _ _ _ _ _ _ _ _)
      | (with_reducible exact ih8 _ _ _ _ _ _ _ _ _ _ _)
      | (with_reducible exact ih9 _ _ _ _ _ _ _ _ _ _ _ _ _)
      | (with_reducible exact ih10 _ _ _ _ _ _ _ _ _ _ _ _ _ _)
      | (with_reducible exact impl_BestSigns.mono _ _ _)
      | (with_reducible exact impl_DuelValue.mono _ _ _)
      | (with_reducible exact impl_IsBeginning.mono _ _ _)
      | (with_reducible exact impl_NextSigns.mono _ _ _)
      | (with_reducible exact impl_ScoresOf.mono _ _ _)
      | (with_reducible exact impl_StackAfter.mono _ _ _)
      | (with_reducible exact impl_WorstSign.mono _ _ _)
      | (with_reducible exact laws_rInts.mono _ _ _)
      | (with_reducible exact spec_BestSigns.mono _ _ _)
      | (with_reducible exact spec_DrawDuelValue.mono _ _)
      | (with_reducible exact spec_DrawNextSigns.mono _ _)
      | (with_reducible exact spec_DuelValue.mono _ _ _)
      | (with_reducible exact spec_NextSigns.mono _ _ _)
      | (with_reducible exact spec_ScoresOf.mono _ _ _)
      | (with_reducible exact spec_StackAfter.mono _ _ _)
      | (with_reducible exact spec_WorstSign.mono _ _ _)
      | (with_reducible exact LeO.refl _)
      | (with_reducible exact LeO.none _)
      | (with_reducible refine LeO.ite ?_ ?_)
      | (with_reducible refine LeO.bind ?_ (fun _ => ?_))
      | exact ih0 _ _ _ _ _ _
      | exact ih1 _ _ _ _ _ _ _
      | exact ih2 _ _ _ _ _ _ _ _
      | exact ih3 _ _ _ _ _ _ _ _ _ _
      | exact ih4 _ _ _ _ _ _ _ _ _
      | exact ih5 _ _ _ _ _ _ _ _ _
      | exact ih6 _ _ _ _ _ _ _ _ _
      | exact ih7 _ _ _ _ _ _ _ _ _
      | exact ih8 _ _ _ _ _ _ _ _ _ _ _
      | exact ih9 _ _ _ _ _ _ _ _ _ _ _ _ _
      | exact ih10 _ _ _ _ _ _ _ _ _ _ _ _ _ _
      | exact impl_BestSigns.mono _ _ _
      | exact impl_DuelValue.mono _ _ _
      | exact impl_IsBeginning.mono _ _ _
      | exact impl_NextSigns.mono _ _ _
      | exact impl_ScoresOf.mono _ _ _
      | exact impl_StackAfter.mono _ _ _
      | exact impl_WorstSign.mono _ _ _
      | exact laws_rInts.mono _ _ _
      | exact spec_BestSigns.mono _ _ _
      | exact spec_DrawDuelValue.mono _ _
      | exact spec_DrawNextSigns.mono _ _
      | exact spec_DuelValue.mono _ _ _
      | exact spec_NextSigns.mono _ _ _
      | exact spec_ScoresOf.mono _ _ _
      | exact spec_StackAfter.mono _ _ _
      | exact spec_WorstSign.mono _ _ _
      | exact LeO.none _
      | refine LeO.ite ?_ ?_
      | refine LeO.bind ?_ (fun _ => ?_)
    · intro y0 y1 y2 y3 y4 y5 y6 y7 y8 y9 y10 y11 y12
      unfold laws_FnDuels.j9
      repeat' first
      | (with_reducible exact ih0 _ _ _ _ _ _)
      | (with_reducible exact ih1 _ _ _ _ _ _ _)
      | (with_reducible exact ih2 _ _ _ _ _ _ _ _)
      | (with_reducible exact ih3 _ _ _ _ _ _ _ _ _ _)
      | (with_reducible exact ih4 _ _ _ _ _ _ _ _ _)
      | (with_reducible exact ih5 _ _ _ _ _ _ _ _ _)
      | (with_reducible exact ih6 _ _ _ _ _ _ _ _ _)
      | (with_reducible exact ih7 _ _ _ _ _ _ _ _ _)
      | (with_reducible exact ih8 _ _ _ _ _ _ _ _ _ _ _)
      | (with_reducible exact ih9 _ _ _ _ _ _ _ _ _ _ _ _ _)
      | (with_reducible exact ih10 _ _ _ _ _ _ _ _ _ _ _ _ _ _)
      | (with_reducible exact impl_BestSigns.mono _ _ _)
      | (with_reducible exact impl_DuelValue.mono _ _ _)
      | (with_reducible exact impl_IsBeginning.mono _ _ _)
      | (with_reducible exact impl_NextSigns.mono _ _ _)
      | (with_reducible exact impl_ScoresOf.mono _ _ _)
      | (with_reducible exact impl_StackAfter.mono _ _ _)
      | (with_reducible exact impl_WorstSign.mono _ _ _)
      | (with_reducible exact laws_rInts.mono _ _ _)
      | (with_reducible exact spec_BestSigns.mono _ _ _)
      | (with_reducible exact spec_DrawDuelValue.mono _ _)
      | (with_reducible exact spec_DrawNextSigns.mono _ _)
      | (with_reducible exact spec_DuelValue.mono _ _ _)
      | (with_reducible exact spec_NextSigns.mono _ _ _)
      | (with_reducible exact spec_ScoresOf.mono _ _ _)
      | (with_reducible exact spec_StackAfter.mono _ _ _)
      | (with_reducible exact spec_WorstSign.mono _ _ _)
      | (with_reducible exact LeO.refl _)
      | (with_reducible exact LeO.none _)
      | (with_reducible refine LeO.ite ?_ ?_)
      | (with_reducible refine LeO.bind ?_ (fun _ => ?_))
      | exact ih0 _ _ _ _ _ _
      | exact ih1 _ _ _ _ _ _ _
      | exact ih2 _ _ _ _ _ _ _ _
      | exact ih3 _ _ _ _ _ _ _ _ _ _
      | exact ih4 _ _ _ _ _ _ _ _ _
      | exact ih5 _ _ _ _ _ _ _ _ _
      | exact ih6 _ _ _ _ _ _ _ _ _
      | exact ih7 _ _ _ _ _ _ _ _ _
      | exact ih8 _ _ _ _ _ _ _ _ _ _ _
      | exact ih9 _ _ _ _ _ _ _ _ _ _ _ _ _
      | exact ih10 _ _ _ _ _ _ _ _ _ _ _ _ _ _
      | exact impl_BestSigns.mono _ _ _
      | exact impl_DuelValue.mono _ _ _
      | exact impl_IsBeginning.mono _ _ _
      | exact impl_NextSigns.mono _ _ _
      | exact impl_ScoresOf.mono _ _ _
      | exact impl_StackAfter.mono _ _ _
      | exact impl_WorstSign.mono _ _ _
      | exact laws_rInts.mono _ _ _
      | exact spec_BestSigns.mono _ _ _
      | exact spec_DrawDuelValue.mono _ _
      | exact spec_DrawNextSigns.mono _ _
      | exact spec_DuelValue.mono _ _ _
      | exact spec_NextSigns.mono _ _ _
      | exact spec_ScoresOf.mono _ _ _
      | exact spec_StackAfter.mono _ _ _
      | exact spec_WorstSign.mono _ _ _
      | exact LeO.none _
      | refine LeO.ite ?_ ?_
      | refine LeO.bind ?_ (fun _ => ?_)
    · intro y0 y1 y2 y3 y4 y5 y6 y7 y8 y9 y10 y11 y12 y13
      unfold laws_FnDuels.l1
      repeat' first
      | (with_reducible exact ih0 _ _ _ _ _ _)
      | (with_reducible exact ih1 _ _ _ _ _ _ _)
      | (with_reducible exact ih2 _ _ _ _ _ _ _ _)
      | (with_reducible exact ih3 _ _ _ _ _ _ _ _ _ _)
      | (with_reducible exact ih4 _ _ _ _ _ _ _ _ _)
      | (with_reducible exact ih5 _ _ _ _ _ _ _ _ _)
      | (with_reducible exact ih6 _ _ _ _ _ _ _ _ _)
      | (with_reducible exact ih7 _ _ _ _ _ _ _ _ _)
      | (with_reducible exact ih8 _ _ _ _ _ _ _ _ _ _ _)
      | (with_reducible exact ih9 _ _ _ _ _ _ _ _ _ _ _ _ _)
      | (with_reducible exact ih10 _ _ _ _ _ _ _ _ _ _ _ _ _ _)
      | (with_reducible exact impl_BestSigns.mono _ _ _)
      | (with_reducible exact impl_DuelValue.mono _ _ _)
      | (with_reducible exact impl_IsBeginning.mono _ _ _)
      | (with_reducible exact impl_NextSigns.mono _ _ _)
      | (with_reducible exact impl_ScoresOf.mono _ _ _)
      | (with_reducible exact impl_StackAfter.mono _ _ _)
      | (with_reducible exact impl_WorstSign.mono _ _ _)
      | (with_reducible exact laws_rInts.mono _ _ _)
      | (with_reducible exact spec_BestSigns.mono _ _ _)
      | (with_reducible exact spec_DrawDuelValue.mono _ _)
      | (with_reducible exact spec_DrawNextSigns.mono _ _)
      | (with_reducible exact spec_DuelValue.mono _ _ _)
      | (with_reducible exact spec_NextSigns.mono _ _ _)
      | (with_reducible exact spec_ScoresOf.mono _ _ _)
      | (with_reducible exact spec_StackAfter.mono _ _ _)
      | (with_reducible exact spec_WorstSign.mono _ _ _)
      | (with_reducible exact LeO.refl _)
      | (with_reducible exact LeO.none _)
      | (with_reducible refine LeO.ite ?_ ?_)
      | (with_reducible refine LeO.bind ?_ (fun _ => ?_))
      | exact ih0 _ _ _ _ _ _
      | exact ih1 _ _ _ _ _ _ _
      | exact ih2 _ _ _ _ _ _ _ _
      | exact ih3 _ _ _ _ _ _ _ _ _ _
      | exact ih4 _ _ _ _ _ _ _ _ _
      | exact ih5 _ _ _ _ _ _ _ _ _
      | exact ih6 _ _ _ _ _ _ _ _ _
      | exact ih7 _ _ _ _ _ _ _ _ _
      | exact ih8 _ _ _ _ _ _ _ _ _ _ _
      | exact ih9 _ _ _ _ _ _ _ _ _ _ _ _ _
      | exact ih10 _ _ _ _ _ _ _ _ _ _ _ _ _ _
      | exact impl_BestSigns.mono _ _ _
      | exact impl_DuelValue.mono _ _ _
      | exact impl_IsBeginning.mono _ _ _
      | exact impl_NextSigns.mono _ _ _
      | exact impl_ScoresOf.mono _ _ _
      | exact impl_StackAfter.mono _ _ _
      | exact impl_WorstSign.mono _ _ _
      | exact laws_rInts.mono _ _ _
      | exact spec_BestSigns.mono _ _ _
      | exact spec_DrawDuelValue.mono _ _
      | exact spec_DrawNextSigns.mono _ _
      | exact spec_DuelValue.mono _ _ _
      | exact spec_NextSigns.mono _ _ _
      | exact spec_ScoresOf.mono _ _ _
      | exact spec_StackAfter.mono _ _ _
      | exact spec_WorstSign.mono _ _ _
      | exact LeO.none _
      | refine LeO.ite ?_ ?_
      | refine LeO.bind ?_ (fun _ => ?_)
theorem laws_FnDuels.mono : ∀ a0 k, LeO (laws_FnDuels.f k a0) (laws_FnDuels.f (k + 1) a0) := by
  intro a0 k
  obtain ⟨ih0, ih1, ih2, ih3, ih4, ih5, ih6, ih7, ih8, ih9, ih10⟩ := laws_FnDuels.mono_l k
  unfold laws_FnDuels.f
  repeat' first
      | (with_reducible exact ih0 _ _ _ _ _ _)
      | (with_reducible exact ih1 _ _ _ _ _ _ _)
      | (with_reducible exact ih2 _ _ _ _ _ _ _ _)
      | (with_reducible exact ih3 _ _ _ _ _ _ _ _ _ _)
      | (with_reducible exact ih4 _ _ _ _ _ _ _ _ _)
      | (with_reducible exact ih5 _ _ _ _ _ _ _ _ _)
      | (with_reducible exact ih6 _ _ _ _ _ _ _ _ _)
      | (with_reducible exact ih7 _ _ _ _ _ _ _ _ _)
      | (with_reducible exact ih8 _ _ _ _ _ _ _ _ _ _ _)
      | (with_reducible exact ih9 _ _ _ _ _ _ _ _ _ _ _ _ _)
      | (with_reducible exact ih10 _ _ _ _ _ _ _ _ _ _ _ _ _ _)
      | (with_reducible exact impl_BestSigns.mono _ _ _)
      | (with_reducible exact impl_DuelValue.mono _ _ _)
      | (with_reducible exact impl_IsBeginning.mono _ _ _)
      | (with_reducible exact impl_NextSigns.mono _ _ _)
      | (with_reducible exact impl_ScoresOf.mono _ _ _)
      | (with_reducible exact impl_StackAfter.mono _ _ _)
      | (with_reducible exact impl_WorstSign.mono _ _ _)
      | (with_reducible exact laws_rInts.mono _ _ _)
      | (with_reducible exact spec_BestSigns.mono _ _ _)
      | (with_reducible exact spec_DrawDuelValue.mono _ _)
      | (with_reducible exact spec_DrawNextSigns.mono _ _)
      | (with_reducible exact spec_DuelValue.mono _ _ _)
      | (with_reducible exact spec_NextSigns.mono _ _ _)
      | (with_reducible exact spec_ScoresOf.mono _ _ _)
      | (with_reducible exact spec_StackAfter.mono _ _ _)
      | (with_reducible exact spec_WorstSign.mono _ _ _)
      | (with_reducible exact LeO.refl _)
      | (with_reducible exact LeO.none _)
      | (with_reducible refine LeO.ite ?_ ?_)
      | (with_reducible refine LeO.bind ?_ (fun _ => ?_))
      | exact ih0 _ _ _ _ _ _
      | exact ih1 _ _ _ _ _ _ _
      | exact ih2 _ _ _ _ _ _ _ _
      | exact ih3 _ _ _ _ _ _ _ _ _ _
      | exact ih4 _ _ _ _ _ _ _ _ _
      | exact ih5 _ _ _ _ _ _ _ _ _
      | exact ih6 _ _ _ _ _ _ _ _ _
      | exact ih7 _ _ _ _ _ _ _ _ _
      | exact ih8 _ _ _ _ _ _ _ _ _ _ _
      | exact ih9 _ _ _ _ _ _ _ _ _ _ _ _ _
      | exact ih10 _ _ _ _ _ _ _ _ _ _ _ _ _ _
      | exact impl_BestSigns.mono _ _ _
      | exact impl_DuelValue.mono _ _ _
      | exact impl_IsBeginning.mono _ _ _
      | exact impl_NextSigns.mono _ _ _
      | exact impl_ScoresOf.mono _ _ _
      | exact impl_StackAfter.mono _ _ _
      | exact impl_WorstSign.mono _ _ _
      | exact laws_rInts.mono _ _ _
      | exact spec_BestSigns.mono _ _ _
      | exact spec_DrawDuelValue.mono _ _
      | exact spec_DrawNextSigns.mono _ _
      | exact spec_DuelValue.mono _ _ _
      | exact spec_NextSigns.mono _ _ _
      | exact spec_ScoresOf.mono _ _ _
      | exact spec_StackAfter.mono _ _ _
      | exact spec_WorstSign.mono _ _ _
      | exact LeO.none _
      | refine LeO.ite ?_ ?_
      | refine LeO.bind ?_ (fun _ => ?_)
theorem laws_FnDuels.j0_no {k : Nat} {a0} {a1} {a2} {a3} {a4} (h : laws_FnDuels.j0 k a0 a1 a2 a3 a4 true = some true) : False := by
  cases k with
  | zero => simp only [laws_FnDuels.j0] at h; cases h
  | succ k => simp only [laws_FnDuels.j0, ↓reduceIte] at h; cases h
theorem laws_FnDuels.j1_no {k : Nat} {a0} {a1} {a2} {a3} {a4} {a5} (h : laws_FnDuels.j1 k a0 a1 a2 a3 a4 a5 true = some true) : False := by
  cases k with
  | zero => simp only [laws_FnDuels.j1] at h; cases h
  | succ k => simp only [laws_FnDuels.j1, ↓reduceIte] at h; cases h
theorem laws_FnDuels.j2_no {k : Nat} {a0} {a1} {a2} {a3} {a4} {a5} {a6} (h : laws_FnDuels.j2 k a0 a1 a2 a3 a4 a5 a6 true = some true) : False := by
  cases k with
  | zero => simp only [laws_FnDuels.j2] at h; cases h
  | succ k => simp only [laws_FnDuels.j2, ↓reduceIte] at h; cases h
theorem laws_FnDuels.j3_no {k : Nat} {a0} {a1} {a2} {a3} {a4} {a5} {a6} {a7} {a8} (h : laws_FnDuels.j3 k a0 a1 a2 a3 a4 a5 a6 a7 a8 true = some true) : False := by
  cases k with
  | zero => simp only [laws_FnDuels.j3] at h; cases h
  | succ k => simp only [laws_FnDuels.j3, ↓reduceIte] at h; cases h
theorem laws_FnDuels.j4_no {k : Nat} {a0} {a1} {a2} {a3} {a4} {a5} {a6} {a7} (h : laws_FnDuels.j4 k a0 a1 a2 a3 a4 a5 a6 a7 true = some true) : False := by
  cases k with
  | zero => simp only [laws_FnDuels.j4] at h; cases h
  | succ k => simp only [laws_FnDuels.j4, ↓reduceIte] at h; cases h
theorem laws_FnDuels.j5_no {k : Nat} {a0} {a1} {a2} {a3} {a4} {a5} {a6} {a7} (h : laws_FnDuels.j5 k a0 a1 a2 a3 a4 a5 a6 a7 true = some true) : False := by
  cases k with
  | zero => simp only [laws_FnDuels.j5] at h; cases h
  | succ k => simp only [laws_FnDuels.j5, ↓reduceIte] at h; cases h
theorem laws_FnDuels.j6_no {k : Nat} {a0} {a1} {a2} {a3} {a4} {a5} {a6} {a7} (h : laws_FnDuels.j6 k a0 a1 a2 a3 a4 a5 a6 a7 true = some true) : False := by
  cases k with
  | zero => simp only [laws_FnDuels.j6] at h; cases h
  | succ k => simp only [laws_FnDuels.j6, ↓reduceIte] at h; cases h
theorem laws_FnDuels.j9_no {k : Nat} {a0} {a1} {a2} {a3} {a4} {a5} {a6} {a7} {a8} {a9} {a10} {a11} (h : laws_FnDuels.j9 k a0 a1 a2 a3 a4 a5 a6 a7 a8 a9 a10 a11 true = some true) : False := by
  cases k with
  | zero => simp only [laws_FnDuels.j9] at h; cases h
  | succ k => simp only [laws_FnDuels.j9, ↓reduceIte] at h; cases h
set_option maxHeartbeats 8000000 in
set_option maxRecDepth 100000 in
theorem laws_FnDuels.calls (k : Nat) (A0 : Option Addr) (c0 : Nat) (l0 : List Int) (r : Bool) (w : World) (hr0 : Kd.C (Kd.int .u8) w A0 l0.length l0) (hc0 : l0.length ≤ c0) (hr_ : Aside0 (r = true)) (h : laws_FnDuels.f k l0 = some r) :
    Calls Try.prog 3 #[.slice A0 l0.length c0] w fun e w' => e = .returned (.bool r) ∧ Below w.heap.size w w' := by
  have hu40 := Try.underlying40
  have HR0 := Aside0.mk hr0
  have HC0 := Aside0.mk hc0
  clear hr0 hc0
  have HB := Aside0.mk (Below.refl w.heap.size w)
  have H : ((laws_rBig.f l0).bind fun t310 => (if t310 = true then (some true) else ((spec_DrawDuelValue.f k l0).bind fun bt311 => ((impl_DuelValue.f k bt311.1 bt311.2).bind fun bt315 => ((spec_DuelValue.f k bt311.1 bt311.2).bind fun bt317 => (if bt315.1 = bt317.1 then (laws_FnDuels.j0 k l0 bt311.1 bt311.2 bt315.1 bt315.2 (bt315.2 != bt317.2)) else (laws_FnDuels.j0 k l0 bt311.1 bt311.2 bt315.1 bt315.2 true))))))) = some r := h
  clear h
  replace H := Option.bind_eq_some_iff.mp H
  obtain ⟨t310, A20, H⟩ := H
  replace H : (if t310 = true then (some true) else ((spec_DrawDuelValue.f k l0).bind fun bt311 => ((impl_DuelValue.f k bt311.1 bt311.2).bind fun bt315 => ((spec_DuelValue.f k bt311.1 bt311.2).bind fun bt317 => (if bt315.1 = bt317.1 then (laws_FnDuels.j0 k l0 bt311.1 bt311.2 bt315.1 bt315.2 (bt315.2 != bt317.2)) else (laws_FnDuels.j0 k l0 bt311.1 bt311.2 bt315.1 bt315.2 true)))))) = some r := H
  have A2 := Aside0.mk A20
  clear A20
  by_cases c3 : t310 = true
  · subst c3
    have H1 : (some true) = some r := by rw [if_pos rfl] at H; exact H
    clear H
    have H := H1
    clear H1
    obtain rfl := Option.some.inj H
    go_enter Try.func3, Try.ntmps3
    go_wp2_with (first | ((with_reducible refine gate_callee (f := 7) rfl ?_); refine goesL_ (some 43) rfl rfl Try.func7 (by kernel_rfl) rfl #[.slice A0 l0.length c0] rfl (by (try simp only [List.map_toArray, List.map_cons, List.map_nil]); first | done | rfl | (simp only [List.length_drop, List.length_take]; rfl)) ?_; (with_reducible refine (laws_rBig.calls _ _ l0 true _ ?side1 ?side2 A2.out).mono ?_); (case side1 => repeat (first | exact HR0.out | (with_reducible refine Kd.C_alloc ?_ _) | (with_reducible refine Kd.C_drewN ?_ _) | (with_reducible refine Kd.C_drew ?_))); (case side2 => exact HC0.out); rintro e w' ⟨rfl, ⟨nd, rfl⟩⟩; refine ⟨_, rfl, ?_⟩))
    go_ret
    exact ⟨by first | rfl | (simp [errW_none, errW_some] <;> rfl) | (simp [*, errW_none, errW_some] <;> rfl), by repeat (first | (with_reducible first | exact HB.out | apply below_alloc | apply pw_below_drewN | apply below_drew1) | exact HB.out)⟩
  · replace c3 := Bool.eq_false_iff.mpr c3
    subst c3
    have H1 : ((spec_DrawDuelValue.f k l0).bind fun bt311 => ((impl_DuelValue.f k bt311.1 bt311.2).bind fun bt315 => ((spec_DuelValue.f k bt311.1 bt311.2).bind fun bt317 => (if bt315.1 = bt317.1 then (laws_FnDuels.j0 k l0 bt311.1 bt311.2 bt315.1 bt315.2 (bt315.2 != bt317.2)) else (laws_FnDuels.j0 k l0 bt311.1 bt311.2 bt315.1 bt315.2 true))))) = some r := by rw [if_neg (show ¬ (false = true) by decide)] at H; exact H
    clear H
    have H := H1
    clear H1
    replace H := Option.bind_eq_some_iff.mp H
    obtain ⟨⟨t311, t312⟩, A40, H⟩ := H
    replace H : ((impl_DuelValue.f k t311 t312).bind fun bt315 => ((spec_DuelValue.f k t311 t312).bind fun bt317 => (if bt315.1 = bt317.1 then (laws_FnDuels.j0 k l0 t311 t312 bt315.1 bt315.2 (bt315.2 != bt317.2)) else (laws_FnDuels.j0 k l0 t311 t312 bt315.1 bt315.2 true)))) = some r := H
    have A4 := Aside0.mk A40
    clear A40
    replace H := Option.bind_eq_some_iff.mp H
    obtain ⟨⟨t315, t316⟩, A50, H⟩ := H
    replace H : ((spec_DuelValue.f k t311 t312).bind fun bt317 => (if t315 = bt317.1 then (laws_FnDuels.j0 k l0 t311 t312 t315 t316 (t316 != bt317.2)) else (laws_FnDuels.j0 k l0 t311 t312 t315 t316 true))) = some r := H
    have A5 := Aside0.mk A50
    clear A50
    replace H := Option.bind_eq_some_iff.mp H
    obtain ⟨⟨t317, t318⟩, A60, H⟩ := H
    replace H : (if t315 = t317 then (laws_FnDuels.j0 k l0 t311 t312 t315 t316 (t316 != t318)) else (laws_FnDuels.j0 k l0 t311 t312 t315 t316 true)) = some r := H
    have A6 := Aside0.mk A60
    clear A60
    have HC7 := Aside0.mk H
    clear H
    go_enter Try.func3, Try.ntmps3
    go_upto_region 6 with (first | ((with_reducible refine gate_callee (f := 7) rfl ?_); refine goesL_ (some 43) rfl rfl Try.func7 (by kernel_rfl) rfl #[.slice A0 l0.length c0] rfl (by (try simp only [List.map_toArray, List.map_cons, List.map_nil]); first | done | rfl | (simp only [List.length_drop, List.length_take]; rfl)) ?_; (with_reducible refine (laws_rBig.calls _ _ l0 false _ ?side1 ?side2 A2.out).mono ?_); (case side1 => repeat (first | exact HR0.out | (with_reducible refine Kd.C_alloc ?_ _) | (with_reducible refine Kd.C_drewN ?_ _) | (with_reducible refine Kd.C_drew ?_))); (case side2 => exact HC0.out); rintro e w' ⟨rfl, ⟨nd, rfl⟩⟩; refine ⟨_, rfl, ?_⟩) | ((with_reducible refine gate_callee (f := 8) rfl ?_); refine goesL_ (some 46) rfl rfl Try.func8 (by kernel_rfl) rfl #[.slice A0 l0.length c0] rfl (by (try simp only [List.map_toArray, List.map_cons, List.map_nil]); first | done | rfl | (simp only [List.length_drop, List.length_take]; rfl)) ?_; (with_reducible refine (spec_DrawDuelValue.calls k _ _ l0 t311 t312 _ ?side1 ?side2 A4.out).mono ?_); (case side1 => repeat (first | exact HR0.out | (with_reducible refine Kd.C_alloc ?_ _) | (with_reducible refine Kd.C_drewN ?_ _) | (with_reducible refine Kd.C_drew ?_))); (case side2 => exact HC0.out); rintro e w8 ⟨v313, rfl, ho0, hb⟩; refine ⟨_, rfl, ?_⟩; have n0_ := Aside0.mk (Kd.R_lower ho0 (below_size (by repeat (first | (with_reducible first | exact HB.out | apply below_alloc | apply pw_below_drewN | apply below_drew1) | exact HB.out)))); have n1_ := Aside0.mk (below_step (by repeat (first | (with_reducible first | exact HB.out | apply below_alloc | apply pw_below_drewN | apply below_drew1) | exact HB.out)) hb); clear HB; have HO314 := n0_; have HB := n1_; clear n0_ n1_; (try clear hb); (try clear hb2); (try clear hk); (try clear hi); (try clear ho0); obtain ⟨Ao9, co9, eo9⟩ := Kd.R_slice HO314.out; subst eo9) | ((with_reducible refine gate_callee (f := 9) rfl ?_); refine goesL_ (some 52) rfl rfl Try.func9 (by kernel_rfl) rfl #[.slice Ao9 t311.length co9, .string t312] rfl (by (try simp only [List.map_toArray, List.map_cons, List.map_nil]); first | done | rfl | (simp only [List.length_drop, List.length_take]; rfl)) ?_; (with_reducible refine (impl_DuelValue.calls k _ _ t311 t312 t315 t316 _ ?side1 ?side2 A5.out).mono ?_); (case side1 => repeat (first | exact (Kd.R_reads' HO314.out).2.2 | (with_reducible refine Kd.C_alloc ?_ _) | (with_reducible refine Kd.C_drewN ?_ _) | (with_reducible refine Kd.C_drew ?_))); (case side2 => exact (Kd.R_reads' HO314.out).2.1); rintro e w10 ⟨rfl, hb⟩; refine ⟨_, rfl, ?_⟩; have n0_ := Aside0.mk (Kd.R_below (by (with_reducible repeat (first | apply Kd.R_alloc | apply Kd.R_drewN | apply Kd.R_drew)); exact HO314.out) hb); have n1_ := Aside0.mk (below_step (by repeat (first | (with_reducible first | exact HB.out | apply below_alloc | apply pw_below_drewN | apply below_drew1) | exact HB.out)) hb); clear HO314; clear HB; have HO314 := n0_; have HB := n1_; clear n0_ n1_; (try clear hb); (try clear hb2); (try clear hk); (try clear hi)) | ((with_reducible refine gate_callee (f := 10) rfl ?_); refine goesL_ (some 58) rfl rfl Try.func10 (by kernel_rfl) rfl #[.slice Ao9 t311.length co9, .string t312] rfl (by (try simp only [List.map_toArray, List.map_cons, List.map_nil]); first | done | rfl | (simp only [List.length_drop, List.length_take]; rfl)) ?_; (with_reducible refine (spec_DuelValue.calls k _ _ t311 t312 t317 t318 _ ?side1 ?side2 A6.out).mono ?_); (case side1 => repeat (first | exact (Kd.R_reads' HO314.out).2.2 | (with_reducible refine Kd.C_alloc ?_ _) | (with_reducible refine Kd.C_drewN ?_ _) | (with_reducible refine Kd.C_drew ?_))); (case side2 => exact (Kd.R_reads' HO314.out).2.1); rintro e w11 ⟨rfl, hb⟩; refine ⟨_, rfl, ?_⟩; have n0_ := Aside0.mk (Kd.R_below (by (with_reducible repeat (first | apply Kd.R_alloc | apply Kd.R_drewN | apply Kd.R_drew)); exact HO314.out) hb); have n1_ := Aside0.mk (below_step (by repeat (first | (with_reducible first | exact HB.out | apply below_alloc | apply pw_below_drewN | apply below_drew1) | exact HB.out)) hb); clear HO314; clear HB; have HO314 := n0_; have HB := n1_; clear n0_ n1_; (try clear hb); (try clear hb2); (try clear hk); (try clear hi)))
    (try simp only [Act.put, List.setIfInBounds_toArray, List.set_cons_zero, List.set_cons_succ])
    go_cut [68] (fun v68 wc => ∃ (kq : Nat) (x68_6 : Bool), v68 = .bool x68_6 ∧ Aside0 (laws_FnDuels.j0 kq l0 t311 t312 t315 t316 x68_6 = some r) ∧ Aside0 (kq ≤ k) ∧ Aside0 (Kd.R (Kd.int .i64) 3 wc w.heap.size (fun _ => True) (.slice Ao9 t311.length co9) t311) ∧ Aside0 (Below w.heap.size w wc))
    case first =>
      have H := HC7.out
      clear HC7
      by_cases c12 : t315 = t317
      · rw [if_pos c12] at H
        have c12b0 : (t315 == t317) = true := beq_iff_eq.mpr c12
        have c12b1 : (t315 != t317) = false := bne_eq_false_iff_eq.mpr c12
        clear c12
        (first | rw [c12b0] | (simp only [i64_w, i32_w]; rw [c12b0]) | skip)
        have H' := Aside0.mk H
        clear H
        go_wp2
        go_meet
        case rel => exact ⟨_, ((t316 != t318)), (by first | rfl | (simp; done) | (simp [*]; done)), H', ⟨by first | omega | exact Nat.le_refl _⟩, ⟨by (with_reducible repeat (first | apply Kd.R_alloc | apply Kd.R_drewN | apply Kd.R_drew)); exact HO314.out⟩, ⟨by repeat (first | (with_reducible first | exact HB.out | apply below_alloc | apply pw_below_drewN | apply below_drew1) | exact HB.out)⟩⟩
      · rw [if_neg c12] at H
        exact (laws_FnDuels.j0_no (hr_.out ▸ H)).elim
    case rest =>
      as_aux_lemma =>
        clear HC7
        try clear c1
        try clear p2
        try clear c3
        try clear c7
        try clear c8
        try clear c9
        try clear c10
        try clear c12
        try clear c12b0
        try clear c12b1
        obtain ⟨kq, x68_6, rfl, HA, HJ6, HO_3, HB⟩ := hcut
        cases kq with
        | zero => exact absurd HA.out (by simp [laws_FnDuels.j0])
        | succ kj6 =>
          have H := HA.out
          clear HA
          simp only [laws_FnDuels.j0] at H
          by_cases c13 : x68_6 = true
          · subst c13
            have H1 : (some false) = some r := by rw [if_pos rfl] at H; exact H
            exact absurd ((Option.some.inj H1).trans hr_.out) Bool.false_ne_true
          · replace c13 := Bool.eq_false_iff.mpr c13
            subst c13
            have H1 : ((impl_BestSigns.f kj6 t311 t312).bind fun bt319 => ((spec_BestSigns.f kj6 t311 t312).bind fun bt321 => (if bt319.1.toList = bt321.1.toList then (if (bt319.2 != bt321.2) = true then (laws_FnDuels.j1 kj6 l0 t311 t312 t315 t316 bt319.1 true) else (laws_FnDuels.j1 kj6 l0 t311 t312 t315 t316 bt319.1 (bt319.2 != t316))) else (laws_FnDuels.j1 kj6 l0 t311 t312 t315 t316 bt319.1 true)))) = some r := by rw [if_neg (show ¬ (false = true) by decide)] at H; exact H
            clear H
            have H := H1
            clear H1
            replace H := Option.bind_eq_some_iff.mp H
            obtain ⟨⟨t319, t320⟩, A140, H⟩ := H
            replace H : ((spec_BestSigns.f kj6 t311 t312).bind fun bt321 => (if t319.toList = bt321.1.toList then (if (t320 != bt321.2) = true then (laws_FnDuels.j1 kj6 l0 t311 t312 t315 t316 t319 true) else (laws_FnDuels.j1 kj6 l0 t311 t312 t315 t316 t319 (t320 != t316))) else (laws_FnDuels.j1 kj6 l0 t311 t312 t315 t316 t319 true))) = some r := H
            have A14 := Aside0.mk A140
            clear A140
            replace H := Option.bind_eq_some_iff.mp H
            obtain ⟨⟨t321, t322⟩, A150, H⟩ := H
            replace H : (if t319.toList = t321.toList then (if (t320 != t322) = true then (laws_FnDuels.j1 kj6 l0 t311 t312 t315 t316 t319 true) else (laws_FnDuels.j1 kj6 l0 t311 t312 t315 t316 t319 (t320 != t316))) else (laws_FnDuels.j1 kj6 l0 t311 t312 t315 t316 t319 true)) = some r := H
            have A15 := Aside0.mk A150
            clear A150
            have HC16 := Aside0.mk H
            clear H
            go_upto_region 10 with (first | ((with_reducible refine gate_callee (f := 11) rfl ?_); refine goesL_ (some 72) rfl rfl Try.func11 (by kernel_rfl) rfl #[.slice Ao9 t311.length co9, .string t312] rfl (by (try simp only [List.map_toArray, List.map_cons, List.map_nil]); first | done | rfl | (simp only [List.length_drop, List.length_take]; rfl)) ?_; (with_reducible refine (impl_BestSigns.calls kj6 _ _ t311 t312 t319 t320 _ ?side1 ?side2 A14.out).mono ?_); (case side1 => repeat (first | exact (Kd.R_reads' HO_3.out).2.2 | (with_reducible refine Kd.C_alloc ?_ _) | (with_reducible refine Kd.C_drewN ?_ _) | (with_reducible refine Kd.C_drew ?_))); (case side2 => exact (Kd.R_reads' HO_3.out).2.1); rintro e w17 ⟨rfl, hb⟩; refine ⟨_, rfl, ?_⟩; have n0_ := Aside0.mk (Kd.R_below (by (with_reducible repeat (first | apply Kd.R_alloc | apply Kd.R_drewN | apply Kd.R_drew)); exact HO_3.out) hb); have n1_ := Aside0.mk (below_step (by repeat (first | (with_reducible first | exact HB.out | apply below_alloc | apply pw_below_drewN | apply below_drew1) | exact HB.out)) hb); clear HO_3; clear HB; have HO_3 := n0_; have HB := n1_; clear n0_ n1_; (try clear hb); (try clear hb2); (try clear hk); (try clear hi)) | ((with_reducible refine gate_callee (f := 12) rfl ?_); refine goesL_ (some 78) rfl rfl Try.func12 (by kernel_rfl) rfl #[.slice Ao9 t311.length co9, .string t312] rfl (by (try simp only [List.map_toArray, List.map_cons, List.map_nil]); first | done | rfl | (simp only [List.length_drop, List.length_take]; rfl)) ?_; (with_reducible refine (spec_BestSigns.calls kj6 _ _ t311 t312 t321 t322 _ ?side1 ?side2 A15.out).mono ?_); (case side1 => repeat (first | exact (Kd.R_reads' HO_3.out).2.2 | (with_reducible refine Kd.C_alloc ?_ _) | (with_reducible refine Kd.C_drewN ?_ _) | (with_reducible refine Kd.C_drew ?_))); (case side2 => exact (Kd.R_reads' HO_3.out).2.1); rintro e w18 ⟨rfl, hb⟩; refine ⟨_, rfl, ?_⟩; have n0_ := Aside0.mk (Kd.R_below (by (with_reducible repeat (first | apply Kd.R_alloc | apply Kd.R_drewN | apply Kd.R_drew)); exact HO_3.out) hb); have n1_ := Aside0.mk (below_step (by repeat (first | (with_reducible first | exact HB.out | apply below_alloc | apply pw_below_drewN | apply below_drew1) | exact HB.out)) hb); clear HO_3; clear HB; have HO_3 := n0_; have HB := n1_; clear n0_ n1_; (try clear hb); (try clear hb2); (try clear hk); (try clear hi)))
            (try simp only [Act.put, List.setIfInBounds_toArray, List.set_cons_zero, List.set_cons_succ])
            go_cut [93] (fun v93 wc => ∃ (kq : Nat) (x93_15 : Bool), v93 = .bool x93_15 ∧ Aside0 (laws_FnDuels.j1 kq l0 t311 t312 t315 t316 t319 x93_15 = some r) ∧ Aside0 (kq ≤ kj6) ∧ Aside0 (Kd.R (Kd.int .i64) 3 wc w.heap.size (fun _ => True) (.slice Ao9 t311.length co9) t311) ∧ Aside0 (Below w.heap.size w wc))
            case first =>
              have H := HC16.out
              clear HC16
              by_cases c19 : t319.toList = t321.toList
              · rw [if_pos c19] at H
                have c19b0 : (t319.toList == t321.toList) = true := beq_iff_eq.mpr c19
                have c19b1 : (t319.toList != t321.toList) = false := bne_eq_false_iff_eq.mpr c19
                clear c19
                (first | rw [c19b0] | (simp only [i64_w, i32_w]; rw [c19b0]) | skip)
                by_cases c20 : (t320 != t322) = true
                · rw [if_pos c20] at H
                  exact (laws_FnDuels.j1_no (hr_.out ▸ H)).elim
                · rw [if_neg c20] at H
                  have c20b0 : (t320 != t322) = false := by simpa using c20
                  (try (have c20b1 : decide (t320 = t322) = true := by simpa using c20))
                  (try (have c20b2 : (t320 == t322) = true := by simpa using c20))
                  clear c20
                  have H' := Aside0.mk H
                  clear H
                  go_wp2
                  go_meet
                  case rel => exact ⟨_, ((t320 != t316)), (by first | rfl | (simp; done) | (simp [*]; done)), H', ⟨by have := HJ6.out; first | omega | exact Nat.le_refl _⟩, ⟨by (with_reducible repeat (first | apply Kd.R_alloc | apply Kd.R_drewN | apply Kd.R_drew)); exact HO_3.out⟩, ⟨by repeat (first | (with_reducible first | exact HB.out | apply below_alloc | apply pw_below_drewN | apply below_drew1) | exact HB.out)⟩⟩
              · rw [if_neg c19] at H
                exact (laws_FnDuels.j1_no (hr_.out ▸ H)).elim
            case rest =>
              as_aux_lemma =>
                clear HC16
                try clear c1
                try clear c2
                try clear p2
                try clear c3
                try clear c7
                try clear c8
                try clear c9
                try clear c10
                try clear c11
                try clear c12
                try clear c12b0
                try clear c12b1
                try clear c13
                try clear c19
                try clear c19b0
                try clear c19b1
                try clear c20
                try clear c20b0
                try clear c20b1
                try clear c20b2
                try clear p2
                obtain ⟨kq, x93_15, rfl, HA, HJ15, HO_3, HB⟩ := hcut
                cases kq with
                | zero => exact absurd HA.out (by simp [laws_FnDuels.j1])
                | succ kj15 =>
                  have H := HA.out
                  clear HA
                  simp only [laws_FnDuels.j1] at H
                  by_cases c21 : x93_15 = true
                  · subst c21
                    have H1 : (some false) = some r := by rw [if_pos rfl] at H; exact H
                    exact absurd ((Option.some.inj H1).trans hr_.out) Bool.false_ne_true
                  · replace c21 := Bool.eq_false_iff.mpr c21
                    subst c21
                    have H1 : ((impl_StackAfter.f kj15 t311 t312).bind fun bt323 => ((spec_StackAfter.f kj15 t311 t312).bind fun bt327 => (if (bt323.2 != bt327.2) = true then (laws_FnDuels.j2 kj15 l0 t311 t312 t315 t316 t319 bt323.1 true) else (if (bt323.2 != t316) = true then (laws_FnDuels.j2 kj15 l0 t311 t312 t315 t316 t319 bt323.1 true) else ((laws_rInts.f kj15 bt323.1 bt327.1).bind fun t331 => (laws_FnDuels.j2 kj15 l0 t311 t312 t315 t316 t319 bt323.1 (!t331))))))) = some r := by rw [if_neg (show ¬ (false = true) by decide)] at H; exact H
                    clear H
                    have H := H1
                    clear H1
                    replace H := Option.bind_eq_some_iff.mp H
                    obtain ⟨⟨t323, t324⟩, A220, H⟩ := H
                    replace H : ((spec_StackAfter.f kj15 t311 t312).bind fun bt327 => (if (t324 != bt327.2) = true then (laws_FnDuels.j2 kj15 l0 t311 t312 t315 t316 t319 t323 true) else (if (t324 != t316) = true then (laws_FnDuels.j2 kj15 l0 t311 t312 t315 t316 t319 t323 true) else ((laws_rInts.f kj15 t323 bt327.1).bind fun t331 => (laws_FnDuels.j2 kj15 l0 t311 t312 t315 t316 t319 t323 (!t331)))))) = some r := H
                    have A22 := Aside0.mk A220
                    clear A220
                    replace H := Option.bind_eq_some_iff.mp H
                    obtain ⟨⟨t327, t328⟩, A230, H⟩ := H
                    replace H : (if (t324 != t328) = true then (laws_FnDuels.j2 kj15 l0 t311 t312 t315 t316 t319 t323 true) else (if (t324 != t316) = true then (laws_FnDuels.j2 kj15 l0 t311 t312 t315 t316 t319 t323 true) else ((laws_rInts.f kj15 t323 t327).bind fun t331 => (laws_FnDuels.j2 kj15 l0 t311 t312 t315 t316 t319 t323 (!t331))))) = some r := H
                    have A23 := Aside0.mk A230
                    clear A230
                    have HC24 := Aside0.mk H
                    clear H
                    go_upto_region 14 with (first | ((with_reducible refine gate_callee (f := 13) rfl ?_); refine goesL_ (some 97) rfl rfl Try.func13 (by kernel_rfl) rfl #[.slice Ao9 t311.length co9, .string t312] rfl (by (try simp only [List.map_toArray, List.map_cons, List.map_nil]); first | done | rfl | (simp only [List.length_drop, List.length_take]; rfl)) ?_; (with_reducible refine (impl_StackAfter.calls kj15 _ _ t311 t312 t323 t324 _ ?side1 ?side2 A22.out).mono ?_); (case side1 => repeat (first | exact (Kd.R_reads' HO_3.out).2.2 | (with_reducible refine Kd.C_alloc ?_ _) | (with_reducible refine Kd.C_drewN ?_ _) | (with_reducible refine Kd.C_drew ?_))); (case side2 => exact (Kd.R_reads' HO_3.out).2.1); rintro e w25 ⟨v325, rfl, ho0, hb⟩; refine ⟨_, rfl, ?_⟩; have n0_ := Aside0.mk (Kd.R_elder' (by (with_reducible repeat (first | apply Kd.R_alloc | apply Kd.R_drewN | apply Kd.R_drew)); exact HO_3.out) (Kd.R_base ho0) hb); have n1_ := Aside0.mk (Kd.R_lower (Kd.R_new' ho0 (Kd.R_lt (by (with_reducible repeat (first | apply Kd.R_alloc | apply Kd.R_drewN | apply Kd.R_drew)); exact HO_3.out))) (below_size (by repeat (first | (with_reducible first | exact HB.out | apply below_alloc | apply pw_below_drewN | apply below_drew1) | exact HB.out)))); have n2_ := Aside0.mk (below_step (by repeat (first | (with_reducible first | exact HB.out | apply below_alloc | apply pw_below_drewN | apply below_drew1) | exact HB.out)) hb); clear HO_3; clear HB; have HO_3 := n0_; have HO326 := n1_; have HB := n2_; clear n0_ n1_ n2_; (try clear hb); (try clear hb2); (try clear hk); (try clear hi); (try clear ho0)) | ((with_reducible refine gate_callee (f := 14) rfl ?_); refine goesL_ (some 103) rfl rfl Try.func14 (by kernel_rfl) rfl #[.slice Ao9 t311.length co9, .string t312] rfl (by (try simp only [List.map_toArray, List.map_cons, List.map_nil]); first | done | rfl | (simp only [List.length_drop, List.length_take]; rfl)) ?_; (with_reducible refine (spec_StackAfter.calls kj15 _ _ t311 t312 t327 t328 _ ?side1 ?side2 A23.out).mono ?_); (case side1 => repeat (first | exact (Kd.R_reads' HO_3.out).2.2 | (with_reducible refine Kd.C_alloc ?_ _) | (with_reducible refine Kd.C_drewN ?_ _) | (with_reducible refine Kd.C_drew ?_))); (case side2 => exact (Kd.R_reads' HO_3.out).2.1); rintro e w26 ⟨v329, rfl, ho0, hb⟩; refine ⟨_, rfl, ?_⟩; have n0_ := Aside0.mk (Kd.R_elder' (by (with_reducible repeat (first | apply Kd.R_alloc | apply Kd.R_drewN | apply Kd.R_drew)); exact HO_3.out) (Kd.R_base ho0) hb); have n1_ := Aside0.mk (Kd.R_elder' (by (with_reducible repeat (first | apply Kd.R_alloc | apply Kd.R_drewN | apply Kd.R_drew)); exact HO326.out) (Kd.R_base ho0) hb); have n2_ := Aside0.mk (Kd.R_lower (Kd.R_new' (Kd.R_new' ho0 (Kd.R_lt (by (with_reducible repeat (first | apply Kd.R_alloc | apply Kd.R_drewN | apply Kd.R_drew)); exact HO_3.out))) (Kd.R_lt (by (with_reducible repeat (first | apply Kd.R_alloc | apply Kd.R_drewN | apply Kd.R_drew)); exact HO326.out))) (below_size (by repeat (first | (with_reducible first | exact HB.out | apply below_alloc | apply pw_below_drewN | apply below_drew1) | exact HB.out)))); have n3_ := Aside0.mk (below_step (by repeat (first | (with_reducible first | exact HB.out | apply below_alloc | apply pw_below_drewN | apply below_drew1) | exact HB.out)) hb); clear HO_3; clear HO326; clear HB; have HO_3 := n0_; have HO326 := n1_; have HO330 := n2_; have HB := n3_; clear n0_ n1_ n2_ n3_; (try clear hb); (try clear hb2); (try clear hk); (try clear hi); (try clear ho0)))
                    (try simp only [Act.put, List.setIfInBounds_toArray, List.set_cons_zero, List.set_cons_succ])
                    go_cut [119] (fun v119 wc => ∃ (kq : Nat) (x119_23 : Bool), v119 = .bool x119_23 ∧ Aside0 (laws_FnDuels.j2 kq l0 t311 t312 t315 t316 t319 t323 x119_23 = some r) ∧ Aside0 (kq ≤ kj15) ∧ Aside0 (Kd.R (Kd.int .i64) 3 wc w.heap.size (fun k_ => some k_ ≠ (v325 : Value).ownBlock) (.slice Ao9 t311.length co9) t311) ∧ Aside0 (Kd.R (Kd.int .i64) 3 wc w.heap.size (fun k_ => some k_ ≠ ((.slice Ao9 t311.length co9) : Value).ownBlock) v325 t323) ∧ Aside0 (Below w.heap.size w wc))
                    case first =>
                      have H := HC24.out
                      clear HC24
                      by_cases c27 : (t324 != t328) = true
                      · rw [if_pos c27] at H
                        exact (laws_FnDuels.j2_no (hr_.out ▸ H)).elim
                      · rw [if_neg c27] at H
                        have c27b0 : (t324 != t328) = false := by simpa using c27
                        (try (have c27b1 : decide (t324 = t328) = true := by simpa using c27))
                        (try (have c27b2 : (t324 == t328) = true := by simpa using c27))
                        clear c27
                        (first | rw [c27b0] | (simp only [i64_w, i32_w]; rw [c27b0]) | skip)
                        by_cases c28 : (t324 != t316) = true
                        · rw [if_pos c28] at H
                          exact (laws_FnDuels.j2_no (hr_.out ▸ H)).elim
                        · rw [if_neg c28] at H
                          have c28b0 : (t324 != t316) = false := by simpa using c28
                          (try (have c28b1 : decide (t324 = t316) = true := by simpa using c28))
                          (try (have c28b2 : (t324 == t316) = true := by simpa using c28))
                          clear c28
                          replace H := Option.bind_eq_some_iff.mp H
                          obtain ⟨t331, A290, H⟩ := H
                          replace H : (laws_FnDuels.j2 kj15 l0 t311 t312 t315 t316 t319 t323 (!t331)) = some r := H
                          have A29 := Aside0.mk A290
                          clear A290
                          have H' := Aside0.mk H
                          clear H
                          obtain ⟨Ao30, co30, eo30⟩ := Kd.R_slice HO326.out
                          subst eo30
                          obtain ⟨Ao31, co31, eo31⟩ := Kd.R_slice HO330.out
                          subst eo31
                          go_wp2_with (first | (go_at_call 15; (with_reducible refine (laws_rInts.calls kj15 _ _ t323 _ _ t327 t331 _ ?side1 ?side2 ?side3 ?side4 A29.out).mono ?_); (case side1 => repeat (first | exact (Kd.R_reads' HO326.out).2.2 | (with_reducible refine Kd.C_alloc ?_ _) | (with_reducible refine Kd.C_drewN ?_ _) | (with_reducible refine Kd.C_drew ?_))); (case side2 => exact (Kd.R_reads' HO326.out).2.1); (case side3 => repeat (first | exact (Kd.R_reads' HO330.out).2.2 | (with_reducible refine Kd.C_alloc ?_ _) | (with_reducible refine Kd.C_drewN ?_ _) | (with_reducible refine Kd.C_drew ?_))); (case side4 => exact (Kd.R_reads' HO330.out).2.1); rintro e w' ⟨rfl, ⟨nd, rfl⟩⟩))
                          go_meet
                          case rel => exact ⟨_, (!t331), (by first | rfl | (simp; done) | (simp [*]; done)), H', ⟨by have := HJ6.out; have := HJ15.out; first | omega | exact Nat.le_refl _⟩, ⟨by (with_reducible repeat (first | apply Kd.R_alloc | apply Kd.R_drewN | apply Kd.R_drew)); exact Kd.R_mono HO_3.out (fun _ hk => hk.1.2)⟩, ⟨by (with_reducible repeat (first | apply Kd.R_alloc | apply Kd.R_drewN | apply Kd.R_drew)); exact Kd.R_mono HO326.out (fun _ hk => hk.1.2)⟩, ⟨by repeat (first | (with_reducible first | exact HB.out | apply below_alloc | apply pw_below_drewN | apply below_drew1) | exact HB.out)⟩⟩
                    case rest =>
                      as_aux_lemma =>
                        clear HC24
                        try clear c1
                        try clear c2
                        try clear p2
                        try clear c3
                        try clear c7
                        try clear c8
                        try clear c9
                        try clear c10
                        try clear c11
                        try clear c12
                        try clear c12b0
                        try clear c12b1
                        try clear c13
                        try clear c14
                        try clear c19
                        try clear c19b0
                        try clear c19b1
                        try clear c20
                        try clear c20b0
                        try clear c20b1
                        try clear c20b2
                        try clear c21
                        try clear c27
                        try clear c27b0
                        try clear c27b1
                        try clear c27b2
                        try clear c28
                        try clear c28b0
                        try clear c28b1
                        try clear c28b2
                        try clear p2
                        obtain ⟨kq, x119_23, rfl, HA, HJ23, HO_3, HO_13, HB⟩ := hcut
                        cases kq with
                        | zero => exact absurd HA.out (by simp [laws_FnDuels.j2])
                        | succ kj23 =>
                          have H := HA.out
                          clear HA
                          simp only [laws_FnDuels.j2] at H
                          by_cases c32 : x119_23 = true
                          · subst c32
                            have H1 : (some false) = some r := by rw [if_pos rfl] at H; exact H
                            exact absurd ((Option.some.inj H1).trans hr_.out) Bool.false_ne_true
                          · replace c32 := Bool.eq_false_iff.mpr c32
                            subst c32
                            have H1 : ((impl_WorstSign.f kj23 t311 t312).bind fun bt332 => ((spec_WorstSign.f kj23 t311 t312).bind fun bt335 => (if bt332.1.toList = bt335.1.toList then (if bt332.2.1 = bt335.2.1 then (if (bt332.2.2 != bt335.2.2) = true then (laws_FnDuels.j3 kj23 l0 t311 t312 t315 t316 t319 t323 bt332.1 bt332.2.1 true) else (if t316 = true then (if (bt332.2.2 != (decide ((t312.size : Int) < (wrap64 (2 * (t311.length : Int)))))) = true then (laws_FnDuels.j3 kj23 l0 t311 t312 t315 t316 t319 t323 bt332.1 bt332.2.1 true) else (laws_FnDuels.j3 kj23 l0 t311 t312 t315 t316 t319 t323 bt332.1 bt332.2.1 (decide (bt332.2.1 < 0)))) else (if (bt332.2.2 != false) = true then (laws_FnDuels.j3 kj23 l0 t311 t312 t315 t316 t319 t323 bt332.1 bt332.2.1 true) else (laws_FnDuels.j3 kj23 l0 t311 t312 t315 t316 t319 t323 bt332.1 bt332.2.1 (decide (bt332.2.1 < 0)))))) else (laws_FnDuels.j3 kj23 l0 t311 t312 t315 t316 t319 t323 bt332.1 bt332.2.1 true)) else (laws_FnDuels.j3 kj23 l0 t311 t312 t315 t316 t319 t323 bt332.1 bt332.2.1 true)))) = some r := by rw [if_neg (show ¬ (false = true) by decide)] at H; exact H
                            clear H
                            have H := H1
                            clear H1
                            replace H := Option.bind_eq_some_iff.mp H
                            obtain ⟨⟨t332, t333, t334⟩, A330, H⟩ := H
                            replace H : ((spec_WorstSign.f kj23 t311 t312).bind fun bt335 => (if t332.toList = bt335.1.toList then (if t333 = bt335.2.1 then (if (t334 != bt335.2.2) = true then (laws_FnDuels.j3 kj23 l0 t311 t312 t315 t316 t319 t323 t332 t333 true) else (if t316 = true then (if (t334 != (decide ((t312.size : Int) < (wrap64 (2 * (t311.length : Int)))))) = true then (laws_FnDuels.j3 kj23 l0 t311 t312 t315 t316 t319 t323 t332 t333 true) else (laws_FnDuels.j3 kj23 l0 t311 t312 t315 t316 t319 t323 t332 t333 (decide (t333 < 0)))) else (if (t334 != false) = true then (laws_FnDuels.j3 kj23 l0 t311 t312 t315 t316 t319 t323 t332 t333 true) else (laws_FnDuels.j3 kj23 l0 t311 t312 t315 t316 t319 t323 t332 t333 (decide (t333 < 0)))))) else (laws_FnDuels.j3 kj23 l0 t311 t312 t315 t316 t319 t323 t332 t333 true)) else (laws_FnDuels.j3 kj23 l0 t311 t312 t315 t316 t319 t323 t332 t333 true))) = some r := H
                            have A33 := Aside0.mk A330
                            clear A330
                            replace H := Option.bind_eq_some_iff.mp H
                            obtain ⟨⟨t335, t336, t337⟩, A340, H⟩ := H
                            replace H : (if t332.toList = t335.toList then (if t333 = t336 then (if (t334 != t337) = true then (laws_FnDuels.j3 kj23 l0 t311 t312 t315 t316 t319 t323 t332 t333 true) else (if t316 = true then (if (t334 != (decide ((t312.size : Int) < (wrap64 (2 * (t311.length : Int)))))) = true then (laws_FnDuels.j3 kj23 l0 t311 t312 t315 t316 t319 t323 t332 t333 true) else (laws_FnDuels.j3 kj23 l0 t311 t312 t315 t316 t319 t323 t332 t333 (decide (t333 < 0)))) else (if (t334 != false) = true then (laws_FnDuels.j3 kj23 l0 t311 t312 t315 t316 t319 t323 t332 t333 true) else (laws_FnDuels.j3 kj23 l0 t311 t312 t315 t316 t319 t323 t332 t333 (decide (t333 < 0)))))) else (laws_FnDuels.j3 kj23 l0 t311 t312 t315 t316 t319 t323 t332 t333 true)) else (laws_FnDuels.j3 kj23 l0 t311 t312 t315 t316 t319 t323 t332 t333 true)) = some r := H
                            have A34 := Aside0.mk A340
                            clear A340
                            have HC35 := Aside0.mk H
                            clear H
                            go_upto_region 18 with (first | ((with_reducible refine gate_callee (f := 16) rfl ?_); refine goesL_ (some 123) rfl rfl Try.func16 (by kernel_rfl) rfl #[.slice Ao9 t311.length co9, .string t312] rfl (by (try simp only [List.map_toArray, List.map_cons, List.map_nil]); first | done | rfl | (simp only [List.length_drop, List.length_take]; rfl)) ?_; (with_reducible refine (impl_WorstSign.calls kj23 _ _ t311 t312 t332 t333 t334 _ ?side1 ?side2 A33.out).mono ?_); (case side1 => repeat (first | exact (Kd.R_reads' HO_3.out).2.2 | (with_reducible refine Kd.C_alloc ?_ _) | (with_reducible refine Kd.C_drewN ?_ _) | (with_reducible refine Kd.C_drew ?_))); (case side2 => exact (Kd.R_reads' HO_3.out).2.1); rintro e w36 ⟨rfl, hb⟩; refine ⟨_, rfl, ?_⟩; have n0_ := Aside0.mk (Kd.R_below (by (with_reducible repeat (first | apply Kd.R_alloc | apply Kd.R_drewN | apply Kd.R_drew)); exact HO_3.out) hb); have n1_ := Aside0.mk (Kd.R_below (by (with_reducible repeat (first | apply Kd.R_alloc | apply Kd.R_drewN | apply Kd.R_drew)); exact HO_13.out) hb); have n2_ := Aside0.mk (below_step (by repeat (first | (with_reducible first | exact HB.out | apply below_alloc | apply pw_below_drewN | apply below_drew1) | exact HB.out)) hb); clear HO_3; clear HO_13; clear HB; have HO_3 := n0_; have HO_13 := n1_; have HB := n2_; clear n0_ n1_ n2_; (try clear hb); (try clear hb2); (try clear hk); (try clear hi)) | ((with_reducible refine gate_callee (f := 17) rfl ?_); refine goesL_ (some 130) rfl rfl Try.func17 (by kernel_rfl) rfl #[.slice Ao9 t311.length co9, .string t312] rfl (by (try simp only [List.map_toArray, List.map_cons, List.map_nil]); first | done | rfl | (simp only [List.length_drop, List.length_take]; rfl)) ?_; (with_reducible refine (spec_WorstSign.calls kj23 _ _ t311 t312 t335 t336 t337 _ ?side1 ?side2 A34.out).mono ?_); (case side1 => repeat (first | exact (Kd.R_reads' HO_3.out).2.2 | (with_reducible refine Kd.C_alloc ?_ _) | (with_reducible refine Kd.C_drewN ?_ _) | (with_reducible refine Kd.C_drew ?_))); (case side2 => exact (Kd.R_reads' HO_3.out).2.1); rintro e w37 ⟨rfl, hb⟩; refine ⟨_, rfl, ?_⟩; have n0_ := Aside0.mk (Kd.R_below (by (with_reducible repeat (first | apply Kd.R_alloc | apply Kd.R_drewN | apply Kd.R_drew)); exact HO_3.out) hb); have n1_ := Aside0.mk (Kd.R_below (by (with_reducible repeat (first | apply Kd.R_alloc | apply Kd.R_drewN | apply Kd.R_drew)); exact HO_13.out) hb); have n2_ := Aside0.mk (below_step (by repeat (first | (with_reducible first | exact HB.out | apply below_alloc | apply pw_below_drewN | apply below_drew1) | exact HB.out)) hb); clear HO_3; clear HO_13; clear HB; have HO_3 := n0_; have HO_13 := n1_; have HB := n2_; clear n0_ n1_ n2_; (try clear hb); (try clear hb2); (try clear hk); (try clear hi)))
                            (try simp only [Act.put, List.setIfInBounds_toArray, List.set_cons_zero, List.set_cons_succ])
                            go_cut [163] (fun v163 wc => ∃ (kq : Nat) (x163_34 : Bool), v163 = .bool x163_34 ∧ Aside0 (laws_FnDuels.j3 kq l0 t311 t312 t315 t316 t319 t323 t332 t333 x163_34 = some r) ∧ Aside0 (kq ≤ kj23) ∧ Aside0 (Kd.R (Kd.int .i64) 3 wc w.heap.size (fun k_ => some k_ ≠ (v325 : Value).ownBlock) (.slice Ao9 t311.length co9) t311) ∧ Aside0 (Kd.R (Kd.int .i64) 3 wc w.heap.size (fun k_ => some k_ ≠ ((.slice Ao9 t311.length co9) : Value).ownBlock) v325 t323) ∧ Aside0 (Below w.heap.size w wc))
                            case first =>
                              have H := HC35.out
                              clear HC35
                              by_cases c38 : t332.toList = t335.toList
                              · rw [if_pos c38] at H
                                have c38b0 : (t332.toList == t335.toList) = true := beq_iff_eq.mpr c38
                                have c38b1 : (t332.toList != t335.toList) = false := bne_eq_false_iff_eq.mpr c38
                                clear c38
                                (first | rw [c38b0] | (simp only [i64_w, i32_w]; rw [c38b0]) | skip)
                                by_cases c39 : t333 = t336
                                · rw [if_pos c39] at H
                                  have c39b0 : (t333 == t336) = true := beq_iff_eq.mpr c39
                                  have c39b1 : (t333 != t336) = false := bne_eq_false_iff_eq.mpr c39
                                  clear c39
                                  by_cases c40 : (t334 != t337) = true
                                  · rw [if_pos c40] at H
                                    exact (laws_FnDuels.j3_no (hr_.out ▸ H)).elim
                                  · rw [if_neg c40] at H
                                    have c40b0 : (t334 != t337) = false := by simpa using c40
                                    (try (have c40b1 : decide (t334 = t337) = true := by simpa using c40))
                                    (try (have c40b2 : (t334 == t337) = true := by simpa using c40))
                                    clear c40
                                    by_cases c41 : t316 = true
                                    · subst c41
                                      have H1 : (if (t334 != (decide ((t312.size : Int) < (wrap64 (2 * (t311.length : Int)))))) = true then (laws_FnDuels.j3 kj23 l0 t311 t312 t315 true t319 t323 t332 t333 true) else (laws_FnDuels.j3 kj23 l0 t311 t312 t315 true t319 t323 t332 t333 (decide (t333 < 0)))) = some r := by rw [if_pos rfl] at H; exact H
                                      clear H
                                      have H := H1
                                      clear H1
                                      by_cases c42 : (t334 != (decide ((t312.size : Int) < (wrap64 (2 * (t311.length : Int)))))) = true
                                      · rw [if_pos c42] at H
                                        exact (laws_FnDuels.j3_no (hr_.out ▸ H)).elim
                                      · rw [if_neg c42] at H
                                        have c42b0 : (t334 != (decide ((t312.size : Int) < (wrap64 (2 * (t311.length : Int)))))) = false := by simpa using c42
                                        (try (have c42b1 : decide (t334 = (decide ((t312.size : Int) < (wrap64 (2 * (t311.length : Int)))))) = true := by simpa using c42))
                                        (try (have c42b2 : (t334 == (decide ((t312.size : Int) < (wrap64 (2 * (t311.length : Int)))))) = true := by simpa using c42))
                                        clear c42
                                        have H' := Aside0.mk H
                                        clear H
                                        go_wp2
                                        go_meet
                                        case rel => exact ⟨_, (decide (t333 < 0)), (by first | rfl | (simp; done) | (simp [*]; done)), H', ⟨by have := HJ6.out; have := HJ15.out; have := HJ23.out; first | omega | exact Nat.le_refl _⟩, ⟨by (with_reducible repeat (first | apply Kd.R_alloc | apply Kd.R_drewN | apply Kd.R_drew)); exact HO_3.out⟩, ⟨by (with_reducible repeat (first | apply Kd.R_alloc | apply Kd.R_drewN | apply Kd.R_drew)); exact HO_13.out⟩, ⟨by repeat (first | (with_reducible first | exact HB.out | apply below_alloc | apply pw_below_drewN | apply below_drew1) | exact HB.out)⟩⟩
                                    · replace c41 := Bool.eq_false_iff.mpr c41
                                      subst c41
                                      have H1 : (if (t334 != false) = true then (laws_FnDuels.j3 kj23 l0 t311 t312 t315 false t319 t323 t332 t333 true) else (laws_FnDuels.j3 kj23 l0 t311 t312 t315 false t319 t323 t332 t333 (decide (t333 < 0)))) = some r := by rw [if_neg (show ¬ (false = true) by decide)] at H; exact H
                                      clear H
                                      have H := H1
                                      clear H1
                                      by_cases c43 : (t334 != false) = true
                                      · rw [if_pos c43] at H
                                        exact (laws_FnDuels.j3_no (hr_.out ▸ H)).elim
                                      · rw [if_neg c43] at H
                                        have c43b0 : (t334 != false) = false := by simpa using c43
                                        (try (have c43b1 : decide (t334 = false) = true := by simpa using c43))
                                        (try (have c43b2 : (t334 == false) = true := by simpa using c43))
                                        clear c43
                                        have H' := Aside0.mk H
                                        clear H
                                        go_wp2
                                        go_meet
                                        case rel => exact ⟨_, (decide (t333 < 0)), (by first | rfl | (simp; done) | (simp [*]; done)), H', ⟨by have := HJ6.out; have := HJ15.out; have := HJ23.out; first | omega | exact Nat.le_refl _⟩, ⟨by (with_reducible repeat (first | apply Kd.R_alloc | apply Kd.R_drewN | apply Kd.R_drew)); exact HO_3.out⟩, ⟨by (with_reducible repeat (first | apply Kd.R_alloc | apply Kd.R_drewN | apply Kd.R_drew)); exact HO_13.out⟩, ⟨by repeat (first | (with_reducible first | exact HB.out | apply below_alloc | apply pw_below_drewN | apply below_drew1) | exact HB.out)⟩⟩
                                · rw [if_neg c39] at H
                                  exact (laws_FnDuels.j3_no (hr_.out ▸ H)).elim
                              · rw [if_neg c38] at H
                                exact (laws_FnDuels.j3_no (hr_.out ▸ H)).elim
                            case rest =>
                              as_aux_lemma =>
                                clear HC35
                                try clear c1
                                try clear c2
                                try clear p2
                                try clear c3
                                try clear c4
                                try clear p6
                                try clear c7
                                try clear c8
                                try clear c9
                                try clear c10
                                try clear c11
                                try clear c12
                                try clear c12b0
                                try clear c12b1
                                try clear c13
                                try clear c14
                                try clear c16
                                try clear c17
                                try clear c19
                                try clear c19b0
                                try clear c19b1
                                try clear c20
                                try clear c20b0
                                try clear c20b1
                                try clear c20b2
                                try clear c21
                                try clear c27
                                try clear c27b0
                                try clear c27b1
                                try clear c27b2
                                try clear c28
                                try clear c28b0
                                try clear c28b1
                                try clear c28b2
                                try clear c32
                                try clear c38
                                try clear c38b0
                                try clear c38b1
                                try clear c39
                                try clear c39b0
                                try clear c39b1
                                try clear c40
                                try clear c40b0
                                try clear c40b1
                                try clear c40b2
                                try clear c41
                                try clear c42
                                try clear c42b0
                                try clear c42b1
                                try clear c42b2
                                try clear c43
                                try clear c43b0
                                try clear c43b1
                                try clear c43b2
                                try clear p2
                                obtain ⟨kq, x163_34, rfl, HA, HJ34, HO_3, HO_13, HB⟩ := hcut
                                cases kq with
                                | zero => exact absurd HA.out (by simp [laws_FnDuels.j3])
                                | succ kj34 =>
                                  have H := HA.out
                                  clear HA
                                  simp only [laws_FnDuels.j3] at H
                                  by_cases c44 : x163_34 = true
                                  · subst c44
                                    have H1 : (some false) = some r := by rw [if_pos rfl] at H; exact H
                                    exact absurd ((Option.some.inj H1).trans hr_.out) Bool.false_ne_true
                                  · replace c44 := Bool.eq_false_iff.mpr c44
                                    subst c44
                                    have H1 : ((spec_DrawNextSigns.f kj34 l0).bind fun bt338 => ((impl_NextSigns.f kj34 bt338.1 bt338.2).bind fun bt340 => ((spec_NextSigns.f kj34 bt338.1 bt338.2).bind fun bt342 => (if bt340.1.toList = bt342.1.toList then (if (bt340.2 != bt342.2) = true then (laws_FnDuels.j4 kj34 t311 t312 t315 t316 t319 t323 t332 t333 true) else ((impl_IsBeginning.f kj34 bt338.1 bt338.2).bind fun t344 => (laws_FnDuels.j4 kj34 t311 t312 t315 t316 t319 t323 t332 t333 (bt340.2 != t344)))) else (laws_FnDuels.j4 kj34 t311 t312 t315 t316 t319 t323 t332 t333 true))))) = some r := by rw [if_neg (show ¬ (false = true) by decide)] at H; exact H
                                    clear H
                                    have H := H1
                                    clear H1
                                    replace H := Option.bind_eq_some_iff.mp H
                                    obtain ⟨⟨t338, t339⟩, A450, H⟩ := H
                                    replace H : ((impl_NextSigns.f kj34 t338 t339).bind fun bt340 => ((spec_NextSigns.f kj34 t338 t339).bind fun bt342 => (if bt340.1.toList = bt342.1.toList then (if (bt340.2 != bt342.2) = true then (laws_FnDuels.j4 kj34 t311 t312 t315 t316 t319 t323 t332 t333 true) else ((impl_IsBeginning.f kj34 t338 t339).bind fun t344 => (laws_FnDuels.j4 kj34 t311 t312 t315 t316 t319 t323 t332 t333 (bt340.2 != t344)))) else (laws_FnDuels.j4 kj34 t311 t312 t315 t316 t319 t323 t332 t333 true)))) = some r := H
                                    have A45 := Aside0.mk A450
                                    clear A450
                                    replace H := Option.bind_eq_some_iff.mp H
                                    obtain ⟨⟨t340, t341⟩, A460, H⟩ := H
                                    replace H : ((spec_NextSigns.f kj34 t338 t339).bind fun bt342 => (if t340.toList = bt342.1.toList then (if (t341 != bt342.2) = true then (laws_FnDuels.j4 kj34 t311 t312 t315 t316 t319 t323 t332 t333 true) else ((impl_IsBeginning.f kj34 t338 t339).bind fun t344 => (laws_FnDuels.j4 kj34 t311 t312 t315 t316 t319 t323 t332 t333 (t341 != t344)))) else (laws_FnDuels.j4 kj34 t311 t312 t315 t316 t319 t323 t332 t333 true))) = some r := H
                                    have A46 := Aside0.mk A460
                                    clear A460
                                    replace H := Option.bind_eq_some_iff.mp H
                                    obtain ⟨⟨t342, t343⟩, A470, H⟩ := H
                                    replace H : (if t340.toList = t342.toList then (if (t341 != t343) = true then (laws_FnDuels.j4 kj34 t311 t312 t315 t316 t319 t323 t332 t333 true) else ((impl_IsBeginning.f kj34 t338 t339).bind fun t344 => (laws_FnDuels.j4 kj34 t311 t312 t315 t316 t319 t323 t332 t333 (t341 != t344)))) else (laws_FnDuels.j4 kj34 t311 t312 t315 t316 t319 t323 t332 t333 true)) = some r := H
                                    have A47 := Aside0.mk A470
                                    clear A470
                                    have HC48 := Aside0.mk H
                                    clear H
                                    go_upto_region 23 with (first | ((with_reducible refine gate_callee (f := 18) rfl ?_); refine goesL_ (some 166) rfl rfl Try.func18 (by kernel_rfl) rfl #[.slice A0 l0.length c0] rfl (by (try simp only [List.map_toArray, List.map_cons, List.map_nil]); first | done | rfl | (simp only [List.length_drop, List.length_take]; rfl)) ?_; (with_reducible refine (spec_DrawNextSigns.calls kj34 _ _ l0 t338 t339 _ ?side1 ?side2 A45.out).mono ?_); (case side1 => repeat (first | exact (Kd.C_below HR0.out HB.out) | (with_reducible refine Kd.C_alloc ?_ _) | (with_reducible refine Kd.C_drewN ?_ _) | (with_reducible refine Kd.C_drew ?_))); (case side2 => exact HC0.out); rintro e w49 ⟨rfl, hb⟩; refine ⟨_, rfl, ?_⟩; have n0_ := Aside0.mk (Kd.R_below (by (with_reducible repeat (first | apply Kd.R_alloc | apply Kd.R_drewN | apply Kd.R_drew)); exact HO_3.out) hb); have n1_ := Aside0.mk (Kd.R_below (by (with_reducible repeat (first | apply Kd.R_alloc | apply Kd.R_drewN | apply Kd.R_drew)); exact HO_13.out) hb); have n2_ := Aside0.mk (below_step (by repeat (first | (with_reducible first | exact HB.out | apply below_alloc | apply pw_below_drewN | apply below_drew1) | exact HB.out)) hb); clear HO_3; clear HO_13; clear HB; have HO_3 := n0_; have HO_13 := n1_; have HB := n2_; clear n0_ n1_ n2_; (try clear hb); (try clear hb2); (try clear hk); (try clear hi)) | ((with_reducible refine gate_callee (f := 19) rfl ?_); refine goesL_ (some 172) rfl rfl Try.func19 (by kernel_rfl) rfl #[.int .i64 t338, .string t339] rfl (by (try simp only [List.map_toArray, List.map_cons, List.map_nil]); first | done | rfl | (simp only [List.length_drop, List.length_take]; rfl)) ?_; (with_reducible refine (impl_NextSigns.calls kj34 t338 t339 t340 t341 _ A46.out).mono ?_); rintro e w50 ⟨rfl, hb⟩; refine ⟨_, rfl, ?_⟩; have n0_ := Aside0.mk (Kd.R_below (by (with_reducible repeat (first | apply Kd.R_alloc | apply Kd.R_drewN | apply Kd.R_drew)); exact HO_3.out) hb); have n1_ := Aside0.mk (Kd.R_below (by (with_reducible repeat (first | apply Kd.R_alloc | apply Kd.R_drewN | apply Kd.R_drew)); exact HO_13.out) hb); have n2_ := Aside0.mk (below_step (by repeat (first | (with_reducible first | exact HB.out | apply below_alloc | apply pw_below_drewN | apply below_drew1) | exact HB.out)) hb); clear HO_3; clear HO_13; clear HB; have HO_3 := n0_; have HO_13 := n1_; have HB := n2_; clear n0_ n1_ n2_; (try clear hb); (try clear hb2); (try clear hk); (try clear hi)) | ((with_reducible refine gate_callee (f := 20) rfl ?_); refine goesL_ (some 178) rfl rfl Try.func20 (by kernel_rfl) rfl #[.int .i64 t338, .string t339] rfl (by (try simp only [List.map_toArray, List.map_cons, List.map_nil]); first | done | rfl | (simp only [List.length_drop, List.length_take]; rfl)) ?_; (with_reducible refine (spec_NextSigns.calls kj34 t338 t339 t342 t343 _ A47.out).mono ?_); rintro e w' ⟨rfl, ⟨nd, rfl⟩⟩; refine ⟨_, rfl, ?_⟩))
                                    (try simp only [Act.put, List.setIfInBounds_toArray, List.set_cons_zero, List.set_cons_succ])
                                    go_cut [195] (fun v195 wc => ∃ (kq : Nat) (x195_47 : Bool), v195 = .bool x195_47 ∧ Aside0 (laws_FnDuels.j4 kq t311 t312 t315 t316 t319 t323 t332 t333 x195_47 = some r) ∧ Aside0 (kq ≤ kj34) ∧ Aside0 (Kd.R (Kd.int .i64) 3 wc w.heap.size (fun k_ => some k_ ≠ (v325 : Value).ownBlock) (.slice Ao9 t311.length co9) t311) ∧ Aside0 (Kd.R (Kd.int .i64) 3 wc w.heap.size (fun k_ => some k_ ≠ ((.slice Ao9 t311.length co9) : Value).ownBlock) v325 t323) ∧ Aside0 (Below w.heap.size w wc))
                                    case first =>
                                      have H := HC48.out
                                      clear HC48
                                      by_cases c51 : t340.toList = t342.toList
                                      · rw [if_pos c51] at H
                                        have c51b0 : (t340.toList == t342.toList) = true := beq_iff_eq.mpr c51
                                        have c51b1 : (t340.toList != t342.toList) = false := bne_eq_false_iff_eq.mpr c51
                                        clear c51
                                        (first | rw [c51b0] | (simp only [i64_w, i32_w]; rw [c51b0]) | skip)
                                        by_cases c52 : (t341 != t343) = true
                                        · rw [if_pos c52] at H
                                          exact (laws_FnDuels.j4_no (hr_.out ▸ H)).elim
                                        · rw [if_neg c52] at H
                                          have c52b0 : (t341 != t343) = false := by simpa using c52
                                          (try (have c52b1 : decide (t341 = t343) = true := by simpa using c52))
                                          (try (have c52b2 : (t341 == t343) = true := by simpa using c52))
                                          clear c52
                                          replace H := Option.bind_eq_some_iff.mp H
                                          obtain ⟨t344, A530, H⟩ := H
                                          replace H : (laws_FnDuels.j4 kj34 t311 t312 t315 t316 t319 t323 t332 t333 (t341 != t344)) = some r := H
                                          have A53 := Aside0.mk A530
                                          clear A530
                                          have H' := Aside0.mk H
                                          clear H
                                          go_wp2_with (first | (go_at_call 21; (with_reducible refine (impl_IsBeginning.calls kj34 t338 t339 t344 _ A53.out).mono ?_); rintro e w' ⟨rfl, ⟨nd, rfl⟩⟩))
                                          go_meet
                                          case rel => exact ⟨_, ((t341 != t344)), (by first | rfl | (simp; done) | (simp [*]; done)), H', ⟨by have := HJ6.out; have := HJ15.out; have := HJ23.out; have := HJ34.out; first | omega | exact Nat.le_refl _⟩, ⟨by (with_reducible repeat (first | apply Kd.R_alloc | apply Kd.R_drewN | apply Kd.R_drew)); exact HO_3.out⟩, ⟨by (with_reducible repeat (first | apply Kd.R_alloc | apply Kd.R_drewN | apply Kd.R_drew)); exact HO_13.out⟩, ⟨by repeat (first | (with_reducible first | exact HB.out | apply below_alloc | apply pw_below_drewN | apply below_drew1) | exact HB.out)⟩⟩
                                      · rw [if_neg c51] at H
                                        exact (laws_FnDuels.j4_no (hr_.out ▸ H)).elim
                                    case rest =>
                                      as_aux_lemma =>
                                        clear HC48
                                        try clear c1
                                        try clear c2
                                        try clear p2
                                        try clear c3
                                        try clear c4
                                        try clear c5
                                        try clear p6
                                        try clear c7
                                        try clear c8
                                        try clear c9
                                        try clear c10
                                        try clear c11
                                        try clear c12
                                        try clear c12b0
                                        try clear c12b1
                                        try clear c13
                                        try clear c14
                                        try clear c16
                                        try clear c17
                                        try clear c18
                                        try clear c19
                                        try clear c19b0
                                        try clear c19b1
                                        try clear c20
                                        try clear c20b0
                                        try clear c20b1
                                        try clear c20b2
                                        try clear c21
                                        try clear c27
                                        try clear c27b0
                                        try clear c27b1
                                        try clear c27b2
                                        try clear c28
                                        try clear c28b0
                                        try clear c28b1
                                        try clear c28b2
                                        try clear c32
                                        try clear c38
                                        try clear c38b0
                                        try clear c38b1
                                        try clear c39
                                        try clear c39b0
                                        try clear c39b1
                                        try clear c40
                                        try clear c40b0
                                        try clear c40b1
                                        try clear c40b2
                                        try clear c41
                                        try clear c42
                                        try clear c42b0
                                        try clear c42b1
                                        try clear c42b2
                                        try clear c43
                                        try clear c43b0
                                        try clear c43b1
                                        try clear c43b2
                                        try clear c44
                                        try clear c51
                                        try clear c51b0
                                        try clear c51b1
                                        try clear c52
                                        try clear c52b0
                                        try clear c52b1
                                        try clear c52b2
                                        try clear p2
                                        try clear p6
                                        obtain ⟨kq, x195_47, rfl, HA, HJ47, HO_3, HO_13, HB⟩ := hcut
                                        cases kq with
                                        | zero => exact absurd HA.out (by simp [laws_FnDuels.j4])
                                        | succ kj47 =>
                                          have H := HA.out
                                          clear HA
                                          simp only [laws_FnDuels.j4] at H
                                          by_cases c54 : x195_47 = true
                                          · subst c54
                                            have H1 : (some false) = some r := by rw [if_pos rfl] at H; exact H
                                            exact absurd ((Option.some.inj H1).trans hr_.out) Bool.false_ne_true
                                          · replace c54 := Bool.eq_false_iff.mpr c54
                                            subst c54
                                            have H1 : ((impl_ScoresOf.f kj47 t311 t312).bind fun bt345 => ((spec_ScoresOf.f kj47 t311 t312).bind fun bt349 => (if (!(bt345.1 == bt349.1) || (!(bt345.2.1 == bt349.2.1))) = true then (laws_FnDuels.j5 kj47 t311 t312 t315 t316 t319 t323 t332 t333 true) else (if (bt345.2.2 != bt349.2.2) = true then (laws_FnDuels.j5 kj47 t311 t312 t315 t316 t319 t323 t332 t333 true) else (laws_FnDuels.j5 kj47 t311 t312 t315 t316 t319 t323 t332 t333 (bt345.2.2 != t316)))))) = some r := by rw [if_neg (show ¬ (false = true) by decide)] at H; exact H
                                            clear H
                                            have H := H1
                                            clear H1
                                            replace H := Option.bind_eq_some_iff.mp H
                                            obtain ⟨⟨t345, t346, t347⟩, A550, H⟩ := H
                                            replace H : ((spec_ScoresOf.f kj47 t311 t312).bind fun bt349 => (if (!(t345 == bt349.1) || (!(t346 == bt349.2.1))) = true then (laws_FnDuels.j5 kj47 t311 t312 t315 t316 t319 t323 t332 t333 true) else (if (t347 != bt349.2.2) = true then (laws_FnDuels.j5 kj47 t311 t312 t315 t316 t319 t323 t332 t333 true) else (laws_FnDuels.j5 kj47 t311 t312 t315 t316 t319 t323 t332 t333 (t347 != t316))))) = some r := H
                                            have A55 := Aside0.mk A550
                                            clear A550
                                            replace H := Option.bind_eq_some_iff.mp H
                                            obtain ⟨⟨t349, t350, t351⟩, A560, H⟩ := H
                                            replace H : (if (!(t345 == t349) || (!(t346 == t350))) = true then (laws_FnDuels.j5 kj47 t311 t312 t315 t316 t319 t323 t332 t333 true) else (if (t347 != t351) = true then (laws_FnDuels.j5 kj47 t311 t312 t315 t316 t319 t323 t332 t333 true) else (laws_FnDuels.j5 kj47 t311 t312 t315 t316 t319 t323 t332 t333 (t347 != t316)))) = some r := H
                                            have A56 := Aside0.mk A560
                                            clear A560
                                            have HC57 := Aside0.mk H
                                            clear H
                                            go_upto_region 27 with (first | ((with_reducible refine gate_callee (f := 22) rfl ?_); refine goesL_ (some 199) rfl rfl Try.func22 (by kernel_rfl) rfl #[.slice Ao9 t311.length co9, .string t312] rfl (by (try simp only [List.map_toArray, List.map_cons, List.map_nil]); first | done | rfl | (simp only [List.length_drop, List.length_take]; rfl)) ?_; (with_reducible refine (impl_ScoresOf.calls kj47 _ _ t311 t312 t345 t346 t347 _ ?side1 ?side2 A55.out).mono ?_); (case side1 => repeat (first | exact (Kd.R_reads' HO_3.out).2.2 | (with_reducible refine Kd.C_alloc ?_ _) | (with_reducible refine Kd.C_drewN ?_ _) | (with_reducible refine Kd.C_drew ?_))); (case side2 => exact (Kd.R_reads' HO_3.out).2.1); rintro e w58 ⟨rfl, hb⟩; refine ⟨_, rfl, ?_⟩; have n0_ := Aside0.mk (Kd.R_below (by (with_reducible repeat (first | apply Kd.R_alloc | apply Kd.R_drewN | apply Kd.R_drew)); exact HO_3.out) hb); have n1_ := Aside0.mk (Kd.R_below (by (with_reducible repeat (first | apply Kd.R_alloc | apply Kd.R_drewN | apply Kd.R_drew)); exact HO_13.out) hb); have n2_ := Aside0.mk (below_step (by repeat (first | (with_reducible first | exact HB.out | apply below_alloc | apply pw_below_drewN | apply below_drew1) | exact HB.out)) hb); clear HO_3; clear HO_13; clear HB; have HO_3 := n0_; have HO_13 := n1_; have HB := n2_; clear n0_ n1_ n2_; (try clear hb); (try clear hb2); (try clear hk); (try clear hi)) | ((with_reducible refine gate_dst (N := 29) rfl ?_); (try (refine gate_guard (by rfl) ?_; dsimp only)); refine box_event ?hg (N := 29) ?hd (cs := #[.int .i64 0, .int .i64 0]) (t := 40) ?hr ?_; (case hd => rfl); (case hg => rfl); (case hr => first | (go_simp; done) | (go_simp; rfl)); intro gb348 hg w59 hbox hb; have n0_ := Aside0.mk (Kd.R_below (by (with_reducible repeat (first | apply Kd.R_alloc | apply Kd.R_drewN | apply Kd.R_drew)); exact HO_3.out) hb); have n1_ := Aside0.mk (Kd.R_below (by (with_reducible repeat (first | apply Kd.R_alloc | apply Kd.R_drewN | apply Kd.R_drew)); exact HO_13.out) hb); have n2_ := Aside0.mk (below_step (by repeat (first | (with_reducible first | exact HB.out | apply below_alloc | apply pw_below_drewN | apply below_drew1) | exact HB.out)) hb); have n3_ := Aside0.mk (hbox); have n4_ := Aside0.mk ((by rw [hg]; exact (below_size (by repeat (first | (with_reducible first | exact HB.out | apply below_alloc | apply pw_below_drewN | apply below_drew1) | exact HB.out))) : w.heap.size ≤ gb348)); have n5_ := Aside0.mk ((by rw [hg]; exact (below_size (by repeat (first | (with_reducible first | exact HB.out | apply below_alloc | apply pw_below_drewN | apply below_drew1) | exact HB.out))) : w.heap.size ≤ gb348)); clear HO_3; clear HO_13; clear HB; have HO_3 := n0_; have HO_13 := n1_; have HB := n2_; have BK348 := n3_; have GW348 := n4_; have GE348 := n5_; clear n0_ n1_ n2_ n3_ n4_ n5_; clear hb hbox hg; have hcz60_0 : w59.cell? ⟨gb348, 0, none⟩ = some (.int .i64 0) := (blk_cell BK348.out 0).trans rfl; have hcz60_1 : w59.cell? ⟨gb348, 1, none⟩ = some (.int .i64 0) := (blk_cell BK348.out 1).trans rfl; have hfz60_0 := blk_frozen BK348.out 0; have hfz60_1 := blk_frozen BK348.out 1) | ((with_reducible refine gate_callee (f := 23) rfl ?_); refine goesL_ (some 205) rfl rfl Try.func23 (by kernel_rfl) rfl #[.slice Ao9 t311.length co9, .string t312] rfl (by (try simp only [List.map_toArray, List.map_cons, List.map_nil]); first | done | rfl | (simp only [List.length_drop, List.length_take]; rfl)) ?_; (with_reducible refine (spec_ScoresOf.calls kj47 _ _ t311 t312 t349 t350 t351 _ ?side1 ?side2 A56.out).mono ?_); (case side1 => refine (Kd.R_reads' (e := 3) (base := w.heap.size) (ok := fun k_ => some k_ ≠ (v325 : Value).ownBlock) (n := t311.length) (c := co9) ?_).2.2; exact (by (with_reducible repeat (first | apply Kd.R_alloc | apply Kd.R_drewN | apply Kd.R_drew)); exact (Kd.R_mono (Kd.R_far (p := ⟨gb348, 1, none⟩) (Kd.R_far (p := ⟨gb348, 0, none⟩) (Kd.R_types HO_3.out BK348.out (by decide)) (fun _ hk => hk.2) (.int .i64 t345)) (fun _ hk => hk.2) (.int .i64 t346)) (fun _ h_ => h_.1)))); (case side2 => exact (Kd.R_reads' HO_3.out).2.1); rintro e w61 ⟨rfl, hb⟩; refine ⟨_, rfl, ?_⟩; have n0_ := Aside0.mk (Kd.R_below (by (with_reducible repeat (first | apply Kd.R_alloc | apply Kd.R_drewN | apply Kd.R_drew)); exact (Kd.R_mono (Kd.R_far (p := ⟨gb348, 1, none⟩) (Kd.R_far (p := ⟨gb348, 0, none⟩) (Kd.R_types HO_3.out BK348.out (by decide)) (fun _ hk => hk.2) (.int .i64 t345)) (fun _ hk => hk.2) (.int .i64 t346)) (fun _ h_ => h_.1))) hb); have n1_ := Aside0.mk (Kd.R_below (by (with_reducible repeat (first | apply Kd.R_alloc | apply Kd.R_drewN | apply Kd.R_drew)); exact (Kd.R_mono (Kd.R_far (p := ⟨gb348, 1, none⟩) (Kd.R_far (p := ⟨gb348, 0, none⟩) (Kd.R_types HO_13.out BK348.out (by decide)) (fun _ hk => hk.2) (.int .i64 t345)) (fun _ hk => hk.2) (.int .i64 t346)) (fun _ h_ => h_.1))) hb); have n2_ := Aside0.mk (blk_below (g := gb348) (o := .cells #[.int .i64 t345, .int .i64 t346] 40 (0, 0)) (by (with_reducible repeat (first | refine blk_drewN ?_ _ | refine blk_drew ?_ | refine blk_alloc ?_ _)); refine blk_put (cs := #[.int .i64 t345, .int .i64 0]) ?_ 1 _ rfl; (with_reducible repeat (first | refine blk_drewN ?_ _ | refine blk_drew ?_ | refine blk_alloc ?_ _)); refine blk_put (cs := #[.int .i64 0, .int .i64 0]) ?_ 0 _ rfl; (with_reducible repeat (first | refine blk_drewN ?_ _ | refine blk_drew ?_ | refine blk_alloc ?_ _)); exact BK348.out) hb); have n3_ := Aside0.mk (below_step (by repeat (first | (with_reducible first | exact HB.out | apply below_alloc | apply pw_below_drewN | apply below_drew1 | refine below_set ?_ GE348.out) | exact HB.out)) hb); clear HO_3; clear HO_13; clear BK348; clear HB; have HO_3 := n0_; have HO_13 := n1_; have BK348 := n2_; have HB := n3_; clear n0_ n1_ n2_ n3_; (try clear hb); (try clear hb2); (try clear hk); (try clear hi)) | ((with_reducible refine gate_dst (N := 31) rfl ?_); (try (refine gate_guard (by rfl) ?_; dsimp only)); refine box_event ?hg (N := 31) ?hd (cs := #[.int .i64 0, .int .i64 0]) (t := 40) ?hr ?_; (case hd => rfl); (case hg => rfl); (case hr => first | (go_simp; done) | (go_simp; rfl)); intro gb352 hg w62 hbox hb; have n0_ := Aside0.mk (Kd.R_below (by (with_reducible repeat (first | apply Kd.R_alloc | apply Kd.R_drewN | apply Kd.R_drew)); exact HO_3.out) hb); have n1_ := Aside0.mk (Kd.R_below (by (with_reducible repeat (first | apply Kd.R_alloc | apply Kd.R_drewN | apply Kd.R_drew)); exact HO_13.out) hb); have n2_ := Aside0.mk (blk_below (g := gb348) (o := .cells #[.int .i64 t345, .int .i64 t346] 40 (0, 0)) (by (with_reducible repeat (first | refine blk_drewN ?_ _ | refine blk_drew ?_ | refine blk_alloc ?_ _)); exact BK348.out) hb); have n3_ := Aside0.mk (below_step (by repeat (first | (with_reducible first | exact HB.out | apply below_alloc | apply pw_below_drewN | apply below_drew1 | refine below_set ?_ GE348.out) | exact HB.out)) hb); have n4_ := Aside0.mk (hbox); have n5_ := Aside0.mk ((by rw [hg]; exact (below_size (by repeat (first | (with_reducible first | exact HB.out | apply below_alloc | apply pw_below_drewN | apply below_drew1 | refine below_set ?_ GE348.out) | exact HB.out))) : w.heap.size ≤ gb352)); have n6_ := Aside0.mk ((by rw [hg]; exact (below_size (by repeat (first | (with_reducible first | exact HB.out | apply below_alloc | apply pw_below_drewN | apply below_drew1 | refine below_set ?_ GE348.out) | exact HB.out))) : w.heap.size ≤ gb352)); have n7_ := Aside0.mk ((by rw [hg]; exact Nat.ne_of_lt (blk_lt (g := gb348) (o := .cells #[.int .i64 t345, .int .i64 t346] 40 (0, 0)) (by (with_reducible repeat (first | refine blk_drewN ?_ _ | refine blk_drew ?_ | refine blk_alloc ?_ _)); exact BK348.out)) : gb348 ≠ gb352)); have n8_ := Aside0.mk ((by rw [hg]; exact Nat.ne_of_gt (blk_lt (g := gb348) (o := .cells #[.int .i64 t345, .int .i64 t346] 40 (0, 0)) (by (with_reducible repeat (first | refine blk_drewN ?_ _ | refine blk_drew ?_ | refine blk_alloc ?_ _)); exact BK348.out)) : gb352 ≠ gb348)); clear HO_3; clear HO_13; clear BK348; clear HB; have HO_3 := n0_; have HO_13 := n1_; have BK348 := n2_; have HB := n3_; have BK352 := n4_; have GW352 := n5_; have GE352 := n6_; have NB348_352 := n7_; have NB352_348 := n8_; clear n0_ n1_ n2_ n3_ n4_ n5_ n6_ n7_ n8_; clear hb hbox hg; have hnb63 := NB352_348.out; have hnc63 := NB348_352.out; have hcz64_0 : w62.cell? ⟨gb352, 0, none⟩ = some (.int .i64 0) := (blk_cell BK352.out 0).trans rfl; have hcz64_1 : w62.cell? ⟨gb352, 1, none⟩ = some (.int .i64 0) := (blk_cell BK352.out 1).trans rfl; have hfz64_0 := blk_frozen BK352.out 0; have hfz64_1 := blk_frozen BK352.out 1))
                                            (try simp only [Act.put, List.setIfInBounds_toArray, List.set_cons_zero, List.set_cons_succ])
                                            go_cut [220] (fun v220 wc => ∃ (kq : Nat) (x220_56 : Bool), v220 = .bool x220_56 ∧ Aside0 (laws_FnDuels.j5 kq t311 t312 t315 t316 t319 t323 t332 t333 x220_56 = some r) ∧ Aside0 (kq ≤ kj47) ∧ Aside0 (Kd.R (Kd.int .i64) 3 wc w.heap.size (fun k_ => some k_ ≠ (v325 : Value).ownBlock) (.slice Ao9 t311.length co9) t311) ∧ Aside0 (Kd.R (Kd.int .i64) 3 wc w.heap.size (fun k_ => some k_ ≠ ((.slice Ao9 t311.length co9) : Value).ownBlock) v325 t323) ∧ Aside0 (wc.heap[gb348]? = some (.cells #[.int .i64 t345, .int .i64 t346] 40 (0, 0))) ∧ Aside0 (wc.heap[gb352]? = some (.cells #[.int .i64 t349, .int .i64 t350] 40 (0, 0))) ∧ Aside0 (Below w.heap.size w wc))
                                            case first =>
                                              have H := HC57.out
                                              clear HC57
                                              by_cases c65 : (!(t345 == t349) || (!(t346 == t350))) = true
                                              · rw [if_pos c65] at H
                                                exact (laws_FnDuels.j5_no (hr_.out ▸ H)).elim
                                              · rw [if_neg c65] at H
                                                have c65b0 : (!(t345 == t349) || (!(t346 == t350))) = false := by simpa using c65
                                                clear c65
                                                (first | rw [c65b0] | (simp only [i64_w, i32_w]; rw [c65b0]) | skip)
                                                by_cases c69 : (t347 != t351) = true
                                                · rw [if_pos c69] at H
                                                  exact (laws_FnDuels.j5_no (hr_.out ▸ H)).elim
                                                · rw [if_neg c69] at H
                                                  have c69b0 : (t347 != t351) = false := by simpa using c69
                                                  (try (have c69b1 : decide (t347 = t351) = true := by simpa using c69))
                                                  (try (have c69b2 : (t347 == t351) = true := by simpa using c69))
                                                  clear c69
                                                  have H' := Aside0.mk H
                                                  clear H
                                                  have hnb73 := NB348_352.out
                                                  have hnc73 := NB352_348.out
                                                  have hcz74_0 : w62.cell? ⟨gb348, 0, none⟩ = some (.int .i64 t345) := (blk_cell BK348.out 0).trans rfl
                                                  have hcz74_1 : w62.cell? ⟨gb348, 1, none⟩ = some (.int .i64 t346) := (blk_cell BK348.out 1).trans rfl
                                                  have hfz74_0 := blk_frozen BK348.out 0
                                                  have hfz74_1 := blk_frozen BK348.out 1
                                                  have hcz75_0 : w62.cell? ⟨gb352, 0, none⟩ = some (.int .i64 0) := (blk_cell BK352.out 0).trans rfl
                                                  have hcz75_1 : w62.cell? ⟨gb352, 1, none⟩ = some (.int .i64 0) := (blk_cell BK352.out 1).trans rfl
                                                  have hfz75_0 := blk_frozen BK352.out 0
                                                  have hfz75_1 := blk_frozen BK352.out 1
                                                  go_wp2
                                                  go_meet
                                                  case rel => exact ⟨_, ((t347 != t316)), (by first | rfl | (simp; done) | (simp [*]; done)), H', ⟨by have := HJ6.out; have := HJ15.out; have := HJ23.out; have := HJ34.out; have := HJ47.out; first | omega | exact Nat.le_refl _⟩, ⟨by (with_reducible repeat (first | apply Kd.R_alloc | apply Kd.R_drewN | apply Kd.R_drew)); exact Kd.R_mono (Kd.R_far (p := ⟨gb352, 1, none⟩) (Kd.R_far (p := ⟨gb352, 0, none⟩) (Kd.R_types HO_3.out BK352.out (by decide)) (fun _ hk => hk.2) (.int .i64 t349)) (fun _ hk => hk.2) (.int .i64 t350)) (fun _ hk => hk.1)⟩, ⟨by (with_reducible repeat (first | apply Kd.R_alloc | apply Kd.R_drewN | apply Kd.R_drew)); exact Kd.R_mono (Kd.R_far (p := ⟨gb352, 1, none⟩) (Kd.R_far (p := ⟨gb352, 0, none⟩) (Kd.R_types HO_13.out BK352.out (by decide)) (fun _ hk => hk.2) (.int .i64 t349)) (fun _ hk => hk.2) (.int .i64 t350)) (fun _ hk => hk.1)⟩, ⟨by (with_reducible repeat (first | refine blk_drewN ?_ _ | refine blk_drew ?_ | refine blk_alloc ?_ _)); refine blk_far ?_ NB348_352.out _; (with_reducible repeat (first | refine blk_drewN ?_ _ | refine blk_drew ?_ | refine blk_alloc ?_ _)); refine blk_far ?_ NB348_352.out _; (with_reducible repeat (first | refine blk_drewN ?_ _ | refine blk_drew ?_ | refine blk_alloc ?_ _)); exact BK348.out⟩, ⟨by (with_reducible repeat (first | refine blk_drewN ?_ _ | refine blk_drew ?_ | refine blk_alloc ?_ _)); refine blk_put (cs := #[.int .i64 t349, .int .i64 0]) ?_ 1 _ rfl; (with_reducible repeat (first | refine blk_drewN ?_ _ | refine blk_drew ?_ | refine blk_alloc ?_ _)); refine blk_put (cs := #[.int .i64 0, .int .i64 0]) ?_ 0 _ rfl; (with_reducible repeat (first | refine blk_drewN ?_ _ | refine blk_drew ?_ | refine blk_alloc ?_ _)); exact BK352.out⟩, ⟨by repeat (first | (with_reducible first | exact HB.out | apply below_alloc | apply pw_below_drewN | apply below_drew1 | refine below_set ?_ GE348.out | refine below_set ?_ GE352.out) | exact HB.out)⟩⟩
                                            case rest =>
                                              as_aux_lemma =>
                                                clear HC57
                                                try clear c1
                                                try clear c2
                                                try clear p2
                                                try clear c3
                                                try clear c4
                                                try clear c5
                                                try clear c6
                                                try clear p6
                                                try clear c7
                                                try clear c8
                                                try clear c9
                                                try clear c10
                                                try clear c11
                                                try clear c12
                                                try clear c12b0
                                                try clear c12b1
                                                try clear c13
                                                try clear c14
                                                try clear c16
                                                try clear c17
                                                try clear c18
                                                try clear c19
                                                try clear c19b0
                                                try clear c19b1
                                                try clear c20
                                                try clear c20b0
                                                try clear c20b1
                                                try clear c20b2
                                                try clear c21
                                                try clear c22
                                                try clear c23
                                                try clear c27
                                                try clear c27b0
                                                try clear c27b1
                                                try clear c27b2
                                                try clear c28
                                                try clear c28b0
                                                try clear c28b1
                                                try clear c28b2
                                                try clear c32
                                                try clear c38
                                                try clear c38b0
                                                try clear c38b1
                                                try clear c39
                                                try clear c39b0
                                                try clear c39b1
                                                try clear c40
                                                try clear c40b0
                                                try clear c40b1
                                                try clear c40b2
                                                try clear c41
                                                try clear c42
                                                try clear c42b0
                                                try clear c42b1
                                                try clear c42b2
                                                try clear c43
                                                try clear c43b0
                                                try clear c43b1
                                                try clear c43b2
                                                try clear c44
                                                try clear c51
                                                try clear c51b0
                                                try clear c51b1
                                                try clear c52
                                                try clear c52b0
                                                try clear c52b1
                                                try clear c52b2
                                                try clear c54
                                                try clear c63
                                                try clear p64
                                                try clear c65
                                                try clear c65b0
                                                try clear c66
                                                try clear c69
                                                try clear c69b0
                                                try clear c69b1
                                                try clear c69b2
                                                try clear c70
                                                try clear c73
                                                try clear hcz60_0
                                                try clear hcz60_1
                                                try clear hcz64_0
                                                try clear hcz64_1
                                                try clear hcz67_0
                                                try clear hcz67_1
                                                try clear hcz68_0
                                                try clear hcz68_1
                                                try clear hcz71_0
                                                try clear hcz71_1
                                                try clear hcz72_0
                                                try clear hcz72_1
                                                try clear hcz74_0
                                                try clear hcz74_1
                                                try clear hcz75_0
                                                try clear hcz75_1
                                                try clear hfz60_0
                                                try clear hfz60_1
                                                try clear hfz64_0
                                                try clear hfz64_1
                                                try clear hfz67_0
                                                try clear hfz67_1
                                                try clear hfz68_0
                                                try clear hfz68_1
                                                try clear hfz71_0
                                                try clear hfz71_1
                                                try clear hfz72_0
                                                try clear hfz72_1
                                                try clear hfz74_0
                                                try clear hfz74_1
                                                try clear hfz75_0
                                                try clear hfz75_1
                                                try clear p2
                                                try clear p6
                                                obtain ⟨kq, x220_56, rfl, HA, HJ56, HO_3, HO_13, BK348, BK352, HB⟩ := hcut
                                                cases kq with
                                                | zero => exact absurd HA.out (by simp [laws_FnDuels.j5])
                                                | succ kj56 =>
                                                  have H := HA.out
                                                  clear HA
                                                  simp only [laws_FnDuels.j5] at H
                                                  by_cases c76 : x220_56 = true
                                                  · subst c76
                                                    have H1 : (some false) = some r := by rw [if_pos rfl] at H; exact H
                                                    exact absurd ((Option.some.inj H1).trans hr_.out) Bool.false_ne_true
                                                  · replace c76 := Bool.eq_false_iff.mpr c76
                                                    subst c76
                                                    have H1 : (if t316 = true then ((impl_NextSigns.f kj56 (t311.length : Int) t312).bind fun bt353 => (if bt353.2 = true then (if (((bt353.1.size : Int) == 0) != ((t319.size : Int) == 0)) = true then (laws_FnDuels.j6 kj56 t311 t312 t315 t319 t323 t332 t333 bt353.1 true) else (laws_FnDuels.j6 kj56 t311 t312 t315 t319 t323 t332 t333 bt353.1 (decide ((t319.size : Int) > (bt353.1.size : Int))))) else (laws_FnDuels.j6 kj56 t311 t312 t315 t319 t323 t332 t333 bt353.1 true))) else (some true)) = some r := by rw [if_neg (show ¬ (false = true) by decide)] at H; exact H
                                                    clear H
                                                    have H := H1
                                                    clear H1
                                                    by_cases c77 : t316 = true
                                                    · subst c77
                                                      have H1 : ((impl_NextSigns.f kj56 (t311.length : Int) t312).bind fun bt353 => (if bt353.2 = true then (if (((bt353.1.size : Int) == 0) != ((t319.size : Int) == 0)) = true then (laws_FnDuels.j6 kj56 t311 t312 t315 t319 t323 t332 t333 bt353.1 true) else (laws_FnDuels.j6 kj56 t311 t312 t315 t319 t323 t332 t333 bt353.1 (decide ((t319.size : Int) > (bt353.1.size : Int))))) else (laws_FnDuels.j6 kj56 t311 t312 t315 t319 t323 t332 t333 bt353.1 true))) = some r := by rw [if_pos rfl] at H; exact H
                                                      clear H
                                                      have H := H1
                                                      clear H1
                                                      replace H := Option.bind_eq_some_iff.mp H
                                                      obtain ⟨⟨t353, t354⟩, A780, H⟩ := H
                                                      replace H : (if t354 = true then (if (((t353.size : Int) == 0) != ((t319.size : Int) == 0)) = true then (laws_FnDuels.j6 kj56 t311 t312 t315 t319 t323 t332 t333 t353 true) else (laws_FnDuels.j6 kj56 t311 t312 t315 t319 t323 t332 t333 t353 (decide ((t319.size : Int) > (t353.size : Int))))) else (laws_FnDuels.j6 kj56 t311 t312 t315 t319 t323 t332 t333 t353 true)) = some r := H
                                                      have A78 := Aside0.mk A780
                                                      clear A780
                                                      have HC79 := Aside0.mk H
                                                      clear H
                                                      go_upto_region 32 with (first | ((with_reducible refine gate_callee (f := 19) rfl ?_); refine goesL_ (some 227) rfl rfl Try.func19 (by kernel_rfl) rfl #[.int .i64 (t311.length : Int), .string t312] rfl (by (try simp only [List.map_toArray, List.map_cons, List.map_nil]); first | done | rfl | (simp only [List.length_drop, List.length_take]; rfl)) ?_; (with_reducible refine (impl_NextSigns.calls kj56 (t311.length : Int) t312 t353 t354 _ A78.out).mono ?_); rintro e w80 ⟨rfl, hb⟩; refine ⟨_, rfl, ?_⟩; have n0_ := Aside0.mk (Kd.R_below (by (with_reducible repeat (first | apply Kd.R_alloc | apply Kd.R_drewN | apply Kd.R_drew)); exact HO_3.out) hb); have n1_ := Aside0.mk (Kd.R_below (by (with_reducible repeat (first | apply Kd.R_alloc | apply Kd.R_drewN | apply Kd.R_drew)); exact HO_13.out) hb); have n2_ := Aside0.mk (blk_below (g := gb348) (o := .cells #[.int .i64 t345, .int .i64 t346] 40 (0, 0)) (by (with_reducible repeat (first | refine blk_drewN ?_ _ | refine blk_drew ?_ | refine blk_alloc ?_ _)); exact BK348.out) hb); have n3_ := Aside0.mk (blk_below (g := gb352) (o := .cells #[.int .i64 t349, .int .i64 t350] 40 (0, 0)) (by (with_reducible repeat (first | refine blk_drewN ?_ _ | refine blk_drew ?_ | refine blk_alloc ?_ _)); exact BK352.out) hb); have n4_ := Aside0.mk (below_step (by repeat (first | (with_reducible first | exact HB.out | apply below_alloc | apply pw_below_drewN | apply below_drew1 | refine below_set ?_ GE348.out | refine below_set ?_ GE352.out) | exact HB.out)) hb); clear HO_3; clear HO_13; clear BK348; clear BK352; clear HB; have HO_3 := n0_; have HO_13 := n1_; have BK348 := n2_; have BK352 := n3_; have HB := n4_; clear n0_ n1_ n2_ n3_ n4_; (try clear hb); (try clear hb2); (try clear hk); (try clear hi)))
                                                      (try simp only [Act.put, List.setIfInBounds_toArray, List.set_cons_zero, List.set_cons_succ])
                                                      go_cut [247] (fun v247 wc => ∃ (kq : Nat) (x247_78 : Bool), v247 = .bool x247_78 ∧ Aside0 (laws_FnDuels.j6 kq t311 t312 t315 t319 t323 t332 t333 t353 x247_78 = some r) ∧ Aside0 (kq ≤ kj56) ∧ Aside0 (Kd.R (Kd.int .i64) 3 wc w.heap.size (fun k_ => some k_ ≠ (v325 : Value).ownBlock) (.slice Ao9 t311.length co9) t311) ∧ Aside0 (Kd.R (Kd.int .i64) 3 wc w.heap.size (fun k_ => some k_ ≠ ((.slice Ao9 t311.length co9) : Value).ownBlock) v325 t323) ∧ Aside0 (wc.heap[gb348]? = some (.cells #[.int .i64 t345, .int .i64 t346] 40 (0, 0))) ∧ Aside0 (wc.heap[gb352]? = some (.cells #[.int .i64 t349, .int .i64 t350] 40 (0, 0))) ∧ Aside0 (Below w.heap.size w wc))
                                                      case first =>
                                                        have H := HC79.out
                                                        clear HC79
                                                        by_cases c81 : t354 = true
                                                        · subst c81
                                                          have H1 : (if (((t353.size : Int) == 0) != ((t319.size : Int) == 0)) = true then (laws_FnDuels.j6 kj56 t311 t312 t315 t319 t323 t332 t333 t353 true) else (laws_FnDuels.j6 kj56 t311 t312 t315 t319 t323 t332 t333 t353 (decide ((t319.size : Int) > (t353.size : Int))))) = some r := by rw [if_pos rfl] at H; exact H
                                                          clear H
                                                          have H := H1
                                                          clear H1
                                                          by_cases c82 : (((t353.size : Int) == 0) != ((t319.size : Int) == 0)) = true
                                                          · rw [if_pos c82] at H
                                                            exact (laws_FnDuels.j6_no (hr_.out ▸ H)).elim
                                                          · rw [if_neg c82] at H
                                                            have c82b0 : (((t353.size : Int) == 0) != ((t319.size : Int) == 0)) = false := by simpa using c82
                                                            (try (have c82b1 : decide (((t353.size : Int) == 0) = ((t319.size : Int) == 0)) = true := by simpa using c82))
                                                            (try (have c82b2 : (((t353.size : Int) == 0) == ((t319.size : Int) == 0)) = true := by simpa using c82))
                                                            clear c82
                                                            (first | rw [c82b0] | (simp only [i64_w, i32_w]; rw [c82b0]) | skip)
                                                            have H' := Aside0.mk H
                                                            clear H
                                                            go_wp2
                                                            go_meet
                                                            case rel => exact ⟨_, (decide ((t319.size : Int) > (t353.size : Int))), (by first | rfl | (simp; done) | (simp [*]; done)), H', ⟨by have := HJ6.out; have := HJ15.out; have := HJ23.out; have := HJ34.out; have := HJ47.out; have := HJ56.out; first | omega | exact Nat.le_refl _⟩, ⟨by (with_reducible repeat (first | apply Kd.R_alloc | apply Kd.R_drewN | apply Kd.R_drew)); exact HO_3.out⟩, ⟨by (with_reducible repeat (first | apply Kd.R_alloc | apply Kd.R_drewN | apply Kd.R_drew)); exact HO_13.out⟩, ⟨by (with_reducible repeat (first | refine blk_drewN ?_ _ | refine blk_drew ?_ | refine blk_alloc ?_ _)); exact BK348.out⟩, ⟨by (with_reducible repeat (first | refine blk_drewN ?_ _ | refine blk_drew ?_ | refine blk_alloc ?_ _)); exact BK352.out⟩, ⟨by repeat (first | (with_reducible first | exact HB.out | apply below_alloc | apply pw_below_drewN | apply below_drew1 | refine below_set ?_ GE348.out | refine below_set ?_ GE352.out) | exact HB.out)⟩⟩
                                                        · replace c81 := Bool.eq_false_iff.mpr c81
                                                          subst c81
                                                          have H1 : (laws_FnDuels.j6 kj56 t311 t312 t315 t319 t323 t332 t333 t353 true) = some r := by rw [if_neg (show ¬ (false = true) by decide)] at H; exact H
                                                          exact (laws_FnDuels.j6_no (hr_.out ▸ H1)).elim
                                                      case rest =>
                                                        as_aux_lemma =>
                                                          clear HC79
                                                          try clear c1
                                                          try clear c2
                                                          try clear p2
                                                          try clear c3
                                                          try clear c4
                                                          try clear c5
                                                          try clear c6
                                                          try clear p6
                                                          try clear c7
                                                          try clear c8
                                                          try clear c9
                                                          try clear c10
                                                          try clear c11
                                                          try clear c12
                                                          try clear c12b0
                                                          try clear c12b1
                                                          try clear c13
                                                          try clear c14
                                                          try clear c16
                                                          try clear c17
                                                          try clear c18
                                                          try clear c19
                                                          try clear c19b0
                                                          try clear c19b1
                                                          try clear c20
                                                          try clear c20b0
                                                          try clear c20b1
                                                          try clear c20b2
                                                          try clear c21
                                                          try clear c22
                                                          try clear c23
                                                          try clear c27
                                                          try clear c27b0
                                                          try clear c27b1
                                                          try clear c27b2
                                                          try clear c28
                                                          try clear c28b0
                                                          try clear c28b1
                                                          try clear c28b2
                                                          try clear c32
                                                          try clear c38
                                                          try clear c38b0
                                                          try clear c38b1
                                                          try clear c39
                                                          try clear c39b0
                                                          try clear c39b1
                                                          try clear c40
                                                          try clear c40b0
                                                          try clear c40b1
                                                          try clear c40b2
                                                          try clear c41
                                                          try clear c42
                                                          try clear c42b0
                                                          try clear c42b1
                                                          try clear c42b2
                                                          try clear c43
                                                          try clear c43b0
                                                          try clear c43b1
                                                          try clear c43b2
                                                          try clear c44
                                                          try clear c51
                                                          try clear c51b0
                                                          try clear c51b1
                                                          try clear c52
                                                          try clear c52b0
                                                          try clear c52b1
                                                          try clear c52b2
                                                          try clear c54
                                                          try clear c63
                                                          try clear p64
                                                          try clear c65
                                                          try clear c65b0
                                                          try clear c66
                                                          try clear c69
                                                          try clear c69b0
                                                          try clear c69b1
                                                          try clear c69b2
                                                          try clear c70
                                                          try clear c73
                                                          try clear c76
                                                          try clear c77
                                                          try clear c81
                                                          try clear c82
                                                          try clear c82b0
                                                          try clear c82b1
                                                          try clear c82b2
                                                          try clear hcz60_0
                                                          try clear hcz60_1
                                                          try clear hcz64_0
                                                          try clear hcz64_1
                                                          try clear hcz67_0
                                                          try clear hcz67_1
                                                          try clear hcz68_0
                                                          try clear hcz68_1
                                                          try clear hcz71_0
                                                          try clear hcz71_1
                                                          try clear hcz72_0
                                                          try clear hcz72_1
                                                          try clear hcz74_0
                                                          try clear hcz74_1
                                                          try clear hcz75_0
                                                          try clear hcz75_1
                                                          try clear hfz60_0
                                                          try clear hfz60_1
                                                          try clear hfz64_0
                                                          try clear hfz64_1
                                                          try clear hfz67_0
                                                          try clear hfz67_1
                                                          try clear hfz68_0
                                                          try clear hfz68_1
                                                          try clear hfz71_0
                                                          try clear hfz71_1
                                                          try clear hfz72_0
                                                          try clear hfz72_1
                                                          try clear hfz74_0
                                                          try clear hfz74_1
                                                          try clear hfz75_0
                                                          try clear hfz75_1
                                                          try clear p2
                                                          try clear p6
                                                          try clear p64
                                                          obtain ⟨kq, x247_78, rfl, HA, HJ78, HO_3, HO_13, BK348, BK352, HB⟩ := hcut
                                                          cases kq with
                                                          | zero => exact absurd HA.out (by simp [laws_FnDuels.j6])
                                                          | succ kj78 =>
                                                            have H := HA.out
                                                            clear HA
                                                            simp only [laws_FnDuels.j6] at H
                                                            by_cases c83 : x247_78 = true
                                                            · subst c83
                                                              have H1 : (some false) = some r := by rw [if_pos rfl] at H; exact H
                                                              exact absurd ((Option.some.inj H1).trans hr_.out) Bool.false_ne_true
                                                            · replace c83 := Bool.eq_false_iff.mpr c83
                                                              subst c83
                                                              have H1 : (laws_FnDuels.l0 kj78 t311 t312 t315 t319 t323 t332 t333 t353 0) = some r := by rw [if_neg (show ¬ (false = true) by decide)] at H; exact H
                                                              clear H
                                                              have H := H1
                                                              clear H1
                                                              have H' := Aside0.mk H
                                                              clear H
                                                              go_wp2
                                                              go_loopg [35] kj78 (fun kq v35 w' => ∃ (x35_8 : Int), v35 = .int .i64 x35_8 ∧ Aside0 (laws_FnDuels.l0 kq t311 t312 t315 t319 t323 t332 t333 t353 x35_8 = some r) ∧ Aside0 (kq ≤ kj78) ∧ Aside0 (Kd.R (Kd.int .i64) 3 w' w.heap.size (fun k_ => some k_ ≠ (v325 : Value).ownBlock) (.slice Ao9 t311.length co9) t311) ∧ Aside0 (Kd.R (Kd.int .i64) 3 w' w.heap.size (fun k_ => some k_ ≠ ((.slice Ao9 t311.length co9) : Value).ownBlock) v325 t323) ∧ Aside0 (w'.heap[gb348]? = some (.cells #[.int .i64 t345, .int .i64 t346] 40 (0, 0))) ∧ Aside0 (w'.heap[gb352]? = some (.cells #[.int .i64 t349, .int .i64 t350] 40 (0, 0))) ∧ Aside0 (Below w.heap.size w w'))
                                                              case atStart => exact ⟨(0), (by first | rfl | (simp; done) | (simp [*]; done)), H', ⟨Nat.le_refl _⟩, ⟨by (with_reducible repeat (first | apply Kd.R_alloc | apply Kd.R_drewN | apply Kd.R_drew)); exact HO_3.out⟩, ⟨by (with_reducible repeat (first | apply Kd.R_alloc | apply Kd.R_drewN | apply Kd.R_drew)); exact HO_13.out⟩, ⟨by (with_reducible repeat (first | refine blk_drewN ?_ _ | refine blk_drew ?_ | refine blk_alloc ?_ _)); exact BK348.out⟩, ⟨by (with_reducible repeat (first | refine blk_drewN ?_ _ | refine blk_drew ?_ | refine blk_alloc ?_ _)); exact BK352.out⟩, ⟨by repeat (first | (with_reducible first | exact HB.out | apply below_alloc | apply pw_below_drewN | apply below_drew1 | refine below_set ?_ GE348.out | refine below_set ?_ GE352.out) | exact HB.out)⟩⟩
                                                              case round =>
                                                                clear H'
                                                                try clear c1
                                                                try clear c2
                                                                try clear p2
                                                                try clear c3
                                                                try clear c4
                                                                try clear c5
                                                                try clear c6
                                                                try clear p6
                                                                try clear c7
                                                                try clear c8
                                                                try clear c9
                                                                try clear c10
                                                                try clear c11
                                                                try clear c12
                                                                try clear c12b0
                                                                try clear c12b1
                                                                try clear c13
                                                                try clear c14
                                                                try clear c16
                                                                try clear c17
                                                                try clear c18
                                                                try clear c19
                                                                try clear c19b0
                                                                try clear c19b1
                                                                try clear c20
                                                                try clear c20b0
                                                                try clear c20b1
                                                                try clear c20b2
                                                                try clear c21
                                                                try clear c22
                                                                try clear c23
                                                                try clear c27
                                                                try clear c27b0
                                                                try clear c27b1
                                                                try clear c27b2
                                                                try clear c28
                                                                try clear c28b0
                                                                try clear c28b1
                                                                try clear c28b2
                                                                try clear c32
                                                                try clear c38
                                                                try clear c38b0
                                                                try clear c38b1
                                                                try clear c39
                                                                try clear c39b0
                                                                try clear c39b1
                                                                try clear c40
                                                                try clear c40b0
                                                                try clear c40b1
                                                                try clear c40b2
                                                                try clear c41
                                                                try clear c42
                                                                try clear c42b0
                                                                try clear c42b1
                                                                try clear c42b2
                                                                try clear c43
                                                                try clear c43b0
                                                                try clear c43b1
                                                                try clear c43b2
                                                                try clear c44
                                                                try clear c51
                                                                try clear c51b0
                                                                try clear c51b1
                                                                try clear c52
                                                                try clear c52b0
                                                                try clear c52b1
                                                                try clear c52b2
                                                                try clear c54
                                                                try clear c63
                                                                try clear p64
                                                                try clear c65
                                                                try clear c65b0
                                                                try clear c66
                                                                try clear c69
                                                                try clear c69b0
                                                                try clear c69b1
                                                                try clear c69b2
                                                                try clear c70
                                                                try clear c73
                                                                try clear c76
                                                                try clear c77
                                                                try clear c81
                                                                try clear c82
                                                                try clear c82b0
                                                                try clear c82b1
                                                                try clear c82b2
                                                                try clear c83
                                                                try clear hcz60_0
                                                                try clear hcz60_1
                                                                try clear hcz64_0
                                                                try clear hcz64_1
                                                                try clear hcz67_0
                                                                try clear hcz67_1
                                                                try clear hcz68_0
                                                                try clear hcz68_1
                                                                try clear hcz71_0
                                                                try clear hcz71_1
                                                                try clear hcz72_0
                                                                try clear hcz72_1
                                                                try clear hcz74_0
                                                                try clear hcz74_1
                                                                try clear hcz75_0
                                                                try clear hcz75_1
                                                                try clear hfz60_0
                                                                try clear hfz60_1
                                                                try clear hfz64_0
                                                                try clear hfz64_1
                                                                try clear hfz67_0
                                                                try clear hfz67_1
                                                                try clear hfz68_0
                                                                try clear hfz68_1
                                                                try clear hfz71_0
                                                                try clear hfz71_1
                                                                try clear hfz72_0
                                                                try clear hfz72_1
                                                                try clear hfz74_0
                                                                try clear hfz74_1
                                                                try clear hfz75_0
                                                                try clear hfz75_1
                                                                try clear p2
                                                                try clear p6
                                                                try clear p64
                                                                obtain ⟨x35_8, rfl, HA, HK8, HO_3, HO_13, BK348, BK352, HB⟩ := hrel
                                                                cases gk with
                                                                | zero => exact absurd HA.out (by simp [laws_FnDuels.l0])
                                                                | succ k8 =>
                                                                  have H := HA.out
                                                                  clear HA
                                                                  simp only [laws_FnDuels.l0] at H
                                                                  by_cases c84 : x35_8 < (t353.size : Int)
                                                                  · rw [if_pos c84] at H
                                                                    have c84b0 : decide (x35_8 < (t353.size : Int)) = true := decide_eq_true c84
                                                                    clear c84
                                                                    by_cases c85 : 0 ≤ x35_8
                                                                    · rw [if_pos c85] at H
                                                                      have c85b0 := eq_true c85
                                                                      have c85b1 : decide (0 ≤ x35_8) = true := decide_eq_true c85
                                                                      clear c85
                                                                      by_cases c86 : x35_8 ≤ (wrap64 (x35_8 + 1))
                                                                      · rw [if_pos c86] at H
                                                                        have c86b0 := eq_true c86
                                                                        have c86b1 : decide (x35_8 ≤ (wrap64 (x35_8 + 1))) = true := decide_eq_true c86
                                                                        by_cases c87 : (wrap64 (x35_8 + 1)) ≤ (t353.size : Int)
                                                                        · rw [if_pos c87] at H
                                                                          have c87b0 := eq_true c87
                                                                          have c87b1 : decide ((wrap64 (x35_8 + 1)) ≤ (t353.size : Int)) = true := decide_eq_true c87
                                                                          have HC88 := Aside0.mk H
                                                                          clear H
                                                                          go_upto_if 260 with (fail)
                                                                          go_cut [37] (fun v37 wc => ∃ (kq : Nat) (x37_87 : Int), v37 = .int .i64 x37_87 ∧ Aside0 (laws_FnDuels.j8 kq t311 t312 t315 t319 t323 t332 t333 t353 x35_8 (t353.extract (x35_8 : Int).toNat ((wrap64 (x35_8 + 1)) : Int).toNat) x37_87 = some r) ∧ Aside0 (kq ≤ k8) ∧ Aside0 (Kd.R (Kd.int .i64) 3 wc w.heap.size (fun k_ => some k_ ≠ (v325 : Value).ownBlock) (.slice Ao9 t311.length co9) t311) ∧ Aside0 (Kd.R (Kd.int .i64) 3 wc w.heap.size (fun k_ => some k_ ≠ ((.slice Ao9 t311.length co9) : Value).ownBlock) v325 t323) ∧ Aside0 (wc.heap[gb348]? = some (.cells #[.int .i64 t345, .int .i64 t346] 40 (0, 0))) ∧ Aside0 (wc.heap[gb352]? = some (.cells #[.int .i64 t349, .int .i64 t350] 40 (0, 0))) ∧ Aside0 (Below w.heap.size w wc))
                                                                          case first =>
                                                                            have H := HC88.out
                                                                            clear HC88
                                                                            by_cases c89 : (t353.extract (x35_8 : Int).toNat ((wrap64 (x35_8 + 1)) : Int).toNat).toList = ([79] : List UInt8)
                                                                            · rw [if_pos c89] at H
                                                                              have c89b0 : ((t353.extract (x35_8 : Int).toNat ((wrap64 (x35_8 + 1)) : Int).toNat).toList == ([79] : List UInt8)) = true := beq_iff_eq.mpr c89
                                                                              have c89b1 : ((t353.extract (x35_8 : Int).toNat ((wrap64 (x35_8 + 1)) : Int).toNat).toList != ([79] : List UInt8)) = false := bne_eq_false_iff_eq.mpr c89
                                                                              clear c89
                                                                              (first | rw [c89b0] | (simp only [i64_w, i32_w]; rw [c89b0]) | skip)
                                                                              obtain ⟨ji90, hji90⟩ : ∃ j_ : Int, (wrap64 ((t323.length : Int) - 1)) = j_ := ⟨_, rfl⟩
                                                                              replace H : (if 0 ≤ (ji90) then (if (ji90) < (t323.length : Int) then (laws_FnDuels.j8 k8 t311 t312 t315 t319 t323 t332 t333 t353 x35_8 (t353.extract (x35_8 : Int).toNat ((wrap64 (x35_8 + 1)) : Int).toNat) (rd t323 (ji90))) else (none)) else (none)) = some r := by first | (rw [hji90] at H; exact H) | (simp only [hji90] at H ⊢; exact H)
                                                                              have hji90w : (IntKind.i64.wrap ((t323.length : Int) - 1)) = ji90 := (i64_w _).trans hji90
                                                                              by_cases c91 : 0 ≤ (ji90)
                                                                              · rw [if_pos c91] at H
                                                                                have c91b0 : decide (0 ≤ (ji90)) = true := decide_eq_true c91
                                                                                clear c91
                                                                                by_cases c92 : (ji90) < (t323.length : Int)
                                                                                · rw [if_pos c92] at H
                                                                                  have c92b0 : decide ((ji90) < (t323.length : Int)) = true := decide_eq_true c92
                                                                                  clear c92
                                                                                  have H' := Aside0.mk H
                                                                                  clear H
                                                                                  obtain ⟨Ao93, co93, eo93⟩ := Kd.R_slice HO_13.out
                                                                                  subst eo93
                                                                                  have p355 : 0 ≤ ((ji90) : Int) := of_decide_eq_true (by first | (with_reducible assumption) | assumption)
                                                                                  have q355 : (ji90) < (t323.length : Int) := of_decide_eq_true (by first | (with_reducible assumption) | assumption)
                                                                                  obtain ⟨ad355, e355, hx355_0⟩ := Kd.at_int (Kd.R_reads' HO_13.out).2.2 (ji90) p355 q355
                                                                                  cases e355
                                                                                  replace p355 := eq_true p355
                                                                                  replace q355 := eq_true q355
                                                                                  go_wp2
                                                                                  go_meet
                                                                                  case rel => exact ⟨_, (rd t323 (ji90)), (by first | rfl | (simp; done) | (simp only [← hji90] <;> (first | rfl | simp)) | (simp [*]; done)), H', ⟨by have := HJ6.out; have := HJ15.out; have := HJ23.out; have := HJ34.out; have := HJ47.out; have := HJ56.out; have := HJ78.out; have := HK8.out; first | omega | exact Nat.le_refl _⟩, ⟨by (with_reducible repeat (first | apply Kd.R_alloc | apply Kd.R_drewN | apply Kd.R_drew)); exact HO_3.out⟩, ⟨by (with_reducible repeat (first | apply Kd.R_alloc | apply Kd.R_drewN | apply Kd.R_drew)); exact HO_13.out⟩, ⟨by (with_reducible repeat (first | refine blk_drewN ?_ _ | refine blk_drew ?_ | refine blk_alloc ?_ _)); exact BK348.out⟩, ⟨by (with_reducible repeat (first | refine blk_drewN ?_ _ | refine blk_drew ?_ | refine blk_alloc ?_ _)); exact BK352.out⟩, ⟨by repeat (first | (with_reducible first | exact HB.out | apply below_alloc | apply pw_below_drewN | apply below_drew1 | refine below_set ?_ GE348.out | refine below_set ?_ GE352.out) | exact HB.out)⟩⟩
                                                                                · rw [if_neg c92] at H
                                                                                  exact absurd H (by simp)
                                                                              · rw [if_neg c91] at H
                                                                                exact absurd H (by simp)
                                                                            · rw [if_neg c89] at H
                                                                              have c89b0 : ((t353.extract (x35_8 : Int).toNat ((wrap64 (x35_8 + 1)) : Int).toNat).toList == ([79] : List UInt8)) = false := beq_eq_false_iff_ne.mpr c89
                                                                              have c89b1 : ((t353.extract (x35_8 : Int).toNat ((wrap64 (x35_8 + 1)) : Int).toNat).toList != ([79] : List UInt8)) = true := bne_iff_ne.mpr c89
                                                                              (first | rw [c89b0] | (simp only [i64_w, i32_w]; rw [c89b0]) | skip)
                                                                              have H' := Aside0.mk H
                                                                              clear H
                                                                              go_wp2
                                                                              go_meet
                                                                              case rel => exact ⟨_, (0), (by first | rfl | (simp; done) | (simp [*]; done)), H', ⟨by have := HJ6.out; have := HJ15.out; have := HJ23.out; have := HJ34.out; have := HJ47.out; have := HJ56.out; have := HJ78.out; have := HK8.out; first | omega | exact Nat.le_refl _⟩, ⟨by (with_reducible repeat (first | apply Kd.R_alloc | apply Kd.R_drewN | apply Kd.R_drew)); exact HO_3.out⟩, ⟨by (with_reducible repeat (first | apply Kd.R_alloc | apply Kd.R_drewN | apply Kd.R_drew)); exact HO_13.out⟩, ⟨by (with_reducible repeat (first | refine blk_drewN ?_ _ | refine blk_drew ?_ | refine blk_alloc ?_ _)); exact BK348.out⟩, ⟨by (with_reducible repeat (first | refine blk_drewN ?_ _ | refine blk_drew ?_ | refine blk_alloc ?_ _)); exact BK352.out⟩, ⟨by repeat (first | (with_reducible first | exact HB.out | apply below_alloc | apply pw_below_drewN | apply below_drew1 | refine below_set ?_ GE348.out | refine below_set ?_ GE352.out) | exact HB.out)⟩⟩
                                                                          case rest =>
                                                                            as_aux_lemma =>
                                                                              clear HC88
                                                                              try clear c1
                                                                              try clear c2
                                                                              try clear p2
                                                                              try clear c3
                                                                              try clear p3
                                                                              try clear q3
                                                                              try clear hx3
                                                                              try clear c4
                                                                              try clear c5
                                                                              try clear c6
                                                                              try clear p6
                                                                              try clear c7
                                                                              try clear c8
                                                                              try clear c9
                                                                              try clear c10
                                                                              try clear c11
                                                                              try clear c12
                                                                              try clear c12b0
                                                                              try clear c12b1
                                                                              try clear c13
                                                                              try clear c14
                                                                              try clear c16
                                                                              try clear c17
                                                                              try clear c18
                                                                              try clear c19
                                                                              try clear c19b0
                                                                              try clear c19b1
                                                                              try clear c20
                                                                              try clear c20b0
                                                                              try clear c20b1
                                                                              try clear c20b2
                                                                              try clear c21
                                                                              try clear c22
                                                                              try clear c23
                                                                              try clear c27
                                                                              try clear c27b0
                                                                              try clear c27b1
                                                                              try clear c27b2
                                                                              try clear c28
                                                                              try clear c28b0
                                                                              try clear c28b1
                                                                              try clear c28b2
                                                                              try clear c32
                                                                              try clear p35
                                                                              try clear q35
                                                                              try clear hx35
                                                                              try clear c38
                                                                              try clear c38b0
                                                                              try clear c38b1
                                                                              try clear c39
                                                                              try clear c39b0
                                                                              try clear c39b1
                                                                              try clear c40
                                                                              try clear c40b0
                                                                              try clear c40b1
                                                                              try clear c40b2
                                                                              try clear c41
                                                                              try clear c42
                                                                              try clear c42b0
                                                                              try clear c42b1
                                                                              try clear c42b2
                                                                              try clear c43
                                                                              try clear c43b0
                                                                              try clear c43b1
                                                                              try clear c43b2
                                                                              try clear c44
                                                                              try clear c51
                                                                              try clear c51b0
                                                                              try clear c51b1
                                                                              try clear c52
                                                                              try clear c52b0
                                                                              try clear c52b1
                                                                              try clear c52b2
                                                                              try clear c54
                                                                              try clear c63
                                                                              try clear p64
                                                                              try clear c65
                                                                              try clear c65b0
                                                                              try clear c66
                                                                              try clear c69
                                                                              try clear c69b0
                                                                              try clear c69b1
                                                                              try clear c69b2
                                                                              try clear c70
                                                                              try clear c73
                                                                              try clear c76
                                                                              try clear c77
                                                                              try clear c81
                                                                              try clear c82
                                                                              try clear c82b0
                                                                              try clear c82b1
                                                                              try clear c82b2
                                                                              try clear c83
                                                                              try clear c84
                                                                              try clear c84b0
                                                                              try clear c85
                                                                              try clear c85b0
                                                                              try clear c85b1
                                                                              try clear c86
                                                                              try clear c86b0
                                                                              try clear c86b1
                                                                              try clear c87
                                                                              try clear c87b0
                                                                              try clear c87b1
                                                                              try clear c89
                                                                              try clear c89b0
                                                                              try clear c89b1
                                                                              try clear c91
                                                                              try clear c91b0
                                                                              try clear c92
                                                                              try clear c92b0
                                                                              try clear hcz60_0
                                                                              try clear hcz60_1
                                                                              try clear hcz64_0
                                                                              try clear hcz64_1
                                                                              try clear hcz67_0
                                                                              try clear hcz67_1
                                                                              try clear hcz68_0
                                                                              try clear hcz68_1
                                                                              try clear hcz71_0
                                                                              try clear hcz71_1
                                                                              try clear hcz72_0
                                                                              try clear hcz72_1
                                                                              try clear hcz74_0
                                                                              try clear hcz74_1
                                                                              try clear hcz75_0
                                                                              try clear hcz75_1
                                                                              try clear hfz60_0
                                                                              try clear hfz60_1
                                                                              try clear hfz64_0
                                                                              try clear hfz64_1
                                                                              try clear hfz67_0
                                                                              try clear hfz67_1
                                                                              try clear hfz68_0
                                                                              try clear hfz68_1
                                                                              try clear hfz71_0
                                                                              try clear hfz71_1
                                                                              try clear hfz72_0
                                                                              try clear hfz72_1
                                                                              try clear hfz74_0
                                                                              try clear hfz74_1
                                                                              try clear hfz75_0
                                                                              try clear hfz75_1
                                                                              try clear hx355_0
                                                                              try clear p2
                                                                              try clear p355
                                                                              try clear p6
                                                                              try clear p64
                                                                              try clear q355
                                                                              obtain ⟨kq, x37_87, rfl, HA, HJ87, HO_3, HO_13, BK348, BK352, HB⟩ := hcut
                                                                              cases kq with
                                                                              | zero => exact absurd HA.out (by simp [laws_FnDuels.j8])
                                                                              | succ kj87 =>
                                                                                have H := HA.out
                                                                                clear HA
                                                                                simp only [laws_FnDuels.j8] at H
                                                                                by_cases c94 : t312.size + (t353.extract (x35_8 : Int).toNat ((wrap64 (x35_8 + 1)) : Int).toNat).size ≤ 9223372036854775807
                                                                                · rw [if_pos c94] at H
                                                                                  have c94b0 := eq_true c94
                                                                                  have c94b1 : decide (t312.size + (t353.extract (x35_8 : Int).toNat ((wrap64 (x35_8 + 1)) : Int).toNat).size ≤ 9223372036854775807) = true := decide_eq_true c94
                                                                                  try have c94b2 : (9223372036854775807 < t312.size + (t353.extract (x35_8 : Int).toNat ((wrap64 (x35_8 + 1)) : Int).toNat).size) = False := eq_false (Nat.not_lt.2 c94)
                                                                                  replace H := Option.bind_eq_some_iff.mp H
                                                                                  obtain ⟨⟨t356, t357⟩, A950, H⟩ := H
                                                                                  replace H : (if t357 = true then (laws_FnDuels.j9 kj87 t311 t312 t315 t319 t323 t332 t333 t353 x35_8 (t353.extract (x35_8 : Int).toNat ((wrap64 (x35_8 + 1)) : Int).toNat) x37_87 t356 (decide ((wrap64 (x37_87 - t356)) > t315))) else (laws_FnDuels.j9 kj87 t311 t312 t315 t319 t323 t332 t333 t353 x35_8 (t353.extract (x35_8 : Int).toNat ((wrap64 (x35_8 + 1)) : Int).toNat) x37_87 t356 true)) = some r := H
                                                                                  have A95 := Aside0.mk A950
                                                                                  clear A950
                                                                                  have HC96 := Aside0.mk H
                                                                                  clear H
                                                                                  go_upto_region 41 with (first | ((with_reducible refine gate_callee (f := 9) rfl ?_); refine goesL_ (some 272) rfl rfl Try.func9 (by kernel_rfl) rfl #[.slice Ao9 t311.length co9, .string (t312 ++ (t353.extract (x35_8 : Int).toNat ((wrap64 (x35_8 + 1)) : Int).toNat))] rfl (by (try simp only [List.map_toArray, List.map_cons, List.map_nil]); first | done | rfl | (simp only [List.length_drop, List.length_take]; rfl)) ?_; (with_reducible refine (impl_DuelValue.calls kj87 _ _ t311 (t312 ++ (t353.extract (x35_8 : Int).toNat ((wrap64 (x35_8 + 1)) : Int).toNat)) t356 t357 _ ?side1 ?side2 A95.out).mono ?_); (case side1 => repeat (first | exact (Kd.R_reads' HO_3.out).2.2 | (with_reducible refine Kd.C_alloc ?_ _) | (with_reducible refine Kd.C_drewN ?_ _) | (with_reducible refine Kd.C_drew ?_))); (case side2 => exact (Kd.R_reads' HO_3.out).2.1); rintro e w97 ⟨rfl, hb⟩; refine ⟨_, rfl, ?_⟩; have n0_ := Aside0.mk (Kd.R_below (by (with_reducible repeat (first | apply Kd.R_alloc | apply Kd.R_drewN | apply Kd.R_drew)); exact HO_3.out) hb); have n1_ := Aside0.mk (Kd.R_below (by (with_reducible repeat (first | apply Kd.R_alloc | apply Kd.R_drewN | apply Kd.R_drew)); exact HO_13.out) hb); have n2_ := Aside0.mk (blk_below (g := gb348) (o := .cells #[.int .i64 t345, .int .i64 t346] 40 (0, 0)) (by (with_reducible repeat (first | refine blk_drewN ?_ _ | refine blk_drew ?_ | refine blk_alloc ?_ _)); exact BK348.out) hb); have n3_ := Aside0.mk (blk_below (g := gb352) (o := .cells #[.int .i64 t349, .int .i64 t350] 40 (0, 0)) (by (with_reducible repeat (first | refine blk_drewN ?_ _ | refine blk_drew ?_ | refine blk_alloc ?_ _)); exact BK352.out) hb); have n4_ := Aside0.mk (below_step (by repeat (first | (with_reducible first | exact HB.out | apply below_alloc | apply pw_below_drewN | apply below_drew1 | refine below_set ?_ GE348.out | refine below_set ?_ GE352.out) | exact HB.out)) hb); clear HO_3; clear HO_13; clear BK348; clear BK352; clear HB; have HO_3 := n0_; have HO_13 := n1_; have BK348 := n2_; have BK352 := n3_; have HB := n4_; clear n0_ n1_ n2_ n3_ n4_; (try clear hb); (try clear hb2); (try clear hk); (try clear hi)))
                                                                                  (try simp only [Act.put, List.setIfInBounds_toArray, List.set_cons_zero, List.set_cons_succ])
                                                                                  go_cut [283] (fun v283 wc => ∃ (kq : Nat) (x283_95 : Bool), v283 = .bool x283_95 ∧ Aside0 (laws_FnDuels.j9 kq t311 t312 t315 t319 t323 t332 t333 t353 x35_8 (t353.extract (x35_8 : Int).toNat ((wrap64 (x35_8 + 1)) : Int).toNat) x37_87 t356 x283_95 = some r) ∧ Aside0 (kq ≤ kj87) ∧ Aside0 (Kd.R (Kd.int .i64) 3 wc w.heap.size (fun k_ => some k_ ≠ (v325 : Value).ownBlock) (.slice Ao9 t311.length co9) t311) ∧ Aside0 (Kd.R (Kd.int .i64) 3 wc w.heap.size (fun k_ => some k_ ≠ ((.slice Ao9 t311.length co9) : Value).ownBlock) v325 t323) ∧ Aside0 (wc.heap[gb348]? = some (.cells #[.int .i64 t345, .int .i64 t346] 40 (0, 0))) ∧ Aside0 (wc.heap[gb352]? = some (.cells #[.int .i64 t349, .int .i64 t350] 40 (0, 0))) ∧ Aside0 (Below w.heap.size w wc))
                                                                                  case first =>
                                                                                    have H := HC96.out
                                                                                    clear HC96
                                                                                    by_cases c98 : t357 = true
                                                                                    · subst c98
                                                                                      have H1 : (laws_FnDuels.j9 kj87 t311 t312 t315 t319 t323 t332 t333 t353 x35_8 (t353.extract (x35_8 : Int).toNat ((wrap64 (x35_8 + 1)) : Int).toNat) x37_87 t356 (decide ((wrap64 (x37_87 - t356)) > t315))) = some r := by rw [if_pos rfl] at H; exact H
                                                                                      clear H
                                                                                      have H := H1
                                                                                      clear H1
                                                                                      have H' := Aside0.mk H
                                                                                      clear H
                                                                                      go_wp2
                                                                                      go_meet
                                                                                      case rel => exact ⟨_, (decide ((wrap64 (x37_87 - t356)) > t315)), (by first | rfl | (simp; done) | (simp [*]; done)), H', ⟨by have := HJ6.out; have := HJ15.out; have := HJ23.out; have := HJ34.out; have := HJ47.out; have := HJ56.out; have := HJ78.out; have := HK8.out; have := HJ87.out; first | omega | exact Nat.le_refl _⟩, ⟨by (with_reducible repeat (first | apply Kd.R_alloc | apply Kd.R_drewN | apply Kd.R_drew)); exact HO_3.out⟩, ⟨by (with_reducible repeat (first | apply Kd.R_alloc | apply Kd.R_drewN | apply Kd.R_drew)); exact HO_13.out⟩, ⟨by (with_reducible repeat (first | refine blk_drewN ?_ _ | refine blk_drew ?_ | refine blk_alloc ?_ _)); exact BK348.out⟩, ⟨by (with_reducible repeat (first | refine blk_drewN ?_ _ | refine blk_drew ?_ | refine blk_alloc ?_ _)); exact BK352.out⟩, ⟨by repeat (first | (with_reducible first | exact HB.out | apply below_alloc | apply pw_below_drewN | apply below_drew1 | refine below_set ?_ GE348.out | refine below_set ?_ GE352.out) | exact HB.out)⟩⟩
                                                                                    · replace c98 := Bool.eq_false_iff.mpr c98
                                                                                      subst c98
                                                                                      have H1 : (laws_FnDuels.j9 kj87 t311 t312 t315 t319 t323 t332 t333 t353 x35_8 (t353.extract (x35_8 : Int).toNat ((wrap64 (x35_8 + 1)) : Int).toNat) x37_87 t356 true) = some r := by rw [if_neg (show ¬ (false = true) by decide)] at H; exact H
                                                                                      exact (laws_FnDuels.j9_no (hr_.out ▸ H1)).elim
                                                                                  case rest =>
                                                                                    as_aux_lemma =>
                                                                                      clear HC96
                                                                                      try clear c1
                                                                                      try clear c2
                                                                                      try clear p2
                                                                                      try clear c3
                                                                                      try clear p3
                                                                                      try clear q3
                                                                                      try clear hx3
                                                                                      try clear c4
                                                                                      try clear c5
                                                                                      try clear c6
                                                                                      try clear p6
                                                                                      try clear c7
                                                                                      try clear c8
                                                                                      try clear c9
                                                                                      try clear c10
                                                                                      try clear c11
                                                                                      try clear c12
                                                                                      try clear c12b0
                                                                                      try clear c12b1
                                                                                      try clear c13
                                                                                      try clear c14
                                                                                      try clear c16
                                                                                      try clear c17
                                                                                      try clear c18
                                                                                      try clear c19
                                                                                      try clear c19b0
                                                                                      try clear c19b1
                                                                                      try clear c20
                                                                                      try clear c20b0
                                                                                      try clear c20b1
                                                                                      try clear c20b2
                                                                                      try clear c21
                                                                                      try clear c22
                                                                                      try clear c23
                                                                                      try clear c27
                                                                                      try clear c27b0
                                                                                      try clear c27b1
                                                                                      try clear c27b2
                                                                                      try clear c28
                                                                                      try clear c28b0
                                                                                      try clear c28b1
                                                                                      try clear c28b2
                                                                                      try clear c32
                                                                                      try clear p35
                                                                                      try clear q35
                                                                                      try clear hx35
                                                                                      try clear c38
                                                                                      try clear c38b0
                                                                                      try clear c38b1
                                                                                      try clear c39
                                                                                      try clear c39b0
                                                                                      try clear c39b1
                                                                                      try clear c40
                                                                                      try clear c40b0
                                                                                      try clear c40b1
                                                                                      try clear c40b2
                                                                                      try clear c41
                                                                                      try clear c42
                                                                                      try clear c42b0
                                                                                      try clear c42b1
                                                                                      try clear c42b2
                                                                                      try clear c43
                                                                                      try clear c43b0
                                                                                      try clear c43b1
                                                                                      try clear c43b2
                                                                                      try clear c44
                                                                                      try clear c51
                                                                                      try clear c51b0
                                                                                      try clear c51b1
                                                                                      try clear c52
                                                                                      try clear c52b0
                                                                                      try clear c52b1
                                                                                      try clear c52b2
                                                                                      try clear c54
                                                                                      try clear c63
                                                                                      try clear p64
                                                                                      try clear c65
                                                                                      try clear c65b0
                                                                                      try clear c66
                                                                                      try clear c69
                                                                                      try clear c69b0
                                                                                      try clear c69b1
                                                                                      try clear c69b2
                                                                                      try clear c70
                                                                                      try clear c73
                                                                                      try clear c76
                                                                                      try clear c77
                                                                                      try clear c81
                                                                                      try clear c82
                                                                                      try clear c82b0
                                                                                      try clear c82b1
                                                                                      try clear c82b2
                                                                                      try clear c83
                                                                                      try clear c84
                                                                                      try clear c84b0
                                                                                      try clear c85
                                                                                      try clear c85b0
                                                                                      try clear c85b1
                                                                                      try clear c86
                                                                                      try clear c86b0
                                                                                      try clear c86b1
                                                                                      try clear c87
                                                                                      try clear c87b0
                                                                                      try clear c87b1
                                                                                      try clear c89
                                                                                      try clear c89b0
                                                                                      try clear c89b1
                                                                                      try clear c91
                                                                                      try clear c91b0
                                                                                      try clear c92
                                                                                      try clear c92b0
                                                                                      try clear c94
                                                                                      try clear c94b0
                                                                                      try clear c94b1
                                                                                      try clear c94b2
                                                                                      try clear c98
                                                                                      try clear hcz60_0
                                                                                      try clear hcz60_1
                                                                                      try clear hcz64_0
                                                                                      try clear hcz64_1
                                                                                      try clear hcz67_0
                                                                                      try clear hcz67_1
                                                                                      try clear hcz68_0
                                                                                      try clear hcz68_1
                                                                                      try clear hcz71_0
                                                                                      try clear hcz71_1
                                                                                      try clear hcz72_0
                                                                                      try clear hcz72_1
                                                                                      try clear hcz74_0
                                                                                      try clear hcz74_1
                                                                                      try clear hcz75_0
                                                                                      try clear hcz75_1
                                                                                      try clear hfz60_0
                                                                                      try clear hfz60_1
                                                                                      try clear hfz64_0
                                                                                      try clear hfz64_1
                                                                                      try clear hfz67_0
                                                                                      try clear hfz67_1
                                                                                      try clear hfz68_0
                                                                                      try clear hfz68_1
                                                                                      try clear hfz71_0
                                                                                      try clear hfz71_1
                                                                                      try clear hfz72_0
                                                                                      try clear hfz72_1
                                                                                      try clear hfz74_0
                                                                                      try clear hfz74_1
                                                                                      try clear hfz75_0
                                                                                      try clear hfz75_1
                                                                                      try clear hx355_0
                                                                                      try clear p2
                                                                                      try clear p3
                                                                                      try clear p35
                                                                                      try clear p355
                                                                                      try clear p6
                                                                                      try clear p64
                                                                                      try clear q3
                                                                                      try clear q35
                                                                                      try clear q355
                                                                                      obtain ⟨kq, x283_95, rfl, HA, HJ95, HO_3, HO_13, BK348, BK352, HB⟩ := hcut
                                                                                      cases kq with
                                                                                      | zero => exact absurd HA.out (by simp [laws_FnDuels.j9])
                                                                                      | succ kj95 =>
                                                                                        have H := HA.out
                                                                                        clear HA
                                                                                        simp only [laws_FnDuels.j9] at H
                                                                                        by_cases c99 : x283_95 = true
                                                                                        · subst c99
                                                                                          have H1 : (some false) = some r := by rw [if_pos rfl] at H; exact H
                                                                                          exact absurd ((Option.some.inj H1).trans hr_.out) Bool.false_ne_true
                                                                                        · replace c99 := Bool.eq_false_iff.mpr c99
                                                                                          subst c99
                                                                                          have H1 : (laws_FnDuels.l1 kj95 t311 t312 t315 t319 t323 t332 t333 t353 x35_8 (t353.extract (x35_8 : Int).toNat ((wrap64 (x35_8 + 1)) : Int).toNat) x37_87 t356 false 0) = some r := by rw [if_neg (show ¬ (false = true) by decide)] at H; exact H
                                                                                          clear H
                                                                                          have H := H1
                                                                                          clear H1
                                                                                          have H' := Aside0.mk H
                                                                                          clear H
                                                                                          go_wp2
                                                                                          go_loopg [40, 41] kj95 (fun kq v40 v41 w' => ∃ (x40_11 : Bool) (x41_11 : Int), v40 = .bool x40_11 ∧ v41 = .int .i64 x41_11 ∧ Aside0 (laws_FnDuels.l1 kq t311 t312 t315 t319 t323 t332 t333 t353 x35_8 (t353.extract (x35_8 : Int).toNat ((wrap64 (x35_8 + 1)) : Int).toNat) x37_87 t356 x40_11 x41_11 = some r) ∧ Aside0 (kq ≤ kj95) ∧ Aside0 (Kd.R (Kd.int .i64) 3 w' w.heap.size (fun k_ => some k_ ≠ (v325 : Value).ownBlock) (.slice Ao9 t311.length co9) t311) ∧ Aside0 (Kd.R (Kd.int .i64) 3 w' w.heap.size (fun k_ => some k_ ≠ ((.slice Ao9 t311.length co9) : Value).ownBlock) v325 t323) ∧ Aside0 (w'.heap[gb348]? = some (.cells #[.int .i64 t345, .int .i64 t346] 40 (0, 0))) ∧ Aside0 (w'.heap[gb352]? = some (.cells #[.int .i64 t349, .int .i64 t350] 40 (0, 0))) ∧ Aside0 (Below w.heap.size w w'))
                                                                                          case atStart => exact ⟨(false), (0), (by first | rfl | (simp; done) | (simp [*]; done)), (by first | rfl | (simp; done) | (simp [*]; done)), H', ⟨Nat.le_refl _⟩, ⟨by (with_reducible repeat (first | apply Kd.R_alloc | apply Kd.R_drewN | apply Kd.R_drew)); exact HO_3.out⟩, ⟨by (with_reducible repeat (first | apply Kd.R_alloc | apply Kd.R_drewN | apply Kd.R_drew)); exact HO_13.out⟩, ⟨by (with_reducible repeat (first | refine blk_drewN ?_ _ | refine blk_drew ?_ | refine blk_alloc ?_ _)); exact BK348.out⟩, ⟨by (with_reducible repeat (first | refine blk_drewN ?_ _ | refine blk_drew ?_ | refine blk_alloc ?_ _)); exact BK352.out⟩, ⟨by repeat (first | (with_reducible first | exact HB.out | apply below_alloc | apply pw_below_drewN | apply below_drew1 | refine below_set ?_ GE348.out | refine below_set ?_ GE352.out) | exact HB.out)⟩⟩
                                                                                          case round =>
                                                                                            try clear hji90w
                                                                                            try clear hji90
                                                                                            clear H'
                                                                                            try clear c1
                                                                                            try clear c2
                                                                                            try clear p2
                                                                                            try clear c3
                                                                                            try clear p3
                                                                                            try clear q3
                                                                                            try clear hx3
                                                                                            try clear c4
                                                                                            try clear c5
                                                                                            try clear c6
                                                                                            try clear p6
                                                                                            try clear c7
                                                                                            try clear c8
                                                                                            try clear c9
                                                                                            try clear c10
                                                                                            try clear c11
                                                                                            try clear c12
                                                                                            try clear c12b0
                                                                                            try clear c12b1
                                                                                            try clear c13
                                                                                            try clear c14
                                                                                            try clear c16
                                                                                            try clear c17
                                                                                            try clear c18
                                                                                            try clear c19
                                                                                            try clear c19b0
                                                                                            try clear c19b1
                                                                                            try clear c20
                                                                                            try clear c20b0
                                                                                            try clear c20b1
                                                                                            try clear c20b2
                                                                                            try clear c21
                                                                                            try clear c22
                                                                                            try clear c23
                                                                                            try clear c27
                                                                                            try clear c27b0
                                                                                            try clear c27b1
                                                                                            try clear c27b2
                                                                                            try clear c28
                                                                                            try clear c28b0
                                                                                            try clear c28b1
                                                                                            try clear c28b2
                                                                                            try clear c32
                                                                                            try clear p35
                                                                                            try clear q35
                                                                                            try clear hx35
                                                                                            try clear c38
                                                                                            try clear c38b0
                                                                                            try clear c38b1
                                                                                            try clear c39
                                                                                            try clear c39b0
                                                                                            try clear c39b1
                                                                                            try clear c40
                                                                                            try clear c40b0
                                                                                            try clear c40b1
                                                                                            try clear c40b2
                                                                                            try clear c41
                                                                                            try clear c42
                                                                                            try clear c42b0
                                                                                            try clear c42b1
                                                                                            try clear c42b2
                                                                                            try clear c43
                                                                                            try clear c43b0
                                                                                            try clear c43b1
                                                                                            try clear c43b2
                                                                                            try clear c44
                                                                                            try clear c51
                                                                                            try clear c51b0
                                                                                            try clear c51b1
                                                                                            try clear c52
                                                                                            try clear c52b0
                                                                                            try clear c52b1
                                                                                            try clear c52b2
                                                                                            try clear c54
                                                                                            try clear c63
                                                                                            try clear p64
                                                                                            try clear c65
                                                                                            try clear c65b0
                                                                                            try clear c66
                                                                                            try clear c69
                                                                                            try clear c69b0
                                                                                            try clear c69b1
                                                                                            try clear c69b2
                                                                                            try clear c70
                                                                                            try clear c73
                                                                                            try clear c76
                                                                                            try clear c77
                                                                                            try clear c81
                                                                                            try clear c82
                                                                                            try clear c82b0
                                                                                            try clear c82b1
                                                                                            try clear c82b2
                                                                                            try clear c83
                                                                                            try clear c84
                                                                                            try clear c84b0
                                                                                            try clear c85
                                                                                            try clear c85b0
                                                                                            try clear c85b1
                                                                                            try clear c86
                                                                                            try clear c86b0
                                                                                            try clear c86b1
                                                                                            try clear c87
                                                                                            try clear c87b0
                                                                                            try clear c87b1
                                                                                            try clear c89
                                                                                            try clear c89b0
                                                                                            try clear c89b1
                                                                                            try clear c91
                                                                                            try clear c91b0
                                                                                            try clear c92
                                                                                            try clear c92b0
                                                                                            try clear c94
                                                                                            try clear c94b0
                                                                                            try clear c94b1
                                                                                            try clear c94b2
                                                                                            try clear c98
                                                                                            try clear c99
                                                                                            try clear hcz60_0
                                                                                            try clear hcz60_1
                                                                                            try clear hcz64_0
                                                                                            try clear hcz64_1
                                                                                            try clear hcz67_0
                                                                                            try clear hcz67_1
                                                                                            try clear hcz68_0
                                                                                            try clear hcz68_1
                                                                                            try clear hcz71_0
                                                                                            try clear hcz71_1
                                                                                            try clear hcz72_0
                                                                                            try clear hcz72_1
                                                                                            try clear hcz74_0
                                                                                            try clear hcz74_1
                                                                                            try clear hcz75_0
                                                                                            try clear hcz75_1
                                                                                            try clear hfz60_0
                                                                                            try clear hfz60_1
                                                                                            try clear hfz64_0
                                                                                            try clear hfz64_1
                                                                                            try clear hfz67_0
                                                                                            try clear hfz67_1
                                                                                            try clear hfz68_0
                                                                                            try clear hfz68_1
                                                                                            try clear hfz71_0
                                                                                            try clear hfz71_1
                                                                                            try clear hfz72_0
                                                                                            try clear hfz72_1
                                                                                            try clear hfz74_0
                                                                                            try clear hfz74_1
                                                                                            try clear hfz75_0
                                                                                            try clear hfz75_1
                                                                                            try clear hx355_0
                                                                                            try clear p2
                                                                                            try clear p3
                                                                                            try clear p35
                                                                                            try clear p355
                                                                                            try clear p6
                                                                                            try clear p64
                                                                                            try clear q3
                                                                                            try clear q35
                                                                                            try clear q355
                                                                                            obtain ⟨x40_11, x41_11, rfl, rfl, HA, HK11, HO_3, HO_13, BK348, BK352, HB⟩ := hrel
                                                                                            cases gk with
                                                                                            | zero => exact absurd HA.out (by simp [laws_FnDuels.l1])
                                                                                            | succ k11 =>
                                                                                              have H := HA.out
                                                                                              clear HA
                                                                                              simp only [laws_FnDuels.l1] at H
                                                                                              by_cases c100 : x41_11 < (t319.size : Int)
                                                                                              · rw [if_pos c100] at H
                                                                                                have c100b0 : decide (x41_11 < (t319.size : Int)) = true := decide_eq_true c100
                                                                                                clear c100
                                                                                                by_cases c101 : x40_11 = true
                                                                                                · subst c101
                                                                                                  have H1 : (laws_FnDuels.l1 k11 t311 t312 t315 t319 t323 t332 t333 t353 x35_8 (t353.extract (x35_8 : Int).toNat ((wrap64 (x35_8 + 1)) : Int).toNat) x37_87 t356 true (wrap64 (x41_11 + 1))) = some r := by rw [if_pos rfl] at H; exact H
                                                                                                  clear H
                                                                                                  have H := H1
                                                                                                  clear H1
                                                                                                  have H' := Aside0.mk H
                                                                                                  clear H
                                                                                                  go_wp2
                                                                                                  go_roundg k11
                                                                                                  case measure => have := HJ6.out; have := HJ15.out; have := HJ23.out; have := HJ34.out; have := HJ47.out; have := HJ56.out; have := HJ78.out; have := HK8.out; have := HJ87.out; have := HJ95.out; have := HK11.out; omega
                                                                                                  case rel => exact ⟨(true), (wrap64 (x41_11 + 1)), (by first | rfl | (simp; done) | (simp [*]; done)), (by first | rfl | (simp; done) | (simp [*]; done)), H', ⟨by have := HJ6.out; have := HJ15.out; have := HJ23.out; have := HJ34.out; have := HJ47.out; have := HJ56.out; have := HJ78.out; have := HK8.out; have := HJ87.out; have := HJ95.out; have := HK11.out; omega⟩, ⟨by (with_reducible repeat (first | apply Kd.R_alloc | apply Kd.R_drewN | apply Kd.R_drew)); exact HO_3.out⟩, ⟨by (with_reducible repeat (first | apply Kd.R_alloc | apply Kd.R_drewN | apply Kd.R_drew)); exact HO_13.out⟩, ⟨by (with_reducible repeat (first | refine blk_drewN ?_ _ | refine blk_drew ?_ | refine blk_alloc ?_ _)); exact BK348.out⟩, ⟨by (with_reducible repeat (first | refine blk_drewN ?_ _ | refine blk_drew ?_ | refine blk_alloc ?_ _)); exact BK352.out⟩, ⟨by repeat (first | (with_reducible first | exact HB.out | apply below_alloc | apply pw_below_drewN | apply below_drew1 | refine below_set ?_ GE348.out | refine below_set ?_ GE352.out) | exact HB.out)⟩⟩
                                                                                                · replace c101 := Bool.eq_false_iff.mpr c101
                                                                                                  subst c101
                                                                                                  have H1 : (if 0 ≤ x41_11 then (if x41_11 ≤ (wrap64 (x41_11 + 1)) then (if (wrap64 (x41_11 + 1)) ≤ (t319.size : Int) then (laws_FnDuels.l1 k11 t311 t312 t315 t319 t323 t332 t333 t353 x35_8 (t353.extract (x35_8 : Int).toNat ((wrap64 (x35_8 + 1)) : Int).toNat) x37_87 t356 ((t319.extract (x41_11 : Int).toNat ((wrap64 (x41_11 + 1)) : Int).toNat).toList == (t353.extract (x35_8 : Int).toNat ((wrap64 (x35_8 + 1)) : Int).toNat).toList) (wrap64 (x41_11 + 1))) else (none)) else (none)) else (none)) = some r := by rw [if_neg (show ¬ (false = true) by decide)] at H; exact H
                                                                                                  clear H
                                                                                                  have H := H1
                                                                                                  clear H1
                                                                                                  by_cases c102 : 0 ≤ x41_11
                                                                                                  · rw [if_pos c102] at H
                                                                                                    have c102b0 := eq_true c102
                                                                                                    have c102b1 : decide (0 ≤ x41_11) = true := decide_eq_true c102
                                                                                                    clear c102
                                                                                                    by_cases c103 : x41_11 ≤ (wrap64 (x41_11 + 1))
                                                                                                    · rw [if_pos c103] at H
                                                                                                      have c103b0 := eq_true c103
                                                                                                      have c103b1 : decide (x41_11 ≤ (wrap64 (x41_11 + 1))) = true := decide_eq_true c103
                                                                                                      by_cases c104 : (wrap64 (x41_11 + 1)) ≤ (t319.size : Int)
                                                                                                      · rw [if_pos c104] at H
                                                                                                        have c104b0 := eq_true c104
                                                                                                        have c104b1 : decide ((wrap64 (x41_11 + 1)) ≤ (t319.size : Int)) = true := decide_eq_true c104
                                                                                                        have H' := Aside0.mk H
                                                                                                        clear H
                                                                                                        go_wp2
                                                                                                        go_roundg k11
                                                                                                        case measure => have := HJ6.out; have := HJ15.out; have := HJ23.out; have := HJ34.out; have := HJ47.out; have := HJ56.out; have := HJ78.out; have := HK8.out; have := HJ87.out; have := HJ95.out; have := HK11.out; omega
                                                                                                        case rel => exact ⟨(((t319.extract (x41_11 : Int).toNat ((wrap64 (x41_11 + 1)) : Int).toNat).toList == (t353.extract (x35_8 : Int).toNat ((wrap64 (x35_8 + 1)) : Int).toNat).toList)), (wrap64 (x41_11 + 1)), (by first | rfl | (simp; done) | (simp [*]; done)), (by first | rfl | (simp; done) | (simp [*]; done)), H', ⟨by have := HJ6.out; have := HJ15.out; have := HJ23.out; have := HJ34.out; have := HJ47.out; have := HJ56.out; have := HJ78.out; have := HK8.out; have := HJ87.out; have := HJ95.out; have := HK11.out; omega⟩, ⟨by (with_reducible repeat (first | apply Kd.R_alloc | apply Kd.R_drewN | apply Kd.R_drew)); exact HO_3.out⟩, ⟨by (with_reducible repeat (first | apply Kd.R_alloc | apply Kd.R_drewN | apply Kd.R_drew)); exact HO_13.out⟩, ⟨by (with_reducible repeat (first | refine blk_drewN ?_ _ | refine blk_drew ?_ | refine blk_alloc ?_ _)); exact BK348.out⟩, ⟨by (with_reducible repeat (first | refine blk_drewN ?_ _ | refine blk_drew ?_ | refine blk_alloc ?_ _)); exact BK352.out⟩, ⟨by repeat (first | (with_reducible first | exact HB.out | apply below_alloc | apply pw_below_drewN | apply below_drew1 | refine below_set ?_ GE348.out | refine below_set ?_ GE352.out) | exact HB.out)⟩⟩
                                                                                                      · rw [if_neg c104] at H
                                                                                                        exact absurd H (by simp)
                                                                                                    · rw [if_neg c103] at H
                                                                                                      exact absurd H (by simp)
                                                                                                  · rw [if_neg c102] at H
                                                                                                    exact absurd H (by simp)
                                                                                              · rw [if_neg c100] at H
                                                                                                have c100b0 : decide (x41_11 < (t319.size : Int)) = false := decide_eq_false c100
                                                                                                clear c100
                                                                                                by_cases c105 : (x40_11 != ((wrap64 (x37_87 - t356)) == t315)) = true
                                                                                                · rw [if_pos c105] at H
                                                                                                  have c105b0 : (x40_11 != ((wrap64 (x37_87 - t356)) == t315)) = true := c105
                                                                                                  (try (have c105b1 : decide (x40_11 = ((wrap64 (x37_87 - t356)) == t315)) = false := by simpa using c105))
                                                                                                  (try (have c105b2 : (x40_11 == ((wrap64 (x37_87 - t356)) == t315)) = false := by simpa using c105))
                                                                                                  (try (have c105b3 : ¬ (x40_11 = ((wrap64 (x37_87 - t356)) == t315)) := by simpa using c105))
                                                                                                  clear c105
                                                                                                  obtain rfl := Option.some.inj H
                                                                                                  go_wp2
                                                                                                  go_ret
                                                                                                  exact ⟨by first | rfl | (simp [errW_none, errW_some] <;> rfl) | (simp [*, errW_none, errW_some] <;> rfl), by repeat (first | (with_reducible first | exact HB.out | apply below_alloc | apply pw_below_drewN | apply below_drew1 | refine below_set ?_ GE348.out | refine below_set ?_ GE352.out) | exact HB.out)⟩
                                                                                                · rw [if_neg c105] at H
                                                                                                  have c105b0 : (x40_11 != ((wrap64 (x37_87 - t356)) == t315)) = false := by simpa using c105
                                                                                                  (try (have c105b1 : decide (x40_11 = ((wrap64 (x37_87 - t356)) == t315)) = true := by simpa using c105))
                                                                                                  (try (have c105b2 : (x40_11 == ((wrap64 (x37_87 - t356)) == t315)) = true := by simpa using c105))
                                                                                                  clear c105
                                                                                                  by_cases c106 : (t353.extract (x35_8 : Int).toNat ((wrap64 (x35_8 + 1)) : Int).toNat).toList = t332.toList
                                                                                                  · rw [if_pos c106] at H
                                                                                                    have c106b0 : ((t353.extract (x35_8 : Int).toNat ((wrap64 (x35_8 + 1)) : Int).toNat).toList == t332.toList) = true := beq_iff_eq.mpr c106
                                                                                                    have c106b1 : ((t353.extract (x35_8 : Int).toNat ((wrap64 (x35_8 + 1)) : Int).toNat).toList != t332.toList) = false := bne_eq_false_iff_eq.mpr c106
                                                                                                    clear c106
                                                                                                    by_cases c107 : (wrap64 ((wrap64 (t315 - x37_87)) + t356)) = t333
                                                                                                    · rw [if_pos c107] at H
                                                                                                      have c107b0 : ((wrap64 ((wrap64 (t315 - x37_87)) + t356)) == t333) = true := beq_iff_eq.mpr c107
                                                                                                      have c107b1 : ((wrap64 ((wrap64 (t315 - x37_87)) + t356)) != t333) = false := bne_eq_false_iff_eq.mpr c107
                                                                                                      clear c107
                                                                                                      have H' := Aside0.mk H
                                                                                                      clear H
                                                                                                      go_wp2
                                                                                                      go_roundg k11
                                                                                                      case measure => have := HJ6.out; have := HJ15.out; have := HJ23.out; have := HJ34.out; have := HJ47.out; have := HJ56.out; have := HJ78.out; have := HK8.out; have := HJ87.out; have := HJ95.out; have := HK11.out; omega
                                                                                                      case rel => exact ⟨(wrap64 (x35_8 + 1)), (by first | rfl | (simp; done) | (simp [*]; done)), H', ⟨by have := HJ6.out; have := HJ15.out; have := HJ23.out; have := HJ34.out; have := HJ47.out; have := HJ56.out; have := HJ78.out; have := HK8.out; have := HJ87.out; have := HJ95.out; have := HK11.out; omega⟩, ⟨by (with_reducible repeat (first | apply Kd.R_alloc | apply Kd.R_drewN | apply Kd.R_drew)); exact HO_3.out⟩, ⟨by (with_reducible repeat (first | apply Kd.R_alloc | apply Kd.R_drewN | apply Kd.R_drew)); exact HO_13.out⟩, ⟨by (with_reducible repeat (first | refine blk_drewN ?_ _ | refine blk_drew ?_ | refine blk_alloc ?_ _)); exact BK348.out⟩, ⟨by (with_reducible repeat (first | refine blk_drewN ?_ _ | refine blk_drew ?_ | refine blk_alloc ?_ _)); exact BK352.out⟩, ⟨by repeat (first | (with_reducible first | exact HB.out | apply below_alloc | apply pw_below_drewN | apply below_drew1 | refine below_set ?_ GE348.out | refine below_set ?_ GE352.out) | exact HB.out)⟩⟩
                                                                                                    · rw [if_neg c107] at H
                                                                                                      have c107b0 : ((wrap64 ((wrap64 (t315 - x37_87)) + t356)) == t333) = false := beq_eq_false_iff_ne.mpr c107
                                                                                                      have c107b1 : ((wrap64 ((wrap64 (t315 - x37_87)) + t356)) != t333) = true := bne_iff_ne.mpr c107
                                                                                                      obtain rfl := Option.some.inj H
                                                                                                      go_wp2
                                                                                                      go_ret
                                                                                                      exact ⟨by first | rfl | (simp [errW_none, errW_some] <;> rfl) | (simp [*, errW_none, errW_some] <;> rfl), by repeat (first | (with_reducible first | exact HB.out | apply below_alloc | apply pw_below_drewN | apply below_drew1 | refine below_set ?_ GE348.out | refine below_set ?_ GE352.out) | exact HB.out)⟩
                                                                                                  · rw [if_neg c106] at H
                                                                                                    have c106b0 : ((t353.extract (x35_8 : Int).toNat ((wrap64 (x35_8 + 1)) : Int).toNat).toList == t332.toList) = false := beq_eq_false_iff_ne.mpr c106
                                                                                                    have c106b1 : ((t353.extract (x35_8 : Int).toNat ((wrap64 (x35_8 + 1)) : Int).toNat).toList != t332.toList) = true := bne_iff_ne.mpr c106
                                                                                                    have H' := Aside0.mk H
                                                                                                    clear H
                                                                                                    go_wp2
                                                                                                    go_roundg k11
                                                                                                    case measure => have := HJ6.out; have := HJ15.out; have := HJ23.out; have := HJ34.out; have := HJ47.out; have := HJ56.out; have := HJ78.out; have := HK8.out; have := HJ87.out; have := HJ95.out; have := HK11.out; omega
                                                                                                    case rel => exact ⟨(wrap64 (x35_8 + 1)), (by first | rfl | (simp; done) | (simp [*]; done)), H', ⟨by have := HJ6.out; have := HJ15.out; have := HJ23.out; have := HJ34.out; have := HJ47.out; have := HJ56.out; have := HJ78.out; have := HK8.out; have := HJ87.out; have := HJ95.out; have := HK11.out; omega⟩, ⟨by (with_reducible repeat (first | apply Kd.R_alloc | apply Kd.R_drewN | apply Kd.R_drew)); exact HO_3.out⟩, ⟨by (with_reducible repeat (first | apply Kd.R_alloc | apply Kd.R_drewN | apply Kd.R_drew)); exact HO_13.out⟩, ⟨by (with_reducible repeat (first | refine blk_drewN ?_ _ | refine blk_drew ?_ | refine blk_alloc ?_ _)); exact BK348.out⟩, ⟨by (with_reducible repeat (first | refine blk_drewN ?_ _ | refine blk_drew ?_ | refine blk_alloc ?_ _)); exact BK352.out⟩, ⟨by repeat (first | (with_reducible first | exact HB.out | apply below_alloc | apply pw_below_drewN | apply below_drew1 | refine below_set ?_ GE348.out | refine below_set ?_ GE352.out) | exact HB.out)⟩⟩
                                                                                · rw [if_neg c94] at H
                                                                                  exact absurd H (by simp)
                                                                        · rw [if_neg c87] at H
                                                                          exact absurd H (by simp)
                                                                      · rw [if_neg c86] at H
                                                                        exact absurd H (by simp)
                                                                    · rw [if_neg c85] at H
                                                                      exact absurd H (by simp)
                                                                  · rw [if_neg c84] at H
                                                                    have c84b0 : decide (x35_8 < (t353.size : Int)) = false := decide_eq_false c84
                                                                    clear c84
                                                                    obtain rfl := Option.some.inj H
                                                                    go_wp2
                                                                    go_ret
                                                                    exact ⟨by first | rfl | (simp [errW_none, errW_some] <;> rfl) | (simp [*, errW_none, errW_some] <;> rfl), by repeat (first | (with_reducible first | exact HB.out | apply below_alloc | apply pw_below_drewN | apply below_drew1 | refine below_set ?_ GE348.out | refine below_set ?_ GE352.out) | exact HB.out)⟩
                                                    · replace c77 := Bool.eq_false_iff.mpr c77
                                                      subst c77
                                                      have H1 : (some true) = some r := by rw [if_neg (show ¬ (false = true) by decide)] at H; exact H
                                                      clear H
                                                      have H := H1
                                                      clear H1
                                                      obtain rfl := Option.some.inj H
                                                      go_wp2
                                                      go_ret
                                                      exact ⟨by first | rfl | (simp [errW_none, errW_some] <;> rfl) | (simp [*, errW_none, errW_some] <;> rfl), by repeat (first | (with_reducible first | exact HB.out | apply below_alloc | apply pw_below_drewN | apply below_drew1 | refine below_set ?_ GE348.out | refine below_set ?_ GE352.out) | exact HB.out)⟩

/-- THE ONE PURE STATEMENT of laws_FnDuels: yours. -/
def laws_FnDuels.Pure : Prop := ∀ (l0 : List Int), l0.length ≤ maxLen → l0.length * 1 ≤ 140737488351232 → (∀ x ∈ l0, (Lit.int .u8 x).wf = true) → ∃ k, laws_FnDuels.f k l0 = some true
theorem laws_FnDuels.walk (P : laws_FnDuels.Pure) (a0 : Option Addr) (len0 cap0 : Nat) (z0 : List Int) (w : World) (w0 : (a0 = none ∧ len0 = 0 ∧ cap0 = 0 ∧ z0 = []) ∨ ∃ x, a0 = some x ∧ len0 ≤ cap0 ∧ cap0 ≤ maxLen ∧ z0.length = cap0 ∧ (∀ i, i < z0.length → w.cell? (x.add i) = some (.int .u8 (z0.getD i 0))) ∧ ∀ n ∈ z0, (Lit.int .u8 n).wf = true) (y0 : len0 * 1 ≤ 140737488351232) :
    Calls Try.prog 3 #[.slice a0 len0 cap0] w fun e w' => e = .returned (.bool true) ∧ Below w.heap.size w w' := by
  obtain ⟨l0, rfl, hr0, hm0, hw0, hc0⟩ := ReadsInt.ofRowC w0
  obtain ⟨k, h⟩ := P l0 hm0 y0 hw0
  refine (laws_FnDuels.calls k _ _ l0 true w (Kd.C_of_reads (d := (0 : Int)) (h1 := fun _ => rfl) hr0) hc0 ⟨rfl⟩ h).mono ?_
  rintro e w' ⟨rfl, hd⟩
  exact ⟨rfl, hd⟩

end Go.Proofs.Ytnoapomobflknaa.Xd
