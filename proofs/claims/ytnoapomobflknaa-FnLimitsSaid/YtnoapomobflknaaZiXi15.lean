-- Written by this session's own program (xprint.py) over the kit's print.py: functions, contracts and rows of the laws of one seat.
import Derived.Test.YtnoapomobflknaaZiXi0
import Derived.Test.YtnoapomobflknaaZiXi1
import Derived.Test.YtnoapomobflknaaZiXi2
import Derived.Test.YtnoapomobflknaaZiXi3
import Derived.Test.YtnoapomobflknaaZiXi5
import Derived.Test.YtnoapomobflknaaZiXi7
import Derived.Test.YtnoapomobflknaaZiXi8
import Derived.Test.YtnoapomobflknaaZiXi9
import Derived.Test.YtnoapomobflknaaZiXi11
import Derived.Test.YtnoapomobflknaaZiXi12
import Derived.Test.YtnoapomobflknaaZiXi13
import Derived.Test.YtnoapomobflknaaZiXi14
namespace Go.Proofs.Ytnoapomobflknaa.Xi
open Go.RowKit Go.Proofs.YtnoapomobflknaaW.PrintWords Go.Proofs.YtnoapomobflknaaW.PrintLast Go.Proofs.YtnoapomobflknaaW.PrintMore
attribute [local go_sem] max2_int min2_int max_two min_two max_three min_three max_four min_four   -- for this text's walks alone
set_option linter.unusedVariables false
set_option linter.unusedSimpArgs false

/-! ### laws_FnLimits: function 6 -/
mutual
def laws_FnLimits.j0 : Nat → List Int → List Int → Int → Bool → Bool → Bool → Option (Bool)
 | 0, _, _, _, _, _, _ => none
 | k + 1, x0, x3, x4, x5, x6, x84 => if x84 = true then (some false) else ((spec_DrawLimitOf.f k x0).bind fun t587 => ((impl_LimitOf.f k t587).bind fun bt590 => ((spec_LimitOf.f k t587).bind fun bt592 => (if bt590.1 = bt592.1 then (laws_FnLimits.j1 k x0 x3 x4 x5 x6 t587 bt590.1 bt590.2 (bt590.2 != bt592.2)) else (laws_FnLimits.j1 k x0 x3 x4 x5 x6 t587 bt590.1 bt590.2 true)))))
def laws_FnLimits.j1 : Nat → List Int → List Int → Int → Bool → Bool → List Int → Int → Bool → Bool → Option (Bool)
 | 0, _, _, _, _, _, _, _, _, _ => none
 | k + 1, x0, x3, x4, x5, x6, x9, x10, x11, x104 => if x104 = true then (some false) else ((spec_DrawCountWithin.f x0).bind fun bt594 => ((impl_CountWithin.f k bt594.1 bt594.2).bind fun bt596 => ((spec_CountWithin.f k bt594.1 bt594.2).bind fun bt598 => (if bt596.1 = bt598.1 then (laws_FnLimits.j2 k x0 x3 x4 x5 x6 x9 x10 x11 bt594.1 bt594.2 bt596.1 bt596.2 (bt596.2 != bt598.2)) else (laws_FnLimits.j2 k x0 x3 x4 x5 x6 x9 x10 x11 bt594.1 bt594.2 bt596.1 bt596.2 true)))))
def laws_FnLimits.j2 : Nat → List Int → List Int → Int → Bool → Bool → List Int → Int → Bool → Int → Int → Int → Bool → Bool → Option (Bool)
 | 0, _, _, _, _, _, _, _, _, _, _, _, _, _ => none
 | k + 1, x0, x3, x4, x5, x6, x9, x10, x11, x14, x15, x16, x17, x129 => if x129 = true then (some false) else ((impl_CountSortedWithin.f k x14 x15).bind fun bt600 => ((spec_CountSortedWithin.f k x14 x15).bind fun bt602 => (if bt600.1 = bt602.1 then (if (bt600.2 != bt602.2) = true then (laws_FnLimits.j3 k x0 x3 x4 x5 x6 x9 x10 x11 true) else (if (bt600.2 != x17) = true then (laws_FnLimits.j3 k x0 x3 x4 x5 x6 x9 x10 x11 true) else (laws_FnLimits.j3 k x0 x3 x4 x5 x6 x9 x10 x11 (bt600.1 != x16)))) else (laws_FnLimits.j3 k x0 x3 x4 x5 x6 x9 x10 x11 true))))
def laws_FnLimits.j3 : Nat → List Int → List Int → Int → Bool → Bool → List Int → Int → Bool → Bool → Option (Bool)
 | 0, _, _, _, _, _, _, _, _, _ => none
 | k + 1, x0, x3, x4, x5, x6, x9, x10, x11, x159 => if x159 = true then (some false) else ((spec_DrawWithinAt.f k x0).bind fun bt604 => ((impl_WithinAt.f k bt604.1 bt604.2.1 bt604.2.2).bind fun bt607 => ((spec_WithinAt.f k bt604.1 bt604.2.1 bt604.2.2).bind fun bt609 => (if bt607.1.toList = bt609.1.toList then (laws_FnLimits.j4 k x0 x3 x4 x5 x6 x9 x10 x11 bt604.2.1 bt604.2.2 bt607.1 bt607.2 (bt607.2 != bt609.2)) else (laws_FnLimits.j4 k x0 x3 x4 x5 x6 x9 x10 x11 bt604.2.1 bt604.2.2 bt607.1 bt607.2 true)))))
def laws_FnLimits.j4 : Nat → List Int → List Int → Int → Bool → Bool → List Int → Int → Bool → Int → Int → ByteArray → Bool → Bool → Option (Bool)
 | 0, _, _, _, _, _, _, _, _, _, _, _, _, _ => none
 | k + 1, x0, x3, x4, x5, x6, x9, x10, x11, x25, x26, x27, x28, x187 => if x187 = true then (some false) else ((spec_DrawRankWithin.f k x0).bind fun bt611 => ((impl_RankWithin.f k bt611.1 bt611.2).bind fun bt613 => ((spec_RankWithin.f k bt611.1 bt611.2).bind fun bt615 => (if bt613.1 = bt615.1 then (laws_FnLimits.j5 k x0 x3 x4 x5 x6 x9 x10 x11 x25 x26 x27 x28 bt611.1 bt611.2 bt613.1 bt613.2 (bt613.2 != bt615.2)) else (laws_FnLimits.j5 k x0 x3 x4 x5 x6 x9 x10 x11 x25 x26 x27 x28 bt611.1 bt611.2 bt613.1 bt613.2 true)))))
def laws_FnLimits.j5 : Nat → List Int → List Int → Int → Bool → Bool → List Int → Int → Bool → Int → Int → ByteArray → Bool → ByteArray → Int → Int → Bool → Bool → Option (Bool)
 | 0, _, _, _, _, _, _, _, _, _, _, _, _, _, _, _, _, _ => none
 | k + 1, x0, x3, x4, x5, x6, x9, x10, x11, x25, x26, x27, x28, x31, x32, x33, x34, x212 => if x212 = true then (some false) else ((spec_DrawLimitProfile.f x0).bind fun t617 => ((impl_LimitProfile.f k t617).bind fun bt618 => ((spec_LimitProfile.f k t617).bind fun bt622 => (if (bt618.2 != bt622.2) = true then (laws_FnLimits.j6 k x3 x4 x5 x6 x9 x10 x11 x25 x26 x27 x28 x31 x32 x33 x34 t617 bt618.1 bt618.2 true) else ((laws_rInts.f k bt618.1 bt622.1).bind fun t626 => (laws_FnLimits.j6 k x3 x4 x5 x6 x9 x10 x11 x25 x26 x27 x28 x31 x32 x33 x34 t617 bt618.1 bt618.2 (!t626)))))))
def laws_FnLimits.j6 : Nat → List Int → Int → Bool → Bool → List Int → Int → Bool → Int → Int → ByteArray → Bool → ByteArray → Int → Int → Bool → Int → List Int → Bool → Bool → Option (Bool)
 | 0, _, _, _, _, _, _, _, _, _, _, _, _, _, _, _, _, _, _, _ => none
 | k + 1, x3, x4, x5, x6, x9, x10, x11, x25, x26, x27, x28, x31, x32, x33, x34, x37, x38, x39, x233 => if x233 = true then (some false) else (if x11 = true then ((impl_IsSortableWithin.f k x9 x10).bind fun bt627 => (if bt627.2 = true then (laws_FnLimits.j7 k x3 x4 x5 x6 x9 x10 x25 x26 x27 x28 x31 x32 x33 x34 x37 x38 x39 (!bt627.1)) else (laws_FnLimits.j7 k x3 x4 x5 x6 x9 x10 x25 x26 x27 x28 x31 x32 x33 x34 x37 x38 x39 true))) else (laws_FnLimits.j8 k x3 x4 x5 x6 x25 x26 x27 x28 x31 x32 x33 x34 x37 x38 x39))
def laws_FnLimits.j8 : Nat → List Int → Int → Bool → Bool → Int → Int → ByteArray → Bool → ByteArray → Int → Int → Bool → Int → List Int → Bool → Option (Bool)
 | 0, _, _, _, _, _, _, _, _, _, _, _, _, _, _, _ => none
 | k + 1, x3, x4, x5, x6, x25, x26, x27, x28, x31, x32, x33, x34, x37, x38, x39 => if x28 = true then ((impl_RankWithin.f k x27 x25).bind fun bt631 => ((impl_DepthOf.f k x27).bind fun bt633 => (if bt631.2 = true then (if bt633.2 = true then (if bt631.1 = x26 then (if bt633.1 > x25 then (some false) else (laws_FnLimits.j9 k x3 x4 x5 x6 x31 x32 x33 x34 x37 x38 x39)) else (some false)) else (some false)) else (some false)))) else (laws_FnLimits.j9 k x3 x4 x5 x6 x31 x32 x33 x34 x37 x38 x39)
def laws_FnLimits.j9 : Nat → List Int → Int → Bool → Bool → ByteArray → Int → Int → Bool → Int → List Int → Bool → Option (Bool)
 | 0, _, _, _, _, _, _, _, _, _, _, _ => none
 | k + 1, x3, x4, x5, x6, x31, x32, x33, x34, x37, x38, x39 => if x34 = true then ((impl_WithinAt.f k (wrap64 ((x31.size : Int) / 2)) x32 x33).bind fun bt635 => (if bt635.2 = true then (if bt635.1.toList = x31.toList then (laws_FnLimits.j10 k x3 x4 x5 x6 x37 x38 x39) else (some false)) else (some false))) else (laws_FnLimits.j10 k x3 x4 x5 x6 x37 x38 x39)
def laws_FnLimits.j10 : Nat → List Int → Int → Bool → Bool → Int → List Int → Bool → Option (Bool)
 | 0, _, _, _, _, _, _, _ => none
 | k + 1, x3, x4, x5, x6, x37, x38, x39 => if x39 = true then (laws_FnLimits.l0 k x3 x4 x5 x6 x37 x38 0 0) else (if x6 = true then ((impl_MostWithin.f k x3 x4).bind fun bt644 => (if bt644.2 = true then (some (x5 == (bt644.1 == (x3.length : Int)))) else (some false))) else (some true))
def laws_FnLimits.l0 : Nat → List Int → Int → Bool → Bool → Int → List Int → Int → Int → Option (Bool)
 | 0, _, _, _, _, _, _, _, _ => none
 | k + 1, x3, x4, x5, x6, x37, x38, x52, x53 => if x53 < (x38.length : Int) then (if 0 ≤ x53 then (laws_FnLimits.l0 k x3 x4 x5 x6 x37 x38 (wrap64 (x52 + (rd x38 x53))) (wrap64 (x53 + 1))) else (none)) else ((impl_CountOneStack.f k x37).bind fun bt638 => (if bt638.2 = true then (if x52 = bt638.1 then (if 0 < (x38.length : Int) then (if (rd x38 0) = 1 then (if 0 ≤ (wrap64 (x37 - 1)) then (if (wrap64 (x37 - 1)) < (x38.length : Int) then (laws_FnLimits.j12 k x3 x4 x5 x6 ((rd x38 (wrap64 (x37 - 1))) != 1)) else (none)) else (none)) else (laws_FnLimits.j12 k x3 x4 x5 x6 true)) else (none)) else (laws_FnLimits.j12 k x3 x4 x5 x6 true)) else (laws_FnLimits.j12 k x3 x4 x5 x6 true)))
def laws_FnLimits.j12 : Nat → List Int → Int → Bool → Bool → Bool → Option (Bool)
 | 0, _, _, _, _, _ => none
 | k + 1, x3, x4, x5, x6, x341 => if x341 = true then (some false) else (if x6 = true then ((impl_MostWithin.f k x3 x4).bind fun bt642 => (if bt642.2 = true then (some (x5 == (bt642.1 == (x3.length : Int)))) else (some false))) else (some true))
def laws_FnLimits.j7 : Nat → List Int → Int → Bool → Bool → List Int → Int → Int → Int → ByteArray → Bool → ByteArray → Int → Int → Bool → Int → List Int → Bool → Bool → Option (Bool)
 | 0, _, _, _, _, _, _, _, _, _, _, _, _, _, _, _, _, _, _ => none
 | k + 1, x3, x4, x5, x6, x9, x10, x25, x26, x27, x28, x31, x32, x33, x34, x37, x38, x39, x246 => if x246 = true then (some false) else ((impl_IsSortableWithin.f k x9 (wrap64 (x10 - 1))).bind fun bt629 => (if bt629.2 = true then (if bt629.1 = true then (some false) else (laws_FnLimits.j8 k x3 x4 x5 x6 x25 x26 x27 x28 x31 x32 x33 x34 x37 x38 x39)) else (laws_FnLimits.j8 k x3 x4 x5 x6 x25 x26 x27 x28 x31 x32 x33 x34 x37 x38 x39)))
end
def laws_FnLimits.f (k : Nat) (l0 : List Int) : Option (Bool) := (laws_rBig.f l0).bind fun t578 => (if t578 = true then (some true) else ((spec_DrawIsSortableWithin.f k l0).bind fun bt579 => ((impl_IsSortableWithin.f k bt579.1 bt579.2).bind fun bt583 => ((spec_IsSortableWithin.f k bt579.1 bt579.2).bind fun bt585 => (if (bt583.1 != bt585.1) = true then (laws_FnLimits.j0 k l0 bt579.1 bt579.2 bt583.1 bt583.2 true) else (laws_FnLimits.j0 k l0 bt579.1 bt579.2 bt583.1 bt583.2 (bt583.2 != bt585.2)))))))
theorem laws_FnLimits.j0_no {k : Nat} {a0} {a1} {a2} {a3} {a4} (h : laws_FnLimits.j0 k a0 a1 a2 a3 a4 true = some true) : False := by
 cases k with
 | zero => simp only [laws_FnLimits.j0] at h; cases h
 | succ k => simp only [laws_FnLimits.j0, ↓reduceIte] at h; cases h
theorem laws_FnLimits.j1_no {k : Nat} {a0} {a1} {a2} {a3} {a4} {a5} {a6} {a7} (h : laws_FnLimits.j1 k a0 a1 a2 a3 a4 a5 a6 a7 true = some true) : False := by
 cases k with
 | zero => simp only [laws_FnLimits.j1] at h; cases h
 | succ k => simp only [laws_FnLimits.j1, ↓reduceIte] at h; cases h
theorem laws_FnLimits.j2_no {k : Nat} {a0} {a1} {a2} {a3} {a4} {a5} {a6} {a7} {a8} {a9} {a10} {a11} (h : laws_FnLimits.j2 k a0 a1 a2 a3 a4 a5 a6 a7 a8 a9 a10 a11 true = some true) : False := by
 cases k with
 | zero => simp only [laws_FnLimits.j2] at h; cases h
 | succ k => simp only [laws_FnLimits.j2, ↓reduceIte] at h; cases h
theorem laws_FnLimits.j3_no {k : Nat} {a0} {a1} {a2} {a3} {a4} {a5} {a6} {a7} (h : laws_FnLimits.j3 k a0 a1 a2 a3 a4 a5 a6 a7 true = some true) : False := by
 cases k with
 | zero => simp only [laws_FnLimits.j3] at h; cases h
 | succ k => simp only [laws_FnLimits.j3, ↓reduceIte] at h; cases h
theorem laws_FnLimits.j4_no {k : Nat} {a0} {a1} {a2} {a3} {a4} {a5} {a6} {a7} {a8} {a9} {a10} {a11} (h : laws_FnLimits.j4 k a0 a1 a2 a3 a4 a5 a6 a7 a8 a9 a10 a11 true = some true) : False := by
 cases k with
 | zero => simp only [laws_FnLimits.j4] at h; cases h
 | succ k => simp only [laws_FnLimits.j4, ↓reduceIte] at h; cases h
theorem laws_FnLimits.j5_no {k : Nat} {a0} {a1} {a2} {a3} {a4} {a5} {a6} {a7} {a8} {a9} {a10} {a11} {a12} {a13} {a14} {a15} (h : laws_FnLimits.j5 k a0 a1 a2 a3 a4 a5 a6 a7 a8 a9 a10 a11 a12 a13 a14 a15 true = some true) : False := by
 cases k with
 | zero => simp only [laws_FnLimits.j5] at h; cases h
 | succ k => simp only [laws_FnLimits.j5, ↓reduceIte] at h; cases h
theorem laws_FnLimits.j6_no {k : Nat} {a0} {a1} {a2} {a3} {a4} {a5} {a6} {a7} {a8} {a9} {a10} {a11} {a12} {a13} {a14} {a15} {a16} {a17} (h : laws_FnLimits.j6 k a0 a1 a2 a3 a4 a5 a6 a7 a8 a9 a10 a11 a12 a13 a14 a15 a16 a17 true = some true) : False := by
 cases k with
 | zero => simp only [laws_FnLimits.j6] at h; cases h
 | succ k => simp only [laws_FnLimits.j6, ↓reduceIte] at h; cases h
theorem laws_FnLimits.j12_no {k : Nat} {a0} {a1} {a2} {a3} (h : laws_FnLimits.j12 k a0 a1 a2 a3 true = some true) : False := by
 cases k with
 | zero => simp only [laws_FnLimits.j12] at h; cases h
 | succ k => simp only [laws_FnLimits.j12, ↓reduceIte] at h; cases h
theorem laws_FnLimits.j7_no {k : Nat} {a0} {a1} {a2} {a3} {a4} {a5} {a6} {a7} {a8} {a9} {a10} {a11} {a12} {a13} {a14} {a15} {a16} (h : laws_FnLimits.j7 k a0 a1 a2 a3 a4 a5 a6 a7 a8 a9 a10 a11 a12 a13 a14 a15 a16 true = some true) : False := by
 cases k with
 | zero => simp only [laws_FnLimits.j7] at h; cases h
 | succ k => simp only [laws_FnLimits.j7, ↓reduceIte] at h; cases h
set_option maxHeartbeats 8000000 in
set_option maxRecDepth 100000 in
theorem laws_FnLimits.calls (k : Nat) (A0 : Option Addr) (c0 : Nat) (l0 : List Int) (r : Bool) (w : World) (hr0 : Kd.C (Kd.int .u8) w A0 l0.length l0) (hc0 : l0.length ≤ c0) (hr_ : Aside0 (r = true)) (h : laws_FnLimits.f k l0 = some r) :
  Calls Try.prog 6 #[.slice A0 l0.length c0] w fun e w' => e = .returned (.bool r) ∧ Below w.heap.size w w' := by
 have HR0 := Aside0.mk hr0
 have HC0 := Aside0.mk hc0
 clear hr0 hc0
 have HB := Aside0.mk (Below.refl w.heap.size w)
 have H : ((laws_rBig.f l0).bind fun t578 => (if t578 = true then (some true) else ((spec_DrawIsSortableWithin.f k l0).bind fun bt579 => ((impl_IsSortableWithin.f k bt579.1 bt579.2).bind fun bt583 => ((spec_IsSortableWithin.f k bt579.1 bt579.2).bind fun bt585 => (if (bt583.1 != bt585.1) = true then (laws_FnLimits.j0 k l0 bt579.1 bt579.2 bt583.1 bt583.2 true) else (laws_FnLimits.j0 k l0 bt579.1 bt579.2 bt583.1 bt583.2 (bt583.2 != bt585.2)))))))) = some r := h
 clear h
 replace H := Option.bind_eq_some_iff.mp H
 obtain ⟨t578, A20, H⟩ := H
 replace H : (if t578 = true then (some true) else ((spec_DrawIsSortableWithin.f k l0).bind fun bt579 => ((impl_IsSortableWithin.f k bt579.1 bt579.2).bind fun bt583 => ((spec_IsSortableWithin.f k bt579.1 bt579.2).bind fun bt585 => (if (bt583.1 != bt585.1) = true then (laws_FnLimits.j0 k l0 bt579.1 bt579.2 bt583.1 bt583.2 true) else (laws_FnLimits.j0 k l0 bt579.1 bt579.2 bt583.1 bt583.2 (bt583.2 != bt585.2))))))) = some r := H
 have A2 := Aside0.mk A20
 clear A20
 by_cases c3 : t578 = true
 ·subst c3
  have H1 : (some true) = some r := by rw [if_pos rfl] at H; exact H
  clear H
  have H := H1
  clear H1
  obtain rfl := Option.some.inj H
  go_enter Try.func6, Try.ntmps6
  go_wp2_with (first | ((with_reducible refine gate_callee (f := 7) rfl ?_); refine goesL_ (some 59) rfl rfl Try.func7 (by kernel_rfl) rfl #[.slice A0 l0.length c0] rfl qy15 ?_; (with_reducible refine (laws_rBig.calls _ _ l0 true _ ?side1 ?side2 A2.out).mono ?_); (case side1 => repeat (first | exact HR0.out | (with_reducible refine Kd.C_alloc ?_ _) | (with_reducible refine Kd.C_drewN ?_ _) | (with_reducible refine Kd.C_drew ?_))); (case side2 => exact HC0.out); rintro e w' ⟨rfl, ⟨nd, rfl⟩⟩; refine ⟨_, rfl, ?_⟩))
  go_ret
  exact ⟨by first | rfl | (simp [errW_none, errW_some] <;> rfl) | (simp [*, errW_none, errW_some] <;> rfl), by repeat (first | (with_reducible first | exact HB.out | apply below_alloc | apply pw_below_drewN | apply below_drew1) | exact HB.out)⟩
 ·replace c3 := Bool.eq_false_iff.mpr c3
  subst c3
  have H1 : ((spec_DrawIsSortableWithin.f k l0).bind fun bt579 => ((impl_IsSortableWithin.f k bt579.1 bt579.2).bind fun bt583 => ((spec_IsSortableWithin.f k bt579.1 bt579.2).bind fun bt585 => (if (bt583.1 != bt585.1) = true then (laws_FnLimits.j0 k l0 bt579.1 bt579.2 bt583.1 bt583.2 true) else (laws_FnLimits.j0 k l0 bt579.1 bt579.2 bt583.1 bt583.2 (bt583.2 != bt585.2)))))) = some r := by rw [if_neg (show ¬ (false = true) by decide)] at H; exact H
  clear H
  have H := H1
  clear H1
  replace H := Option.bind_eq_some_iff.mp H
  obtain ⟨⟨t579, t580⟩, A40, H⟩ := H
  replace H : ((impl_IsSortableWithin.f k t579 t580).bind fun bt583 => ((spec_IsSortableWithin.f k t579 t580).bind fun bt585 => (if (bt583.1 != bt585.1) = true then (laws_FnLimits.j0 k l0 t579 t580 bt583.1 bt583.2 true) else (laws_FnLimits.j0 k l0 t579 t580 bt583.1 bt583.2 (bt583.2 != bt585.2))))) = some r := H
  have A4 := Aside0.mk A40
  clear A40
  replace H := Option.bind_eq_some_iff.mp H
  obtain ⟨⟨t583, t584⟩, A50, H⟩ := H
  replace H : ((spec_IsSortableWithin.f k t579 t580).bind fun bt585 => (if (t583 != bt585.1) = true then (laws_FnLimits.j0 k l0 t579 t580 t583 t584 true) else (laws_FnLimits.j0 k l0 t579 t580 t583 t584 (t584 != bt585.2)))) = some r := H
  have A5 := Aside0.mk A50
  clear A50
  replace H := Option.bind_eq_some_iff.mp H
  obtain ⟨⟨t585, t586⟩, A60, H⟩ := H
  replace H : (if (t583 != t585) = true then (laws_FnLimits.j0 k l0 t579 t580 t583 t584 true) else (laws_FnLimits.j0 k l0 t579 t580 t583 t584 (t584 != t586))) = some r := H
  have A6 := Aside0.mk A60
  clear A60
  have HC7 := Aside0.mk H
  clear H
  go_enter Try.func6, Try.ntmps6
  go_upto_region 6 with (first | ((with_reducible refine gate_callee (f := 7) rfl ?_); refine goesL_ (some 59) rfl rfl Try.func7 (by kernel_rfl) rfl #[.slice A0 l0.length c0] rfl qy15 ?_; (with_reducible refine (laws_rBig.calls _ _ l0 false _ ?side1 ?side2 A2.out).mono ?_); (case side1 => repeat (first | exact HR0.out | (with_reducible refine Kd.C_alloc ?_ _) | (with_reducible refine Kd.C_drewN ?_ _) | (with_reducible refine Kd.C_drew ?_))); (case side2 => exact HC0.out); rintro e w' ⟨rfl, ⟨nd, rfl⟩⟩; refine ⟨_, rfl, ?_⟩) | ((with_reducible refine gate_callee (f := 55) rfl ?_); refine goesL_ (some 62) rfl rfl Try.func55 (by kernel_rfl) rfl #[.slice A0 l0.length c0] rfl qy15 ?_; (with_reducible refine (spec_DrawIsSortableWithin.calls k _ _ l0 t579 t580 _ ?side1 ?side2 A4.out).mono ?_); (case side1 => repeat (first | exact HR0.out | (with_reducible refine Kd.C_alloc ?_ _) | (with_reducible refine Kd.C_drewN ?_ _) | (with_reducible refine Kd.C_drew ?_))); (case side2 => exact HC0.out); rintro e w8 ⟨v581, rfl, ho0, hb⟩; refine ⟨_, rfl, ?_⟩; have n0_ := Aside0.mk (Kd.R_lower ho0 (below_size qy16)); have n1_ := Aside0.mk (below_step qy16 hb); clear HB; have HO582 := n0_; have HB := n1_; clear n0_ n1_; (try clear hb); (try clear hb2); (try clear hk); (try clear hi); (try clear ho0); obtain ⟨Ao9, co9, eo9⟩ := Kd.R_slice HO582.out; subst eo9) | ((with_reducible refine gate_callee (f := 56) rfl ?_); refine goesL_ (some 68) rfl rfl Try.func56 (by kernel_rfl) rfl #[.slice Ao9 t579.length co9, .int .i64 t580] rfl qy15 ?_; (with_reducible refine (impl_IsSortableWithin.calls k _ _ t579 t580 t583 t584 _ ?side1 ?side2 A5.out).mono ?_); (case side1 => repeat (first | exact (Kd.R_reads' HO582.out).2.2 | (with_reducible refine Kd.C_alloc ?_ _) | (with_reducible refine Kd.C_drewN ?_ _) | (with_reducible refine Kd.C_drew ?_))); (case side2 => exact (Kd.R_reads' HO582.out).2.1); rintro e w10 ⟨rfl, hb⟩; refine ⟨_, rfl, ?_⟩; have n0_ := Aside0.mk (Kd.R_below (by (with_reducible repeat (first | apply Kd.R_alloc | apply Kd.R_drewN | apply Kd.R_drew)); exact HO582.out) hb); have n1_ := Aside0.mk (below_step qy16 hb); clear HO582; clear HB; have HO582 := n0_; have HB := n1_; clear n0_ n1_; (try clear hb); (try clear hb2); (try clear hk); (try clear hi)) | ((with_reducible refine gate_callee (f := 57) rfl ?_); refine goesL_ (some 74) rfl rfl Try.func57 (by kernel_rfl) rfl #[.slice Ao9 t579.length co9, .int .i64 t580] rfl qy15 ?_; (with_reducible refine (spec_IsSortableWithin.calls k _ _ t579 t580 t585 t586 _ ?side1 ?side2 A6.out).mono ?_); (case side1 => repeat (first | exact (Kd.R_reads' HO582.out).2.2 | (with_reducible refine Kd.C_alloc ?_ _) | (with_reducible refine Kd.C_drewN ?_ _) | (with_reducible refine Kd.C_drew ?_))); (case side2 => exact (Kd.R_reads' HO582.out).2.1); rintro e w11 ⟨rfl, hb⟩; refine ⟨_, rfl, ?_⟩; have n0_ := Aside0.mk (Kd.R_below (by (with_reducible repeat (first | apply Kd.R_alloc | apply Kd.R_drewN | apply Kd.R_drew)); exact HO582.out) hb); have n1_ := Aside0.mk (below_step qy16 hb); clear HO582; clear HB; have HO582 := n0_; have HB := n1_; clear n0_ n1_; (try clear hb); (try clear hb2); (try clear hk); (try clear hi)))
  (try simp only [Act.put, List.setIfInBounds_toArray, List.set_cons_zero, List.set_cons_succ])
  go_cut [84] (fun v84 wc => ∃ (kq : Nat) (x84_6 : Bool), v84 = .bool x84_6 ∧ Aside0 (laws_FnLimits.j0 kq l0 t579 t580 t583 t584 x84_6 = some r) ∧ Aside0 (kq ≤ k) ∧ Aside0 (Kd.R (Kd.int .i64) 3 wc w.heap.size (fun _ => True) (.slice Ao9 t579.length co9) t579) ∧ Aside0 (Below w.heap.size w wc))
  case first =>
   have H := HC7.out
   clear HC7
   by_cases c12 : (t583 != t585) = true
   ·rw [if_pos c12] at H
    exact (laws_FnLimits.j0_no (hr_.out ▸ H)).elim
   ·rw [if_neg c12] at H
    have c12b0 : (t583 != t585) = false := by simpa using c12
    (try (have c12b1 : decide (t583 = t585) = true := by simpa using c12))
    (try (have c12b2 : (t583 == t585) = true := by simpa using c12))
    clear c12
    (first | rw [c12b0] | (simp only [i64_w, i32_w]; rw [c12b0]) | skip)
    have H' := Aside0.mk H
    clear H
    go_wp2
    go_meet
    case rel => exact ⟨_, ((t584 != t586)), qy44, H', ⟨by first | omega | exact Nat.le_refl _⟩, ⟨by (with_reducible repeat (first | apply Kd.R_alloc | apply Kd.R_drewN | apply Kd.R_drew)); exact HO582.out⟩, ⟨by repeat (first | (with_reducible first | exact HB.out | apply below_alloc | apply pw_below_drewN | apply below_drew1) | exact HB.out)⟩⟩
  case rest =>
   as_aux_lemma =>
    clear HC7
    try clear c1
    try clear p2
    try clear c3
    try clear c5
    try clear c6
    try clear c7
    try clear c12
    try clear c12b0
    try clear c12b1
    try clear c12b2
    obtain ⟨kq, x84_6, rfl, HA, HJ6, HO_3, HB⟩ := hcut
    cases kq with
    | zero => exact absurd HA.out (by simp [laws_FnLimits.j0])
    | succ kj6 =>
     have H := HA.out
     clear HA
     simp only [laws_FnLimits.j0] at H
     by_cases c13 : x84_6 = true
     ·subst c13
      have H1 : (some false) = some r := by rw [if_pos rfl] at H; exact H
      exact absurd ((Option.some.inj H1).trans hr_.out) Bool.false_ne_true
     ·replace c13 := Bool.eq_false_iff.mpr c13
      subst c13
      have H1 : ((spec_DrawLimitOf.f kj6 l0).bind fun t587 => ((impl_LimitOf.f kj6 t587).bind fun bt590 => ((spec_LimitOf.f kj6 t587).bind fun bt592 => (if bt590.1 = bt592.1 then (laws_FnLimits.j1 kj6 l0 t579 t580 t583 t584 t587 bt590.1 bt590.2 (bt590.2 != bt592.2)) else (laws_FnLimits.j1 kj6 l0 t579 t580 t583 t584 t587 bt590.1 bt590.2 true))))) = some r := by rw [if_neg (show ¬ (false = true) by decide)] at H; exact H
      clear H
      have H := H1
      clear H1
      replace H := Option.bind_eq_some_iff.mp H
      obtain ⟨t587, A140, H⟩ := H
      replace H : ((impl_LimitOf.f kj6 t587).bind fun bt590 => ((spec_LimitOf.f kj6 t587).bind fun bt592 => (if bt590.1 = bt592.1 then (laws_FnLimits.j1 kj6 l0 t579 t580 t583 t584 t587 bt590.1 bt590.2 (bt590.2 != bt592.2)) else (laws_FnLimits.j1 kj6 l0 t579 t580 t583 t584 t587 bt590.1 bt590.2 true)))) = some r := H
      have A14 := Aside0.mk A140
      clear A140
      replace H := Option.bind_eq_some_iff.mp H
      obtain ⟨⟨t590, t591⟩, A150, H⟩ := H
      replace H : ((spec_LimitOf.f kj6 t587).bind fun bt592 => (if t590 = bt592.1 then (laws_FnLimits.j1 kj6 l0 t579 t580 t583 t584 t587 t590 t591 (t591 != bt592.2)) else (laws_FnLimits.j1 kj6 l0 t579 t580 t583 t584 t587 t590 t591 true))) = some r := H
      have A15 := Aside0.mk A150
      clear A150
      replace H := Option.bind_eq_some_iff.mp H
      obtain ⟨⟨t592, t593⟩, A160, H⟩ := H
      replace H : (if t590 = t592 then (laws_FnLimits.j1 kj6 l0 t579 t580 t583 t584 t587 t590 t591 (t591 != t593)) else (laws_FnLimits.j1 kj6 l0 t579 t580 t583 t584 t587 t590 t591 true)) = some r := H
      have A16 := Aside0.mk A160
      clear A160
      have HC17 := Aside0.mk H
      clear H
      go_upto_region 11 with (first | ((with_reducible refine gate_callee (f := 58) rfl ?_); refine goesL_ (some 86) rfl rfl Try.func58 (by kernel_rfl) rfl #[.slice A0 l0.length c0] rfl qy15 ?_; (with_reducible refine (spec_DrawLimitOf.calls kj6 _ _ l0 t587 _ ?side1 ?side2 A14.out).mono ?_); (case side1 => repeat (first | exact (Kd.C_below HR0.out HB.out) | (with_reducible refine Kd.C_alloc ?_ _) | (with_reducible refine Kd.C_drewN ?_ _) | (with_reducible refine Kd.C_drew ?_))); (case side2 => exact HC0.out); rintro e w18 ⟨v588, rfl, ho0, hb⟩; refine ⟨_, rfl, ?_⟩; have n0_ := Aside0.mk (Kd.R_elder' qy36 (Kd.R_base ho0) hb); have n1_ := Aside0.mk (Kd.R_lower (Kd.R_new' ho0 (Kd.R_lt qy36)) (below_size qy16)); have n2_ := Aside0.mk (below_step qy16 hb); clear HO_3; clear HB; have HO_3 := n0_; have HO589 := n1_; have HB := n2_; clear n0_ n1_ n2_; (try clear hb); (try clear hb2); (try clear hk); (try clear hi); (try clear ho0); obtain ⟨Ao19, co19, eo19⟩ := Kd.R_slice HO589.out; subst eo19) | ((with_reducible refine gate_callee (f := 59) rfl ?_); refine goesL_ (some 89) rfl rfl Try.func59 (by kernel_rfl) rfl #[.slice Ao19 t587.length co19] rfl qy15 ?_; (with_reducible refine (impl_LimitOf.calls kj6 _ _ t587 t590 t591 _ ?side1 ?side2 A15.out).mono ?_); (case side1 => repeat (first | exact (Kd.R_reads' HO589.out).2.2 | (with_reducible refine Kd.C_alloc ?_ _) | (with_reducible refine Kd.C_drewN ?_ _) | (with_reducible refine Kd.C_drew ?_))); (case side2 => exact (Kd.R_reads' HO589.out).2.1); rintro e w20 ⟨rfl, hb⟩; refine ⟨_, rfl, ?_⟩; have n0_ := Aside0.mk (Kd.R_below qy36 hb); have n1_ := Aside0.mk (Kd.R_below (by (with_reducible repeat (first | apply Kd.R_alloc | apply Kd.R_drewN | apply Kd.R_drew)); exact HO589.out) hb); have n2_ := Aside0.mk (below_step qy16 hb); clear HO_3; clear HO589; clear HB; have HO_3 := n0_; have HO589 := n1_; have HB := n2_; clear n0_ n1_ n2_; (try clear hb); (try clear hb2); (try clear hk); (try clear hi)) | ((with_reducible refine gate_callee (f := 60) rfl ?_); refine goesL_ (some 94) rfl rfl Try.func60 (by kernel_rfl) rfl #[.slice Ao19 t587.length co19] rfl qy15 ?_; (with_reducible refine (spec_LimitOf.calls kj6 _ _ t587 t592 t593 _ ?side1 ?side2 A16.out).mono ?_); (case side1 => repeat (first | exact (Kd.R_reads' HO589.out).2.2 | (with_reducible refine Kd.C_alloc ?_ _) | (with_reducible refine Kd.C_drewN ?_ _) | (with_reducible refine Kd.C_drew ?_))); (case side2 => exact (Kd.R_reads' HO589.out).2.1); rintro e w21 ⟨rfl, hb⟩; refine ⟨_, rfl, ?_⟩; have n0_ := Aside0.mk (Kd.R_below qy36 hb); have n1_ := Aside0.mk (Kd.R_below (by (with_reducible repeat (first | apply Kd.R_alloc | apply Kd.R_drewN | apply Kd.R_drew)); exact HO589.out) hb); have n2_ := Aside0.mk (below_step qy16 hb); clear HO_3; clear HO589; clear HB; have HO_3 := n0_; have HO589 := n1_; have HB := n2_; clear n0_ n1_ n2_; (try clear hb); (try clear hb2); (try clear hk); (try clear hi)))
      (try simp only [Act.put, List.setIfInBounds_toArray, List.set_cons_zero, List.set_cons_succ])
      go_cut [104] (fun v104 wc => ∃ (kq : Nat) (x104_16 : Bool), v104 = .bool x104_16 ∧ Aside0 (laws_FnLimits.j1 kq l0 t579 t580 t583 t584 t587 t590 t591 x104_16 = some r) ∧ Aside0 (kq ≤ kj6) ∧ Aside0 (Kd.R (Kd.int .i64) 3 wc w.heap.size (fun k_ => some k_ ≠ ((.slice Ao19 t587.length co19) : Value).ownBlock) (.slice Ao9 t579.length co9) t579) ∧ Aside0 (Kd.R (Kd.int .i64) 3 wc w.heap.size (fun k_ => some k_ ≠ ((.slice Ao9 t579.length co9) : Value).ownBlock) (.slice Ao19 t587.length co19) t587) ∧ Aside0 (Below w.heap.size w wc))
      case first =>
       have H := HC17.out
       clear HC17
       by_cases c22 : t590 = t592
       ·rw [if_pos c22] at H
        have c22b0 : (t590 == t592) = true := beq_iff_eq.mpr c22
        have c22b1 : (t590 != t592) = false := bne_eq_false_iff_eq.mpr c22
        clear c22
        (first | rw [c22b0] | (simp only [i64_w, i32_w]; rw [c22b0]) | skip)
        have H' := Aside0.mk H
        clear H
        go_wp2
        go_meet
        case rel => exact ⟨_, ((t591 != t593)), qy44, H', ⟨by have := HJ6.out; first | omega | exact Nat.le_refl _⟩, ⟨by (with_reducible repeat (first | apply Kd.R_alloc | apply Kd.R_drewN | apply Kd.R_drew)); exact Kd.R_mono HO_3.out (fun _ hk => hk.2)⟩, ⟨by (with_reducible repeat (first | apply Kd.R_alloc | apply Kd.R_drewN | apply Kd.R_drew)); exact Kd.R_mono HO589.out (fun _ hk => hk.2)⟩, ⟨by repeat (first | (with_reducible first | exact HB.out | apply below_alloc | apply pw_below_drewN | apply below_drew1) | exact HB.out)⟩⟩
       ·rw [if_neg c22] at H
        exact (laws_FnLimits.j1_no (hr_.out ▸ H)).elim
      case rest =>
       as_aux_lemma =>
        clear HC17
        try clear c1
        try clear c2
        try clear p2
        try clear c3
        try clear c5
        try clear c6
        try clear c7
        try clear c12
        try clear c12b0
        try clear c12b1
        try clear c12b2
        try clear c13
        try clear c22
        try clear c22b0
        try clear c22b1
        try clear p2
        obtain ⟨kq, x104_16, rfl, HA, HJ16, HO_3, HO_9, HB⟩ := hcut
        cases kq with
        | zero => exact absurd HA.out (by simp [laws_FnLimits.j1])
        | succ kj16 =>
         have H := HA.out
         clear HA
         simp only [laws_FnLimits.j1] at H
         by_cases c23 : x104_16 = true
         ·subst c23
          have H1 : (some false) = some r := by rw [if_pos rfl] at H; exact H
          exact absurd ((Option.some.inj H1).trans hr_.out) Bool.false_ne_true
         ·replace c23 := Bool.eq_false_iff.mpr c23
          subst c23
          have H1 : ((spec_DrawCountWithin.f l0).bind fun bt594 => ((impl_CountWithin.f kj16 bt594.1 bt594.2).bind fun bt596 => ((spec_CountWithin.f kj16 bt594.1 bt594.2).bind fun bt598 => (if bt596.1 = bt598.1 then (laws_FnLimits.j2 kj16 l0 t579 t580 t583 t584 t587 t590 t591 bt594.1 bt594.2 bt596.1 bt596.2 (bt596.2 != bt598.2)) else (laws_FnLimits.j2 kj16 l0 t579 t580 t583 t584 t587 t590 t591 bt594.1 bt594.2 bt596.1 bt596.2 true))))) = some r := by rw [if_neg (show ¬ (false = true) by decide)] at H; exact H
          clear H
          have H := H1
          clear H1
          replace H := Option.bind_eq_some_iff.mp H
          obtain ⟨⟨t594, t595⟩, A240, H⟩ := H
          replace H : ((impl_CountWithin.f kj16 t594 t595).bind fun bt596 => ((spec_CountWithin.f kj16 t594 t595).bind fun bt598 => (if bt596.1 = bt598.1 then (laws_FnLimits.j2 kj16 l0 t579 t580 t583 t584 t587 t590 t591 t594 t595 bt596.1 bt596.2 (bt596.2 != bt598.2)) else (laws_FnLimits.j2 kj16 l0 t579 t580 t583 t584 t587 t590 t591 t594 t595 bt596.1 bt596.2 true)))) = some r := H
          have A24 := Aside0.mk A240
          clear A240
          replace H := Option.bind_eq_some_iff.mp H
          obtain ⟨⟨t596, t597⟩, A250, H⟩ := H
          replace H : ((spec_CountWithin.f kj16 t594 t595).bind fun bt598 => (if t596 = bt598.1 then (laws_FnLimits.j2 kj16 l0 t579 t580 t583 t584 t587 t590 t591 t594 t595 t596 t597 (t597 != bt598.2)) else (laws_FnLimits.j2 kj16 l0 t579 t580 t583 t584 t587 t590 t591 t594 t595 t596 t597 true))) = some r := H
          have A25 := Aside0.mk A250
          clear A250
          replace H := Option.bind_eq_some_iff.mp H
          obtain ⟨⟨t598, t599⟩, A260, H⟩ := H
          replace H : (if t596 = t598 then (laws_FnLimits.j2 kj16 l0 t579 t580 t583 t584 t587 t590 t591 t594 t595 t596 t597 (t597 != t599)) else (laws_FnLimits.j2 kj16 l0 t579 t580 t583 t584 t587 t590 t591 t594 t595 t596 t597 true)) = some r := H
          have A26 := Aside0.mk A260
          clear A260
          have HC27 := Aside0.mk H
          clear H
          go_upto_region 16 with (first | ((with_reducible refine gate_callee (f := 61) rfl ?_); refine goesL_ (some 107) rfl rfl Try.func61 (by kernel_rfl) rfl #[.slice A0 l0.length c0] rfl qy15 ?_; (with_reducible refine (spec_DrawCountWithin.calls _ _ l0 t594 t595 _ ?side1 ?side2 A24.out).mono ?_); (case side1 => repeat (first | exact (Kd.C_below HR0.out HB.out) | (with_reducible refine Kd.C_alloc ?_ _) | (with_reducible refine Kd.C_drewN ?_ _) | (with_reducible refine Kd.C_drew ?_))); (case side2 => exact HC0.out); rintro e w28 ⟨rfl, hb⟩; refine ⟨_, rfl, ?_⟩; have n0_ := Aside0.mk (Kd.R_below qy36 hb); have n1_ := Aside0.mk (Kd.R_below qy32 hb); have n2_ := Aside0.mk (below_step qy16 hb); clear HO_3; clear HO_9; clear HB; have HO_3 := n0_; have HO_9 := n1_; have HB := n2_; clear n0_ n1_ n2_; (try clear hb); (try clear hb2); (try clear hk); (try clear hi)) | ((with_reducible refine gate_callee (f := 62) rfl ?_); refine goesL_ (some 113) rfl rfl Try.func62 (by kernel_rfl) rfl #[.int .i64 t594, .int .i64 t595] rfl qy15 ?_; (with_reducible refine (impl_CountWithin.calls kj16 t594 t595 t596 t597 _ A25.out).mono ?_); rintro e w29 ⟨rfl, hb⟩; refine ⟨_, rfl, ?_⟩; have n0_ := Aside0.mk (Kd.R_below qy36 hb); have n1_ := Aside0.mk (Kd.R_below qy32 hb); have n2_ := Aside0.mk (below_step qy16 hb); clear HO_3; clear HO_9; clear HB; have HO_3 := n0_; have HO_9 := n1_; have HB := n2_; clear n0_ n1_ n2_; (try clear hb); (try clear hb2); (try clear hk); (try clear hi)) | ((with_reducible refine gate_callee (f := 63) rfl ?_); refine goesL_ (some 119) rfl rfl Try.func63 (by kernel_rfl) rfl #[.int .i64 t594, .int .i64 t595] rfl qy15 ?_; (with_reducible refine (spec_CountWithin.calls kj16 t594 t595 t598 t599 _ A26.out).mono ?_); rintro e w30 ⟨rfl, hb⟩; refine ⟨_, rfl, ?_⟩; have n0_ := Aside0.mk (Kd.R_below qy36 hb); have n1_ := Aside0.mk (Kd.R_below qy32 hb); have n2_ := Aside0.mk (below_step qy16 hb); clear HO_3; clear HO_9; clear HB; have HO_3 := n0_; have HO_9 := n1_; have HB := n2_; clear n0_ n1_ n2_; (try clear hb); (try clear hb2); (try clear hk); (try clear hi)))
          (try simp only [Act.put, List.setIfInBounds_toArray, List.set_cons_zero, List.set_cons_succ])
          go_cut [129] (fun v129 wc => ∃ (kq : Nat) (x129_26 : Bool), v129 = .bool x129_26 ∧ Aside0 (laws_FnLimits.j2 kq l0 t579 t580 t583 t584 t587 t590 t591 t594 t595 t596 t597 x129_26 = some r) ∧ Aside0 (kq ≤ kj16) ∧ Aside0 (Kd.R (Kd.int .i64) 3 wc w.heap.size (fun k_ => some k_ ≠ ((.slice Ao19 t587.length co19) : Value).ownBlock) (.slice Ao9 t579.length co9) t579) ∧ Aside0 (Kd.R (Kd.int .i64) 3 wc w.heap.size (fun k_ => some k_ ≠ ((.slice Ao9 t579.length co9) : Value).ownBlock) (.slice Ao19 t587.length co19) t587) ∧ Aside0 (Below w.heap.size w wc))
          case first =>
           have H := HC27.out
           clear HC27
           by_cases c31 : t596 = t598
           ·rw [if_pos c31] at H
            have c31b0 : (t596 == t598) = true := beq_iff_eq.mpr c31
            have c31b1 : (t596 != t598) = false := bne_eq_false_iff_eq.mpr c31
            clear c31
            (first | rw [c31b0] | (simp only [i64_w, i32_w]; rw [c31b0]) | skip)
            have H' := Aside0.mk H
            clear H
            go_wp2
            go_meet
            case rel => exact ⟨_, ((t597 != t599)), qy44, H', ⟨by have := HJ6.out; have := HJ16.out; first | omega | exact Nat.le_refl _⟩, ⟨by (with_reducible repeat (first | apply Kd.R_alloc | apply Kd.R_drewN | apply Kd.R_drew)); exact HO_3.out⟩, ⟨by (with_reducible repeat (first | apply Kd.R_alloc | apply Kd.R_drewN | apply Kd.R_drew)); exact HO_9.out⟩, ⟨by repeat (first | (with_reducible first | exact HB.out | apply below_alloc | apply pw_below_drewN | apply below_drew1) | exact HB.out)⟩⟩
           ·rw [if_neg c31] at H
            exact (laws_FnLimits.j2_no (hr_.out ▸ H)).elim
          case rest =>
           as_aux_lemma =>
            clear HC27
            try clear c1
            try clear c2
            try clear p2
            try clear c3
            try clear c5
            try clear c6
            try clear c7
            try clear c12
            try clear c12b0
            try clear c12b1
            try clear c12b2
            try clear c13
            try clear c22
            try clear c22b0
            try clear c22b1
            try clear c23
            try clear c31
            try clear c31b0
            try clear c31b1
            try clear p2
            obtain ⟨kq, x129_26, rfl, HA, HJ26, HO_3, HO_9, HB⟩ := hcut
            cases kq with
            | zero => exact absurd HA.out (by simp [laws_FnLimits.j2])
            | succ kj26 =>
             have H := HA.out
             clear HA
             simp only [laws_FnLimits.j2] at H
             by_cases c32 : x129_26 = true
             ·subst c32
              have H1 : (some false) = some r := by rw [if_pos rfl] at H; exact H
              exact absurd ((Option.some.inj H1).trans hr_.out) Bool.false_ne_true
             ·replace c32 := Bool.eq_false_iff.mpr c32
              subst c32
              have H1 : ((impl_CountSortedWithin.f kj26 t594 t595).bind fun bt600 => ((spec_CountSortedWithin.f kj26 t594 t595).bind fun bt602 => (if bt600.1 = bt602.1 then (if (bt600.2 != bt602.2) = true then (laws_FnLimits.j3 kj26 l0 t579 t580 t583 t584 t587 t590 t591 true) else (if (bt600.2 != t597) = true then (laws_FnLimits.j3 kj26 l0 t579 t580 t583 t584 t587 t590 t591 true) else (laws_FnLimits.j3 kj26 l0 t579 t580 t583 t584 t587 t590 t591 (bt600.1 != t596)))) else (laws_FnLimits.j3 kj26 l0 t579 t580 t583 t584 t587 t590 t591 true)))) = some r := by rw [if_neg (show ¬ (false = true) by decide)] at H; exact H
              clear H
              have H := H1
              clear H1
              replace H := Option.bind_eq_some_iff.mp H
              obtain ⟨⟨t600, t601⟩, A330, H⟩ := H
              replace H : ((spec_CountSortedWithin.f kj26 t594 t595).bind fun bt602 => (if t600 = bt602.1 then (if (t601 != bt602.2) = true then (laws_FnLimits.j3 kj26 l0 t579 t580 t583 t584 t587 t590 t591 true) else (if (t601 != t597) = true then (laws_FnLimits.j3 kj26 l0 t579 t580 t583 t584 t587 t590 t591 true) else (laws_FnLimits.j3 kj26 l0 t579 t580 t583 t584 t587 t590 t591 (t600 != t596)))) else (laws_FnLimits.j3 kj26 l0 t579 t580 t583 t584 t587 t590 t591 true))) = some r := H
              have A33 := Aside0.mk A330
              clear A330
              replace H := Option.bind_eq_some_iff.mp H
              obtain ⟨⟨t602, t603⟩, A340, H⟩ := H
              replace H : (if t600 = t602 then (if (t601 != t603) = true then (laws_FnLimits.j3 kj26 l0 t579 t580 t583 t584 t587 t590 t591 true) else (if (t601 != t597) = true then (laws_FnLimits.j3 kj26 l0 t579 t580 t583 t584 t587 t590 t591 true) else (laws_FnLimits.j3 kj26 l0 t579 t580 t583 t584 t587 t590 t591 (t600 != t596)))) else (laws_FnLimits.j3 kj26 l0 t579 t580 t583 t584 t587 t590 t591 true)) = some r := H
              have A34 := Aside0.mk A340
              clear A340
              have HC35 := Aside0.mk H
              clear H
              go_upto_region 20 with (first | ((with_reducible refine gate_callee (f := 64) rfl ?_); refine goesL_ (some 133) rfl rfl Try.func64 (by kernel_rfl) rfl #[.int .i64 t594, .int .i64 t595] rfl qy15 ?_; (with_reducible refine (impl_CountSortedWithin.calls kj26 t594 t595 t600 t601 _ A33.out).mono ?_); rintro e w36 ⟨rfl, hb⟩; refine ⟨_, rfl, ?_⟩; have n0_ := Aside0.mk (Kd.R_below qy36 hb); have n1_ := Aside0.mk (Kd.R_below qy32 hb); have n2_ := Aside0.mk (below_step qy16 hb); clear HO_3; clear HO_9; clear HB; have HO_3 := n0_; have HO_9 := n1_; have HB := n2_; clear n0_ n1_ n2_; (try clear hb); (try clear hb2); (try clear hk); (try clear hi)) | ((with_reducible refine gate_callee (f := 65) rfl ?_); refine goesL_ (some 139) rfl rfl Try.func65 (by kernel_rfl) rfl #[.int .i64 t594, .int .i64 t595] rfl qy15 ?_; (with_reducible refine (spec_CountSortedWithin.calls kj26 t594 t595 t602 t603 _ A34.out).mono ?_); rintro e w37 ⟨rfl, hb⟩; refine ⟨_, rfl, ?_⟩; have n0_ := Aside0.mk (Kd.R_below qy36 hb); have n1_ := Aside0.mk (Kd.R_below qy32 hb); have n2_ := Aside0.mk (below_step qy16 hb); clear HO_3; clear HO_9; clear HB; have HO_3 := n0_; have HO_9 := n1_; have HB := n2_; clear n0_ n1_ n2_; (try clear hb); (try clear hb2); (try clear hk); (try clear hi)))
              (try simp only [Act.put, List.setIfInBounds_toArray, List.set_cons_zero, List.set_cons_succ])
              go_cut [159] (fun v159 wc => ∃ (kq : Nat) (x159_34 : Bool), v159 = .bool x159_34 ∧ Aside0 (laws_FnLimits.j3 kq l0 t579 t580 t583 t584 t587 t590 t591 x159_34 = some r) ∧ Aside0 (kq ≤ kj26) ∧ Aside0 (Kd.R (Kd.int .i64) 3 wc w.heap.size (fun k_ => some k_ ≠ ((.slice Ao19 t587.length co19) : Value).ownBlock) (.slice Ao9 t579.length co9) t579) ∧ Aside0 (Kd.R (Kd.int .i64) 3 wc w.heap.size (fun k_ => some k_ ≠ ((.slice Ao9 t579.length co9) : Value).ownBlock) (.slice Ao19 t587.length co19) t587) ∧ Aside0 (Below w.heap.size w wc))
              case first =>
               have H := HC35.out
               clear HC35
               by_cases c38 : t600 = t602
               ·rw [if_pos c38] at H
                have c38b0 : (t600 == t602) = true := beq_iff_eq.mpr c38
                have c38b1 : (t600 != t602) = false := bne_eq_false_iff_eq.mpr c38
                clear c38
                (first | rw [c38b0] | (simp only [i64_w, i32_w]; rw [c38b0]) | skip)
                by_cases c39 : (t601 != t603) = true
                ·rw [if_pos c39] at H
                 exact (laws_FnLimits.j3_no (hr_.out ▸ H)).elim
                ·rw [if_neg c39] at H
                 have c39b0 : (t601 != t603) = false := by simpa using c39
                 (try (have c39b1 : decide (t601 = t603) = true := by simpa using c39))
                 (try (have c39b2 : (t601 == t603) = true := by simpa using c39))
                 clear c39
                 by_cases c40 : (t601 != t597) = true
                 ·rw [if_pos c40] at H
                  exact (laws_FnLimits.j3_no (hr_.out ▸ H)).elim
                 ·rw [if_neg c40] at H
                  have c40b0 : (t601 != t597) = false := by simpa using c40
                  (try (have c40b1 : decide (t601 = t597) = true := by simpa using c40))
                  (try (have c40b2 : (t601 == t597) = true := by simpa using c40))
                  clear c40
                  have H' := Aside0.mk H
                  clear H
                  go_wp2
                  go_meet
                  case rel => exact ⟨_, ((t600 != t596)), qy44, H', ⟨by have := HJ6.out; have := HJ16.out; have := HJ26.out; first | omega | exact Nat.le_refl _⟩, ⟨by (with_reducible repeat (first | apply Kd.R_alloc | apply Kd.R_drewN | apply Kd.R_drew)); exact HO_3.out⟩, ⟨by (with_reducible repeat (first | apply Kd.R_alloc | apply Kd.R_drewN | apply Kd.R_drew)); exact HO_9.out⟩, ⟨by repeat (first | (with_reducible first | exact HB.out | apply below_alloc | apply pw_below_drewN | apply below_drew1) | exact HB.out)⟩⟩
               ·rw [if_neg c38] at H
                exact (laws_FnLimits.j3_no (hr_.out ▸ H)).elim
              case rest =>
               as_aux_lemma =>
                clear HC35
                try clear c1
                try clear c2
                try clear p2
                try clear c3
                try clear c4
                try clear c5
                try clear c6
                try clear c7
                try clear c12
                try clear c12b0
                try clear c12b1
                try clear c12b2
                try clear c13
                try clear c22
                try clear c22b0
                try clear c22b1
                try clear c23
                try clear c31
                try clear c31b0
                try clear c31b1
                try clear c32
                try clear c38
                try clear c38b0
                try clear c38b1
                try clear c39
                try clear c39b0
                try clear c39b1
                try clear c39b2
                try clear c40
                try clear c40b0
                try clear c40b1
                try clear c40b2
                try clear p2
                obtain ⟨kq, x159_34, rfl, HA, HJ34, HO_3, HO_9, HB⟩ := hcut
                cases kq with
                | zero => exact absurd HA.out (by simp [laws_FnLimits.j3])
                | succ kj34 =>
                 have H := HA.out
                 clear HA
                 simp only [laws_FnLimits.j3] at H
                 by_cases c41 : x159_34 = true
                 ·subst c41
                  have H1 : (some false) = some r := by rw [if_pos rfl] at H; exact H
                  exact absurd ((Option.some.inj H1).trans hr_.out) Bool.false_ne_true
                 ·replace c41 := Bool.eq_false_iff.mpr c41
                  subst c41
                  have H1 : ((spec_DrawWithinAt.f kj34 l0).bind fun bt604 => ((impl_WithinAt.f kj34 bt604.1 bt604.2.1 bt604.2.2).bind fun bt607 => ((spec_WithinAt.f kj34 bt604.1 bt604.2.1 bt604.2.2).bind fun bt609 => (if bt607.1.toList = bt609.1.toList then (laws_FnLimits.j4 kj34 l0 t579 t580 t583 t584 t587 t590 t591 bt604.2.1 bt604.2.2 bt607.1 bt607.2 (bt607.2 != bt609.2)) else (laws_FnLimits.j4 kj34 l0 t579 t580 t583 t584 t587 t590 t591 bt604.2.1 bt604.2.2 bt607.1 bt607.2 true))))) = some r := by rw [if_neg (show ¬ (false = true) by decide)] at H; exact H
                  clear H
                  have H := H1
                  clear H1
                  replace H := Option.bind_eq_some_iff.mp H
                  obtain ⟨⟨t604, t605, t606⟩, A420, H⟩ := H
                  replace H : ((impl_WithinAt.f kj34 t604 t605 t606).bind fun bt607 => ((spec_WithinAt.f kj34 t604 t605 t606).bind fun bt609 => (if bt607.1.toList = bt609.1.toList then (laws_FnLimits.j4 kj34 l0 t579 t580 t583 t584 t587 t590 t591 t605 t606 bt607.1 bt607.2 (bt607.2 != bt609.2)) else (laws_FnLimits.j4 kj34 l0 t579 t580 t583 t584 t587 t590 t591 t605 t606 bt607.1 bt607.2 true)))) = some r := H
                  have A42 := Aside0.mk A420
                  clear A420
                  replace H := Option.bind_eq_some_iff.mp H
                  obtain ⟨⟨t607, t608⟩, A430, H⟩ := H
                  replace H : ((spec_WithinAt.f kj34 t604 t605 t606).bind fun bt609 => (if t607.toList = bt609.1.toList then (laws_FnLimits.j4 kj34 l0 t579 t580 t583 t584 t587 t590 t591 t605 t606 t607 t608 (t608 != bt609.2)) else (laws_FnLimits.j4 kj34 l0 t579 t580 t583 t584 t587 t590 t591 t605 t606 t607 t608 true))) = some r := H
                  have A43 := Aside0.mk A430
                  clear A430
                  replace H := Option.bind_eq_some_iff.mp H
                  obtain ⟨⟨t609, t610⟩, A440, H⟩ := H
                  replace H : (if t607.toList = t609.toList then (laws_FnLimits.j4 kj34 l0 t579 t580 t583 t584 t587 t590 t591 t605 t606 t607 t608 (t608 != t610)) else (laws_FnLimits.j4 kj34 l0 t579 t580 t583 t584 t587 t590 t591 t605 t606 t607 t608 true)) = some r := H
                  have A44 := Aside0.mk A440
                  clear A440
                  have HC45 := Aside0.mk H
                  clear H
                  go_upto_region 25 with (first | ((with_reducible refine gate_callee (f := 66) rfl ?_); refine goesL_ (some 162) rfl rfl Try.func66 (by kernel_rfl) rfl #[.slice A0 l0.length c0] rfl qy15 ?_; (with_reducible refine (spec_DrawWithinAt.calls kj34 _ _ l0 t604 t605 t606 _ ?side1 ?side2 A42.out).mono ?_); (case side1 => repeat (first | exact (Kd.C_below HR0.out HB.out) | (with_reducible refine Kd.C_alloc ?_ _) | (with_reducible refine Kd.C_drewN ?_ _) | (with_reducible refine Kd.C_drew ?_))); (case side2 => exact HC0.out); rintro e w46 ⟨rfl, hb⟩; refine ⟨_, rfl, ?_⟩; have n0_ := Aside0.mk (Kd.R_below qy36 hb); have n1_ := Aside0.mk (Kd.R_below qy32 hb); have n2_ := Aside0.mk (below_step qy16 hb); clear HO_3; clear HO_9; clear HB; have HO_3 := n0_; have HO_9 := n1_; have HB := n2_; clear n0_ n1_ n2_; (try clear hb); (try clear hb2); (try clear hk); (try clear hi)) | ((with_reducible refine gate_callee (f := 67) rfl ?_); refine goesL_ (some 170) rfl rfl Try.func67 (by kernel_rfl) rfl #[.int .i64 t604, .int .i64 t605, .int .i64 t606] rfl qy15 ?_; (with_reducible refine (impl_WithinAt.calls kj34 t604 t605 t606 t607 t608 _ A43.out).mono ?_); rintro e w47 ⟨rfl, hb⟩; refine ⟨_, rfl, ?_⟩; have n0_ := Aside0.mk (Kd.R_below qy36 hb); have n1_ := Aside0.mk (Kd.R_below qy32 hb); have n2_ := Aside0.mk (below_step qy16 hb); clear HO_3; clear HO_9; clear HB; have HO_3 := n0_; have HO_9 := n1_; have HB := n2_; clear n0_ n1_ n2_; (try clear hb); (try clear hb2); (try clear hk); (try clear hi)) | ((with_reducible refine gate_callee (f := 68) rfl ?_); refine goesL_ (some 177) rfl rfl Try.func68 (by kernel_rfl) rfl #[.int .i64 t604, .int .i64 t605, .int .i64 t606] rfl qy15 ?_; (with_reducible refine (spec_WithinAt.calls kj34 t604 t605 t606 t609 t610 _ A44.out).mono ?_); rintro e w48 ⟨rfl, hb⟩; refine ⟨_, rfl, ?_⟩; have n0_ := Aside0.mk (Kd.R_below qy36 hb); have n1_ := Aside0.mk (Kd.R_below qy32 hb); have n2_ := Aside0.mk (below_step qy16 hb); clear HO_3; clear HO_9; clear HB; have HO_3 := n0_; have HO_9 := n1_; have HB := n2_; clear n0_ n1_ n2_; (try clear hb); (try clear hb2); (try clear hk); (try clear hi)))
                  (try simp only [Act.put, List.setIfInBounds_toArray, List.set_cons_zero, List.set_cons_succ])
                  go_cut [187] (fun v187 wc => ∃ (kq : Nat) (x187_44 : Bool), v187 = .bool x187_44 ∧ Aside0 (laws_FnLimits.j4 kq l0 t579 t580 t583 t584 t587 t590 t591 t605 t606 t607 t608 x187_44 = some r) ∧ Aside0 (kq ≤ kj34) ∧ Aside0 (Kd.R (Kd.int .i64) 3 wc w.heap.size (fun k_ => some k_ ≠ ((.slice Ao19 t587.length co19) : Value).ownBlock) (.slice Ao9 t579.length co9) t579) ∧ Aside0 (Kd.R (Kd.int .i64) 3 wc w.heap.size (fun k_ => some k_ ≠ ((.slice Ao9 t579.length co9) : Value).ownBlock) (.slice Ao19 t587.length co19) t587) ∧ Aside0 (Below w.heap.size w wc))
                  case first =>
                   have H := HC45.out
                   clear HC45
                   by_cases c49 : t607.toList = t609.toList
                   ·rw [if_pos c49] at H
                    have c49b0 : (t607.toList == t609.toList) = true := beq_iff_eq.mpr c49
                    have c49b1 : (t607.toList != t609.toList) = false := bne_eq_false_iff_eq.mpr c49
                    clear c49
                    (first | rw [c49b0] | (simp only [i64_w, i32_w]; rw [c49b0]) | skip)
                    have H' := Aside0.mk H
                    clear H
                    go_wp2
                    go_meet
                    case rel => exact ⟨_, ((t608 != t610)), qy44, H', ⟨by have := HJ6.out; have := HJ16.out; have := HJ26.out; have := HJ34.out; first | omega | exact Nat.le_refl _⟩, ⟨by (with_reducible repeat (first | apply Kd.R_alloc | apply Kd.R_drewN | apply Kd.R_drew)); exact HO_3.out⟩, ⟨by (with_reducible repeat (first | apply Kd.R_alloc | apply Kd.R_drewN | apply Kd.R_drew)); exact HO_9.out⟩, ⟨by repeat (first | (with_reducible first | exact HB.out | apply below_alloc | apply pw_below_drewN | apply below_drew1) | exact HB.out)⟩⟩
                   ·rw [if_neg c49] at H
                    exact (laws_FnLimits.j4_no (hr_.out ▸ H)).elim
                  case rest =>
                   as_aux_lemma =>
                    clear HC45
                    try clear c1
                    try clear c2
                    try clear p2
                    try clear c3
                    try clear c4
                    try clear c5
                    try clear c6
                    try clear c7
                    try clear c12
                    try clear c12b0
                    try clear c12b1
                    try clear c12b2
                    try clear c13
                    try clear c22
                    try clear c22b0
                    try clear c22b1
                    try clear c23
                    try clear c31
                    try clear c31b0
                    try clear c31b1
                    try clear c32
                    try clear c38
                    try clear c38b0
                    try clear c38b1
                    try clear c39
                    try clear c39b0
                    try clear c39b1
                    try clear c39b2
                    try clear c40
                    try clear c40b0
                    try clear c40b1
                    try clear c40b2
                    try clear c41
                    try clear c49
                    try clear c49b0
                    try clear c49b1
                    try clear p2
                    obtain ⟨kq, x187_44, rfl, HA, HJ44, HO_3, HO_9, HB⟩ := hcut
                    cases kq with
                    | zero => exact absurd HA.out (by simp [laws_FnLimits.j4])
                    | succ kj44 =>
                     have H := HA.out
                     clear HA
                     simp only [laws_FnLimits.j4] at H
                     by_cases c50 : x187_44 = true
                     ·subst c50
                      have H1 : (some false) = some r := by rw [if_pos rfl] at H; exact H
                      exact absurd ((Option.some.inj H1).trans hr_.out) Bool.false_ne_true
                     ·replace c50 := Bool.eq_false_iff.mpr c50
                      subst c50
                      have H1 : ((spec_DrawRankWithin.f kj44 l0).bind fun bt611 => ((impl_RankWithin.f kj44 bt611.1 bt611.2).bind fun bt613 => ((spec_RankWithin.f kj44 bt611.1 bt611.2).bind fun bt615 => (if bt613.1 = bt615.1 then (laws_FnLimits.j5 kj44 l0 t579 t580 t583 t584 t587 t590 t591 t605 t606 t607 t608 bt611.1 bt611.2 bt613.1 bt613.2 (bt613.2 != bt615.2)) else (laws_FnLimits.j5 kj44 l0 t579 t580 t583 t584 t587 t590 t591 t605 t606 t607 t608 bt611.1 bt611.2 bt613.1 bt613.2 true))))) = some r := by rw [if_neg (show ¬ (false = true) by decide)] at H; exact H
                      clear H
                      have H := H1
                      clear H1
                      replace H := Option.bind_eq_some_iff.mp H
                      obtain ⟨⟨t611, t612⟩, A510, H⟩ := H
                      replace H : ((impl_RankWithin.f kj44 t611 t612).bind fun bt613 => ((spec_RankWithin.f kj44 t611 t612).bind fun bt615 => (if bt613.1 = bt615.1 then (laws_FnLimits.j5 kj44 l0 t579 t580 t583 t584 t587 t590 t591 t605 t606 t607 t608 t611 t612 bt613.1 bt613.2 (bt613.2 != bt615.2)) else (laws_FnLimits.j5 kj44 l0 t579 t580 t583 t584 t587 t590 t591 t605 t606 t607 t608 t611 t612 bt613.1 bt613.2 true)))) = some r := H
                      have A51 := Aside0.mk A510
                      clear A510
                      replace H := Option.bind_eq_some_iff.mp H
                      obtain ⟨⟨t613, t614⟩, A520, H⟩ := H
                      replace H : ((spec_RankWithin.f kj44 t611 t612).bind fun bt615 => (if t613 = bt615.1 then (laws_FnLimits.j5 kj44 l0 t579 t580 t583 t584 t587 t590 t591 t605 t606 t607 t608 t611 t612 t613 t614 (t614 != bt615.2)) else (laws_FnLimits.j5 kj44 l0 t579 t580 t583 t584 t587 t590 t591 t605 t606 t607 t608 t611 t612 t613 t614 true))) = some r := H
                      have A52 := Aside0.mk A520
                      clear A520
                      replace H := Option.bind_eq_some_iff.mp H
                      obtain ⟨⟨t615, t616⟩, A530, H⟩ := H
                      replace H : (if t613 = t615 then (laws_FnLimits.j5 kj44 l0 t579 t580 t583 t584 t587 t590 t591 t605 t606 t607 t608 t611 t612 t613 t614 (t614 != t616)) else (laws_FnLimits.j5 kj44 l0 t579 t580 t583 t584 t587 t590 t591 t605 t606 t607 t608 t611 t612 t613 t614 true)) = some r := H
                      have A53 := Aside0.mk A530
                      clear A530
                      have HC54 := Aside0.mk H
                      clear H
                      go_upto_region 30 with (first | ((with_reducible refine gate_callee (f := 69) rfl ?_); refine goesL_ (some 190) rfl rfl Try.func69 (by kernel_rfl) rfl #[.slice A0 l0.length c0] rfl qy15 ?_; (with_reducible refine (spec_DrawRankWithin.calls kj44 _ _ l0 t611 t612 _ ?side1 ?side2 A51.out).mono ?_); (case side1 => repeat (first | exact (Kd.C_below HR0.out HB.out) | (with_reducible refine Kd.C_alloc ?_ _) | (with_reducible refine Kd.C_drewN ?_ _) | (with_reducible refine Kd.C_drew ?_))); (case side2 => exact HC0.out); rintro e w55 ⟨rfl, hb⟩; refine ⟨_, rfl, ?_⟩; have n0_ := Aside0.mk (Kd.R_below qy36 hb); have n1_ := Aside0.mk (Kd.R_below qy32 hb); have n2_ := Aside0.mk (below_step qy16 hb); clear HO_3; clear HO_9; clear HB; have HO_3 := n0_; have HO_9 := n1_; have HB := n2_; clear n0_ n1_ n2_; (try clear hb); (try clear hb2); (try clear hk); (try clear hi)) | ((with_reducible refine gate_callee (f := 70) rfl ?_); refine goesL_ (some 196) rfl rfl Try.func70 (by kernel_rfl) rfl #[.string t611, .int .i64 t612] rfl qy15 ?_; (with_reducible refine (impl_RankWithin.calls kj44 t611 t612 t613 t614 _ A52.out).mono ?_); rintro e w56 ⟨rfl, hb⟩; refine ⟨_, rfl, ?_⟩; have n0_ := Aside0.mk (Kd.R_below qy36 hb); have n1_ := Aside0.mk (Kd.R_below qy32 hb); have n2_ := Aside0.mk (below_step qy16 hb); clear HO_3; clear HO_9; clear HB; have HO_3 := n0_; have HO_9 := n1_; have HB := n2_; clear n0_ n1_ n2_; (try clear hb); (try clear hb2); (try clear hk); (try clear hi)) | ((with_reducible refine gate_callee (f := 71) rfl ?_); refine goesL_ (some 202) rfl rfl Try.func71 (by kernel_rfl) rfl #[.string t611, .int .i64 t612] rfl qy15 ?_; (with_reducible refine (spec_RankWithin.calls kj44 t611 t612 t615 t616 _ A53.out).mono ?_); rintro e w57 ⟨rfl, hb⟩; refine ⟨_, rfl, ?_⟩; have n0_ := Aside0.mk (Kd.R_below qy36 hb); have n1_ := Aside0.mk (Kd.R_below qy32 hb); have n2_ := Aside0.mk (below_step qy16 hb); clear HO_3; clear HO_9; clear HB; have HO_3 := n0_; have HO_9 := n1_; have HB := n2_; clear n0_ n1_ n2_; (try clear hb); (try clear hb2); (try clear hk); (try clear hi)))
                      (try simp only [Act.put, List.setIfInBounds_toArray, List.set_cons_zero, List.set_cons_succ])
                      go_cut [212] (fun v212 wc => ∃ (kq : Nat) (x212_53 : Bool), v212 = .bool x212_53 ∧ Aside0 (laws_FnLimits.j5 kq l0 t579 t580 t583 t584 t587 t590 t591 t605 t606 t607 t608 t611 t612 t613 t614 x212_53 = some r) ∧ Aside0 (kq ≤ kj44) ∧ Aside0 (Kd.R (Kd.int .i64) 3 wc w.heap.size (fun k_ => some k_ ≠ ((.slice Ao19 t587.length co19) : Value).ownBlock) (.slice Ao9 t579.length co9) t579) ∧ Aside0 (Kd.R (Kd.int .i64) 3 wc w.heap.size (fun k_ => some k_ ≠ ((.slice Ao9 t579.length co9) : Value).ownBlock) (.slice Ao19 t587.length co19) t587) ∧ Aside0 (Below w.heap.size w wc))
                      case first =>
                       have H := HC54.out
                       clear HC54
                       by_cases c58 : t613 = t615
                       ·rw [if_pos c58] at H
                        have c58b0 : (t613 == t615) = true := beq_iff_eq.mpr c58
                        have c58b1 : (t613 != t615) = false := bne_eq_false_iff_eq.mpr c58
                        clear c58
                        (first | rw [c58b0] | (simp only [i64_w, i32_w]; rw [c58b0]) | skip)
                        have H' := Aside0.mk H
                        clear H
                        go_wp2
                        go_meet
                        case rel => exact ⟨_, ((t614 != t616)), qy44, H', ⟨by have := HJ6.out; have := HJ16.out; have := HJ26.out; have := HJ34.out; have := HJ44.out; first | omega | exact Nat.le_refl _⟩, ⟨by (with_reducible repeat (first | apply Kd.R_alloc | apply Kd.R_drewN | apply Kd.R_drew)); exact HO_3.out⟩, ⟨by (with_reducible repeat (first | apply Kd.R_alloc | apply Kd.R_drewN | apply Kd.R_drew)); exact HO_9.out⟩, ⟨by repeat (first | (with_reducible first | exact HB.out | apply below_alloc | apply pw_below_drewN | apply below_drew1) | exact HB.out)⟩⟩
                       ·rw [if_neg c58] at H
                        exact (laws_FnLimits.j5_no (hr_.out ▸ H)).elim
                      case rest =>
                       as_aux_lemma =>
                        clear HC54
                        try clear c1
                        try clear c2
                        try clear p2
                        try clear c3
                        try clear c4
                        try clear c5
                        try clear c6
                        try clear c7
                        try clear c12
                        try clear c12b0
                        try clear c12b1
                        try clear c12b2
                        try clear c13
                        try clear c22
                        try clear c22b0
                        try clear c22b1
                        try clear c23
                        try clear c31
                        try clear c31b0
                        try clear c31b1
                        try clear c32
                        try clear c38
                        try clear c38b0
                        try clear c38b1
                        try clear c39
                        try clear c39b0
                        try clear c39b1
                        try clear c39b2
                        try clear c40
                        try clear c40b0
                        try clear c40b1
                        try clear c40b2
                        try clear c41
                        try clear c49
                        try clear c49b0
                        try clear c49b1
                        try clear c50
                        try clear c55
                        try clear c56
                        try clear c57
                        try clear c58
                        try clear c58b0
                        try clear c58b1
                        try clear p2
                        obtain ⟨kq, x212_53, rfl, HA, HJ53, HO_3, HO_9, HB⟩ := hcut
                        cases kq with
                        | zero => exact absurd HA.out (by simp [laws_FnLimits.j5])
                        | succ kj53 =>
                         have H := HA.out
                         clear HA
                         simp only [laws_FnLimits.j5] at H
                         by_cases c59 : x212_53 = true
                         ·subst c59
                          have H1 : (some false) = some r := by rw [if_pos rfl] at H; exact H
                          exact absurd ((Option.some.inj H1).trans hr_.out) Bool.false_ne_true
                         ·replace c59 := Bool.eq_false_iff.mpr c59
                          subst c59
                          have H1 : ((spec_DrawLimitProfile.f l0).bind fun t617 => ((impl_LimitProfile.f kj53 t617).bind fun bt618 => ((spec_LimitProfile.f kj53 t617).bind fun bt622 => (if (bt618.2 != bt622.2) = true then (laws_FnLimits.j6 kj53 t579 t580 t583 t584 t587 t590 t591 t605 t606 t607 t608 t611 t612 t613 t614 t617 bt618.1 bt618.2 true) else ((laws_rInts.f kj53 bt618.1 bt622.1).bind fun t626 => (laws_FnLimits.j6 kj53 t579 t580 t583 t584 t587 t590 t591 t605 t606 t607 t608 t611 t612 t613 t614 t617 bt618.1 bt618.2 (!t626))))))) = some r := by rw [if_neg (show ¬ (false = true) by decide)] at H; exact H
                          clear H
                          have H := H1
                          clear H1
                          replace H := Option.bind_eq_some_iff.mp H
                          obtain ⟨t617, A600, H⟩ := H
                          replace H : ((impl_LimitProfile.f kj53 t617).bind fun bt618 => ((spec_LimitProfile.f kj53 t617).bind fun bt622 => (if (bt618.2 != bt622.2) = true then (laws_FnLimits.j6 kj53 t579 t580 t583 t584 t587 t590 t591 t605 t606 t607 t608 t611 t612 t613 t614 t617 bt618.1 bt618.2 true) else ((laws_rInts.f kj53 bt618.1 bt622.1).bind fun t626 => (laws_FnLimits.j6 kj53 t579 t580 t583 t584 t587 t590 t591 t605 t606 t607 t608 t611 t612 t613 t614 t617 bt618.1 bt618.2 (!t626)))))) = some r := H
                          have A60 := Aside0.mk A600
                          clear A600
                          replace H := Option.bind_eq_some_iff.mp H
                          obtain ⟨⟨t618, t619⟩, A610, H⟩ := H
                          replace H : ((spec_LimitProfile.f kj53 t617).bind fun bt622 => (if (t619 != bt622.2) = true then (laws_FnLimits.j6 kj53 t579 t580 t583 t584 t587 t590 t591 t605 t606 t607 t608 t611 t612 t613 t614 t617 t618 t619 true) else ((laws_rInts.f kj53 t618 bt622.1).bind fun t626 => (laws_FnLimits.j6 kj53 t579 t580 t583 t584 t587 t590 t591 t605 t606 t607 t608 t611 t612 t613 t614 t617 t618 t619 (!t626))))) = some r := H
                          have A61 := Aside0.mk A610
                          clear A610
                          replace H := Option.bind_eq_some_iff.mp H
                          obtain ⟨⟨t622, t623⟩, A620, H⟩ := H
                          replace H : (if (t619 != t623) = true then (laws_FnLimits.j6 kj53 t579 t580 t583 t584 t587 t590 t591 t605 t606 t607 t608 t611 t612 t613 t614 t617 t618 t619 true) else ((laws_rInts.f kj53 t618 t622).bind fun t626 => (laws_FnLimits.j6 kj53 t579 t580 t583 t584 t587 t590 t591 t605 t606 t607 t608 t611 t612 t613 t614 t617 t618 t619 (!t626)))) = some r := H
                          have A62 := Aside0.mk A620
                          clear A620
                          have HC63 := Aside0.mk H
                          clear H
                          go_upto_region 35 with (first | ((with_reducible refine gate_callee (f := 72) rfl ?_); refine goesL_ (some 214) rfl rfl Try.func72 (by kernel_rfl) rfl #[.slice A0 l0.length c0] rfl qy15 ?_; (with_reducible refine (spec_DrawLimitProfile.calls _ _ l0 t617 _ ?side1 ?side2 A60.out).mono ?_); (case side1 => repeat (first | exact (Kd.C_below HR0.out HB.out) | (with_reducible refine Kd.C_alloc ?_ _) | (with_reducible refine Kd.C_drewN ?_ _) | (with_reducible refine Kd.C_drew ?_))); (case side2 => exact HC0.out); rintro e w64 ⟨rfl, hb⟩; refine ⟨_, rfl, ?_⟩; have n0_ := Aside0.mk (Kd.R_below qy36 hb); have n1_ := Aside0.mk (Kd.R_below qy32 hb); have n2_ := Aside0.mk (below_step qy16 hb); clear HO_3; clear HO_9; clear HB; have HO_3 := n0_; have HO_9 := n1_; have HB := n2_; clear n0_ n1_ n2_; (try clear hb); (try clear hb2); (try clear hk); (try clear hi)) | ((with_reducible refine gate_callee (f := 73) rfl ?_); refine goesL_ (some 217) rfl rfl Try.func73 (by kernel_rfl) rfl #[.int .i64 t617] rfl qy15 ?_; (with_reducible refine (impl_LimitProfile.calls kj53 t617 t618 t619 _ A61.out).mono ?_); rintro e w65 ⟨v620, rfl, ho0, hb⟩; refine ⟨_, rfl, ?_⟩; have n0_ := Aside0.mk (Kd.R_elder' qy36 (Kd.R_base ho0) hb); have n1_ := Aside0.mk (Kd.R_elder' qy32 (Kd.R_base ho0) hb); have n2_ := Aside0.mk (Kd.R_lower (Kd.R_new' (Kd.R_new' ho0 (Kd.R_lt qy36)) (Kd.R_lt qy32)) (below_size qy16)); have n3_ := Aside0.mk (below_step qy16 hb); clear HO_3; clear HO_9; clear HB; have HO_3 := n0_; have HO_9 := n1_; have HO621 := n2_; have HB := n3_; clear n0_ n1_ n2_ n3_; (try clear hb); (try clear hb2); (try clear hk); (try clear hi); (try clear ho0)) | ((with_reducible refine gate_callee (f := 74) rfl ?_); refine goesL_ (some 222) rfl rfl Try.func74 (by kernel_rfl) rfl #[.int .i64 t617] rfl qy15 ?_; (with_reducible refine (spec_LimitProfile.calls kj53 t617 t622 t623 _ A62.out).mono ?_); rintro e w66 ⟨v624, rfl, ho0, hb⟩; refine ⟨_, rfl, ?_⟩; have n0_ := Aside0.mk (Kd.R_elder' qy36 (Kd.R_base ho0) hb); have n1_ := Aside0.mk (Kd.R_elder' qy32 (Kd.R_base ho0) hb); have n2_ := Aside0.mk (Kd.R_elder' (by (with_reducible repeat (first | apply Kd.R_alloc | apply Kd.R_drewN | apply Kd.R_drew)); exact HO621.out) (Kd.R_base ho0) hb); have n3_ := Aside0.mk (Kd.R_lower (Kd.R_new' (Kd.R_new' (Kd.R_new' ho0 (Kd.R_lt qy36)) (Kd.R_lt qy32)) (Kd.R_lt (by (with_reducible repeat (first | apply Kd.R_alloc | apply Kd.R_drewN | apply Kd.R_drew)); exact HO621.out))) (below_size qy16)); have n4_ := Aside0.mk (below_step qy16 hb); clear HO_3; clear HO_9; clear HO621; clear HB; have HO_3 := n0_; have HO_9 := n1_; have HO621 := n2_; have HO625 := n3_; have HB := n4_; clear n0_ n1_ n2_ n3_ n4_; (try clear hb); (try clear hb2); (try clear hk); (try clear hi); (try clear ho0)))
                          (try simp only [Act.put, List.setIfInBounds_toArray, List.set_cons_zero, List.set_cons_succ])
                          go_cut [233] (fun v233 wc => ∃ (kq : Nat) (x233_62 : Bool), v233 = .bool x233_62 ∧ Aside0 (laws_FnLimits.j6 kq t579 t580 t583 t584 t587 t590 t591 t605 t606 t607 t608 t611 t612 t613 t614 t617 t618 t619 x233_62 = some r) ∧ Aside0 (kq ≤ kj53) ∧ Aside0 (Kd.R (Kd.int .i64) 3 wc w.heap.size (fun k_ => some k_ ≠ ((.slice Ao19 t587.length co19) : Value).ownBlock ∧ some k_ ≠ (v620 : Value).ownBlock) (.slice Ao9 t579.length co9) t579) ∧ Aside0 (Kd.R (Kd.int .i64) 3 wc w.heap.size (fun k_ => some k_ ≠ ((.slice Ao9 t579.length co9) : Value).ownBlock ∧ some k_ ≠ (v620 : Value).ownBlock) (.slice Ao19 t587.length co19) t587) ∧ Aside0 (Kd.R (Kd.int .i64) 3 wc w.heap.size (fun k_ => some k_ ≠ ((.slice Ao9 t579.length co9) : Value).ownBlock ∧ some k_ ≠ ((.slice Ao19 t587.length co19) : Value).ownBlock) v620 t618) ∧ Aside0 (Below w.heap.size w wc))
                          case first =>
                           have H := HC63.out
                           clear HC63
                           by_cases c67 : (t619 != t623) = true
                           ·rw [if_pos c67] at H
                            exact (laws_FnLimits.j6_no (hr_.out ▸ H)).elim
                           ·rw [if_neg c67] at H
                            have c67b0 : (t619 != t623) = false := by simpa using c67
                            (try (have c67b1 : decide (t619 = t623) = true := by simpa using c67))
                            (try (have c67b2 : (t619 == t623) = true := by simpa using c67))
                            clear c67
                            (first | rw [c67b0] | (simp only [i64_w, i32_w]; rw [c67b0]) | skip)
                            replace H := Option.bind_eq_some_iff.mp H
                            obtain ⟨t626, A680, H⟩ := H
                            replace H : (laws_FnLimits.j6 kj53 t579 t580 t583 t584 t587 t590 t591 t605 t606 t607 t608 t611 t612 t613 t614 t617 t618 t619 (!t626)) = some r := H
                            have A68 := Aside0.mk A680
                            clear A680
                            have H' := Aside0.mk H
                            clear H
                            obtain ⟨Ao69, co69, eo69⟩ := Kd.R_slice HO621.out
                            subst eo69
                            obtain ⟨Ao70, co70, eo70⟩ := Kd.R_slice HO625.out
                            subst eo70
                            go_wp2_with (first | (go_at_call 15; (with_reducible refine (laws_rInts.calls kj53 _ _ t618 _ _ t622 t626 _ ?side1 ?side2 ?side3 ?side4 A68.out).mono ?_); (case side1 => repeat (first | exact (Kd.R_reads' HO621.out).2.2 | (with_reducible refine Kd.C_alloc ?_ _) | (with_reducible refine Kd.C_drewN ?_ _) | (with_reducible refine Kd.C_drew ?_))); (case side2 => exact (Kd.R_reads' HO621.out).2.1); (case side3 => repeat (first | exact (Kd.R_reads' HO625.out).2.2 | (with_reducible refine Kd.C_alloc ?_ _) | (with_reducible refine Kd.C_drewN ?_ _) | (with_reducible refine Kd.C_drew ?_))); (case side4 => exact (Kd.R_reads' HO625.out).2.1); rintro e w' ⟨rfl, ⟨nd, rfl⟩⟩))
                            go_meet
                            case rel => exact ⟨_, (!t626), qy44, H', ⟨by have := HJ6.out; have := HJ16.out; have := HJ26.out; have := HJ34.out; have := HJ44.out; have := HJ53.out; first | omega | exact Nat.le_refl _⟩, ⟨by (with_reducible repeat (first | apply Kd.R_alloc | apply Kd.R_drewN | apply Kd.R_drew)); exact Kd.R_mono HO_3.out (fun _ hk => ⟨hk.1.1, hk.1.2⟩)⟩, ⟨by (with_reducible repeat (first | apply Kd.R_alloc | apply Kd.R_drewN | apply Kd.R_drew)); exact Kd.R_mono HO_9.out (fun _ hk => ⟨hk.1.1, hk.1.2⟩)⟩, ⟨by (with_reducible repeat (first | apply Kd.R_alloc | apply Kd.R_drewN | apply Kd.R_drew)); exact Kd.R_mono HO621.out (fun _ hk => ⟨hk.1.1.2, hk.1.2⟩)⟩, ⟨by repeat (first | (with_reducible first | exact HB.out | apply below_alloc | apply pw_below_drewN | apply below_drew1) | exact HB.out)⟩⟩
                          case rest =>
                           as_aux_lemma =>
                            clear HC63
                            try clear c1
                            try clear c2
                            try clear p2
                            try clear c3
                            try clear c4
                            try clear c5
                            try clear c6
                            try clear c7
                            try clear c12
                            try clear c12b0
                            try clear c12b1
                            try clear c12b2
                            try clear c13
                            try clear c22
                            try clear c22b0
                            try clear c22b1
                            try clear c23
                            try clear c31
                            try clear c31b0
                            try clear c31b1
                            try clear c32
                            try clear c38
                            try clear c38b0
                            try clear c38b1
                            try clear c39
                            try clear c39b0
                            try clear c39b1
                            try clear c39b2
                            try clear c40
                            try clear c40b0
                            try clear c40b1
                            try clear c40b2
                            try clear c41
                            try clear c49
                            try clear c49b0
                            try clear c49b1
                            try clear c50
                            try clear c55
                            try clear c56
                            try clear c57
                            try clear c58
                            try clear c58b0
                            try clear c58b1
                            try clear c59
                            try clear c60
                            try clear c61
                            try clear c62
                            try clear c63
                            try clear c64
                            try clear c65
                            try clear c66
                            try clear c67
                            try clear c67b0
                            try clear c67b1
                            try clear c67b2
                            try clear c68
                            try clear c69
                            try clear c70
                            try clear p2
                            obtain ⟨kq, x233_62, rfl, HA, HJ62, HO_3, HO_9, HO_38, HB⟩ := hcut
                            cases kq with
                            | zero => exact absurd HA.out (by simp [laws_FnLimits.j6])
                            | succ kj62 =>
                             have H := HA.out
                             clear HA
                             simp only [laws_FnLimits.j6] at H
                             by_cases c71 : x233_62 = true
                             ·subst c71
                              have H1 : (some false) = some r := by rw [if_pos rfl] at H; exact H
                              exact absurd ((Option.some.inj H1).trans hr_.out) Bool.false_ne_true
                             ·replace c71 := Bool.eq_false_iff.mpr c71
                              subst c71
                              have H1 : (if t591 = true then ((impl_IsSortableWithin.f kj62 t587 t590).bind fun bt627 => (if bt627.2 = true then (laws_FnLimits.j7 kj62 t579 t580 t583 t584 t587 t590 t605 t606 t607 t608 t611 t612 t613 t614 t617 t618 t619 (!bt627.1)) else (laws_FnLimits.j7 kj62 t579 t580 t583 t584 t587 t590 t605 t606 t607 t608 t611 t612 t613 t614 t617 t618 t619 true))) else (laws_FnLimits.j8 kj62 t579 t580 t583 t584 t605 t606 t607 t608 t611 t612 t613 t614 t617 t618 t619)) = some r := by rw [if_neg (show ¬ (false = true) by decide)] at H; exact H
                              clear H
                              have H := H1
                              clear H1
                              have HC72 := Aside0.mk H
                              clear H
                              go_upto_if 234 with (fail)
                              go_cut [] (fun wc => ∃ (kq : Nat), Aside0 (laws_FnLimits.j8 kq t579 t580 t583 t584 t605 t606 t607 t608 t611 t612 t613 t614 t617 t618 t619 = some r) ∧ Aside0 (kq ≤ kj62) ∧ Aside0 (Kd.R (Kd.int .i64) 3 wc w.heap.size (fun k_ => some k_ ≠ (v620 : Value).ownBlock) (.slice Ao9 t579.length co9) t579) ∧ Aside0 (Kd.R (Kd.int .i64) 3 wc w.heap.size (fun k_ => some k_ ≠ ((.slice Ao9 t579.length co9) : Value).ownBlock) v620 t618) ∧ Aside0 (Below w.heap.size w wc))
                              case first =>
                               have H := HC72.out
                               clear HC72
                               by_cases c73 : t591 = true
                               ·subst c73
                                have H1 : ((impl_IsSortableWithin.f kj62 t587 t590).bind fun bt627 => (if bt627.2 = true then (laws_FnLimits.j7 kj62 t579 t580 t583 t584 t587 t590 t605 t606 t607 t608 t611 t612 t613 t614 t617 t618 t619 (!bt627.1)) else (laws_FnLimits.j7 kj62 t579 t580 t583 t584 t587 t590 t605 t606 t607 t608 t611 t612 t613 t614 t617 t618 t619 true))) = some r := by rw [if_pos rfl] at H; exact H
                                clear H
                                have H := H1
                                clear H1
                                replace H := Option.bind_eq_some_iff.mp H
                                obtain ⟨⟨t627, t628⟩, A740, H⟩ := H
                                replace H : (if t628 = true then (laws_FnLimits.j7 kj62 t579 t580 t583 t584 t587 t590 t605 t606 t607 t608 t611 t612 t613 t614 t617 t618 t619 (!t627)) else (laws_FnLimits.j7 kj62 t579 t580 t583 t584 t587 t590 t605 t606 t607 t608 t611 t612 t613 t614 t617 t618 t619 true)) = some r := H
                                have A74 := Aside0.mk A740
                                clear A740
                                have HC75 := Aside0.mk H
                                clear H
                                go_upto_region 39 with (first | ((with_reducible refine gate_callee (f := 56) rfl ?_); refine goesL_ (some 238) rfl rfl Try.func56 (by kernel_rfl) rfl #[.slice Ao19 t587.length co19, .int .i64 t590] rfl qy15 ?_; (with_reducible refine (impl_IsSortableWithin.calls kj62 _ _ t587 t590 t627 t628 _ ?side1 ?side2 A74.out).mono ?_); (case side1 => repeat (first | exact (Kd.R_reads' HO_9.out).2.2 | (with_reducible refine Kd.C_alloc ?_ _) | (with_reducible refine Kd.C_drewN ?_ _) | (with_reducible refine Kd.C_drew ?_))); (case side2 => exact (Kd.R_reads' HO_9.out).2.1); rintro e w76 ⟨rfl, hb⟩; refine ⟨_, rfl, ?_⟩; have n0_ := Aside0.mk (Kd.R_below qy36 hb); have n1_ := Aside0.mk (Kd.R_below qy32 hb); have n2_ := Aside0.mk (Kd.R_below qy21 hb); have n3_ := Aside0.mk (below_step qy16 hb); clear HO_3; clear HO_9; clear HO_38; clear HB; have HO_3 := n0_; have HO_9 := n1_; have HO_38 := n2_; have HB := n3_; clear n0_ n1_ n2_ n3_; (try clear hb); (try clear hb2); (try clear hk); (try clear hi)))
                                (try simp only [Act.put, List.setIfInBounds_toArray, List.set_cons_zero, List.set_cons_succ])
                                go_cut [246] (fun v246 wc => ∃ (kq : Nat) (x246_74 : Bool), v246 = .bool x246_74 ∧ Aside0 (laws_FnLimits.j7 kq t579 t580 t583 t584 t587 t590 t605 t606 t607 t608 t611 t612 t613 t614 t617 t618 t619 x246_74 = some r) ∧ Aside0 (kq ≤ kj62) ∧ Aside0 (Kd.R (Kd.int .i64) 3 wc w.heap.size (fun k_ => some k_ ≠ ((.slice Ao19 t587.length co19) : Value).ownBlock ∧ some k_ ≠ (v620 : Value).ownBlock) (.slice Ao9 t579.length co9) t579) ∧ Aside0 (Kd.R (Kd.int .i64) 3 wc w.heap.size (fun k_ => some k_ ≠ ((.slice Ao9 t579.length co9) : Value).ownBlock ∧ some k_ ≠ (v620 : Value).ownBlock) (.slice Ao19 t587.length co19) t587) ∧ Aside0 (Kd.R (Kd.int .i64) 3 wc w.heap.size (fun k_ => some k_ ≠ ((.slice Ao9 t579.length co9) : Value).ownBlock ∧ some k_ ≠ ((.slice Ao19 t587.length co19) : Value).ownBlock) v620 t618) ∧ Aside0 (Below w.heap.size w wc))
                                case first =>
                                 have H := HC75.out
                                 clear HC75
                                 by_cases c77 : t628 = true
                                 ·subst c77
                                  have H1 : (laws_FnLimits.j7 kj62 t579 t580 t583 t584 t587 t590 t605 t606 t607 t608 t611 t612 t613 t614 t617 t618 t619 (!t627)) = some r := by rw [if_pos rfl] at H; exact H
                                  clear H
                                  have H := H1
                                  clear H1
                                  have H' := Aside0.mk H
                                  clear H
                                  go_wp2
                                  go_meet
                                  case rel => exact ⟨_, (!t627), qy44, H', ⟨by have := HJ6.out; have := HJ16.out; have := HJ26.out; have := HJ34.out; have := HJ44.out; have := HJ53.out; have := HJ62.out; first | omega | exact Nat.le_refl _⟩, ⟨by (with_reducible repeat (first | apply Kd.R_alloc | apply Kd.R_drewN | apply Kd.R_drew)); exact HO_3.out⟩, ⟨by (with_reducible repeat (first | apply Kd.R_alloc | apply Kd.R_drewN | apply Kd.R_drew)); exact HO_9.out⟩, ⟨by (with_reducible repeat (first | apply Kd.R_alloc | apply Kd.R_drewN | apply Kd.R_drew)); exact HO_38.out⟩, ⟨by repeat (first | (with_reducible first | exact HB.out | apply below_alloc | apply pw_below_drewN | apply below_drew1) | exact HB.out)⟩⟩
                                 ·replace c77 := Bool.eq_false_iff.mpr c77
                                  subst c77
                                  have H1 : (laws_FnLimits.j7 kj62 t579 t580 t583 t584 t587 t590 t605 t606 t607 t608 t611 t612 t613 t614 t617 t618 t619 true) = some r := by rw [if_neg (show ¬ (false = true) by decide)] at H; exact H
                                  exact (laws_FnLimits.j7_no (hr_.out ▸ H1)).elim
                                case rest =>
                                 as_aux_lemma =>
                                  clear HC75
                                  try clear c1
                                  try clear c2
                                  try clear p2
                                  try clear c3
                                  try clear c4
                                  try clear c5
                                  try clear c6
                                  try clear c7
                                  try clear c12
                                  try clear c12b0
                                  try clear c12b1
                                  try clear c12b2
                                  try clear c13
                                  try clear c22
                                  try clear c22b0
                                  try clear c22b1
                                  try clear c23
                                  try clear c31
                                  try clear c31b0
                                  try clear c31b1
                                  try clear c32
                                  try clear c38
                                  try clear c38b0
                                  try clear c38b1
                                  try clear c39
                                  try clear c39b0
                                  try clear c39b1
                                  try clear c39b2
                                  try clear c40
                                  try clear c40b0
                                  try clear c40b1
                                  try clear c40b2
                                  try clear c41
                                  try clear c49
                                  try clear c49b0
                                  try clear c49b1
                                  try clear c50
                                  try clear c55
                                  try clear c56
                                  try clear c57
                                  try clear c58
                                  try clear c58b0
                                  try clear c58b1
                                  try clear c59
                                  try clear c60
                                  try clear c61
                                  try clear c62
                                  try clear c63
                                  try clear c64
                                  try clear c65
                                  try clear c66
                                  try clear c67
                                  try clear c67b0
                                  try clear c67b1
                                  try clear c67b2
                                  try clear c68
                                  try clear c69
                                  try clear c70
                                  try clear c71
                                  try clear c72
                                  try clear c73
                                  try clear c74
                                  try clear c77
                                  try clear p2
                                  obtain ⟨kq, x246_74, rfl, HA, HJ74, HO_3, HO_9, HO_38, HB⟩ := hcut
                                  cases kq with
                                  | zero => exact absurd HA.out (by simp [laws_FnLimits.j7])
                                  | succ kj74 =>
                                   have H := HA.out
                                   clear HA
                                   simp only [laws_FnLimits.j7] at H
                                   by_cases c78 : x246_74 = true
                                   ·subst c78
                                    have H1 : (some false) = some r := by rw [if_pos rfl] at H; exact H
                                    exact absurd ((Option.some.inj H1).trans hr_.out) Bool.false_ne_true
                                   ·replace c78 := Bool.eq_false_iff.mpr c78
                                    subst c78
                                    have H1 : ((impl_IsSortableWithin.f kj74 t587 (wrap64 (t590 - 1))).bind fun bt629 => (if bt629.2 = true then (if bt629.1 = true then (some false) else (laws_FnLimits.j8 kj74 t579 t580 t583 t584 t605 t606 t607 t608 t611 t612 t613 t614 t617 t618 t619)) else (laws_FnLimits.j8 kj74 t579 t580 t583 t584 t605 t606 t607 t608 t611 t612 t613 t614 t617 t618 t619))) = some r := by rw [if_neg (show ¬ (false = true) by decide)] at H; exact H
                                    clear H
                                    have H := H1
                                    clear H1
                                    replace H := Option.bind_eq_some_iff.mp H
                                    obtain ⟨⟨t629, t630⟩, A790, H⟩ := H
                                    replace H : (if t630 = true then (if t629 = true then (some false) else (laws_FnLimits.j8 kj74 t579 t580 t583 t584 t605 t606 t607 t608 t611 t612 t613 t614 t617 t618 t619)) else (laws_FnLimits.j8 kj74 t579 t580 t583 t584 t605 t606 t607 t608 t611 t612 t613 t614 t617 t618 t619)) = some r := H
                                    have A79 := Aside0.mk A790
                                    clear A790
                                    by_cases c80 : t630 = true
                                    ·subst c80
                                     have H1 : (if t629 = true then (some false) else (laws_FnLimits.j8 kj74 t579 t580 t583 t584 t605 t606 t607 t608 t611 t612 t613 t614 t617 t618 t619)) = some r := by rw [if_pos rfl] at H; exact H
                                     clear H
                                     have H := H1
                                     clear H1
                                     by_cases c81 : t629 = true
                                     ·subst c81
                                      have H1 : (some false) = some r := by rw [if_pos rfl] at H; exact H
                                      exact absurd ((Option.some.inj H1).trans hr_.out) Bool.false_ne_true
                                     ·replace c81 := Bool.eq_false_iff.mpr c81
                                      subst c81
                                      have H1 : (laws_FnLimits.j8 kj74 t579 t580 t583 t584 t605 t606 t607 t608 t611 t612 t613 t614 t617 t618 t619) = some r := by rw [if_neg (show ¬ (false = true) by decide)] at H; exact H
                                      clear H
                                      have H := H1
                                      clear H1
                                      have H' := Aside0.mk H
                                      clear H
                                      go_wp2_with (first | ((with_reducible refine gate_callee (f := 56) rfl ?_); refine goesL_ (some 251) rfl rfl Try.func56 (by kernel_rfl) rfl #[.slice Ao19 t587.length co19, .int .i64 (wrap64 (t590 - 1))] rfl qy15 ?_; (with_reducible refine (impl_IsSortableWithin.calls kj74 _ _ t587 (wrap64 (t590 - 1)) false true _ ?side1 ?side2 A79.out).mono ?_); (case side1 => repeat (first | exact (Kd.R_reads' HO_9.out).2.2 | (with_reducible refine Kd.C_alloc ?_ _) | (with_reducible refine Kd.C_drewN ?_ _) | (with_reducible refine Kd.C_drew ?_))); (case side2 => exact (Kd.R_reads' HO_9.out).2.1); rintro e w83 ⟨rfl, hb⟩; refine ⟨_, rfl, ?_⟩; have n0_ := Aside0.mk (Kd.R_below qy36 hb); have n1_ := Aside0.mk (Kd.R_below qy32 hb); have n2_ := Aside0.mk (Kd.R_below qy21 hb); have n3_ := Aside0.mk (below_step qy16 hb); clear HO_3; clear HO_9; clear HO_38; clear HB; have HO_3 := n0_; have HO_9 := n1_; have HO_38 := n2_; have HB := n3_; clear n0_ n1_ n2_ n3_; (try clear hb); (try clear hb2); (try clear hk); (try clear hi)))
                                      go_meet
                                      case rel => exact ⟨_, H', ⟨by have := HJ6.out; have := HJ16.out; have := HJ26.out; have := HJ34.out; have := HJ44.out; have := HJ53.out; have := HJ62.out; have := HJ74.out; first | omega | exact Nat.le_refl _⟩, ⟨by (with_reducible repeat (first | apply Kd.R_alloc | apply Kd.R_drewN | apply Kd.R_drew)); exact Kd.R_mono HO_3.out (fun _ hk => hk.2)⟩, ⟨by (with_reducible repeat (first | apply Kd.R_alloc | apply Kd.R_drewN | apply Kd.R_drew)); exact Kd.R_mono HO_38.out (fun _ hk => hk.1)⟩, ⟨by repeat (first | (with_reducible first | exact HB.out | apply below_alloc | apply pw_below_drewN | apply below_drew1) | exact HB.out)⟩⟩
                                    ·replace c80 := Bool.eq_false_iff.mpr c80
                                     subst c80
                                     have H1 : (laws_FnLimits.j8 kj74 t579 t580 t583 t584 t605 t606 t607 t608 t611 t612 t613 t614 t617 t618 t619) = some r := by rw [if_neg (show ¬ (false = true) by decide)] at H; exact H
                                     clear H
                                     have H := H1
                                     clear H1
                                     have H' := Aside0.mk H
                                     clear H
                                     go_wp2_with (first | ((with_reducible refine gate_callee (f := 56) rfl ?_); refine goesL_ (some 251) rfl rfl Try.func56 (by kernel_rfl) rfl #[.slice Ao19 t587.length co19, .int .i64 (wrap64 (t590 - 1))] rfl qy15 ?_; (with_reducible refine (impl_IsSortableWithin.calls kj74 _ _ t587 (wrap64 (t590 - 1)) t629 false _ ?side1 ?side2 A79.out).mono ?_); (case side1 => repeat (first | exact (Kd.R_reads' HO_9.out).2.2 | (with_reducible refine Kd.C_alloc ?_ _) | (with_reducible refine Kd.C_drewN ?_ _) | (with_reducible refine Kd.C_drew ?_))); (case side2 => exact (Kd.R_reads' HO_9.out).2.1); rintro e w84 ⟨rfl, hb⟩; refine ⟨_, rfl, ?_⟩; have n0_ := Aside0.mk (Kd.R_below qy36 hb); have n1_ := Aside0.mk (Kd.R_below qy32 hb); have n2_ := Aside0.mk (Kd.R_below qy21 hb); have n3_ := Aside0.mk (below_step qy16 hb); clear HO_3; clear HO_9; clear HO_38; clear HB; have HO_3 := n0_; have HO_9 := n1_; have HO_38 := n2_; have HB := n3_; clear n0_ n1_ n2_ n3_; (try clear hb); (try clear hb2); (try clear hk); (try clear hi)))
                                     go_meet
                                     case rel => exact ⟨_, H', ⟨by have := HJ6.out; have := HJ16.out; have := HJ26.out; have := HJ34.out; have := HJ44.out; have := HJ53.out; have := HJ62.out; have := HJ74.out; first | omega | exact Nat.le_refl _⟩, ⟨by (with_reducible repeat (first | apply Kd.R_alloc | apply Kd.R_drewN | apply Kd.R_drew)); exact Kd.R_mono HO_3.out (fun _ hk => hk.2)⟩, ⟨by (with_reducible repeat (first | apply Kd.R_alloc | apply Kd.R_drewN | apply Kd.R_drew)); exact Kd.R_mono HO_38.out (fun _ hk => hk.1)⟩, ⟨by repeat (first | (with_reducible first | exact HB.out | apply below_alloc | apply pw_below_drewN | apply below_drew1) | exact HB.out)⟩⟩
                               ·replace c73 := Bool.eq_false_iff.mpr c73
                                subst c73
                                have H1 : (laws_FnLimits.j8 kj62 t579 t580 t583 t584 t605 t606 t607 t608 t611 t612 t613 t614 t617 t618 t619) = some r := by rw [if_neg (show ¬ (false = true) by decide)] at H; exact H
                                clear H
                                have H := H1
                                clear H1
                                have H' := Aside0.mk H
                                clear H
                                go_wp2
                                go_meet
                                case rel => exact ⟨_, H', ⟨by have := HJ6.out; have := HJ16.out; have := HJ26.out; have := HJ34.out; have := HJ44.out; have := HJ53.out; have := HJ62.out; first | omega | exact Nat.le_refl _⟩, ⟨by (with_reducible repeat (first | apply Kd.R_alloc | apply Kd.R_drewN | apply Kd.R_drew)); exact Kd.R_mono HO_3.out (fun _ hk => hk.2)⟩, ⟨by (with_reducible repeat (first | apply Kd.R_alloc | apply Kd.R_drewN | apply Kd.R_drew)); exact Kd.R_mono HO_38.out (fun _ hk => hk.1)⟩, ⟨by repeat (first | (with_reducible first | exact HB.out | apply below_alloc | apply pw_below_drewN | apply below_drew1) | exact HB.out)⟩⟩
                              case rest =>
                               as_aux_lemma =>
                                clear HC72
                                try clear c1
                                try clear c2
                                try clear p2
                                try clear c3
                                try clear c4
                                try clear c5
                                try clear c6
                                try clear p6
                                try clear c7
                                try clear c8
                                try clear c12
                                try clear c12b0
                                try clear c12b1
                                try clear c12b2
                                try clear c13
                                try clear c22
                                try clear c22b0
                                try clear c22b1
                                try clear c23
                                try clear c31
                                try clear c31b0
                                try clear c31b1
                                try clear c32
                                try clear c38
                                try clear c38b0
                                try clear c38b1
                                try clear c39
                                try clear c39b0
                                try clear c39b1
                                try clear c39b2
                                try clear c40
                                try clear c40b0
                                try clear c40b1
                                try clear c40b2
                                try clear c41
                                try clear c49
                                try clear c49b0
                                try clear c49b1
                                try clear c50
                                try clear c55
                                try clear c56
                                try clear c57
                                try clear c58
                                try clear c58b0
                                try clear c58b1
                                try clear c59
                                try clear c60
                                try clear c61
                                try clear c62
                                try clear c63
                                try clear c64
                                try clear p64
                                try clear c65
                                try clear c66
                                try clear c67
                                try clear c67b0
                                try clear c67b1
                                try clear c67b2
                                try clear c68
                                try clear c69
                                try clear c70
                                try clear c71
                                try clear c72
                                try clear c73
                                try clear c74
                                try clear c77
                                try clear c78
                                try clear c80
                                try clear c81
                                try clear p2
                                obtain ⟨kq, HA, HJ71, HO_3, HO_38, HB⟩ := hcut
                                cases kq with
                                | zero => exact absurd HA.out (by simp [laws_FnLimits.j8])
                                | succ kj71 =>
                                 have H := HA.out
                                 clear HA
                                 simp only [laws_FnLimits.j8] at H
                                 have HC85 := Aside0.mk H
                                 clear H
                                 go_upto_if 258 with (fail)
                                 go_cut [] (fun wc => ∃ (kq : Nat), Aside0 (laws_FnLimits.j9 kq t579 t580 t583 t584 t611 t612 t613 t614 t617 t618 t619 = some r) ∧ Aside0 (kq ≤ kj71) ∧ Aside0 (Kd.R (Kd.int .i64) 3 wc w.heap.size (fun k_ => some k_ ≠ (v620 : Value).ownBlock) (.slice Ao9 t579.length co9) t579) ∧ Aside0 (Kd.R (Kd.int .i64) 3 wc w.heap.size (fun k_ => some k_ ≠ ((.slice Ao9 t579.length co9) : Value).ownBlock) v620 t618) ∧ Aside0 (Below w.heap.size w wc))
                                 case first =>
                                  have H := HC85.out
                                  clear HC85
                                  by_cases c86 : t608 = true
                                  ·subst c86
                                   have H1 : ((impl_RankWithin.f kj71 t607 t605).bind fun bt631 => ((impl_DepthOf.f kj71 t607).bind fun bt633 => (if bt631.2 = true then (if bt633.2 = true then (if bt631.1 = t606 then (if bt633.1 > t605 then (some false) else (laws_FnLimits.j9 kj71 t579 t580 t583 t584 t611 t612 t613 t614 t617 t618 t619)) else (some false)) else (some false)) else (some false)))) = some r := by rw [if_pos rfl] at H; exact H
                                   clear H
                                   have H := H1
                                   clear H1
                                   replace H := Option.bind_eq_some_iff.mp H
                                   obtain ⟨⟨t631, t632⟩, A870, H⟩ := H
                                   replace H : ((impl_DepthOf.f kj71 t607).bind fun bt633 => (if t632 = true then (if bt633.2 = true then (if t631 = t606 then (if bt633.1 > t605 then (some false) else (laws_FnLimits.j9 kj71 t579 t580 t583 t584 t611 t612 t613 t614 t617 t618 t619)) else (some false)) else (some false)) else (some false))) = some r := H
                                   have A87 := Aside0.mk A870
                                   clear A870
                                   replace H := Option.bind_eq_some_iff.mp H
                                   obtain ⟨⟨t633, t634⟩, A880, H⟩ := H
                                   replace H : (if t632 = true then (if t634 = true then (if t631 = t606 then (if t633 > t605 then (some false) else (laws_FnLimits.j9 kj71 t579 t580 t583 t584 t611 t612 t613 t614 t617 t618 t619)) else (some false)) else (some false)) else (some false)) = some r := H
                                   have A88 := Aside0.mk A880
                                   clear A880
                                   by_cases c89 : t632 = true
                                   ·subst c89
                                    have H1 : (if t634 = true then (if t631 = t606 then (if t633 > t605 then (some false) else (laws_FnLimits.j9 kj71 t579 t580 t583 t584 t611 t612 t613 t614 t617 t618 t619)) else (some false)) else (some false)) = some r := by rw [if_pos rfl] at H; exact H
                                    clear H
                                    have H := H1
                                    clear H1
                                    by_cases c90 : t634 = true
                                    ·subst c90
                                     have H1 : (if t631 = t606 then (if t633 > t605 then (some false) else (laws_FnLimits.j9 kj71 t579 t580 t583 t584 t611 t612 t613 t614 t617 t618 t619)) else (some false)) = some r := by rw [if_pos rfl] at H; exact H
                                     clear H
                                     have H := H1
                                     clear H1
                                     by_cases c91 : t631 = t606
                                     ·rw [if_pos c91] at H
                                      have c91b0 : (t631 == t606) = true := beq_iff_eq.mpr c91
                                      have c91b1 : (t631 != t606) = false := bne_eq_false_iff_eq.mpr c91
                                      clear c91
                                      (first | rw [c91b0] | (simp only [i64_w, i32_w]; rw [c91b0]) | skip)
                                      by_cases c92 : t633 > t605
                                      ·rw [if_pos c92] at H
                                       exact absurd ((Option.some.inj H).trans hr_.out) Bool.false_ne_true
                                      ·rw [if_neg c92] at H
                                       have c92b0 : decide (t605 < t633) = false := decide_eq_false c92
                                       clear c92
                                       have H' := Aside0.mk H
                                       clear H
                                       go_wp2_with (first | ((with_reducible refine gate_callee (f := 70) rfl ?_); refine goesL_ (some 262) rfl rfl Try.func70 (by kernel_rfl) rfl #[.string t607, .int .i64 t605] rfl qy15 ?_; (with_reducible refine (impl_RankWithin.calls kj71 t607 t605 t631 true _ A87.out).mono ?_); rintro e w95 ⟨rfl, hb⟩; refine ⟨_, rfl, ?_⟩; have n0_ := Aside0.mk (Kd.R_below qy36 hb); have n1_ := Aside0.mk (Kd.R_below qy21 hb); have n2_ := Aside0.mk (below_step qy16 hb); clear HO_3; clear HO_38; clear HB; have HO_3 := n0_; have HO_38 := n1_; have HB := n2_; clear n0_ n1_ n2_; (try clear hb); (try clear hb2); (try clear hk); (try clear hi)) | ((with_reducible refine gate_callee (f := 39) rfl ?_); refine goesL_ (some 267) rfl rfl Try.func39 (by kernel_rfl) rfl #[.string t607] rfl qy15 ?_; (with_reducible refine (impl_DepthOf.calls kj71 t607 t633 true _ A88.out).mono ?_); rintro e w96 ⟨rfl, hb⟩; refine ⟨_, rfl, ?_⟩; have n0_ := Aside0.mk (Kd.R_below qy36 hb); have n1_ := Aside0.mk (Kd.R_below qy21 hb); have n2_ := Aside0.mk (below_step qy16 hb); clear HO_3; clear HO_38; clear HB; have HO_3 := n0_; have HO_38 := n1_; have HB := n2_; clear n0_ n1_ n2_; (try clear hb); (try clear hb2); (try clear hk); (try clear hi)))
                                       go_meet
                                       case rel => exact ⟨_, H', ⟨by have := HJ6.out; have := HJ16.out; have := HJ26.out; have := HJ34.out; have := HJ44.out; have := HJ53.out; have := HJ62.out; have := HJ71.out; first | omega | exact Nat.le_refl _⟩, ⟨by (with_reducible repeat (first | apply Kd.R_alloc | apply Kd.R_drewN | apply Kd.R_drew)); exact HO_3.out⟩, ⟨by (with_reducible repeat (first | apply Kd.R_alloc | apply Kd.R_drewN | apply Kd.R_drew)); exact HO_38.out⟩, ⟨by repeat (first | (with_reducible first | exact HB.out | apply below_alloc | apply pw_below_drewN | apply below_drew1) | exact HB.out)⟩⟩
                                     ·rw [if_neg c91] at H
                                      exact absurd ((Option.some.inj H).trans hr_.out) Bool.false_ne_true
                                    ·replace c90 := Bool.eq_false_iff.mpr c90
                                     subst c90
                                     have H1 : (some false) = some r := by rw [if_neg (show ¬ (false = true) by decide)] at H; exact H
                                     exact absurd ((Option.some.inj H1).trans hr_.out) Bool.false_ne_true
                                   ·replace c89 := Bool.eq_false_iff.mpr c89
                                    subst c89
                                    have H1 : (some false) = some r := by rw [if_neg (show ¬ (false = true) by decide)] at H; exact H
                                    exact absurd ((Option.some.inj H1).trans hr_.out) Bool.false_ne_true
                                  ·replace c86 := Bool.eq_false_iff.mpr c86
                                   subst c86
                                   have H1 : (laws_FnLimits.j9 kj71 t579 t580 t583 t584 t611 t612 t613 t614 t617 t618 t619) = some r := by rw [if_neg (show ¬ (false = true) by decide)] at H; exact H
                                   clear H
                                   have H := H1
                                   clear H1
                                   have H' := Aside0.mk H
                                   clear H
                                   go_wp2
                                   go_meet
                                   case rel => exact ⟨_, H', ⟨by have := HJ6.out; have := HJ16.out; have := HJ26.out; have := HJ34.out; have := HJ44.out; have := HJ53.out; have := HJ62.out; have := HJ71.out; first | omega | exact Nat.le_refl _⟩, ⟨by (with_reducible repeat (first | apply Kd.R_alloc | apply Kd.R_drewN | apply Kd.R_drew)); exact HO_3.out⟩, ⟨by (with_reducible repeat (first | apply Kd.R_alloc | apply Kd.R_drewN | apply Kd.R_drew)); exact HO_38.out⟩, ⟨by repeat (first | (with_reducible first | exact HB.out | apply below_alloc | apply pw_below_drewN | apply below_drew1) | exact HB.out)⟩⟩
                                 case rest =>
                                  as_aux_lemma =>
                                   clear HC85
                                   try clear c1
                                   try clear c2
                                   try clear p2
                                   try clear c3
                                   try clear c4
                                   try clear c5
                                   try clear c6
                                   try clear p6
                                   try clear c7
                                   try clear c8
                                   try clear c9
                                   try clear c12
                                   try clear c12b0
                                   try clear c12b1
                                   try clear c12b2
                                   try clear c13
                                   try clear c22
                                   try clear c22b0
                                   try clear c22b1
                                   try clear c23
                                   try clear c31
                                   try clear c31b0
                                   try clear c31b1
                                   try clear c32
                                   try clear c38
                                   try clear c38b0
                                   try clear c38b1
                                   try clear c39
                                   try clear c39b0
                                   try clear c39b1
                                   try clear c39b2
                                   try clear c40
                                   try clear c40b0
                                   try clear c40b1
                                   try clear c40b2
                                   try clear c41
                                   try clear c49
                                   try clear c49b0
                                   try clear c49b1
                                   try clear c50
                                   try clear c55
                                   try clear c56
                                   try clear c57
                                   try clear c58
                                   try clear c58b0
                                   try clear c58b1
                                   try clear c59
                                   try clear c60
                                   try clear c61
                                   try clear c62
                                   try clear c63
                                   try clear c64
                                   try clear p64
                                   try clear c65
                                   try clear c66
                                   try clear c67
                                   try clear c67b0
                                   try clear c67b1
                                   try clear c67b2
                                   try clear c68
                                   try clear c69
                                   try clear c70
                                   try clear c71
                                   try clear c72
                                   try clear c73
                                   try clear c74
                                   try clear c77
                                   try clear c78
                                   try clear c80
                                   try clear c81
                                   try clear c86
                                   try clear c89
                                   try clear c90
                                   try clear c91
                                   try clear c91b0
                                   try clear c91b1
                                   try clear c92
                                   try clear c92b0
                                   try clear p2
                                   try clear p6
                                   try clear p64
                                   obtain ⟨kq, HA, HJ84, HO_3, HO_38, HB⟩ := hcut
                                   cases kq with
                                   | zero => exact absurd HA.out (by simp [laws_FnLimits.j9])
                                   | succ kj84 =>
                                    have H := HA.out
                                    clear HA
                                    simp only [laws_FnLimits.j9] at H
                                    have HC103 := Aside0.mk H
                                    clear H
                                    go_upto_if 286 with (fail)
                                    go_cut [] (fun wc => ∃ (kq : Nat), Aside0 (laws_FnLimits.j10 kq t579 t580 t583 t584 t617 t618 t619 = some r) ∧ Aside0 (kq ≤ kj84) ∧ Aside0 (Kd.R (Kd.int .i64) 3 wc w.heap.size (fun k_ => some k_ ≠ (v620 : Value).ownBlock) (.slice Ao9 t579.length co9) t579) ∧ Aside0 (Kd.R (Kd.int .i64) 3 wc w.heap.size (fun k_ => some k_ ≠ ((.slice Ao9 t579.length co9) : Value).ownBlock) v620 t618) ∧ Aside0 (Below w.heap.size w wc))
                                    case first =>
                                     have H := HC103.out
                                     clear HC103
                                     by_cases c104 : t614 = true
                                     ·subst c104
                                      have H1 : ((impl_WithinAt.f kj84 (wrap64 ((t611.size : Int) / 2)) t612 t613).bind fun bt635 => (if bt635.2 = true then (if bt635.1.toList = t611.toList then (laws_FnLimits.j10 kj84 t579 t580 t583 t584 t617 t618 t619) else (some false)) else (some false))) = some r := by rw [if_pos rfl] at H; exact H
                                      clear H
                                      have H := H1
                                      clear H1
                                      replace H := Option.bind_eq_some_iff.mp H
                                      obtain ⟨⟨t635, t636⟩, A1050, H⟩ := H
                                      replace H : (if t636 = true then (if t635.toList = t611.toList then (laws_FnLimits.j10 kj84 t579 t580 t583 t584 t617 t618 t619) else (some false)) else (some false)) = some r := H
                                      have A105 := Aside0.mk A1050
                                      clear A1050
                                      by_cases c106 : t636 = true
                                      ·subst c106
                                       have H1 : (if t635.toList = t611.toList then (laws_FnLimits.j10 kj84 t579 t580 t583 t584 t617 t618 t619) else (some false)) = some r := by rw [if_pos rfl] at H; exact H
                                       clear H
                                       have H := H1
                                       clear H1
                                       by_cases c107 : t635.toList = t611.toList
                                       ·rw [if_pos c107] at H
                                        have c107b0 : (t635.toList == t611.toList) = true := beq_iff_eq.mpr c107
                                        have c107b1 : (t635.toList != t611.toList) = false := bne_eq_false_iff_eq.mpr c107
                                        clear c107
                                        (first | rw [c107b0] | (simp only [i64_w, i32_w]; rw [c107b0]) | skip)
                                        have H' := Aside0.mk H
                                        clear H
                                        go_wp2_with (first | ((with_reducible refine gate_callee (f := 67) rfl ?_); refine goesL_ (some 293) rfl rfl Try.func67 (by kernel_rfl) rfl #[.int .i64 (wrap64 ((t611.size : Int) / 2)), .int .i64 t612, .int .i64 t613] rfl qy15 ?_; (with_reducible refine (impl_WithinAt.calls kj84 (wrap64 ((t611.size : Int) / 2)) t612 t613 t635 true _ A105.out).mono ?_); rintro e w108 ⟨rfl, hb⟩; refine ⟨_, rfl, ?_⟩; have n0_ := Aside0.mk (Kd.R_below qy36 hb); have n1_ := Aside0.mk (Kd.R_below qy21 hb); have n2_ := Aside0.mk (below_step qy16 hb); clear HO_3; clear HO_38; clear HB; have HO_3 := n0_; have HO_38 := n1_; have HB := n2_; clear n0_ n1_ n2_; (try clear hb); (try clear hb2); (try clear hk); (try clear hi)))
                                        go_meet
                                        case rel => exact ⟨_, H', ⟨by have := HJ6.out; have := HJ16.out; have := HJ26.out; have := HJ34.out; have := HJ44.out; have := HJ53.out; have := HJ62.out; have := HJ71.out; have := HJ84.out; first | omega | exact Nat.le_refl _⟩, ⟨by (with_reducible repeat (first | apply Kd.R_alloc | apply Kd.R_drewN | apply Kd.R_drew)); exact HO_3.out⟩, ⟨by (with_reducible repeat (first | apply Kd.R_alloc | apply Kd.R_drewN | apply Kd.R_drew)); exact HO_38.out⟩, ⟨by repeat (first | (with_reducible first | exact HB.out | apply below_alloc | apply pw_below_drewN | apply below_drew1) | exact HB.out)⟩⟩
                                       ·rw [if_neg c107] at H
                                        exact absurd ((Option.some.inj H).trans hr_.out) Bool.false_ne_true
                                      ·replace c106 := Bool.eq_false_iff.mpr c106
                                       subst c106
                                       have H1 : (some false) = some r := by rw [if_neg (show ¬ (false = true) by decide)] at H; exact H
                                       exact absurd ((Option.some.inj H1).trans hr_.out) Bool.false_ne_true
                                     ·replace c104 := Bool.eq_false_iff.mpr c104
                                      subst c104
                                      have H1 : (laws_FnLimits.j10 kj84 t579 t580 t583 t584 t617 t618 t619) = some r := by rw [if_neg (show ¬ (false = true) by decide)] at H; exact H
                                      clear H
                                      have H := H1
                                      clear H1
                                      have H' := Aside0.mk H
                                      clear H
                                      go_wp2
                                      go_meet
                                      case rel => exact ⟨_, H', ⟨by have := HJ6.out; have := HJ16.out; have := HJ26.out; have := HJ34.out; have := HJ44.out; have := HJ53.out; have := HJ62.out; have := HJ71.out; have := HJ84.out; first | omega | exact Nat.le_refl _⟩, ⟨by (with_reducible repeat (first | apply Kd.R_alloc | apply Kd.R_drewN | apply Kd.R_drew)); exact HO_3.out⟩, ⟨by (with_reducible repeat (first | apply Kd.R_alloc | apply Kd.R_drewN | apply Kd.R_drew)); exact HO_38.out⟩, ⟨by repeat (first | (with_reducible first | exact HB.out | apply below_alloc | apply pw_below_drewN | apply below_drew1) | exact HB.out)⟩⟩
                                    case rest =>
                                     as_aux_lemma =>
                                      clear HC103
                                      try clear c1
                                      try clear c2
                                      try clear p2
                                      try clear c3
                                      try clear c4
                                      try clear c5
                                      try clear c6
                                      try clear p6
                                      try clear c7
                                      try clear c8
                                      try clear c9
                                      try clear c10
                                      try clear c12
                                      try clear c12b0
                                      try clear c12b1
                                      try clear c12b2
                                      try clear c13
                                      try clear c22
                                      try clear c22b0
                                      try clear c22b1
                                      try clear c23
                                      try clear c31
                                      try clear c31b0
                                      try clear c31b1
                                      try clear c32
                                      try clear c38
                                      try clear c38b0
                                      try clear c38b1
                                      try clear c39
                                      try clear c39b0
                                      try clear c39b1
                                      try clear c39b2
                                      try clear c40
                                      try clear c40b0
                                      try clear c40b1
                                      try clear c40b2
                                      try clear c41
                                      try clear c49
                                      try clear c49b0
                                      try clear c49b1
                                      try clear c50
                                      try clear c55
                                      try clear c56
                                      try clear c57
                                      try clear c58
                                      try clear c58b0
                                      try clear c58b1
                                      try clear c59
                                      try clear c60
                                      try clear c61
                                      try clear c62
                                      try clear c63
                                      try clear c64
                                      try clear p64
                                      try clear c65
                                      try clear c66
                                      try clear c67
                                      try clear c67b0
                                      try clear c67b1
                                      try clear c67b2
                                      try clear c68
                                      try clear c69
                                      try clear c70
                                      try clear c71
                                      try clear c72
                                      try clear c73
                                      try clear c74
                                      try clear c77
                                      try clear c78
                                      try clear c80
                                      try clear c81
                                      try clear c86
                                      try clear c89
                                      try clear c90
                                      try clear c91
                                      try clear c91b0
                                      try clear c91b1
                                      try clear c92
                                      try clear c92b0
                                      try clear c104
                                      try clear c106
                                      try clear c107
                                      try clear c107b0
                                      try clear c107b1
                                      try clear p2
                                      try clear p6
                                      try clear p64
                                      obtain ⟨kq, HA, HJ102, HO_3, HO_38, HB⟩ := hcut
                                      cases kq with
                                      | zero => exact absurd HA.out (by simp [laws_FnLimits.j10])
                                      | succ kj102 =>
                                       have H := HA.out
                                       clear HA
                                       simp only [laws_FnLimits.j10] at H
                                       by_cases c111 : t619 = true
                                       ·subst c111
                                        have H1 : (laws_FnLimits.l0 kj102 t579 t580 t583 t584 t617 t618 0 0) = some r := by rw [if_pos rfl] at H; exact H
                                        clear H
                                        have H := H1
                                        clear H1
                                        have H' := Aside0.mk H
                                        clear H
                                        go_wp2
                                        go_loopg [52, 53] kj102 (fun kq v52 v53 w' => ∃ (x52_11 : Int) (x53_11 : Int), v52 = .int .i64 x52_11 ∧ v53 = .int .i64 x53_11 ∧ Aside0 (laws_FnLimits.l0 kq t579 t580 t583 t584 t617 t618 x52_11 x53_11 = some r) ∧ Aside0 (kq ≤ kj102) ∧ Aside0 (Kd.R (Kd.int .i64) 3 w' w.heap.size (fun k_ => some k_ ≠ (v620 : Value).ownBlock) (.slice Ao9 t579.length co9) t579) ∧ Aside0 (Kd.R (Kd.int .i64) 3 w' w.heap.size (fun k_ => some k_ ≠ ((.slice Ao9 t579.length co9) : Value).ownBlock) v620 t618) ∧ Aside0 (Below w.heap.size w w'))
                                        case atStart => exact ⟨(0), (0), qy44, qy44, H', ⟨Nat.le_refl _⟩, ⟨by (with_reducible repeat (first | apply Kd.R_alloc | apply Kd.R_drewN | apply Kd.R_drew)); exact HO_3.out⟩, ⟨by (with_reducible repeat (first | apply Kd.R_alloc | apply Kd.R_drewN | apply Kd.R_drew)); exact HO_38.out⟩, ⟨by repeat (first | (with_reducible first | exact HB.out | apply below_alloc | apply pw_below_drewN | apply below_drew1) | exact HB.out)⟩⟩
                                        case round =>
                                         clear H'
                                         try clear c1
                                         try clear c2
                                         try clear p2
                                         try clear c3
                                         try clear c4
                                         try clear c5
                                         try clear c6
                                         try clear p6
                                         try clear c7
                                         try clear c8
                                         try clear c9
                                         try clear c10
                                         try clear c11
                                         try clear c12
                                         try clear c12b0
                                         try clear c12b1
                                         try clear c12b2
                                         try clear c13
                                         try clear c22
                                         try clear c22b0
                                         try clear c22b1
                                         try clear c23
                                         try clear c31
                                         try clear c31b0
                                         try clear c31b1
                                         try clear c32
                                         try clear c38
                                         try clear c38b0
                                         try clear c38b1
                                         try clear c39
                                         try clear c39b0
                                         try clear c39b1
                                         try clear c39b2
                                         try clear c40
                                         try clear c40b0
                                         try clear c40b1
                                         try clear c40b2
                                         try clear c41
                                         try clear c49
                                         try clear c49b0
                                         try clear c49b1
                                         try clear c50
                                         try clear c55
                                         try clear c56
                                         try clear c57
                                         try clear c58
                                         try clear c58b0
                                         try clear c58b1
                                         try clear c59
                                         try clear c60
                                         try clear c61
                                         try clear c62
                                         try clear c63
                                         try clear c64
                                         try clear p64
                                         try clear c65
                                         try clear c66
                                         try clear c67
                                         try clear c67b0
                                         try clear c67b1
                                         try clear c67b2
                                         try clear c68
                                         try clear c69
                                         try clear c70
                                         try clear c71
                                         try clear c72
                                         try clear c73
                                         try clear c74
                                         try clear c77
                                         try clear c78
                                         try clear c80
                                         try clear c81
                                         try clear c86
                                         try clear c89
                                         try clear c90
                                         try clear c91
                                         try clear c91b0
                                         try clear c91b1
                                         try clear c92
                                         try clear c92b0
                                         try clear c104
                                         try clear c106
                                         try clear c107
                                         try clear c107b0
                                         try clear c107b1
                                         try clear c111
                                         try clear p2
                                         try clear p6
                                         try clear p64
                                         obtain ⟨x52_11, x53_11, rfl, rfl, HA, HK11, HO_3, HO_38, HB⟩ := hrel
                                         cases gk with
                                         | zero => exact absurd HA.out (by simp [laws_FnLimits.l0])
                                         | succ k11 =>
                                          have H := HA.out
                                          clear HA
                                          simp only [laws_FnLimits.l0] at H
                                          by_cases c112 : x53_11 < (t618.length : Int)
                                          ·rw [if_pos c112] at H
                                           have c112b0 : decide (x53_11 < (t618.length : Int)) = true := decide_eq_true c112
                                           clear c112
                                           by_cases c113 : 0 ≤ x53_11
                                           ·rw [if_pos c113] at H
                                            have c113b0 : decide (0 ≤ x53_11) = true := decide_eq_true c113
                                            clear c113
                                            have H' := Aside0.mk H
                                            clear H
                                            obtain ⟨Ao114, co114, eo114⟩ := Kd.R_slice HO_38.out
                                            subst eo114
                                            have p637 : 0 ≤ (x53_11 : Int) := of_decide_eq_true qy43
                                            have q637 : x53_11 < (t618.length : Int) := of_decide_eq_true qy43
                                            obtain ⟨ad637, e637, hx637_0⟩ := Kd.at_int (Kd.R_reads' HO_38.out).2.2 x53_11 p637 q637
                                            cases e637
                                            replace p637 := eq_true p637
                                            replace q637 := eq_true q637
                                            go_wp2
                                            go_roundg k11
                                            case measure => have := HJ6.out; have := HJ16.out; have := HJ26.out; have := HJ34.out; have := HJ44.out; have := HJ53.out; have := HJ62.out; have := HJ71.out; have := HJ84.out; have := HJ102.out; have := HK11.out; omega
                                            case rel => exact ⟨(wrap64 (x52_11 + (rd t618 x53_11))), (wrap64 (x53_11 + 1)), qy44, qy44, H', ⟨by have := HJ6.out; have := HJ16.out; have := HJ26.out; have := HJ34.out; have := HJ44.out; have := HJ53.out; have := HJ62.out; have := HJ71.out; have := HJ84.out; have := HJ102.out; have := HK11.out; omega⟩, ⟨by (with_reducible repeat (first | apply Kd.R_alloc | apply Kd.R_drewN | apply Kd.R_drew)); exact HO_3.out⟩, ⟨by (with_reducible repeat (first | apply Kd.R_alloc | apply Kd.R_drewN | apply Kd.R_drew)); exact HO_38.out⟩, ⟨by repeat (first | (with_reducible first | exact HB.out | apply below_alloc | apply pw_below_drewN | apply below_drew1) | exact HB.out)⟩⟩
                                           ·rw [if_neg c113] at H
                                            exact absurd H (by simp)
                                          ·rw [if_neg c112] at H
                                           have c112b0 : decide (x53_11 < (t618.length : Int)) = false := decide_eq_false c112
                                           clear c112
                                           replace H := Option.bind_eq_some_iff.mp H
                                           obtain ⟨⟨t638, t639⟩, A1150, H⟩ := H
                                           replace H : (if t639 = true then (if x52_11 = t638 then (if 0 < (t618.length : Int) then (if (rd t618 0) = 1 then (if 0 ≤ (wrap64 (t617 - 1)) then (if (wrap64 (t617 - 1)) < (t618.length : Int) then (laws_FnLimits.j12 k11 t579 t580 t583 t584 ((rd t618 (wrap64 (t617 - 1))) != 1)) else (none)) else (none)) else (laws_FnLimits.j12 k11 t579 t580 t583 t584 true)) else (none)) else (laws_FnLimits.j12 k11 t579 t580 t583 t584 true)) else (laws_FnLimits.j12 k11 t579 t580 t583 t584 true)) = some r := H
                                           have A115 := Aside0.mk A1150
                                           clear A1150
                                           have HC116 := Aside0.mk H
                                           clear H
                                           obtain ⟨Ao117, co117, eo117⟩ := Kd.R_slice HO_38.out
                                           subst eo117
                                           go_upto_region 60 with (first | ((with_reducible refine gate_callee (f := 75) rfl ?_); refine goesL_ (some 318) rfl rfl Try.func75 (by kernel_rfl) rfl #[.int .i64 t617] rfl qy15 ?_; (with_reducible refine (impl_CountOneStack.calls k11 t617 t638 t639 _ A115.out).mono ?_); rintro e w' ⟨rfl, ⟨nd, rfl⟩⟩; refine ⟨_, rfl, ?_⟩))
                                           (try simp only [Act.put, List.setIfInBounds_toArray, List.set_cons_zero, List.set_cons_succ])
                                           go_cut [341] (fun v341 wc => ∃ (kq : Nat) (x341_115 : Bool), v341 = .bool x341_115 ∧ Aside0 (laws_FnLimits.j12 kq t579 t580 t583 t584 x341_115 = some r) ∧ Aside0 (kq ≤ k11) ∧ Aside0 (Kd.R (Kd.int .i64) 3 wc w.heap.size (fun _ => True) (.slice Ao9 t579.length co9) t579) ∧ Aside0 (Below w.heap.size w wc))
                                           case first =>
                                            have H := HC116.out
                                            clear HC116
                                            by_cases c118 : t639 = true
                                            ·subst c118
                                             have H1 : (if x52_11 = t638 then (if 0 < (t618.length : Int) then (if (rd t618 0) = 1 then (if 0 ≤ (wrap64 (t617 - 1)) then (if (wrap64 (t617 - 1)) < (t618.length : Int) then (laws_FnLimits.j12 k11 t579 t580 t583 t584 ((rd t618 (wrap64 (t617 - 1))) != 1)) else (none)) else (none)) else (laws_FnLimits.j12 k11 t579 t580 t583 t584 true)) else (none)) else (laws_FnLimits.j12 k11 t579 t580 t583 t584 true)) = some r := by rw [if_pos rfl] at H; exact H
                                             clear H
                                             have H := H1
                                             clear H1
                                             by_cases c119 : x52_11 = t638
                                             ·rw [if_pos c119] at H
                                              have c119b0 : (x52_11 == t638) = true := beq_iff_eq.mpr c119
                                              have c119b1 : (x52_11 != t638) = false := bne_eq_false_iff_eq.mpr c119
                                              clear c119
                                              (first | rw [c119b0] | (simp only [i64_w, i32_w]; rw [c119b0]) | skip)
                                              by_cases c120 : 0 < (t618.length : Int)
                                              ·rw [if_pos c120] at H
                                               have c120b0 : decide (0 < (t618.length : Int)) = true := decide_eq_true c120
                                               have c120b1 : decide (0 < t618.length) = true := decide_eq_true (by omega)
                                               clear c120
                                               by_cases c121 : (rd t618 0) = 1
                                               ·rw [if_pos c121] at H
                                                have c121b0 : ((rd t618 0) == 1) = true := beq_iff_eq.mpr c121
                                                have c121b1 : ((rd t618 0) != 1) = false := bne_eq_false_iff_eq.mpr c121
                                                clear c121
                                                obtain ⟨ji122, hji122⟩ : ∃ j_ : Int, (wrap64 (t617 - 1)) = j_ := ⟨_, rfl⟩
                                                replace H : (if 0 ≤ (ji122) then (if (ji122) < (t618.length : Int) then (laws_FnLimits.j12 k11 t579 t580 t583 t584 ((rd t618 (ji122)) != 1)) else (none)) else (none)) = some r := by first | (rw [hji122] at H; exact H) | (simp only [hji122] at H ⊢; exact H)
                                                have hji122w : (IntKind.i64.wrap (t617 - 1)) = ji122 := (i64_w _).trans hji122
                                                by_cases c123 : 0 ≤ (ji122)
                                                ·rw [if_pos c123] at H
                                                 have c123b0 : decide (0 ≤ (ji122)) = true := decide_eq_true c123
                                                 clear c123
                                                 by_cases c124 : (ji122) < (t618.length : Int)
                                                 ·rw [if_pos c124] at H
                                                  have c124b0 : decide ((ji122) < (t618.length : Int)) = true := decide_eq_true c124
                                                  clear c124
                                                  have H' := Aside0.mk H
                                                  clear H
                                                  have p640 : 0 ≤ (0 : Int) := (by omega)
                                                  have q640 : 0 < (t618.length : Int) := of_decide_eq_true qy43
                                                  obtain ⟨ad640, e640, hx640_0⟩ := Kd.at_int (Kd.R_reads' HO_38.out).2.2 0 p640 q640
                                                  cases e640
                                                  have qi640 : (0 < t618.length) = True := eq_true (by omega)
                                                  (try rw [show ((0 : Int)).toNat = 0 from rfl] at hx640_0)
                                                  (try rw [Addr.add_zero'] at hx640_0)
                                                  replace p640 := eq_true p640
                                                  replace q640 := eq_true q640
                                                  have p641 : 0 ≤ ((ji122) : Int) := of_decide_eq_true qy43
                                                  have q641 : (ji122) < (t618.length : Int) := of_decide_eq_true qy43
                                                  obtain ⟨ad641, e641, hx641_0⟩ := Kd.at_int (Kd.R_reads' HO_38.out).2.2 (ji122) p641 q641
                                                  obtain rfl : ad640 = ad641 := (by injection e641)
                                                  replace p641 := eq_true p641
                                                  replace q641 := eq_true q641
                                                  go_wp2
                                                  go_meet
                                                  case rel => exact ⟨_, (((rd t618 (ji122)) != 1)), (by first | rfl | (simp; done) | (simp only [← hji122] <;> (first | rfl | simp)) | (simp [*]; done)), H', ⟨by have := HJ6.out; have := HJ16.out; have := HJ26.out; have := HJ34.out; have := HJ44.out; have := HJ53.out; have := HJ62.out; have := HJ71.out; have := HJ84.out; have := HJ102.out; have := HK11.out; first | omega | exact Nat.le_refl _⟩, ⟨by (with_reducible repeat (first | apply Kd.R_alloc | apply Kd.R_drewN | apply Kd.R_drew)); exact Kd.R_mono HO_3.out (fun _ hk => trivial)⟩, ⟨by repeat (first | (with_reducible first | exact HB.out | apply below_alloc | apply pw_below_drewN | apply below_drew1) | exact HB.out)⟩⟩
                                                 ·rw [if_neg c124] at H
                                                  exact absurd H (by simp)
                                                ·rw [if_neg c123] at H
                                                 exact absurd H (by simp)
                                               ·rw [if_neg c121] at H
                                                exact (laws_FnLimits.j12_no (hr_.out ▸ H)).elim
                                              ·rw [if_neg c120] at H
                                               exact absurd H (by simp)
                                             ·rw [if_neg c119] at H
                                              exact (laws_FnLimits.j12_no (hr_.out ▸ H)).elim
                                            ·replace c118 := Bool.eq_false_iff.mpr c118
                                             subst c118
                                             have H1 : (laws_FnLimits.j12 k11 t579 t580 t583 t584 true) = some r := by rw [if_neg (show ¬ (false = true) by decide)] at H; exact H
                                             exact (laws_FnLimits.j12_no (hr_.out ▸ H1)).elim
                                           case rest =>
                                            as_aux_lemma =>
                                             clear HC116
                                             try clear c1
                                             try clear c2
                                             try clear p2
                                             try clear c3
                                             try clear c4
                                             try clear c5
                                             try clear c6
                                             try clear p6
                                             try clear q6
                                             try clear hx6
                                             try clear qi6
                                             try clear c7
                                             try clear c8
                                             try clear c9
                                             try clear c10
                                             try clear c11
                                             try clear c12
                                             try clear c12b0
                                             try clear c12b1
                                             try clear c12b2
                                             try clear c13
                                             try clear c22
                                             try clear c22b0
                                             try clear c22b1
                                             try clear c23
                                             try clear c31
                                             try clear c31b0
                                             try clear c31b1
                                             try clear c32
                                             try clear c38
                                             try clear c38b0
                                             try clear c38b1
                                             try clear c39
                                             try clear c39b0
                                             try clear c39b1
                                             try clear c39b2
                                             try clear c40
                                             try clear c40b0
                                             try clear c40b1
                                             try clear c40b2
                                             try clear c41
                                             try clear c49
                                             try clear c49b0
                                             try clear c49b1
                                             try clear c50
                                             try clear c55
                                             try clear c56
                                             try clear c57
                                             try clear c58
                                             try clear c58b0
                                             try clear c58b1
                                             try clear c59
                                             try clear c60
                                             try clear c61
                                             try clear c62
                                             try clear c63
                                             try clear p63
                                             try clear q63
                                             try clear hx63
                                             try clear c64
                                             try clear p64
                                             try clear q64
                                             try clear hx64
                                             try clear qi64
                                             try clear c65
                                             try clear c66
                                             try clear c67
                                             try clear c67b0
                                             try clear c67b1
                                             try clear c67b2
                                             try clear c68
                                             try clear c69
                                             try clear c70
                                             try clear c71
                                             try clear c72
                                             try clear c73
                                             try clear c74
                                             try clear c75
                                             try clear c77
                                             try clear c78
                                             try clear c80
                                             try clear c81
                                             try clear c86
                                             try clear c89
                                             try clear c90
                                             try clear c91
                                             try clear c91b0
                                             try clear c91b1
                                             try clear c92
                                             try clear c92b0
                                             try clear c104
                                             try clear c106
                                             try clear c107
                                             try clear c107b0
                                             try clear c107b1
                                             try clear c111
                                             try clear c112
                                             try clear c112b0
                                             try clear c113
                                             try clear c113b0
                                             try clear c118
                                             try clear c119
                                             try clear c119b0
                                             try clear c119b1
                                             try clear c120
                                             try clear c120b0
                                             try clear c120b1
                                             try clear c121
                                             try clear c121b0
                                             try clear c121b1
                                             try clear c123
                                             try clear c123b0
                                             try clear c124
                                             try clear c124b0
                                             try clear hx637_0
                                             try clear hx640_0
                                             try clear hx641_0
                                             try clear p2
                                             try clear p6
                                             try clear p637
                                             try clear p64
                                             try clear p640
                                             try clear p641
                                             try clear q637
                                             try clear q640
                                             try clear q641
                                             obtain ⟨kq, x341_115, rfl, HA, HJ115, HO_3, HB⟩ := hcut
                                             cases kq with
                                             | zero => exact absurd HA.out (by simp [laws_FnLimits.j12])
                                             | succ kj115 =>
                                              have H := HA.out
                                              clear HA
                                              simp only [laws_FnLimits.j12] at H
                                              by_cases c125 : x341_115 = true
                                              ·subst c125
                                               have H1 : (some false) = some r := by rw [if_pos rfl] at H; exact H
                                               exact absurd ((Option.some.inj H1).trans hr_.out) Bool.false_ne_true
                                              ·replace c125 := Bool.eq_false_iff.mpr c125
                                               subst c125
                                               have H1 : (if t584 = true then ((impl_MostWithin.f kj115 t579 t580).bind fun bt642 => (if bt642.2 = true then (some (t583 == (bt642.1 == (t579.length : Int)))) else (some false))) else (some true)) = some r := by rw [if_neg (show ¬ (false = true) by decide)] at H; exact H
                                               clear H
                                               have H := H1
                                               clear H1
                                               by_cases c126 : t584 = true
                                               ·subst c126
                                                have H1 : ((impl_MostWithin.f kj115 t579 t580).bind fun bt642 => (if bt642.2 = true then (some (t583 == (bt642.1 == (t579.length : Int)))) else (some false))) = some r := by rw [if_pos rfl] at H; exact H
                                                clear H
                                                have H := H1
                                                clear H1
                                                replace H := Option.bind_eq_some_iff.mp H
                                                obtain ⟨⟨t642, t643⟩, A1270, H⟩ := H
                                                replace H : (if t643 = true then (some (t583 == (t642 == (t579.length : Int)))) else (some false)) = some r := H
                                                have A127 := Aside0.mk A1270
                                                clear A1270
                                                by_cases c128 : t643 = true
                                                ·subst c128
                                                 have H1 : (some (t583 == (t642 == (t579.length : Int)))) = some r := by rw [if_pos rfl] at H; exact H
                                                 clear H
                                                 have H := H1
                                                 clear H1
                                                 obtain rfl := Option.some.inj H
                                                 go_wp2_with (first | ((with_reducible refine gate_callee (f := 32) rfl ?_); refine goesL_ (some 347) rfl rfl Try.func32 (by kernel_rfl) rfl #[.slice Ao9 t579.length co9, .int .i64 t580] rfl qy15 ?_; (with_reducible refine (impl_MostWithin.calls kj115 (fun k_ => some k_ = (.slice Ao9 t579.length co9 : Value).ownBlock) _ _ t579 t580 t642 true _ ?side1 A127.out).mono ?_); (case side1 => exact Kd.R_V (Kd.R_tight rfl (HO_3.out))); rintro e w129 ⟨rfl, hb⟩; refine ⟨_, rfl, ?_⟩; have n0_ := Aside0.mk (Kd.R_below qy36 hb); have n1_ := Aside0.mk (below_step qy16 hb); clear HO_3; clear HB; have HO_3 := n0_; have HB := n1_; clear n0_ n1_; (try clear hb); (try clear hb2); (try clear hk); (try clear hi)))
                                                 go_ret
                                                 exact ⟨by first | rfl | (simp [errW_none, errW_some] <;> rfl) | (simp [*, errW_none, errW_some] <;> rfl), by repeat (first | (with_reducible first | exact HB.out | apply below_alloc | apply pw_below_drewN | apply below_drew1) | exact HB.out)⟩
                                                ·replace c128 := Bool.eq_false_iff.mpr c128
                                                 subst c128
                                                 have H1 : (some false) = some r := by rw [if_neg (show ¬ (false = true) by decide)] at H; exact H
                                                 exact absurd ((Option.some.inj H1).trans hr_.out) Bool.false_ne_true
                                               ·replace c126 := Bool.eq_false_iff.mpr c126
                                                subst c126
                                                have H1 : (some true) = some r := by rw [if_neg (show ¬ (false = true) by decide)] at H; exact H
                                                clear H
                                                have H := H1
                                                clear H1
                                                obtain rfl := Option.some.inj H
                                                go_wp2
                                                go_ret
                                                exact ⟨by first | rfl | (simp [errW_none, errW_some] <;> rfl) | (simp [*, errW_none, errW_some] <;> rfl), by repeat (first | (with_reducible first | exact HB.out | apply below_alloc | apply pw_below_drewN | apply below_drew1) | exact HB.out)⟩
                                       ·replace c111 := Bool.eq_false_iff.mpr c111
                                        subst c111
                                        have H1 : (if t584 = true then ((impl_MostWithin.f kj102 t579 t580).bind fun bt644 => (if bt644.2 = true then (some (t583 == (bt644.1 == (t579.length : Int)))) else (some false))) else (some true)) = some r := by rw [if_neg (show ¬ (false = true) by decide)] at H; exact H
                                        clear H
                                        have H := H1
                                        clear H1
                                        by_cases c131 : t584 = true
                                        ·subst c131
                                         have H1 : ((impl_MostWithin.f kj102 t579 t580).bind fun bt644 => (if bt644.2 = true then (some (t583 == (bt644.1 == (t579.length : Int)))) else (some false))) = some r := by rw [if_pos rfl] at H; exact H
                                         clear H
                                         have H := H1
                                         clear H1
                                         replace H := Option.bind_eq_some_iff.mp H
                                         obtain ⟨⟨t644, t645⟩, A1320, H⟩ := H
                                         replace H : (if t645 = true then (some (t583 == (t644 == (t579.length : Int)))) else (some false)) = some r := H
                                         have A132 := Aside0.mk A1320
                                         clear A1320
                                         by_cases c133 : t645 = true
                                         ·subst c133
                                          have H1 : (some (t583 == (t644 == (t579.length : Int)))) = some r := by rw [if_pos rfl] at H; exact H
                                          clear H
                                          have H := H1
                                          clear H1
                                          obtain rfl := Option.some.inj H
                                          go_wp2_with (first | ((with_reducible refine gate_callee (f := 32) rfl ?_); refine goesL_ (some 347) rfl rfl Try.func32 (by kernel_rfl) rfl #[.slice Ao9 t579.length co9, .int .i64 t580] rfl qy15 ?_; (with_reducible refine (impl_MostWithin.calls kj102 (fun k_ => some k_ = (.slice Ao9 t579.length co9 : Value).ownBlock) _ _ t579 t580 t644 true _ ?side1 A132.out).mono ?_); (case side1 => exact Kd.R_V (Kd.R_tight rfl (HO_3.out))); rintro e w134 ⟨rfl, hb⟩; refine ⟨_, rfl, ?_⟩; have n0_ := Aside0.mk (Kd.R_below qy36 hb); have n1_ := Aside0.mk (Kd.R_below qy21 hb); have n2_ := Aside0.mk (below_step qy16 hb); clear HO_3; clear HO_38; clear HB; have HO_3 := n0_; have HO_38 := n1_; have HB := n2_; clear n0_ n1_ n2_; (try clear hb); (try clear hb2); (try clear hk); (try clear hi)))
                                          go_ret
                                          exact ⟨by first | rfl | (simp [errW_none, errW_some] <;> rfl) | (simp [*, errW_none, errW_some] <;> rfl), by repeat (first | (with_reducible first | exact HB.out | apply below_alloc | apply pw_below_drewN | apply below_drew1) | exact HB.out)⟩
                                         ·replace c133 := Bool.eq_false_iff.mpr c133
                                          subst c133
                                          have H1 : (some false) = some r := by rw [if_neg (show ¬ (false = true) by decide)] at H; exact H
                                          exact absurd ((Option.some.inj H1).trans hr_.out) Bool.false_ne_true
                                        ·replace c131 := Bool.eq_false_iff.mpr c131
                                         subst c131
                                         have H1 : (some true) = some r := by rw [if_neg (show ¬ (false = true) by decide)] at H; exact H
                                         clear H
                                         have H := H1
                                         clear H1
                                         obtain rfl := Option.some.inj H
                                         go_wp2
                                         go_ret
                                         exact ⟨by first | rfl | (simp [errW_none, errW_some] <;> rfl) | (simp [*, errW_none, errW_some] <;> rfl), by repeat (first | (with_reducible first | exact HB.out | apply below_alloc | apply pw_below_drewN | apply below_drew1) | exact HB.out)⟩

/-- THE ONE PURE STATEMENT of laws_FnLimits: yours. -/
def laws_FnLimits.Pure : Prop := ∀ (l0 : List Int), l0.length ≤ maxLen → l0.length * 1 ≤ 140737488351232 → (∀ x ∈ l0, (Lit.int .u8 x).wf = true) → ∃ k, laws_FnLimits.f k l0 = some true
theorem laws_FnLimits.walk (P : laws_FnLimits.Pure) (a0 : Option Addr) (len0 cap0 : Nat) (z0 : List Int) (w : World) (w0 : (a0 = none ∧ len0 = 0 ∧ cap0 = 0 ∧ z0 = []) ∨ ∃ x, a0 = some x ∧ len0 ≤ cap0 ∧ cap0 ≤ maxLen ∧ z0.length = cap0 ∧ (∀ i, i < z0.length → w.cell? (x.add i) = some (.int .u8 (z0.getD i 0))) ∧ ∀ n ∈ z0, (Lit.int .u8 n).wf = true) (y0 : len0 * 1 ≤ 140737488351232) :
  Calls Try.prog 6 #[.slice a0 len0 cap0] w fun e w' => e = .returned (.bool true) ∧ Below w.heap.size w w' := by
 obtain ⟨l0, rfl, hr0, hm0, hw0, hc0⟩ := ReadsInt.ofRowC w0
 obtain ⟨k, h⟩ := P l0 hm0 y0 hw0
 refine (laws_FnLimits.calls k _ _ l0 true w (Kd.C_of_reads (d := (0 : Int)) (h1 := fun _ => rfl) hr0) hc0 ⟨rfl⟩ h).mono ?_
 rintro e w' ⟨rfl, hd⟩
 exact ⟨rfl, hd⟩

end Go.Proofs.Ytnoapomobflknaa.Xi
