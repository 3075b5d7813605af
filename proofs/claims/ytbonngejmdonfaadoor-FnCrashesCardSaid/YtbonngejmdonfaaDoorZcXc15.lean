-- Written by this session's own program (xprint.py) over the kit's print.py: functions, contracts and rows of the laws of one seat.
import Derived.Test.YtbonngejmdonfaaDoorZcXc0
import Derived.Test.YtbonngejmdonfaaDoorZcXc2
import Derived.Test.YtbonngejmdonfaaDoorZcXc3
import Derived.Test.YtbonngejmdonfaaDoorZcXc7
import Derived.Test.YtbonngejmdonfaaDoorZcXc13
import Derived.Test.YtbonngejmdonfaaDoorZcXc14
import Derived.Test.YtbonngejmdonfaaDoorZcXcHcrash
namespace Go.Proofs.YtbonngejmdonfaaDoor.Xc
open Go.RowKit Go.Proofs.YtbonngejmdonfaaDoorW.PrintWords Go.Proofs.YtbonngejmdonfaaDoorW.PrintLast Go.Proofs.YtbonngejmdonfaaDoorW.PrintMore
attribute [local go_sem] max2_int min2_int max_two min_two max_three min_three max_four min_four   -- for this text's walks alone
set_option linter.unusedVariables false
set_option linter.unusedSimpArgs false

attribute [local go_sem high] eqA33
/-! ### laws_FnCrashes: function 4 -/
mutual
def laws_FnCrashes.j0 : Nat → Int → Bool → ByteArray → Bool → Bool → ByteArray → ByteArray → Int → Option (Bool)
  | 0, _, _, _, _, _, _, _, _ => none
  | k + 1, x4, x5, x6, x7, x83, x405000, x405001, x405002 => if x83 = true then (some false) else (if x7 = true then ((impl_RecoverLog.f k x6).bind fun bt425 => (if bt425.2.2.2.2 = true then ((impl_IsValidLog.f k bt425.1 bt425.2.1 bt425.2.2.1).bind fun t431 => (if t431 = true then (if bt425.2.2.2.1 < (x405000.size : Int) then (laws_FnCrashes.j1 k x4 x5 true x405000 x405001 x405002 bt425.1 bt425.2.1 bt425.2.2.1) else (laws_FnCrashes.j1 k x4 x5 ((bt425.1.size : Int) != bt425.2.2.2.1) x405000 x405001 x405002 bt425.1 bt425.2.1 bt425.2.2.1)) else (laws_FnCrashes.j1 k x4 x5 true x405000 x405001 x405002 bt425.1 bt425.2.1 bt425.2.2.1))) else (laws_FnCrashes.j1 k x4 x5 true x405000 x405001 x405002 bt425.1 bt425.2.1 bt425.2.2.1))) else (some true))
def laws_FnCrashes.j1 : Nat → Int → Bool → Bool → ByteArray → ByteArray → Int → ByteArray → ByteArray → Int → Option (Bool)
  | 0, _, _, _, _, _, _, _, _, _ => none
  | k + 1, x4, x5, x112, x405000, x405001, x405002, x431000, x431001, x431002 => if x112 = true then (some false) else ((impl_LogRecords.f k x405000 x405001 x405002).bind fun bt432 => ((impl_LogRecords.f k x431000 x431001 x431002).bind fun bt436 => (if (bt436.1.length : Int) ≤ (bt432.1.length : Int) then (if 0 ≤ (bt436.1.length : Int) then ((laws_vRecords.f k bt436.1 (bt432.1.take ((bt436.1.length : Int) : Int).toNat)).bind fun t444 => (if t444 = true then (if x5 = true then (some true) else (if x4 < (x405001.size : Int) then (some true) else (some ((bt436.1.length : Int) == (bt432.1.length : Int))))) else (some false))) else (none)) else (some false))))
end
def laws_FnCrashes.f (k : Nat) (l0 : List Int) : Option (Bool) := (laws_vBig.f l0).bind fun t398 => (if t398 = true then (some true) else ((spec_DrawCrashLog.f k l0).bind fun bt399 => ((impl_CrashLog.f k bt399.1 bt399.2.1 bt399.2.2.1 bt399.2.2.2.1 bt399.2.2.2.2).bind fun bt405 => ((spec_CrashLog.f k bt399.1 bt399.2.1 bt399.2.2.1 bt399.2.2.2.1 bt399.2.2.2.2).bind fun bt407 => ((laws_vCut.f l0 1).bind fun t409 => ((spec_DrawRecoverLog.f k t409).bind fun t412 => ((impl_RecoverLog.f k t412).bind fun bt413 => ((spec_RecoverLog.f k t412).bind fun bt419 => (if bt405.1.toList = bt407.1.toList then (if (bt405.2 != bt407.2) = true then (laws_FnCrashes.j0 k bt399.2.2.2.1 bt399.2.2.2.2 bt405.1 bt405.2 true bt399.1 bt399.2.1 bt399.2.2.1) else (if (!(bt413.1.toList == bt419.1.toList) || (!(bt413.2.1.toList == bt419.2.1.toList) || (!(bt413.2.2.1 == bt419.2.2.1)))) = true then (laws_FnCrashes.j0 k bt399.2.2.2.1 bt399.2.2.2.2 bt405.1 bt405.2 true bt399.1 bt399.2.1 bt399.2.2.1) else (if bt413.2.2.2.1 = bt419.2.2.2.1 then (laws_FnCrashes.j0 k bt399.2.2.2.1 bt399.2.2.2.2 bt405.1 bt405.2 (bt413.2.2.2.2 != bt419.2.2.2.2) bt399.1 bt399.2.1 bt399.2.2.1) else (laws_FnCrashes.j0 k bt399.2.2.2.1 bt399.2.2.2.2 bt405.1 bt405.2 true bt399.1 bt399.2.1 bt399.2.2.1)))) else (laws_FnCrashes.j0 k bt399.2.2.2.1 bt399.2.2.2.2 bt405.1 bt405.2 true bt399.1 bt399.2.1 bt399.2.2.1))))))))))
theorem laws_FnCrashes.mono_l : ∀ k, (∀ y0 y1 y2 y3 y4 y5 y6 y7, LeO (laws_FnCrashes.j0 k y0 y1 y2 y3 y4 y5 y6 y7) (laws_FnCrashes.j0 (k + 1) y0 y1 y2 y3 y4 y5 y6 y7)) ∧ (∀ y0 y1 y2 y3 y4 y5 y6 y7 y8, LeO (laws_FnCrashes.j1 k y0 y1 y2 y3 y4 y5 y6 y7 y8) (laws_FnCrashes.j1 (k + 1) y0 y1 y2 y3 y4 y5 y6 y7 y8))
  | 0 => ⟨fun _ _ _ _ _ _ _ _ r h => by simp [laws_FnCrashes.j0] at h, fun _ _ _ _ _ _ _ _ _ r h => by simp [laws_FnCrashes.j1] at h⟩
  | k + 1 => by
    obtain ⟨ih0, ih1⟩ := laws_FnCrashes.mono_l k
    refine ⟨?_, ?_⟩
    · intro y0 y1 y2 y3 y4 y5 y6 y7
      unfold laws_FnCrashes.j0
      repeat' first
      | (with_reducible exact ih0 _ _ _ _ _ _ _ _)
      | (with_reducible exact ih1 _ _ _ _ _ _ _ _ _)
      | (with_reducible exact impl_CrashLog.mono _ _ _ _ _ _)
      | (with_reducible exact impl_IsValidLog.mono _ _ _ _)
      | (with_reducible exact impl_LogRecords.mono _ _ _ _)
      | (with_reducible exact impl_RecoverLog.mono _ _)
      | (with_reducible exact laws_vRecords.mono _ _ _)
      | (with_reducible exact spec_CrashLog.mono _ _ _ _ _ _)
      | (with_reducible exact spec_DrawCrashLog.mono _ _)
      | (with_reducible exact spec_DrawRecoverLog.mono _ _)
      | (with_reducible exact spec_RecoverLog.mono _ _)
      | (with_reducible exact LeO.refl _)
      | (with_reducible exact LeO.none _)
      | (with_reducible refine LeO.ite ?_ ?_)
      | (with_reducible refine LeO.bind ?_ (fun _ => ?_))
      | exact ih0 _ _ _ _ _ _ _ _
      | exact ih1 _ _ _ _ _ _ _ _ _
      | exact impl_CrashLog.mono _ _ _ _ _ _
      | exact impl_IsValidLog.mono _ _ _ _
      | exact impl_LogRecords.mono _ _ _ _
      | exact impl_RecoverLog.mono _ _
      | exact laws_vRecords.mono _ _ _
      | exact spec_CrashLog.mono _ _ _ _ _ _
      | exact spec_DrawCrashLog.mono _ _
      | exact spec_DrawRecoverLog.mono _ _
      | exact spec_RecoverLog.mono _ _
      | exact LeO.none _
      | refine LeO.ite ?_ ?_
      | refine LeO.bind ?_ (fun _ => ?_)
    · intro y0 y1 y2 y3 y4 y5 y6 y7 y8
      unfold laws_FnCrashes.j1
      repeat' first
      | (with_reducible exact ih0 _ _ _ _ _ _ _ _)
      | (with_reducible exact ih1 _ _ _ _ _ _ _ _ _)
      | (with_reducible exact impl_CrashLog.mono _ _ _ _ _ _)
      | (with_reducible exact impl_IsValidLog.mono _ _ _ _)
      | (with_reducible exact impl_LogRecords.mono _ _ _ _)
      | (with_reducible exact impl_RecoverLog.mono _ _)
      | (with_reducible exact laws_vRecords.mono _ _ _)
      | (with_reducible exact spec_CrashLog.mono _ _ _ _ _ _)
      | (with_reducible exact spec_DrawCrashLog.mono _ _)
      | (with_reducible exact spec_DrawRecoverLog.mono _ _)
      | (with_reducible exact spec_RecoverLog.mono _ _)
      | (with_reducible exact LeO.refl _)
      | (with_reducible exact LeO.none _)
      | (with_reducible refine LeO.ite ?_ ?_)
      | (with_reducible refine LeO.bind ?_ (fun _ => ?_))
      | exact ih0 _ _ _ _ _ _ _ _
      | exact ih1 _ _ _ _ _ _ _ _ _
      | exact impl_CrashLog.mono _ _ _ _ _ _
      | exact impl_IsValidLog.mono _ _ _ _
      | exact impl_LogRecords.mono _ _ _ _
      | exact impl_RecoverLog.mono _ _
      | exact laws_vRecords.mono _ _ _
      | exact spec_CrashLog.mono _ _ _ _ _ _
      | exact spec_DrawCrashLog.mono _ _
      | exact spec_DrawRecoverLog.mono _ _
      | exact spec_RecoverLog.mono _ _
      | exact LeO.none _
      | refine LeO.ite ?_ ?_
      | refine LeO.bind ?_ (fun _ => ?_)
theorem laws_FnCrashes.mono : ∀ a0 k, LeO (laws_FnCrashes.f k a0) (laws_FnCrashes.f (k + 1) a0) := by
  intro a0 k
  obtain ⟨ih0, ih1⟩ := laws_FnCrashes.mono_l k
  unfold laws_FnCrashes.f
  repeat' first
      | (with_reducible exact ih0 _ _ _ _ _ _ _ _)
      | (with_reducible exact ih1 _ _ _ _ _ _ _ _ _)
      | (with_reducible exact impl_CrashLog.mono _ _ _ _ _ _)
      | (with_reducible exact impl_IsValidLog.mono _ _ _ _)
      | (with_reducible exact impl_LogRecords.mono _ _ _ _)
      | (with_reducible exact impl_RecoverLog.mono _ _)
      | (with_reducible exact laws_vRecords.mono _ _ _)
      | (with_reducible exact spec_CrashLog.mono _ _ _ _ _ _)
      | (with_reducible exact spec_DrawCrashLog.mono _ _)
      | (with_reducible exact spec_DrawRecoverLog.mono _ _)
      | (with_reducible exact spec_RecoverLog.mono _ _)
      | (with_reducible exact LeO.refl _)
      | (with_reducible exact LeO.none _)
      | (with_reducible refine LeO.ite ?_ ?_)
      | (with_reducible refine LeO.bind ?_ (fun _ => ?_))
      | exact ih0 _ _ _ _ _ _ _ _
      | exact ih1 _ _ _ _ _ _ _ _ _
      | exact impl_CrashLog.mono _ _ _ _ _ _
      | exact impl_IsValidLog.mono _ _ _ _
      | exact impl_LogRecords.mono _ _ _ _
      | exact impl_RecoverLog.mono _ _
      | exact laws_vRecords.mono _ _ _
      | exact spec_CrashLog.mono _ _ _ _ _ _
      | exact spec_DrawCrashLog.mono _ _
      | exact spec_DrawRecoverLog.mono _ _
      | exact spec_RecoverLog.mono _ _
      | exact LeO.none _
      | refine LeO.ite ?_ ?_
      | refine LeO.bind ?_ (fun _ => ?_)
set_option maxHeartbeats 8000000 in
set_option maxRecDepth 100000 in
theorem laws_FnCrashes.calls (k : Nat) (A0 : Option Addr) (c0 : Nat) (l0 : List Int) (r : Bool) (w : World) (hr0 : Kd.C (Kd.int .u8) w A0 l0.length l0) (hc0 : l0.length ≤ c0) (hT : XTab w) (h : laws_FnCrashes.f k l0 = some r) :
    Calls Tryd.prog 4 #[.slice A0 l0.length c0] w fun e w' => e = .returned (.bool r) ∧ Below w.heap.size w w' := by
  have hu33 := Tryd.underlying33
  have HR0 := Aside0.mk hr0
  have HC0 := Aside0.mk hc0
  clear hr0 hc0
  have HB := Aside0.mk (Below.refl w.heap.size w)
  have HTAB := Aside0.mk hT
  clear hT
  have H : ((laws_vBig.f l0).bind fun t398 => (if t398 = true then (some true) else ((spec_DrawCrashLog.f k l0).bind fun bt399 => ((impl_CrashLog.f k bt399.1 bt399.2.1 bt399.2.2.1 bt399.2.2.2.1 bt399.2.2.2.2).bind fun bt405 => ((spec_CrashLog.f k bt399.1 bt399.2.1 bt399.2.2.1 bt399.2.2.2.1 bt399.2.2.2.2).bind fun bt407 => ((laws_vCut.f l0 1).bind fun t409 => ((spec_DrawRecoverLog.f k t409).bind fun t412 => ((impl_RecoverLog.f k t412).bind fun bt413 => ((spec_RecoverLog.f k t412).bind fun bt419 => (if bt405.1.toList = bt407.1.toList then (if (bt405.2 != bt407.2) = true then (laws_FnCrashes.j0 k bt399.2.2.2.1 bt399.2.2.2.2 bt405.1 bt405.2 true bt399.1 bt399.2.1 bt399.2.2.1) else (if (!(bt413.1.toList == bt419.1.toList) || (!(bt413.2.1.toList == bt419.2.1.toList) || (!(bt413.2.2.1 == bt419.2.2.1)))) = true then (laws_FnCrashes.j0 k bt399.2.2.2.1 bt399.2.2.2.2 bt405.1 bt405.2 true bt399.1 bt399.2.1 bt399.2.2.1) else (if bt413.2.2.2.1 = bt419.2.2.2.1 then (laws_FnCrashes.j0 k bt399.2.2.2.1 bt399.2.2.2.2 bt405.1 bt405.2 (bt413.2.2.2.2 != bt419.2.2.2.2) bt399.1 bt399.2.1 bt399.2.2.1) else (laws_FnCrashes.j0 k bt399.2.2.2.1 bt399.2.2.2.2 bt405.1 bt405.2 true bt399.1 bt399.2.1 bt399.2.2.1)))) else (laws_FnCrashes.j0 k bt399.2.2.2.1 bt399.2.2.2.2 bt405.1 bt405.2 true bt399.1 bt399.2.1 bt399.2.2.1))))))))))) = some r := h
  clear h
  replace H := Option.bind_eq_some_iff.mp H
  obtain ⟨t398, A20, H⟩ := H
  replace H : (if t398 = true then (some true) else ((spec_DrawCrashLog.f k l0).bind fun bt399 => ((impl_CrashLog.f k bt399.1 bt399.2.1 bt399.2.2.1 bt399.2.2.2.1 bt399.2.2.2.2).bind fun bt405 => ((spec_CrashLog.f k bt399.1 bt399.2.1 bt399.2.2.1 bt399.2.2.2.1 bt399.2.2.2.2).bind fun bt407 => ((laws_vCut.f l0 1).bind fun t409 => ((spec_DrawRecoverLog.f k t409).bind fun t412 => ((impl_RecoverLog.f k t412).bind fun bt413 => ((spec_RecoverLog.f k t412).bind fun bt419 => (if bt405.1.toList = bt407.1.toList then (if (bt405.2 != bt407.2) = true then (laws_FnCrashes.j0 k bt399.2.2.2.1 bt399.2.2.2.2 bt405.1 bt405.2 true bt399.1 bt399.2.1 bt399.2.2.1) else (if (!(bt413.1.toList == bt419.1.toList) || (!(bt413.2.1.toList == bt419.2.1.toList) || (!(bt413.2.2.1 == bt419.2.2.1)))) = true then (laws_FnCrashes.j0 k bt399.2.2.2.1 bt399.2.2.2.2 bt405.1 bt405.2 true bt399.1 bt399.2.1 bt399.2.2.1) else (if bt413.2.2.2.1 = bt419.2.2.2.1 then (laws_FnCrashes.j0 k bt399.2.2.2.1 bt399.2.2.2.2 bt405.1 bt405.2 (bt413.2.2.2.2 != bt419.2.2.2.2) bt399.1 bt399.2.1 bt399.2.2.1) else (laws_FnCrashes.j0 k bt399.2.2.2.1 bt399.2.2.2.2 bt405.1 bt405.2 true bt399.1 bt399.2.1 bt399.2.2.1)))) else (laws_FnCrashes.j0 k bt399.2.2.2.1 bt399.2.2.2.2 bt405.1 bt405.2 true bt399.1 bt399.2.1 bt399.2.2.1)))))))))) = some r := H
  have A2 := Aside0.mk A20
  clear A20
  by_cases c3 : t398 = true
  · subst c3
    have H1 : (some true) = some r := by rw [if_pos rfl] at H; exact H
    clear H
    have H := H1
    clear H1
    obtain rfl := Option.some.inj H
    go_enter Tryd.func4, Tryd.ntmps4
    go_wp2_with (first | ((with_reducible refine gate_callee (f := 5) rfl ?_); refine goesL_ (some 25) rfl rfl Tryd.func5 (by kernel_rfl) rfl #[.slice A0 l0.length c0] rfl (by (try simp only [List.map_toArray, List.map_cons, List.map_nil]); first | done | rfl | (simp only [List.length_drop, List.length_take]; rfl)) ?_; (with_reducible refine (laws_vBig.calls _ _ l0 true _ ?side1 ?side2 A2.out).mono ?_); (case side1 => repeat (first | exact HR0.out | (with_reducible refine Kd.C_alloc ?_ _) | (with_reducible refine Kd.C_drewN ?_ _) | (with_reducible refine Kd.C_drew ?_))); (case side2 => exact HC0.out); rintro e w' ⟨rfl, ⟨nd, rfl⟩⟩; refine ⟨_, rfl, ?_⟩))
    go_ret
    exact ⟨by first | rfl | (simp [errW_none, errW_some] <;> rfl) | (simp [*, errW_none, errW_some] <;> rfl), by repeat (first | (with_reducible first | exact HB.out | apply below_alloc | apply pw_below_drewN | apply below_drew1) | exact HB.out)⟩
  · replace c3 := Bool.eq_false_iff.mpr c3
    subst c3
    have H1 : ((spec_DrawCrashLog.f k l0).bind fun bt399 => ((impl_CrashLog.f k bt399.1 bt399.2.1 bt399.2.2.1 bt399.2.2.2.1 bt399.2.2.2.2).bind fun bt405 => ((spec_CrashLog.f k bt399.1 bt399.2.1 bt399.2.2.1 bt399.2.2.2.1 bt399.2.2.2.2).bind fun bt407 => ((laws_vCut.f l0 1).bind fun t409 => ((spec_DrawRecoverLog.f k t409).bind fun t412 => ((impl_RecoverLog.f k t412).bind fun bt413 => ((spec_RecoverLog.f k t412).bind fun bt419 => (if bt405.1.toList = bt407.1.toList then (if (bt405.2 != bt407.2) = true then (laws_FnCrashes.j0 k bt399.2.2.2.1 bt399.2.2.2.2 bt405.1 bt405.2 true bt399.1 bt399.2.1 bt399.2.2.1) else (if (!(bt413.1.toList == bt419.1.toList) || (!(bt413.2.1.toList == bt419.2.1.toList) || (!(bt413.2.2.1 == bt419.2.2.1)))) = true then (laws_FnCrashes.j0 k bt399.2.2.2.1 bt399.2.2.2.2 bt405.1 bt405.2 true bt399.1 bt399.2.1 bt399.2.2.1) else (if bt413.2.2.2.1 = bt419.2.2.2.1 then (laws_FnCrashes.j0 k bt399.2.2.2.1 bt399.2.2.2.2 bt405.1 bt405.2 (bt413.2.2.2.2 != bt419.2.2.2.2) bt399.1 bt399.2.1 bt399.2.2.1) else (laws_FnCrashes.j0 k bt399.2.2.2.1 bt399.2.2.2.2 bt405.1 bt405.2 true bt399.1 bt399.2.1 bt399.2.2.1)))) else (laws_FnCrashes.j0 k bt399.2.2.2.1 bt399.2.2.2.2 bt405.1 bt405.2 true bt399.1 bt399.2.1 bt399.2.2.1))))))))) = some r := by rw [if_neg (show ¬ (false = true) by decide)] at H; exact H
    clear H
    have H := H1
    clear H1
    replace H := Option.bind_eq_some_iff.mp H
    obtain ⟨⟨t399, t400, t401, t402, t403⟩, A40, H⟩ := H
    replace H : ((impl_CrashLog.f k t399 t400 t401 t402 t403).bind fun bt405 => ((spec_CrashLog.f k t399 t400 t401 t402 t403).bind fun bt407 => ((laws_vCut.f l0 1).bind fun t409 => ((spec_DrawRecoverLog.f k t409).bind fun t412 => ((impl_RecoverLog.f k t412).bind fun bt413 => ((spec_RecoverLog.f k t412).bind fun bt419 => (if bt405.1.toList = bt407.1.toList then (if (bt405.2 != bt407.2) = true then (laws_FnCrashes.j0 k t402 t403 bt405.1 bt405.2 true t399 t400 t401) else (if (!(bt413.1.toList == bt419.1.toList) || (!(bt413.2.1.toList == bt419.2.1.toList) || (!(bt413.2.2.1 == bt419.2.2.1)))) = true then (laws_FnCrashes.j0 k t402 t403 bt405.1 bt405.2 true t399 t400 t401) else (if bt413.2.2.2.1 = bt419.2.2.2.1 then (laws_FnCrashes.j0 k t402 t403 bt405.1 bt405.2 (bt413.2.2.2.2 != bt419.2.2.2.2) t399 t400 t401) else (laws_FnCrashes.j0 k t402 t403 bt405.1 bt405.2 true t399 t400 t401)))) else (laws_FnCrashes.j0 k t402 t403 bt405.1 bt405.2 true t399 t400 t401)))))))) = some r := H
    have A4 := Aside0.mk A40
    clear A40
    replace H := Option.bind_eq_some_iff.mp H
    obtain ⟨⟨t405, t406⟩, A50, H⟩ := H
    replace H : ((spec_CrashLog.f k t399 t400 t401 t402 t403).bind fun bt407 => ((laws_vCut.f l0 1).bind fun t409 => ((spec_DrawRecoverLog.f k t409).bind fun t412 => ((impl_RecoverLog.f k t412).bind fun bt413 => ((spec_RecoverLog.f k t412).bind fun bt419 => (if t405.toList = bt407.1.toList then (if (t406 != bt407.2) = true then (laws_FnCrashes.j0 k t402 t403 t405 t406 true t399 t400 t401) else (if (!(bt413.1.toList == bt419.1.toList) || (!(bt413.2.1.toList == bt419.2.1.toList) || (!(bt413.2.2.1 == bt419.2.2.1)))) = true then (laws_FnCrashes.j0 k t402 t403 t405 t406 true t399 t400 t401) else (if bt413.2.2.2.1 = bt419.2.2.2.1 then (laws_FnCrashes.j0 k t402 t403 t405 t406 (bt413.2.2.2.2 != bt419.2.2.2.2) t399 t400 t401) else (laws_FnCrashes.j0 k t402 t403 t405 t406 true t399 t400 t401)))) else (laws_FnCrashes.j0 k t402 t403 t405 t406 true t399 t400 t401))))))) = some r := H
    have A5 := Aside0.mk A50
    clear A50
    replace H := Option.bind_eq_some_iff.mp H
    obtain ⟨⟨t407, t408⟩, A60, H⟩ := H
    replace H : ((laws_vCut.f l0 1).bind fun t409 => ((spec_DrawRecoverLog.f k t409).bind fun t412 => ((impl_RecoverLog.f k t412).bind fun bt413 => ((spec_RecoverLog.f k t412).bind fun bt419 => (if t405.toList = t407.toList then (if (t406 != t408) = true then (laws_FnCrashes.j0 k t402 t403 t405 t406 true t399 t400 t401) else (if (!(bt413.1.toList == bt419.1.toList) || (!(bt413.2.1.toList == bt419.2.1.toList) || (!(bt413.2.2.1 == bt419.2.2.1)))) = true then (laws_FnCrashes.j0 k t402 t403 t405 t406 true t399 t400 t401) else (if bt413.2.2.2.1 = bt419.2.2.2.1 then (laws_FnCrashes.j0 k t402 t403 t405 t406 (bt413.2.2.2.2 != bt419.2.2.2.2) t399 t400 t401) else (laws_FnCrashes.j0 k t402 t403 t405 t406 true t399 t400 t401)))) else (laws_FnCrashes.j0 k t402 t403 t405 t406 true t399 t400 t401)))))) = some r := H
    have A6 := Aside0.mk A60
    clear A60
    replace H := Option.bind_eq_some_iff.mp H
    obtain ⟨t409, A70, H⟩ := H
    replace H : ((spec_DrawRecoverLog.f k t409).bind fun t412 => ((impl_RecoverLog.f k t412).bind fun bt413 => ((spec_RecoverLog.f k t412).bind fun bt419 => (if t405.toList = t407.toList then (if (t406 != t408) = true then (laws_FnCrashes.j0 k t402 t403 t405 t406 true t399 t400 t401) else (if (!(bt413.1.toList == bt419.1.toList) || (!(bt413.2.1.toList == bt419.2.1.toList) || (!(bt413.2.2.1 == bt419.2.2.1)))) = true then (laws_FnCrashes.j0 k t402 t403 t405 t406 true t399 t400 t401) else (if bt413.2.2.2.1 = bt419.2.2.2.1 then (laws_FnCrashes.j0 k t402 t403 t405 t406 (bt413.2.2.2.2 != bt419.2.2.2.2) t399 t400 t401) else (laws_FnCrashes.j0 k t402 t403 t405 t406 true t399 t400 t401)))) else (laws_FnCrashes.j0 k t402 t403 t405 t406 true t399 t400 t401))))) = some r := H
    have A7 := Aside0.mk A70
    clear A70
    replace H := Option.bind_eq_some_iff.mp H
    obtain ⟨t412, A80, H⟩ := H
    replace H : ((impl_RecoverLog.f k t412).bind fun bt413 => ((spec_RecoverLog.f k t412).bind fun bt419 => (if t405.toList = t407.toList then (if (t406 != t408) = true then (laws_FnCrashes.j0 k t402 t403 t405 t406 true t399 t400 t401) else (if (!(bt413.1.toList == bt419.1.toList) || (!(bt413.2.1.toList == bt419.2.1.toList) || (!(bt413.2.2.1 == bt419.2.2.1)))) = true then (laws_FnCrashes.j0 k t402 t403 t405 t406 true t399 t400 t401) else (if bt413.2.2.2.1 = bt419.2.2.2.1 then (laws_FnCrashes.j0 k t402 t403 t405 t406 (bt413.2.2.2.2 != bt419.2.2.2.2) t399 t400 t401) else (laws_FnCrashes.j0 k t402 t403 t405 t406 true t399 t400 t401)))) else (laws_FnCrashes.j0 k t402 t403 t405 t406 true t399 t400 t401)))) = some r := H
    have A8 := Aside0.mk A80
    clear A80
    replace H := Option.bind_eq_some_iff.mp H
    obtain ⟨⟨t413, t414, t415, t416, t417⟩, A90, H⟩ := H
    replace H : ((spec_RecoverLog.f k t412).bind fun bt419 => (if t405.toList = t407.toList then (if (t406 != t408) = true then (laws_FnCrashes.j0 k t402 t403 t405 t406 true t399 t400 t401) else (if (!(t413.toList == bt419.1.toList) || (!(t414.toList == bt419.2.1.toList) || (!(t415 == bt419.2.2.1)))) = true then (laws_FnCrashes.j0 k t402 t403 t405 t406 true t399 t400 t401) else (if t416 = bt419.2.2.2.1 then (laws_FnCrashes.j0 k t402 t403 t405 t406 (t417 != bt419.2.2.2.2) t399 t400 t401) else (laws_FnCrashes.j0 k t402 t403 t405 t406 true t399 t400 t401)))) else (laws_FnCrashes.j0 k t402 t403 t405 t406 true t399 t400 t401))) = some r := H
    have A9 := Aside0.mk A90
    clear A90
    replace H := Option.bind_eq_some_iff.mp H
    obtain ⟨⟨t419, t420, t421, t422, t423⟩, A100, H⟩ := H
    replace H : (if t405.toList = t407.toList then (if (t406 != t408) = true then (laws_FnCrashes.j0 k t402 t403 t405 t406 true t399 t400 t401) else (if (!(t413.toList == t419.toList) || (!(t414.toList == t420.toList) || (!(t415 == t421)))) = true then (laws_FnCrashes.j0 k t402 t403 t405 t406 true t399 t400 t401) else (if t416 = t422 then (laws_FnCrashes.j0 k t402 t403 t405 t406 (t417 != t423) t399 t400 t401) else (laws_FnCrashes.j0 k t402 t403 t405 t406 true t399 t400 t401)))) else (laws_FnCrashes.j0 k t402 t403 t405 t406 true t399 t400 t401)) = some r := H
    have A10 := Aside0.mk A100
    clear A100
    have HC11 := Aside0.mk H
    clear H
    go_enter Tryd.func4, Tryd.ntmps4
    go_upto_region 9 with (first | ((with_reducible refine gate_callee (f := 5) rfl ?_); refine goesL_ (some 25) rfl rfl Tryd.func5 (by kernel_rfl) rfl #[.slice A0 l0.length c0] rfl (by (try simp only [List.map_toArray, List.map_cons, List.map_nil]); first | done | rfl | (simp only [List.length_drop, List.length_take]; rfl)) ?_; (with_reducible refine (laws_vBig.calls _ _ l0 false _ ?side1 ?side2 A2.out).mono ?_); (case side1 => repeat (first | exact HR0.out | (with_reducible refine Kd.C_alloc ?_ _) | (with_reducible refine Kd.C_drewN ?_ _) | (with_reducible refine Kd.C_drew ?_))); (case side2 => exact HC0.out); rintro e w' ⟨rfl, ⟨nd, rfl⟩⟩; refine ⟨_, rfl, ?_⟩) | ((with_reducible refine gate_callee (f := 24) rfl ?_); refine goesL_ (some 28) rfl rfl Tryd.func24 (by kernel_rfl) rfl #[.slice A0 l0.length c0] rfl (by (try simp only [List.map_toArray, List.map_cons, List.map_nil]); first | done | rfl | (simp only [List.length_drop, List.length_take]; rfl)) ?_; (with_reducible refine (spec_DrawCrashLog.calls k _ _ l0 t399 t400 t401 t402 t403 _ ?side1 ?side2 A4.out).mono ?_); (case side1 => repeat (first | exact HR0.out | (with_reducible refine Kd.C_alloc ?_ _) | (with_reducible refine Kd.C_drewN ?_ _) | (with_reducible refine Kd.C_drew ?_))); (case side2 => exact HC0.out); rintro e w12 ⟨rfl, hb⟩; refine ⟨_, rfl, ?_⟩; have n0_ := Aside0.mk (below_step (by repeat (first | (with_reducible first | exact HB.out | apply below_alloc | apply pw_below_drewN | apply below_drew1) | exact HB.out)) hb); clear HB; have HB := n0_; clear n0_; (try clear hb); (try clear hb2); (try clear hk); (try clear hi)) | ((with_reducible refine gate_dst (N := 3) rfl ?_); (try (refine gate_guard (by rfl) ?_; dsimp only)); refine box_event ?hg (N := 3) ?hd (cs := #[.string (⟨#[]⟩ : ByteArray), .string (⟨#[]⟩ : ByteArray), .int .i64 0]) (t := 33) ?hr ?_; (case hd => rfl); (case hg => rfl); (case hr => first | (go_simp; done) | (go_simp; rfl)); intro gb404 hg w13 hbox hb; have n0_ := Aside0.mk (below_step (by repeat (first | (with_reducible first | exact HB.out | apply below_alloc | apply pw_below_drewN | apply below_drew1) | exact HB.out)) hb); have n1_ := Aside0.mk (hbox); have n2_ := Aside0.mk ((by rw [hg]; exact (below_size (by repeat (first | (with_reducible first | exact HB.out | apply below_alloc | apply pw_below_drewN | apply below_drew1) | exact HB.out))) : w.heap.size ≤ gb404)); have n3_ := Aside0.mk ((by rw [hg]; exact (below_size (by repeat (first | (with_reducible first | exact HB.out | apply below_alloc | apply pw_below_drewN | apply below_drew1) | exact HB.out))) : w.heap.size ≤ gb404)); clear HB; have HB := n0_; have BK404 := n1_; have GW404 := n2_; have GE404 := n3_; clear n0_ n1_ n2_ n3_; clear hb hbox hg; have hcz14_0 : w13.cell? ⟨gb404, 0, none⟩ = some (.string (⟨#[]⟩ : ByteArray)) := (blk_cell BK404.out 0).trans rfl; have hcz14_1 : w13.cell? ⟨gb404, 1, none⟩ = some (.string (⟨#[]⟩ : ByteArray)) := (blk_cell BK404.out 1).trans rfl; have hcz14_2 : w13.cell? ⟨gb404, 2, none⟩ = some (.int .i64 0) := (blk_cell BK404.out 2).trans rfl; have hfz14_0 := blk_frozen BK404.out 0; have hfz14_1 := blk_frozen BK404.out 1; have hfz14_2 := blk_frozen BK404.out 2) | ((with_reducible refine gate_callee (f := 25) rfl ?_); refine goesL_ (some 36) rfl rfl Tryd.func25 (by kernel_rfl) rfl #[.agg #[.string t399, .string t400, .int .i64 t401], .int .i64 t402, .bool t403] rfl (by (try simp only [List.map_toArray, List.map_cons, List.map_nil]); first | done | rfl | (simp only [List.length_drop, List.length_take]; rfl)) ?_; (with_reducible refine (impl_CrashLog.calls k t399 t400 t401 t402 t403 t405 t406 _ ?side1 A5.out).mono ?_); (case side1 => exact XTab.below HTAB.out (by repeat (first | (with_reducible first | exact HB.out | apply below_alloc | apply pw_below_drewN | apply below_drew1 | refine below_set ?_ GE404.out) | exact HB.out))); rintro e w15 ⟨rfl, hb⟩; refine ⟨_, rfl, ?_⟩; have n0_ := Aside0.mk (blk_below (g := gb404) (o := .cells #[.string t399, .string t400, .int .i64 t401] 33 (0, 0)) (by (with_reducible repeat (first | refine blk_drewN ?_ _ | refine blk_drew ?_ | refine blk_alloc ?_ _)); refine blk_put (cs := #[.string t399, .string t400, .int .i64 0]) ?_ 2 _ rfl; (with_reducible repeat (first | refine blk_drewN ?_ _ | refine blk_drew ?_ | refine blk_alloc ?_ _)); refine blk_put (cs := #[.string t399, .string (⟨#[]⟩ : ByteArray), .int .i64 0]) ?_ 1 _ rfl; (with_reducible repeat (first | refine blk_drewN ?_ _ | refine blk_drew ?_ | refine blk_alloc ?_ _)); refine blk_put (cs := #[.string (⟨#[]⟩ : ByteArray), .string (⟨#[]⟩ : ByteArray), .int .i64 0]) ?_ 0 _ rfl; (with_reducible repeat (first | refine blk_drewN ?_ _ | refine blk_drew ?_ | refine blk_alloc ?_ _)); exact BK404.out) hb); have n1_ := Aside0.mk (below_step (by repeat (first | (with_reducible first | exact HB.out | apply below_alloc | apply pw_below_drewN | apply below_drew1 | refine below_set ?_ GE404.out) | exact HB.out)) hb); clear BK404; clear HB; have BK404 := n0_; have HB := n1_; clear n0_ n1_; (try clear hb); (try clear hb2); (try clear hk); (try clear hi); have hcz16_0 : w15.cell? ⟨gb404, 0, none⟩ = some (.string t399) := (blk_cell BK404.out 0).trans rfl; have hcz16_1 : w15.cell? ⟨gb404, 1, none⟩ = some (.string t400) := (blk_cell BK404.out 1).trans rfl; have hcz16_2 : w15.cell? ⟨gb404, 2, none⟩ = some (.int .i64 t401) := (blk_cell BK404.out 2).trans rfl; have hfz16_0 := blk_frozen BK404.out 0; have hfz16_1 := blk_frozen BK404.out 1; have hfz16_2 := blk_frozen BK404.out 2) | ((with_reducible refine gate_callee (f := 26) rfl ?_); refine goesL_ (some 43) rfl rfl Tryd.func26 (by kernel_rfl) rfl #[.agg #[.string t399, .string t400, .int .i64 t401], .int .i64 t402, .bool t403] rfl (by (try simp only [List.map_toArray, List.map_cons, List.map_nil]); first | done | rfl | (simp only [List.length_drop, List.length_take]; rfl)) ?_; (with_reducible refine (spec_CrashLog.calls k t399 t400 t401 t402 t403 t407 t408 _ A6.out).mono ?_); rintro e w17 ⟨rfl, hb⟩; refine ⟨_, rfl, ?_⟩; have n0_ := Aside0.mk (blk_below (g := gb404) (o := .cells #[.string t399, .string t400, .int .i64 t401] 33 (0, 0)) (by (with_reducible repeat (first | refine blk_drewN ?_ _ | refine blk_drew ?_ | refine blk_alloc ?_ _)); exact BK404.out) hb); have n1_ := Aside0.mk (below_step (by repeat (first | (with_reducible first | exact HB.out | apply below_alloc | apply pw_below_drewN | apply below_drew1 | refine below_set ?_ GE404.out) | exact HB.out)) hb); clear BK404; clear HB; have BK404 := n0_; have HB := n1_; clear n0_ n1_; (try clear hb); (try clear hb2); (try clear hk); (try clear hi)) | ((with_reducible refine gate_callee (f := 8) rfl ?_); refine goesL_ (some 47) rfl rfl Tryd.func8 (by kernel_rfl) rfl #[.slice A0 l0.length c0, .int .i64 1] rfl (by (try simp only [List.map_toArray, List.map_cons, List.map_nil]); first | done | rfl | (simp only [List.length_drop, List.length_take]; rfl)) ?_; (with_reducible refine (laws_vCut.calls _ _ l0 1 t409 _ ?side1 ?side2 A7.out).mono ?_); (case side1 => repeat (first | exact (Kd.C_below HR0.out HB.out) | (with_reducible refine Kd.C_alloc ?_ _) | (with_reducible refine Kd.C_drewN ?_ _) | (with_reducible refine Kd.C_drew ?_))); (case side2 => exact HC0.out); rintro e w18 ⟨v410, rfl, ho0, hb⟩; refine ⟨_, rfl, ?_⟩; have n0_ := Aside0.mk (Kd.R_lower ho0 (below_size (by repeat (first | (with_reducible first | exact HB.out | apply below_alloc | apply pw_below_drewN | apply below_drew1 | refine below_set ?_ GE404.out) | exact HB.out)))); have n1_ := Aside0.mk (blk_below (g := gb404) (o := .cells #[.string t399, .string t400, .int .i64 t401] 33 (0, 0)) (by (with_reducible repeat (first | refine blk_drewN ?_ _ | refine blk_drew ?_ | refine blk_alloc ?_ _)); exact BK404.out) hb); have n2_ := Aside0.mk (below_step (by repeat (first | (with_reducible first | exact HB.out | apply below_alloc | apply pw_below_drewN | apply below_drew1 | refine below_set ?_ GE404.out) | exact HB.out)) hb); clear BK404; clear HB; have HO411 := n0_; have BK404 := n1_; have HB := n2_; clear n0_ n1_ n2_; (try clear hb); (try clear hb2); (try clear hk); (try clear hi); (try clear ho0); obtain ⟨Ao19, co19, eo19⟩ := Kd.R_slice HO411.out; subst eo19) | ((with_reducible refine gate_callee (f := 27) rfl ?_); refine goesL_ (some 48) rfl rfl Tryd.func27 (by kernel_rfl) rfl #[.slice Ao19 t409.length co19] rfl (by (try simp only [List.map_toArray, List.map_cons, List.map_nil]); first | done | rfl | (simp only [List.length_drop, List.length_take]; rfl)) ?_; (with_reducible refine (spec_DrawRecoverLog.calls k _ _ t409 t412 _ ?side1 ?side2 A8.out).mono ?_); (case side1 => repeat (first | exact (Kd.R_reads' HO411.out).2.2 | (with_reducible refine Kd.C_alloc ?_ _) | (with_reducible refine Kd.C_drewN ?_ _) | (with_reducible refine Kd.C_drew ?_))); (case side2 => exact (Kd.R_reads' HO411.out).2.1); rintro e w20 ⟨rfl, hb⟩; refine ⟨_, rfl, ?_⟩; have n0_ := Aside0.mk (Kd.R_below (by (with_reducible repeat (first | apply Kd.R_alloc | apply Kd.R_drewN | apply Kd.R_drew)); exact HO411.out) hb); have n1_ := Aside0.mk (blk_below (g := gb404) (o := .cells #[.string t399, .string t400, .int .i64 t401] 33 (0, 0)) (by (with_reducible repeat (first | refine blk_drewN ?_ _ | refine blk_drew ?_ | refine blk_alloc ?_ _)); exact BK404.out) hb); have n2_ := Aside0.mk (below_step (by repeat (first | (with_reducible first | exact HB.out | apply below_alloc | apply pw_below_drewN | apply below_drew1 | refine below_set ?_ GE404.out) | exact HB.out)) hb); clear HO411; clear BK404; clear HB; have HO411 := n0_; have BK404 := n1_; have HB := n2_; clear n0_ n1_ n2_; (try clear hb); (try clear hb2); (try clear hk); (try clear hi)) | ((with_reducible refine gate_callee (f := 28) rfl ?_); refine goesL_ (some 51) rfl rfl Tryd.func28 (by kernel_rfl) rfl #[.string t412] rfl (by (try simp only [List.map_toArray, List.map_cons, List.map_nil]); first | done | rfl | (simp only [List.length_drop, List.length_take]; rfl)) ?_; (with_reducible refine (impl_RecoverLog.calls k t412 t413 t414 t415 t416 t417 _ ?side1 A9.out).mono ?_); (case side1 => exact XTab.below HTAB.out (by repeat (first | (with_reducible first | exact HB.out | apply below_alloc | apply pw_below_drewN | apply below_drew1 | refine below_set ?_ GE404.out) | exact HB.out))); rintro e w21 ⟨rfl, hb⟩; refine ⟨_, rfl, ?_⟩; have n0_ := Aside0.mk (Kd.R_below (by (with_reducible repeat (first | apply Kd.R_alloc | apply Kd.R_drewN | apply Kd.R_drew)); exact HO411.out) hb); have n1_ := Aside0.mk (blk_below (g := gb404) (o := .cells #[.string t399, .string t400, .int .i64 t401] 33 (0, 0)) (by (with_reducible repeat (first | refine blk_drewN ?_ _ | refine blk_drew ?_ | refine blk_alloc ?_ _)); exact BK404.out) hb); have n2_ := Aside0.mk (below_step (by repeat (first | (with_reducible first | exact HB.out | apply below_alloc | apply pw_below_drewN | apply below_drew1 | refine below_set ?_ GE404.out) | exact HB.out)) hb); clear HO411; clear BK404; clear HB; have HO411 := n0_; have BK404 := n1_; have HB := n2_; clear n0_ n1_ n2_; (try clear hb); (try clear hb2); (try clear hk); (try clear hi)) | ((with_reducible refine gate_dst (N := 11) rfl ?_); (try (refine gate_guard (by rfl) ?_; dsimp only)); refine box_event ?hg (N := 11) ?hd (cs := #[.string (⟨#[]⟩ : ByteArray), .string (⟨#[]⟩ : ByteArray), .int .i64 0]) (t := 33) ?hr ?_; (case hd => rfl); (case hg => rfl); (case hr => first | (go_simp; done) | (go_simp; rfl)); intro gb418 hg w22 hbox hb; have n0_ := Aside0.mk (Kd.R_below (by (with_reducible repeat (first | apply Kd.R_alloc | apply Kd.R_drewN | apply Kd.R_drew)); exact HO411.out) hb); have n1_ := Aside0.mk (blk_below (g := gb404) (o := .cells #[.string t399, .string t400, .int .i64 t401] 33 (0, 0)) (by (with_reducible repeat (first | refine blk_drewN ?_ _ | refine blk_drew ?_ | refine blk_alloc ?_ _)); exact BK404.out) hb); have n2_ := Aside0.mk (below_step (by repeat (first | (with_reducible first | exact HB.out | apply below_alloc | apply pw_below_drewN | apply below_drew1 | refine below_set ?_ GE404.out) | exact HB.out)) hb); have n3_ := Aside0.mk (hbox); have n4_ := Aside0.mk ((by rw [hg]; exact (below_size (by repeat (first | (with_reducible first | exact HB.out | apply below_alloc | apply pw_below_drewN | apply below_drew1 | refine below_set ?_ GE404.out) | exact HB.out))) : w.heap.size ≤ gb418)); have n5_ := Aside0.mk ((by rw [hg]; exact (below_size (by repeat (first | (with_reducible first | exact HB.out | apply below_alloc | apply pw_below_drewN | apply below_drew1 | refine below_set ?_ GE404.out) | exact HB.out))) : w.heap.size ≤ gb418)); have n6_ := Aside0.mk ((by rw [hg]; exact Nat.ne_of_lt (blk_lt (g := gb404) (o := .cells #[.string t399, .string t400, .int .i64 t401] 33 (0, 0)) (by (with_reducible repeat (first | refine blk_drewN ?_ _ | refine blk_drew ?_ | refine blk_alloc ?_ _)); exact BK404.out)) : gb404 ≠ gb418)); have n7_ := Aside0.mk ((by rw [hg]; exact Nat.ne_of_gt (blk_lt (g := gb404) (o := .cells #[.string t399, .string t400, .int .i64 t401] 33 (0, 0)) (by (with_reducible repeat (first | refine blk_drewN ?_ _ | refine blk_drew ?_ | refine blk_alloc ?_ _)); exact BK404.out)) : gb418 ≠ gb404)); clear HO411; clear BK404; clear HB; have HO411 := n0_; have BK404 := n1_; have HB := n2_; have BK418 := n3_; have GW418 := n4_; have GE418 := n5_; have NB404_418 := n6_; have NB418_404 := n7_; clear n0_ n1_ n2_ n3_ n4_ n5_ n6_ n7_; clear hb hbox hg; have hnb23 := NB418_404.out; have hnc23 := NB404_418.out; have hcz24_0 : w22.cell? ⟨gb418, 0, none⟩ = some (.string (⟨#[]⟩ : ByteArray)) := (blk_cell BK418.out 0).trans rfl; have hcz24_1 : w22.cell? ⟨gb418, 1, none⟩ = some (.string (⟨#[]⟩ : ByteArray)) := (blk_cell BK418.out 1).trans rfl; have hcz24_2 : w22.cell? ⟨gb418, 2, none⟩ = some (.int .i64 0) := (blk_cell BK418.out 2).trans rfl; have hfz24_0 := blk_frozen BK418.out 0; have hfz24_1 := blk_frozen BK418.out 1; have hfz24_2 := blk_frozen BK418.out 2) | ((with_reducible refine gate_callee (f := 29) rfl ?_); refine goesL_ (some 57) rfl rfl Tryd.func29 (by kernel_rfl) rfl #[.string t412] rfl (by (try simp only [List.map_toArray, List.map_cons, List.map_nil]); first | done | rfl | (simp only [List.length_drop, List.length_take]; rfl)) ?_; (with_reducible refine (spec_RecoverLog.calls k t412 t419 t420 t421 t422 t423 _ A10.out).mono ?_); rintro e w25 ⟨rfl, hb⟩; refine ⟨_, rfl, ?_⟩; have n0_ := Aside0.mk (Kd.R_below (by (with_reducible repeat (first | apply Kd.R_alloc | apply Kd.R_drewN | apply Kd.R_drew)); exact (Kd.R_mono (Kd.R_far (p := ⟨gb418, 2, none⟩) (Kd.R_far (p := ⟨gb418, 1, none⟩) (Kd.R_far (p := ⟨gb418, 0, none⟩) (Kd.R_types HO411.out BK418.out (by decide)) (fun _ hk => hk.2) (.string t413)) (fun _ hk => hk.2) (.string t414)) (fun _ hk => hk.2) (.int .i64 t415)) (fun _ h_ => h_.1))) hb); have n1_ := Aside0.mk (blk_below (g := gb404) (o := .cells #[.string t399, .string t400, .int .i64 t401] 33 (0, 0)) (by (with_reducible repeat (first | refine blk_drewN ?_ _ | refine blk_drew ?_ | refine blk_alloc ?_ _)); refine blk_far ?_ NB404_418.out _; (with_reducible repeat (first | refine blk_drewN ?_ _ | refine blk_drew ?_ | refine blk_alloc ?_ _)); refine blk_far ?_ NB404_418.out _; (with_reducible repeat (first | refine blk_drewN ?_ _ | refine blk_drew ?_ | refine blk_alloc ?_ _)); refine blk_far ?_ NB404_418.out _; (with_reducible repeat (first | refine blk_drewN ?_ _ | refine blk_drew ?_ | refine blk_alloc ?_ _)); exact BK404.out) hb); have n2_ := Aside0.mk (blk_below (g := gb418) (o := .cells #[.string t413, .string t414, .int .i64 t415] 33 (0, 0)) (by (with_reducible repeat (first | refine blk_drewN ?_ _ | refine blk_drew ?_ | refine blk_alloc ?_ _)); refine blk_put (cs := #[.string t413, .string t414, .int .i64 0]) ?_ 2 _ rfl; (with_reducible repeat (first | refine blk_drewN ?_ _ | refine blk_drew ?_ | refine blk_alloc ?_ _)); refine blk_put (cs := #[.string t413, .string (⟨#[]⟩ : ByteArray), .int .i64 0]) ?_ 1 _ rfl; (with_reducible repeat (first | refine blk_drewN ?_ _ | refine blk_drew ?_ | refine blk_alloc ?_ _)); refine blk_put (cs := #[.string (⟨#[]⟩ : ByteArray), .string (⟨#[]⟩ : ByteArray), .int .i64 0]) ?_ 0 _ rfl; (with_reducible repeat (first | refine blk_drewN ?_ _ | refine blk_drew ?_ | refine blk_alloc ?_ _)); exact BK418.out) hb); have n3_ := Aside0.mk (below_step (by repeat (first | (with_reducible first | exact HB.out | apply below_alloc | apply pw_below_drewN | apply below_drew1 | refine below_set ?_ GE404.out | refine below_set ?_ GE418.out) | exact HB.out)) hb); clear HO411; clear BK404; clear BK418; clear HB; have HO411 := n0_; have BK404 := n1_; have BK418 := n2_; have HB := n3_; clear n0_ n1_ n2_ n3_; (try clear hb); (try clear hb2); (try clear hk); (try clear hi)) | ((with_reducible refine gate_dst (N := 14) rfl ?_); (try (refine gate_guard (by rfl) ?_; dsimp only)); refine box_event ?hg (N := 14) ?hd (cs := #[.string (⟨#[]⟩ : ByteArray), .string (⟨#[]⟩ : ByteArray), .int .i64 0]) (t := 33) ?hr ?_; (case hd => rfl); (case hg => rfl); (case hr => first | (go_simp; done) | (go_simp; rfl)); intro gb424 hg w26 hbox hb; have n0_ := Aside0.mk (Kd.R_below (by (with_reducible repeat (first | apply Kd.R_alloc | apply Kd.R_drewN | apply Kd.R_drew)); exact HO411.out) hb); have n1_ := Aside0.mk (blk_below (g := gb404) (o := .cells #[.string t399, .string t400, .int .i64 t401] 33 (0, 0)) (by (with_reducible repeat (first | refine blk_drewN ?_ _ | refine blk_drew ?_ | refine blk_alloc ?_ _)); exact BK404.out) hb); have n2_ := Aside0.mk (blk_below (g := gb418) (o := .cells #[.string t413, .string t414, .int .i64 t415] 33 (0, 0)) (by (with_reducible repeat (first | refine blk_drewN ?_ _ | refine blk_drew ?_ | refine blk_alloc ?_ _)); exact BK418.out) hb); have n3_ := Aside0.mk (below_step (by repeat (first | (with_reducible first | exact HB.out | apply below_alloc | apply pw_below_drewN | apply below_drew1 | refine below_set ?_ GE404.out | refine below_set ?_ GE418.out) | exact HB.out)) hb); have n4_ := Aside0.mk (hbox); have n5_ := Aside0.mk ((by rw [hg]; exact (below_size (by repeat (first | (with_reducible first | exact HB.out | apply below_alloc | apply pw_below_drewN | apply below_drew1 | refine below_set ?_ GE404.out | refine below_set ?_ GE418.out) | exact HB.out))) : w.heap.size ≤ gb424)); have n6_ := Aside0.mk ((by rw [hg]; exact (below_size (by repeat (first | (with_reducible first | exact HB.out | apply below_alloc | apply pw_below_drewN | apply below_drew1 | refine below_set ?_ GE404.out | refine below_set ?_ GE418.out) | exact HB.out))) : w.heap.size ≤ gb424)); have n7_ := Aside0.mk ((by rw [hg]; exact Nat.ne_of_lt (blk_lt (g := gb404) (o := .cells #[.string t399, .string t400, .int .i64 t401] 33 (0, 0)) (by (with_reducible repeat (first | refine blk_drewN ?_ _ | refine blk_drew ?_ | refine blk_alloc ?_ _)); exact BK404.out)) : gb404 ≠ gb424)); have n8_ := Aside0.mk ((by rw [hg]; exact Nat.ne_of_gt (blk_lt (g := gb404) (o := .cells #[.string t399, .string t400, .int .i64 t401] 33 (0, 0)) (by (with_reducible repeat (first | refine blk_drewN ?_ _ | refine blk_drew ?_ | refine blk_alloc ?_ _)); exact BK404.out)) : gb424 ≠ gb404)); have n9_ := Aside0.mk ((by rw [hg]; exact Nat.ne_of_lt (blk_lt (g := gb418) (o := .cells #[.string t413, .string t414, .int .i64 t415] 33 (0, 0)) (by (with_reducible repeat (first | refine blk_drewN ?_ _ | refine blk_drew ?_ | refine blk_alloc ?_ _)); exact BK418.out)) : gb418 ≠ gb424)); have n10_ := Aside0.mk ((by rw [hg]; exact Nat.ne_of_gt (blk_lt (g := gb418) (o := .cells #[.string t413, .string t414, .int .i64 t415] 33 (0, 0)) (by (with_reducible repeat (first | refine blk_drewN ?_ _ | refine blk_drew ?_ | refine blk_alloc ?_ _)); exact BK418.out)) : gb424 ≠ gb418)); clear HO411; clear BK404; clear BK418; clear HB; have HO411 := n0_; have BK404 := n1_; have BK418 := n2_; have HB := n3_; have BK424 := n4_; have GW424 := n5_; have GE424 := n6_; have NB404_424 := n7_; have NB424_404 := n8_; have NB418_424 := n9_; have NB424_418 := n10_; clear n0_ n1_ n2_ n3_ n4_ n5_ n6_ n7_ n8_ n9_ n10_; clear hb hbox hg; have hnb27 := NB424_404.out; have hnc27 := NB404_424.out; have hnb28 := NB424_418.out; have hnc28 := NB418_424.out; have hcz29_0 : w26.cell? ⟨gb424, 0, none⟩ = some (.string (⟨#[]⟩ : ByteArray)) := (blk_cell BK424.out 0).trans rfl; have hcz29_1 : w26.cell? ⟨gb424, 1, none⟩ = some (.string (⟨#[]⟩ : ByteArray)) := (blk_cell BK424.out 1).trans rfl; have hcz29_2 : w26.cell? ⟨gb424, 2, none⟩ = some (.int .i64 0) := (blk_cell BK424.out 2).trans rfl; have hfz29_0 := blk_frozen BK424.out 0; have hfz29_1 := blk_frozen BK424.out 1; have hfz29_2 := blk_frozen BK424.out 2))
    (try simp only [Act.put, List.setIfInBounds_toArray, List.set_cons_zero, List.set_cons_succ])
    go_cut [83] (fun v83 wc => ∃ (kq : Nat) (x83_10 : Bool), v83 = .bool x83_10 ∧ Aside0 (laws_FnCrashes.j0 kq t402 t403 t405 t406 x83_10 t399 t400 t401 = some r) ∧ Aside0 (kq ≤ k) ∧ Aside0 (wc.heap[gb404]? = some (.cells #[.string t399, .string t400, .int .i64 t401] 33 (0, 0))) ∧ Aside0 (wc.heap[gb418]? = some (.cells #[.string t413, .string t414, .int .i64 t415] 33 (0, 0))) ∧ Aside0 (wc.heap[gb424]? = some (.cells #[.string t419, .string t420, .int .i64 t421] 33 (0, 0))) ∧ Aside0 (Below w.heap.size w wc))
    case first =>
      have H := HC11.out
      clear HC11
      by_cases c30 : t405.toList = t407.toList
      · rw [if_pos c30] at H
        have c30b0 : (t405.toList == t407.toList) = true := beq_iff_eq.mpr c30
        have c30b1 : (t405.toList != t407.toList) = false := bne_eq_false_iff_eq.mpr c30
        clear c30
        (first | rw [c30b0] | (simp only [i64_w, i32_w]; rw [c30b0]) | skip)
        by_cases c31 : (t406 != t408) = true
        · rw [if_pos c31] at H
          have c31b0 : (t406 != t408) = true := c31
          (try (have c31b1 : decide (t406 = t408) = false := by simpa using c31))
          (try (have c31b2 : (t406 == t408) = false := by simpa using c31))
          (try (have c31b3 : ¬ (t406 = t408) := by simpa using c31))
          clear c31
          have H' := Aside0.mk H
          clear H
          go_wp2
          go_meet
          case rel => exact ⟨_, (true), (by first | rfl | (simp; done) | (simp [*]; done)), H', ⟨by first | omega | exact Nat.le_refl _⟩, ⟨by (with_reducible repeat (first | refine blk_drewN ?_ _ | refine blk_drew ?_ | refine blk_alloc ?_ _)); refine blk_far ?_ NB404_424.out _; (with_reducible repeat (first | refine blk_drewN ?_ _ | refine blk_drew ?_ | refine blk_alloc ?_ _)); refine blk_far ?_ NB404_424.out _; (with_reducible repeat (first | refine blk_drewN ?_ _ | refine blk_drew ?_ | refine blk_alloc ?_ _)); refine blk_far ?_ NB404_424.out _; (with_reducible repeat (first | refine blk_drewN ?_ _ | refine blk_drew ?_ | refine blk_alloc ?_ _)); exact BK404.out⟩, ⟨by (with_reducible repeat (first | refine blk_drewN ?_ _ | refine blk_drew ?_ | refine blk_alloc ?_ _)); refine blk_far ?_ NB418_424.out _; (with_reducible repeat (first | refine blk_drewN ?_ _ | refine blk_drew ?_ | refine blk_alloc ?_ _)); refine blk_far ?_ NB418_424.out _; (with_reducible repeat (first | refine blk_drewN ?_ _ | refine blk_drew ?_ | refine blk_alloc ?_ _)); refine blk_far ?_ NB418_424.out _; (with_reducible repeat (first | refine blk_drewN ?_ _ | refine blk_drew ?_ | refine blk_alloc ?_ _)); exact BK418.out⟩, ⟨by (with_reducible repeat (first | refine blk_drewN ?_ _ | refine blk_drew ?_ | refine blk_alloc ?_ _)); refine blk_put (cs := #[.string t419, .string t420, .int .i64 0]) ?_ 2 _ rfl; (with_reducible repeat (first | refine blk_drewN ?_ _ | refine blk_drew ?_ | refine blk_alloc ?_ _)); refine blk_put (cs := #[.string t419, .string (⟨#[]⟩ : ByteArray), .int .i64 0]) ?_ 1 _ rfl; (with_reducible repeat (first | refine blk_drewN ?_ _ | refine blk_drew ?_ | refine blk_alloc ?_ _)); refine blk_put (cs := #[.string (⟨#[]⟩ : ByteArray), .string (⟨#[]⟩ : ByteArray), .int .i64 0]) ?_ 0 _ rfl; (with_reducible repeat (first | refine blk_drewN ?_ _ | refine blk_drew ?_ | refine blk_alloc ?_ _)); exact BK424.out⟩, ⟨by repeat (first | (with_reducible first | exact HB.out | apply below_alloc | apply pw_below_drewN | apply below_drew1 | refine below_set ?_ GE404.out | refine below_set ?_ GE418.out | refine below_set ?_ GE424.out) | exact HB.out)⟩⟩
        · rw [if_neg c31] at H
          have c31b0 : (t406 != t408) = false := by simpa using c31
          (try (have c31b1 : decide (t406 = t408) = true := by simpa using c31))
          (try (have c31b2 : (t406 == t408) = true := by simpa using c31))
          clear c31
          by_cases c32 : (!(t413.toList == t419.toList) || (!(t414.toList == t420.toList) || (!(t415 == t421)))) = true
          · rw [if_pos c32] at H
            have c32b0 : (!(t413.toList == t419.toList) || (!(t414.toList == t420.toList) || (!(t415 == t421)))) = true := c32
            clear c32
            have H' := Aside0.mk H
            clear H
            have hnb33 := NB418_404.out
            have hnc33 := NB404_418.out
            have hnb34 := NB418_424.out
            have hnc34 := NB424_418.out
            have hcz35_0 : w26.cell? ⟨gb418, 0, none⟩ = some (.string t413) := (blk_cell BK418.out 0).trans rfl
            have hcz35_1 : w26.cell? ⟨gb418, 1, none⟩ = some (.string t414) := (blk_cell BK418.out 1).trans rfl
            have hcz35_2 : w26.cell? ⟨gb418, 2, none⟩ = some (.int .i64 t415) := (blk_cell BK418.out 2).trans rfl
            have hfz35_0 := blk_frozen BK418.out 0
            have hfz35_1 := blk_frozen BK418.out 1
            have hfz35_2 := blk_frozen BK418.out 2
            have hnb36 := NB424_404.out
            have hnc36 := NB404_424.out
            have hcz37_0 : w26.cell? ⟨gb424, 0, none⟩ = some (.string (⟨#[]⟩ : ByteArray)) := (blk_cell BK424.out 0).trans rfl
            have hcz37_1 : w26.cell? ⟨gb424, 1, none⟩ = some (.string (⟨#[]⟩ : ByteArray)) := (blk_cell BK424.out 1).trans rfl
            have hcz37_2 : w26.cell? ⟨gb424, 2, none⟩ = some (.int .i64 0) := (blk_cell BK424.out 2).trans rfl
            have hfz37_0 := blk_frozen BK424.out 0
            have hfz37_1 := blk_frozen BK424.out 1
            have hfz37_2 := blk_frozen BK424.out 2
            go_wp2
            go_meet
            case rel => exact ⟨_, (true), (by first | rfl | (simp; done) | (simp [*]; done)), H', ⟨by first | omega | exact Nat.le_refl _⟩, ⟨by (with_reducible repeat (first | refine blk_drewN ?_ _ | refine blk_drew ?_ | refine blk_alloc ?_ _)); refine blk_far ?_ NB404_424.out _; (with_reducible repeat (first | refine blk_drewN ?_ _ | refine blk_drew ?_ | refine blk_alloc ?_ _)); refine blk_far ?_ NB404_424.out _; (with_reducible repeat (first | refine blk_drewN ?_ _ | refine blk_drew ?_ | refine blk_alloc ?_ _)); refine blk_far ?_ NB404_424.out _; (with_reducible repeat (first | refine blk_drewN ?_ _ | refine blk_drew ?_ | refine blk_alloc ?_ _)); exact BK404.out⟩, ⟨by (with_reducible repeat (first | refine blk_drewN ?_ _ | refine blk_drew ?_ | refine blk_alloc ?_ _)); refine blk_far ?_ NB418_424.out _; (with_reducible repeat (first | refine blk_drewN ?_ _ | refine blk_drew ?_ | refine blk_alloc ?_ _)); refine blk_far ?_ NB418_424.out _; (with_reducible repeat (first | refine blk_drewN ?_ _ | refine blk_drew ?_ | refine blk_alloc ?_ _)); refine blk_far ?_ NB418_424.out _; (with_reducible repeat (first | refine blk_drewN ?_ _ | refine blk_drew ?_ | refine blk_alloc ?_ _)); exact BK418.out⟩, ⟨by (with_reducible repeat (first | refine blk_drewN ?_ _ | refine blk_drew ?_ | refine blk_alloc ?_ _)); refine blk_put (cs := #[.string t419, .string t420, .int .i64 0]) ?_ 2 _ rfl; (with_reducible repeat (first | refine blk_drewN ?_ _ | refine blk_drew ?_ | refine blk_alloc ?_ _)); refine blk_put (cs := #[.string t419, .string (⟨#[]⟩ : ByteArray), .int .i64 0]) ?_ 1 _ rfl; (with_reducible repeat (first | refine blk_drewN ?_ _ | refine blk_drew ?_ | refine blk_alloc ?_ _)); refine blk_put (cs := #[.string (⟨#[]⟩ : ByteArray), .string (⟨#[]⟩ : ByteArray), .int .i64 0]) ?_ 0 _ rfl; (with_reducible repeat (first | refine blk_drewN ?_ _ | refine blk_drew ?_ | refine blk_alloc ?_ _)); exact BK424.out⟩, ⟨by repeat (first | (with_reducible first | exact HB.out | apply below_alloc | apply pw_below_drewN | apply below_drew1 | refine below_set ?_ GE404.out | refine below_set ?_ GE418.out | refine below_set ?_ GE424.out) | exact HB.out)⟩⟩
          · rw [if_neg c32] at H
            have c32b0 : (!(t413.toList == t419.toList) || (!(t414.toList == t420.toList) || (!(t415 == t421)))) = false := by simpa using c32
            clear c32
            by_cases c38 : t416 = t422
            · rw [if_pos c38] at H
              have c38b0 : (t416 == t422) = true := beq_iff_eq.mpr c38
              have c38b1 : (t416 != t422) = false := bne_eq_false_iff_eq.mpr c38
              clear c38
              have H' := Aside0.mk H
              clear H
              have hnb39 := NB418_404.out
              have hnc39 := NB404_418.out
              have hnb40 := NB418_424.out
              have hnc40 := NB424_418.out
              have hcz41_0 : w26.cell? ⟨gb418, 0, none⟩ = some (.string t413) := (blk_cell BK418.out 0).trans rfl
              have hcz41_1 : w26.cell? ⟨gb418, 1, none⟩ = some (.string t414) := (blk_cell BK418.out 1).trans rfl
              have hcz41_2 : w26.cell? ⟨gb418, 2, none⟩ = some (.int .i64 t415) := (blk_cell BK418.out 2).trans rfl
              have hfz41_0 := blk_frozen BK418.out 0
              have hfz41_1 := blk_frozen BK418.out 1
              have hfz41_2 := blk_frozen BK418.out 2
              have hnb42 := NB424_404.out
              have hnc42 := NB404_424.out
              have hcz43_0 : w26.cell? ⟨gb424, 0, none⟩ = some (.string (⟨#[]⟩ : ByteArray)) := (blk_cell BK424.out 0).trans rfl
              have hcz43_1 : w26.cell? ⟨gb424, 1, none⟩ = some (.string (⟨#[]⟩ : ByteArray)) := (blk_cell BK424.out 1).trans rfl
              have hcz43_2 : w26.cell? ⟨gb424, 2, none⟩ = some (.int .i64 0) := (blk_cell BK424.out 2).trans rfl
              have hfz43_0 := blk_frozen BK424.out 0
              have hfz43_1 := blk_frozen BK424.out 1
              have hfz43_2 := blk_frozen BK424.out 2
              go_wp2
              go_meet
              case rel => exact ⟨_, ((t417 != t423)), (by first | rfl | (simp; done) | (simp [*]; done)), H', ⟨by first | omega | exact Nat.le_refl _⟩, ⟨by (with_reducible repeat (first | refine blk_drewN ?_ _ | refine blk_drew ?_ | refine blk_alloc ?_ _)); refine blk_far ?_ NB404_424.out _; (with_reducible repeat (first | refine blk_drewN ?_ _ | refine blk_drew ?_ | refine blk_alloc ?_ _)); refine blk_far ?_ NB404_424.out _; (with_reducible repeat (first | refine blk_drewN ?_ _ | refine blk_drew ?_ | refine blk_alloc ?_ _)); refine blk_far ?_ NB404_424.out _; (with_reducible repeat (first | refine blk_drewN ?_ _ | refine blk_drew ?_ | refine blk_alloc ?_ _)); exact BK404.out⟩, ⟨by (with_reducible repeat (first | refine blk_drewN ?_ _ | refine blk_drew ?_ | refine blk_alloc ?_ _)); refine blk_far ?_ NB418_424.out _; (with_reducible repeat (first | refine blk_drewN ?_ _ | refine blk_drew ?_ | refine blk_alloc ?_ _)); refine blk_far ?_ NB418_424.out _; (with_reducible repeat (first | refine blk_drewN ?_ _ | refine blk_drew ?_ | refine blk_alloc ?_ _)); refine blk_far ?_ NB418_424.out _; (with_reducible repeat (first | refine blk_drewN ?_ _ | refine blk_drew ?_ | refine blk_alloc ?_ _)); exact BK418.out⟩, ⟨by (with_reducible repeat (first | refine blk_drewN ?_ _ | refine blk_drew ?_ | refine blk_alloc ?_ _)); refine blk_put (cs := #[.string t419, .string t420, .int .i64 0]) ?_ 2 _ rfl; (with_reducible repeat (first | refine blk_drewN ?_ _ | refine blk_drew ?_ | refine blk_alloc ?_ _)); refine blk_put (cs := #[.string t419, .string (⟨#[]⟩ : ByteArray), .int .i64 0]) ?_ 1 _ rfl; (with_reducible repeat (first | refine blk_drewN ?_ _ | refine blk_drew ?_ | refine blk_alloc ?_ _)); refine blk_put (cs := #[.string (⟨#[]⟩ : ByteArray), .string (⟨#[]⟩ : ByteArray), .int .i64 0]) ?_ 0 _ rfl; (with_reducible repeat (first | refine blk_drewN ?_ _ | refine blk_drew ?_ | refine blk_alloc ?_ _)); exact BK424.out⟩, ⟨by repeat (first | (with_reducible first | exact HB.out | apply below_alloc | apply pw_below_drewN | apply below_drew1 | refine below_set ?_ GE404.out | refine below_set ?_ GE418.out | refine below_set ?_ GE424.out) | exact HB.out)⟩⟩
            · rw [if_neg c38] at H
              have c38b0 : (t416 == t422) = false := beq_eq_false_iff_ne.mpr c38
              have c38b1 : (t416 != t422) = true := bne_iff_ne.mpr c38
              have H' := Aside0.mk H
              clear H
              have hnb44 := NB418_404.out
              have hnc44 := NB404_418.out
              have hnb45 := NB418_424.out
              have hnc45 := NB424_418.out
              have hcz46_0 : w26.cell? ⟨gb418, 0, none⟩ = some (.string t413) := (blk_cell BK418.out 0).trans rfl
              have hcz46_1 : w26.cell? ⟨gb418, 1, none⟩ = some (.string t414) := (blk_cell BK418.out 1).trans rfl
              have hcz46_2 : w26.cell? ⟨gb418, 2, none⟩ = some (.int .i64 t415) := (blk_cell BK418.out 2).trans rfl
              have hfz46_0 := blk_frozen BK418.out 0
              have hfz46_1 := blk_frozen BK418.out 1
              have hfz46_2 := blk_frozen BK418.out 2
              have hnb47 := NB424_404.out
              have hnc47 := NB404_424.out
              have hcz48_0 : w26.cell? ⟨gb424, 0, none⟩ = some (.string (⟨#[]⟩ : ByteArray)) := (blk_cell BK424.out 0).trans rfl
              have hcz48_1 : w26.cell? ⟨gb424, 1, none⟩ = some (.string (⟨#[]⟩ : ByteArray)) := (blk_cell BK424.out 1).trans rfl
              have hcz48_2 : w26.cell? ⟨gb424, 2, none⟩ = some (.int .i64 0) := (blk_cell BK424.out 2).trans rfl
              have hfz48_0 := blk_frozen BK424.out 0
              have hfz48_1 := blk_frozen BK424.out 1
              have hfz48_2 := blk_frozen BK424.out 2
              go_wp2
              go_meet
              case rel => exact ⟨_, (true), (by first | rfl | (simp; done) | (simp [*]; done)), H', ⟨by first | omega | exact Nat.le_refl _⟩, ⟨by (with_reducible repeat (first | refine blk_drewN ?_ _ | refine blk_drew ?_ | refine blk_alloc ?_ _)); refine blk_far ?_ NB404_424.out _; (with_reducible repeat (first | refine blk_drewN ?_ _ | refine blk_drew ?_ | refine blk_alloc ?_ _)); refine blk_far ?_ NB404_424.out _; (with_reducible repeat (first | refine blk_drewN ?_ _ | refine blk_drew ?_ | refine blk_alloc ?_ _)); refine blk_far ?_ NB404_424.out _; (with_reducible repeat (first | refine blk_drewN ?_ _ | refine blk_drew ?_ | refine blk_alloc ?_ _)); exact BK404.out⟩, ⟨by (with_reducible repeat (first | refine blk_drewN ?_ _ | refine blk_drew ?_ | refine blk_alloc ?_ _)); refine blk_far ?_ NB418_424.out _; (with_reducible repeat (first | refine blk_drewN ?_ _ | refine blk_drew ?_ | refine blk_alloc ?_ _)); refine blk_far ?_ NB418_424.out _; (with_reducible repeat (first | refine blk_drewN ?_ _ | refine blk_drew ?_ | refine blk_alloc ?_ _)); refine blk_far ?_ NB418_424.out _; (with_reducible repeat (first | refine blk_drewN ?_ _ | refine blk_drew ?_ | refine blk_alloc ?_ _)); exact BK418.out⟩, ⟨by (with_reducible repeat (first | refine blk_drewN ?_ _ | refine blk_drew ?_ | refine blk_alloc ?_ _)); refine blk_put (cs := #[.string t419, .string t420, .int .i64 0]) ?_ 2 _ rfl; (with_reducible repeat (first | refine blk_drewN ?_ _ | refine blk_drew ?_ | refine blk_alloc ?_ _)); refine blk_put (cs := #[.string t419, .string (⟨#[]⟩ : ByteArray), .int .i64 0]) ?_ 1 _ rfl; (with_reducible repeat (first | refine blk_drewN ?_ _ | refine blk_drew ?_ | refine blk_alloc ?_ _)); refine blk_put (cs := #[.string (⟨#[]⟩ : ByteArray), .string (⟨#[]⟩ : ByteArray), .int .i64 0]) ?_ 0 _ rfl; (with_reducible repeat (first | refine blk_drewN ?_ _ | refine blk_drew ?_ | refine blk_alloc ?_ _)); exact BK424.out⟩, ⟨by repeat (first | (with_reducible first | exact HB.out | apply below_alloc | apply pw_below_drewN | apply below_drew1 | refine below_set ?_ GE404.out | refine below_set ?_ GE418.out | refine below_set ?_ GE424.out) | exact HB.out)⟩⟩
      · rw [if_neg c30] at H
        have c30b0 : (t405.toList == t407.toList) = false := beq_eq_false_iff_ne.mpr c30
        have c30b1 : (t405.toList != t407.toList) = true := bne_iff_ne.mpr c30
        (first | rw [c30b0] | (simp only [i64_w, i32_w]; rw [c30b0]) | skip)
        have H' := Aside0.mk H
        clear H
        go_wp2
        go_meet
        case rel => exact ⟨_, (true), (by first | rfl | (simp; done) | (simp [*]; done)), H', ⟨by first | omega | exact Nat.le_refl _⟩, ⟨by (with_reducible repeat (first | refine blk_drewN ?_ _ | refine blk_drew ?_ | refine blk_alloc ?_ _)); refine blk_far ?_ NB404_424.out _; (with_reducible repeat (first | refine blk_drewN ?_ _ | refine blk_drew ?_ | refine blk_alloc ?_ _)); refine blk_far ?_ NB404_424.out _; (with_reducible repeat (first | refine blk_drewN ?_ _ | refine blk_drew ?_ | refine blk_alloc ?_ _)); refine blk_far ?_ NB404_424.out _; (with_reducible repeat (first | refine blk_drewN ?_ _ | refine blk_drew ?_ | refine blk_alloc ?_ _)); exact BK404.out⟩, ⟨by (with_reducible repeat (first | refine blk_drewN ?_ _ | refine blk_drew ?_ | refine blk_alloc ?_ _)); refine blk_far ?_ NB418_424.out _; (with_reducible repeat (first | refine blk_drewN ?_ _ | refine blk_drew ?_ | refine blk_alloc ?_ _)); refine blk_far ?_ NB418_424.out _; (with_reducible repeat (first | refine blk_drewN ?_ _ | refine blk_drew ?_ | refine blk_alloc ?_ _)); refine blk_far ?_ NB418_424.out _; (with_reducible repeat (first | refine blk_drewN ?_ _ | refine blk_drew ?_ | refine blk_alloc ?_ _)); exact BK418.out⟩, ⟨by (with_reducible repeat (first | refine blk_drewN ?_ _ | refine blk_drew ?_ | refine blk_alloc ?_ _)); refine blk_put (cs := #[.string t419, .string t420, .int .i64 0]) ?_ 2 _ rfl; (with_reducible repeat (first | refine blk_drewN ?_ _ | refine blk_drew ?_ | refine blk_alloc ?_ _)); refine blk_put (cs := #[.string t419, .string (⟨#[]⟩ : ByteArray), .int .i64 0]) ?_ 1 _ rfl; (with_reducible repeat (first | refine blk_drewN ?_ _ | refine blk_drew ?_ | refine blk_alloc ?_ _)); refine blk_put (cs := #[.string (⟨#[]⟩ : ByteArray), .string (⟨#[]⟩ : ByteArray), .int .i64 0]) ?_ 0 _ rfl; (with_reducible repeat (first | refine blk_drewN ?_ _ | refine blk_drew ?_ | refine blk_alloc ?_ _)); exact BK424.out⟩, ⟨by repeat (first | (with_reducible first | exact HB.out | apply below_alloc | apply pw_below_drewN | apply below_drew1 | refine below_set ?_ GE404.out | refine below_set ?_ GE418.out | refine below_set ?_ GE424.out) | exact HB.out)⟩⟩
    case rest =>
      clear HC11
      try clear c2
      try clear p2
      try clear c3
      try clear c4
      try clear c5
      try clear c8
      try clear c23
      try clear c24
      try clear c25
      try clear c26
      try clear c27
      try clear c28
      try clear c29
      try clear c30
      try clear c30b0
      try clear c30b1
      try clear c31
      try clear c31b0
      try clear c31b1
      try clear c31b2
      try clear c32
      try clear c32b0
      try clear c33
      try clear c34
      try clear c36
      try clear c38
      try clear c38b0
      try clear c38b1
      try clear c39
      try clear c40
      try clear c42
      try clear c44
      try clear c45
      try clear c47
      try clear hcz14_0
      try clear hcz14_1
      try clear hcz14_2
      try clear hcz16_0
      try clear hcz16_1
      try clear hcz16_2
      try clear hcz24_0
      try clear hcz24_1
      try clear hcz24_2
      try clear hcz29_0
      try clear hcz29_1
      try clear hcz29_2
      try clear hcz35_0
      try clear hcz35_1
      try clear hcz35_2
      try clear hcz37_0
      try clear hcz37_1
      try clear hcz37_2
      try clear hcz41_0
      try clear hcz41_1
      try clear hcz41_2
      try clear hcz43_0
      try clear hcz43_1
      try clear hcz43_2
      try clear hcz46_0
      try clear hcz46_1
      try clear hcz46_2
      try clear hcz48_0
      try clear hcz48_1
      try clear hcz48_2
      try clear hfz14_0
      try clear hfz14_1
      try clear hfz14_2
      try clear hfz16_0
      try clear hfz16_1
      try clear hfz16_2
      try clear hfz24_0
      try clear hfz24_1
      try clear hfz24_2
      try clear hfz29_0
      try clear hfz29_1
      try clear hfz29_2
      try clear hfz35_0
      try clear hfz35_1
      try clear hfz35_2
      try clear hfz37_0
      try clear hfz37_1
      try clear hfz37_2
      try clear hfz41_0
      try clear hfz41_1
      try clear hfz41_2
      try clear hfz43_0
      try clear hfz43_1
      try clear hfz43_2
      try clear hfz46_0
      try clear hfz46_1
      try clear hfz46_2
      try clear hfz48_0
      try clear hfz48_1
      try clear hfz48_2
      obtain ⟨kq, x83_10, rfl, HA, HJ10, BK404, BK418, BK424, HB⟩ := hcut
      cases kq with
      | zero => exact absurd HA.out (by simp [laws_FnCrashes.j0])
      | succ kj10 =>
        have H := HA.out
        clear HA
        simp only [laws_FnCrashes.j0] at H
        by_cases c49 : x83_10 = true
        · subst c49
          have H1 : (some false) = some r := by rw [if_pos rfl] at H; exact H
          clear H
          have H := H1
          clear H1
          obtain rfl := Option.some.inj H
          go_wp2
          go_ret
          exact ⟨by first | rfl | (simp [errW_none, errW_some] <;> rfl) | (simp [*, errW_none, errW_some] <;> rfl), by repeat (first | (with_reducible first | exact HB.out | apply below_alloc | apply pw_below_drewN | apply below_drew1 | refine below_set ?_ GE404.out | refine below_set ?_ GE418.out | refine below_set ?_ GE424.out) | exact HB.out)⟩
        · replace c49 := Bool.eq_false_iff.mpr c49
          subst c49
          have H1 : (if t406 = true then ((impl_RecoverLog.f kj10 t405).bind fun bt425 => (if bt425.2.2.2.2 = true then ((impl_IsValidLog.f kj10 bt425.1 bt425.2.1 bt425.2.2.1).bind fun t431 => (if t431 = true then (if bt425.2.2.2.1 < (t399.size : Int) then (laws_FnCrashes.j1 kj10 t402 t403 true t399 t400 t401 bt425.1 bt425.2.1 bt425.2.2.1) else (laws_FnCrashes.j1 kj10 t402 t403 ((bt425.1.size : Int) != bt425.2.2.2.1) t399 t400 t401 bt425.1 bt425.2.1 bt425.2.2.1)) else (laws_FnCrashes.j1 kj10 t402 t403 true t399 t400 t401 bt425.1 bt425.2.1 bt425.2.2.1))) else (laws_FnCrashes.j1 kj10 t402 t403 true t399 t400 t401 bt425.1 bt425.2.1 bt425.2.2.1))) else (some true)) = some r := by rw [if_neg (show ¬ (false = true) by decide)] at H; exact H
          clear H
          have H := H1
          clear H1
          by_cases c50 : t406 = true
          · subst c50
            have H1 : ((impl_RecoverLog.f kj10 t405).bind fun bt425 => (if bt425.2.2.2.2 = true then ((impl_IsValidLog.f kj10 bt425.1 bt425.2.1 bt425.2.2.1).bind fun t431 => (if t431 = true then (if bt425.2.2.2.1 < (t399.size : Int) then (laws_FnCrashes.j1 kj10 t402 t403 true t399 t400 t401 bt425.1 bt425.2.1 bt425.2.2.1) else (laws_FnCrashes.j1 kj10 t402 t403 ((bt425.1.size : Int) != bt425.2.2.2.1) t399 t400 t401 bt425.1 bt425.2.1 bt425.2.2.1)) else (laws_FnCrashes.j1 kj10 t402 t403 true t399 t400 t401 bt425.1 bt425.2.1 bt425.2.2.1))) else (laws_FnCrashes.j1 kj10 t402 t403 true t399 t400 t401 bt425.1 bt425.2.1 bt425.2.2.1))) = some r := by rw [if_pos rfl] at H; exact H
            clear H
            have H := H1
            clear H1
            replace H := Option.bind_eq_some_iff.mp H
            obtain ⟨⟨t425, t426, t427, t428, t429⟩, A510, H⟩ := H
            replace H : (if t429 = true then ((impl_IsValidLog.f kj10 t425 t426 t427).bind fun t431 => (if t431 = true then (if t428 < (t399.size : Int) then (laws_FnCrashes.j1 kj10 t402 t403 true t399 t400 t401 t425 t426 t427) else (laws_FnCrashes.j1 kj10 t402 t403 ((t425.size : Int) != t428) t399 t400 t401 t425 t426 t427)) else (laws_FnCrashes.j1 kj10 t402 t403 true t399 t400 t401 t425 t426 t427))) else (laws_FnCrashes.j1 kj10 t402 t403 true t399 t400 t401 t425 t426 t427)) = some r := H
            have A51 := Aside0.mk A510
            clear A510
            have HC52 := Aside0.mk H
            clear H
            go_upto_region 14 with (first | ((with_reducible refine gate_callee (f := 28) rfl ?_); refine goesL_ (some 88) rfl rfl Tryd.func28 (by kernel_rfl) rfl #[.string t405] rfl (by (try simp only [List.map_toArray, List.map_cons, List.map_nil]); first | done | rfl | (simp only [List.length_drop, List.length_take]; rfl)) ?_; (with_reducible refine (impl_RecoverLog.calls kj10 t405 t425 t426 t427 t428 t429 _ ?side1 A51.out).mono ?_); (case side1 => exact XTab.below HTAB.out (by repeat (first | (with_reducible first | exact HB.out | apply below_alloc | apply pw_below_drewN | apply below_drew1 | refine below_set ?_ GE404.out | refine below_set ?_ GE418.out | refine below_set ?_ GE424.out) | exact HB.out))); rintro e w53 ⟨rfl, hb⟩; refine ⟨_, rfl, ?_⟩; have n0_ := Aside0.mk (blk_below (g := gb404) (o := .cells #[.string t399, .string t400, .int .i64 t401] 33 (0, 0)) (by (with_reducible repeat (first | refine blk_drewN ?_ _ | refine blk_drew ?_ | refine blk_alloc ?_ _)); exact BK404.out) hb); have n1_ := Aside0.mk (blk_below (g := gb418) (o := .cells #[.string t413, .string t414, .int .i64 t415] 33 (0, 0)) (by (with_reducible repeat (first | refine blk_drewN ?_ _ | refine blk_drew ?_ | refine blk_alloc ?_ _)); exact BK418.out) hb); have n2_ := Aside0.mk (blk_below (g := gb424) (o := .cells #[.string t419, .string t420, .int .i64 t421] 33 (0, 0)) (by (with_reducible repeat (first | refine blk_drewN ?_ _ | refine blk_drew ?_ | refine blk_alloc ?_ _)); exact BK424.out) hb); have n3_ := Aside0.mk (below_step (by repeat (first | (with_reducible first | exact HB.out | apply below_alloc | apply pw_below_drewN | apply below_drew1 | refine below_set ?_ GE404.out | refine below_set ?_ GE418.out | refine below_set ?_ GE424.out) | exact HB.out)) hb); clear BK404; clear BK418; clear BK424; clear HB; have BK404 := n0_; have BK418 := n1_; have BK424 := n2_; have HB := n3_; clear n0_ n1_ n2_ n3_; (try clear hb); (try clear hb2); (try clear hk); (try clear hi)) | ((with_reducible refine gate_dst (N := 17) rfl ?_); (try (refine gate_guard (by rfl) ?_; dsimp only)); refine box_event ?hg (N := 17) ?hd (cs := #[.string (⟨#[]⟩ : ByteArray), .string (⟨#[]⟩ : ByteArray), .int .i64 0]) (t := 33) ?hr ?_; (case hd => rfl); (case hg => rfl); (case hr => first | (go_simp; done) | (go_simp; rfl)); intro gb430 hg w54 hbox hb; have n0_ := Aside0.mk (blk_below (g := gb404) (o := .cells #[.string t399, .string t400, .int .i64 t401] 33 (0, 0)) (by (with_reducible repeat (first | refine blk_drewN ?_ _ | refine blk_drew ?_ | refine blk_alloc ?_ _)); exact BK404.out) hb); have n1_ := Aside0.mk (blk_below (g := gb418) (o := .cells #[.string t413, .string t414, .int .i64 t415] 33 (0, 0)) (by (with_reducible repeat (first | refine blk_drewN ?_ _ | refine blk_drew ?_ | refine blk_alloc ?_ _)); exact BK418.out) hb); have n2_ := Aside0.mk (blk_below (g := gb424) (o := .cells #[.string t419, .string t420, .int .i64 t421] 33 (0, 0)) (by (with_reducible repeat (first | refine blk_drewN ?_ _ | refine blk_drew ?_ | refine blk_alloc ?_ _)); exact BK424.out) hb); have n3_ := Aside0.mk (below_step (by repeat (first | (with_reducible first | exact HB.out | apply below_alloc | apply pw_below_drewN | apply below_drew1 | refine below_set ?_ GE404.out | refine below_set ?_ GE418.out | refine below_set ?_ GE424.out) | exact HB.out)) hb); have n4_ := Aside0.mk (hbox); have n5_ := Aside0.mk ((by rw [hg]; exact (below_size (by repeat (first | (with_reducible first | exact HB.out | apply below_alloc | apply pw_below_drewN | apply below_drew1 | refine below_set ?_ GE404.out | refine below_set ?_ GE418.out | refine below_set ?_ GE424.out) | exact HB.out))) : w.heap.size ≤ gb430)); have n6_ := Aside0.mk ((by rw [hg]; exact (below_size (by repeat (first | (with_reducible first | exact HB.out | apply below_alloc | apply pw_below_drewN | apply below_drew1 | refine below_set ?_ GE404.out | refine below_set ?_ GE418.out | refine below_set ?_ GE424.out) | exact HB.out))) : w.heap.size ≤ gb430)); have n7_ := Aside0.mk ((by rw [hg]; exact Nat.ne_of_lt (blk_lt (g := gb404) (o := .cells #[.string t399, .string t400, .int .i64 t401] 33 (0, 0)) (by (with_reducible repeat (first | refine blk_drewN ?_ _ | refine blk_drew ?_ | refine blk_alloc ?_ _)); exact BK404.out)) : gb404 ≠ gb430)); have n8_ := Aside0.mk ((by rw [hg]; exact Nat.ne_of_gt (blk_lt (g := gb404) (o := .cells #[.string t399, .string t400, .int .i64 t401] 33 (0, 0)) (by (with_reducible repeat (first | refine blk_drewN ?_ _ | refine blk_drew ?_ | refine blk_alloc ?_ _)); exact BK404.out)) : gb430 ≠ gb404)); have n9_ := Aside0.mk ((by rw [hg]; exact Nat.ne_of_lt (blk_lt (g := gb418) (o := .cells #[.string t413, .string t414, .int .i64 t415] 33 (0, 0)) (by (with_reducible repeat (first | refine blk_drewN ?_ _ | refine blk_drew ?_ | refine blk_alloc ?_ _)); exact BK418.out)) : gb418 ≠ gb430)); have n10_ := Aside0.mk ((by rw [hg]; exact Nat.ne_of_gt (blk_lt (g := gb418) (o := .cells #[.string t413, .string t414, .int .i64 t415] 33 (0, 0)) (by (with_reducible repeat (first | refine blk_drewN ?_ _ | refine blk_drew ?_ | refine blk_alloc ?_ _)); exact BK418.out)) : gb430 ≠ gb418)); have n11_ := Aside0.mk ((by rw [hg]; exact Nat.ne_of_lt (blk_lt (g := gb424) (o := .cells #[.string t419, .string t420, .int .i64 t421] 33 (0, 0)) (by (with_reducible repeat (first | refine blk_drewN ?_ _ | refine blk_drew ?_ | refine blk_alloc ?_ _)); exact BK424.out)) : gb424 ≠ gb430)); have n12_ := Aside0.mk ((by rw [hg]; exact Nat.ne_of_gt (blk_lt (g := gb424) (o := .cells #[.string t419, .string t420, .int .i64 t421] 33 (0, 0)) (by (with_reducible repeat (first | refine blk_drewN ?_ _ | refine blk_drew ?_ | refine blk_alloc ?_ _)); exact BK424.out)) : gb430 ≠ gb424)); clear BK404; clear BK418; clear BK424; clear HB; have BK404 := n0_; have BK418 := n1_; have BK424 := n2_; have HB := n3_; have BK430 := n4_; have GW430 := n5_; have GE430 := n6_; have NB404_430 := n7_; have NB430_404 := n8_; have NB418_430 := n9_; have NB430_418 := n10_; have NB424_430 := n11_; have NB430_424 := n12_; clear n0_ n1_ n2_ n3_ n4_ n5_ n6_ n7_ n8_ n9_ n10_ n11_ n12_; clear hb hbox hg; have hnb55 := NB430_404.out; have hnc55 := NB404_430.out; have hnb56 := NB430_418.out; have hnc56 := NB418_430.out; have hnb57 := NB430_424.out; have hnc57 := NB424_430.out; have hcz58_0 : w54.cell? ⟨gb430, 0, none⟩ = some (.string (⟨#[]⟩ : ByteArray)) := (blk_cell BK430.out 0).trans rfl; have hcz58_1 : w54.cell? ⟨gb430, 1, none⟩ = some (.string (⟨#[]⟩ : ByteArray)) := (blk_cell BK430.out 1).trans rfl; have hcz58_2 : w54.cell? ⟨gb430, 2, none⟩ = some (.int .i64 0) := (blk_cell BK430.out 2).trans rfl; have hfz58_0 := blk_frozen BK430.out 0; have hfz58_1 := blk_frozen BK430.out 1; have hfz58_2 := blk_frozen BK430.out 2))
            (try simp only [Act.put, List.setIfInBounds_toArray, List.set_cons_zero, List.set_cons_succ])
            go_cut [112] (fun v112 wc => ∃ (kq : Nat) (x112_51 : Bool), v112 = .bool x112_51 ∧ Aside0 (laws_FnCrashes.j1 kq t402 t403 x112_51 t399 t400 t401 t425 t426 t427 = some r) ∧ Aside0 (kq ≤ kj10) ∧ Aside0 (wc.heap[gb404]? = some (.cells #[.string t399, .string t400, .int .i64 t401] 33 (0, 0))) ∧ Aside0 (wc.heap[gb418]? = some (.cells #[.string t413, .string t414, .int .i64 t415] 33 (0, 0))) ∧ Aside0 (wc.heap[gb424]? = some (.cells #[.string t419, .string t420, .int .i64 t421] 33 (0, 0))) ∧ Aside0 (wc.heap[gb430]? = some (.cells #[.string t425, .string t426, .int .i64 t427] 33 (0, 0))) ∧ Aside0 (Below w.heap.size w wc))
            case first =>
              have H := HC52.out
              clear HC52
              by_cases c59 : t429 = true
              · subst c59
                have H1 : ((impl_IsValidLog.f kj10 t425 t426 t427).bind fun t431 => (if t431 = true then (if t428 < (t399.size : Int) then (laws_FnCrashes.j1 kj10 t402 t403 true t399 t400 t401 t425 t426 t427) else (laws_FnCrashes.j1 kj10 t402 t403 ((t425.size : Int) != t428) t399 t400 t401 t425 t426 t427)) else (laws_FnCrashes.j1 kj10 t402 t403 true t399 t400 t401 t425 t426 t427))) = some r := by rw [if_pos rfl] at H; exact H
                clear H
                have H := H1
                clear H1
                replace H := Option.bind_eq_some_iff.mp H
                obtain ⟨t431, A600, H⟩ := H
                replace H : (if t431 = true then (if t428 < (t399.size : Int) then (laws_FnCrashes.j1 kj10 t402 t403 true t399 t400 t401 t425 t426 t427) else (laws_FnCrashes.j1 kj10 t402 t403 ((t425.size : Int) != t428) t399 t400 t401 t425 t426 t427)) else (laws_FnCrashes.j1 kj10 t402 t403 true t399 t400 t401 t425 t426 t427)) = some r := H
                have A60 := Aside0.mk A600
                clear A600
                by_cases c61 : t431 = true
                · subst c61
                  have H1 : (if t428 < (t399.size : Int) then (laws_FnCrashes.j1 kj10 t402 t403 true t399 t400 t401 t425 t426 t427) else (laws_FnCrashes.j1 kj10 t402 t403 ((t425.size : Int) != t428) t399 t400 t401 t425 t426 t427)) = some r := by rw [if_pos rfl] at H; exact H
                  clear H
                  have H := H1
                  clear H1
                  by_cases c62 : t428 < (t399.size : Int)
                  · rw [if_pos c62] at H
                    have c62b0 : decide (t428 < (t399.size : Int)) = true := decide_eq_true c62
                    clear c62
                    (first | rw [c62b0] | (simp only [i64_w, i32_w]; rw [c62b0]) | skip)
                    have H' := Aside0.mk H
                    clear H
                    have hnb63 := NB430_404.out
                    have hnc63 := NB404_430.out
                    have hnb64 := NB430_418.out
                    have hnc64 := NB418_430.out
                    have hnb65 := NB430_424.out
                    have hnc65 := NB424_430.out
                    have hcz66_0 : w54.cell? ⟨gb430, 0, none⟩ = some (.string (⟨#[]⟩ : ByteArray)) := (blk_cell BK430.out 0).trans rfl
                    have hcz66_1 : w54.cell? ⟨gb430, 1, none⟩ = some (.string (⟨#[]⟩ : ByteArray)) := (blk_cell BK430.out 1).trans rfl
                    have hcz66_2 : w54.cell? ⟨gb430, 2, none⟩ = some (.int .i64 0) := (blk_cell BK430.out 2).trans rfl
                    have hfz66_0 := blk_frozen BK430.out 0
                    have hfz66_1 := blk_frozen BK430.out 1
                    have hfz66_2 := blk_frozen BK430.out 2
                    go_wp2_with (first | (go_at_call 17; (with_reducible refine (impl_IsValidLog.calls kj10 t425 t426 t427 true _ ?side1 A60.out).mono ?_); (case side1 => exact XTab.below HTAB.out (by repeat (first | (with_reducible first | exact HB.out | apply below_alloc | apply pw_below_drewN | apply below_drew1 | refine below_set ?_ GE404.out | refine below_set ?_ GE418.out | refine below_set ?_ GE424.out | refine below_set ?_ GE430.out) | exact HB.out))); rintro e w67 ⟨rfl, hb⟩; have n0_ := Aside0.mk (blk_below (g := gb404) (o := .cells #[.string t399, .string t400, .int .i64 t401] 33 (0, 0)) (by (with_reducible repeat (first | refine blk_drewN ?_ _ | refine blk_drew ?_ | refine blk_alloc ?_ _)); refine blk_far ?_ NB404_430.out _; (with_reducible repeat (first | refine blk_drewN ?_ _ | refine blk_drew ?_ | refine blk_alloc ?_ _)); refine blk_far ?_ NB404_430.out _; (with_reducible repeat (first | refine blk_drewN ?_ _ | refine blk_drew ?_ | refine blk_alloc ?_ _)); refine blk_far ?_ NB404_430.out _; (with_reducible repeat (first | refine blk_drewN ?_ _ | refine blk_drew ?_ | refine blk_alloc ?_ _)); exact BK404.out) hb); have n1_ := Aside0.mk (blk_below (g := gb418) (o := .cells #[.string t413, .string t414, .int .i64 t415] 33 (0, 0)) (by (with_reducible repeat (first | refine blk_drewN ?_ _ | refine blk_drew ?_ | refine blk_alloc ?_ _)); refine blk_far ?_ NB418_430.out _; (with_reducible repeat (first | refine blk_drewN ?_ _ | refine blk_drew ?_ | refine blk_alloc ?_ _)); refine blk_far ?_ NB418_430.out _; (with_reducible repeat (first | refine blk_drewN ?_ _ | refine blk_drew ?_ | refine blk_alloc ?_ _)); refine blk_far ?_ NB418_430.out _; (with_reducible repeat (first | refine blk_drewN ?_ _ | refine blk_drew ?_ | refine blk_alloc ?_ _)); exact BK418.out) hb); have n2_ := Aside0.mk (blk_below (g := gb424) (o := .cells #[.string t419, .string t420, .int .i64 t421] 33 (0, 0)) (by (with_reducible repeat (first | refine blk_drewN ?_ _ | refine blk_drew ?_ | refine blk_alloc ?_ _)); refine blk_far ?_ NB424_430.out _; (with_reducible repeat (first | refine blk_drewN ?_ _ | refine blk_drew ?_ | refine blk_alloc ?_ _)); refine blk_far ?_ NB424_430.out _; (with_reducible repeat (first | refine blk_drewN ?_ _ | refine blk_drew ?_ | refine blk_alloc ?_ _)); refine blk_far ?_ NB424_430.out _; (with_reducible repeat (first | refine blk_drewN ?_ _ | refine blk_drew ?_ | refine blk_alloc ?_ _)); exact BK424.out) hb); have n3_ := Aside0.mk (blk_below (g := gb430) (o := .cells #[.string t425, .string t426, .int .i64 t427] 33 (0, 0)) (by (with_reducible repeat (first | refine blk_drewN ?_ _ | refine blk_drew ?_ | refine blk_alloc ?_ _)); refine blk_put (cs := #[.string t425, .string t426, .int .i64 0]) ?_ 2 _ rfl; (with_reducible repeat (first | refine blk_drewN ?_ _ | refine blk_drew ?_ | refine blk_alloc ?_ _)); refine blk_put (cs := #[.string t425, .string (⟨#[]⟩ : ByteArray), .int .i64 0]) ?_ 1 _ rfl; (with_reducible repeat (first | refine blk_drewN ?_ _ | refine blk_drew ?_ | refine blk_alloc ?_ _)); refine blk_put (cs := #[.string (⟨#[]⟩ : ByteArray), .string (⟨#[]⟩ : ByteArray), .int .i64 0]) ?_ 0 _ rfl; (with_reducible repeat (first | refine blk_drewN ?_ _ | refine blk_drew ?_ | refine blk_alloc ?_ _)); exact BK430.out) hb); have n4_ := Aside0.mk (below_step (by repeat (first | (with_reducible first | exact HB.out | apply below_alloc | apply pw_below_drewN | apply below_drew1 | refine below_set ?_ GE404.out | refine below_set ?_ GE418.out | refine below_set ?_ GE424.out | refine below_set ?_ GE430.out) | exact HB.out)) hb); clear BK404; clear BK418; clear BK424; clear BK430; clear HB; have BK404 := n0_; have BK418 := n1_; have BK424 := n2_; have BK430 := n3_; have HB := n4_; clear n0_ n1_ n2_ n3_ n4_; (try clear hb); (try clear hb2); (try clear hk); (try clear hi); have hnb68 := NB404_418.out; have hnc68 := NB418_404.out; have hnb69 := NB404_424.out; have hnc69 := NB424_404.out; have hcz70_0 : w67.cell? ⟨gb404, 0, none⟩ = some (.string t399) := (blk_cell BK404.out 0).trans rfl; have hcz70_1 : w67.cell? ⟨gb404, 1, none⟩ = some (.string t400) := (blk_cell BK404.out 1).trans rfl; have hcz70_2 : w67.cell? ⟨gb404, 2, none⟩ = some (.int .i64 t401) := (blk_cell BK404.out 2).trans rfl; have hfz70_0 := blk_frozen BK404.out 0; have hfz70_1 := blk_frozen BK404.out 1; have hfz70_2 := blk_frozen BK404.out 2))
                    go_meet
                    case rel => exact ⟨_, (true), (by first | rfl | (simp; done) | (simp [*]; done)), H', ⟨by have := HJ10.out; first | omega | exact Nat.le_refl _⟩, ⟨by (with_reducible repeat (first | refine blk_drewN ?_ _ | refine blk_drew ?_ | refine blk_alloc ?_ _)); exact BK404.out⟩, ⟨by (with_reducible repeat (first | refine blk_drewN ?_ _ | refine blk_drew ?_ | refine blk_alloc ?_ _)); exact BK418.out⟩, ⟨by (with_reducible repeat (first | refine blk_drewN ?_ _ | refine blk_drew ?_ | refine blk_alloc ?_ _)); exact BK424.out⟩, ⟨by (with_reducible repeat (first | refine blk_drewN ?_ _ | refine blk_drew ?_ | refine blk_alloc ?_ _)); exact BK430.out⟩, ⟨by repeat (first | (with_reducible first | exact HB.out | apply below_alloc | apply pw_below_drewN | apply below_drew1 | refine below_set ?_ GE404.out | refine below_set ?_ GE418.out | refine below_set ?_ GE424.out | refine below_set ?_ GE430.out) | exact HB.out)⟩⟩
                  · rw [if_neg c62] at H
                    have c62b0 : decide (t428 < (t399.size : Int)) = false := decide_eq_false c62
                    clear c62
                    (first | rw [c62b0] | (simp only [i64_w, i32_w]; rw [c62b0]) | skip)
                    have H' := Aside0.mk H
                    clear H
                    have hnb71 := NB430_404.out
                    have hnc71 := NB404_430.out
                    have hnb72 := NB430_418.out
                    have hnc72 := NB418_430.out
                    have hnb73 := NB430_424.out
                    have hnc73 := NB424_430.out
                    have hcz74_0 : w54.cell? ⟨gb430, 0, none⟩ = some (.string (⟨#[]⟩ : ByteArray)) := (blk_cell BK430.out 0).trans rfl
                    have hcz74_1 : w54.cell? ⟨gb430, 1, none⟩ = some (.string (⟨#[]⟩ : ByteArray)) := (blk_cell BK430.out 1).trans rfl
                    have hcz74_2 : w54.cell? ⟨gb430, 2, none⟩ = some (.int .i64 0) := (blk_cell BK430.out 2).trans rfl
                    have hfz74_0 := blk_frozen BK430.out 0
                    have hfz74_1 := blk_frozen BK430.out 1
                    have hfz74_2 := blk_frozen BK430.out 2
                    go_wp2_with (first | (go_at_call 17; (with_reducible refine (impl_IsValidLog.calls kj10 t425 t426 t427 true _ ?side1 A60.out).mono ?_); (case side1 => exact XTab.below HTAB.out (by repeat (first | (with_reducible first | exact HB.out | apply below_alloc | apply pw_below_drewN | apply below_drew1 | refine below_set ?_ GE404.out | refine below_set ?_ GE418.out | refine below_set ?_ GE424.out | refine below_set ?_ GE430.out) | exact HB.out))); rintro e w75 ⟨rfl, hb⟩; have n0_ := Aside0.mk (blk_below (g := gb404) (o := .cells #[.string t399, .string t400, .int .i64 t401] 33 (0, 0)) (by (with_reducible repeat (first | refine blk_drewN ?_ _ | refine blk_drew ?_ | refine blk_alloc ?_ _)); refine blk_far ?_ NB404_430.out _; (with_reducible repeat (first | refine blk_drewN ?_ _ | refine blk_drew ?_ | refine blk_alloc ?_ _)); refine blk_far ?_ NB404_430.out _; (with_reducible repeat (first | refine blk_drewN ?_ _ | refine blk_drew ?_ | refine blk_alloc ?_ _)); refine blk_far ?_ NB404_430.out _; (with_reducible repeat (first | refine blk_drewN ?_ _ | refine blk_drew ?_ | refine blk_alloc ?_ _)); exact BK404.out) hb); have n1_ := Aside0.mk (blk_below (g := gb418) (o := .cells #[.string t413, .string t414, .int .i64 t415] 33 (0, 0)) (by (with_reducible repeat (first | refine blk_drewN ?_ _ | refine blk_drew ?_ | refine blk_alloc ?_ _)); refine blk_far ?_ NB418_430.out _; (with_reducible repeat (first | refine blk_drewN ?_ _ | refine blk_drew ?_ | refine blk_alloc ?_ _)); refine blk_far ?_ NB418_430.out _; (with_reducible repeat (first | refine blk_drewN ?_ _ | refine blk_drew ?_ | refine blk_alloc ?_ _)); refine blk_far ?_ NB418_430.out _; (with_reducible repeat (first | refine blk_drewN ?_ _ | refine blk_drew ?_ | refine blk_alloc ?_ _)); exact BK418.out) hb); have n2_ := Aside0.mk (blk_below (g := gb424) (o := .cells #[.string t419, .string t420, .int .i64 t421] 33 (0, 0)) (by (with_reducible repeat (first | refine blk_drewN ?_ _ | refine blk_drew ?_ | refine blk_alloc ?_ _)); refine blk_far ?_ NB424_430.out _; (with_reducible repeat (first | refine blk_drewN ?_ _ | refine blk_drew ?_ | refine blk_alloc ?_ _)); refine blk_far ?_ NB424_430.out _; (with_reducible repeat (first | refine blk_drewN ?_ _ | refine blk_drew ?_ | refine blk_alloc ?_ _)); refine blk_far ?_ NB424_430.out _; (with_reducible repeat (first | refine blk_drewN ?_ _ | refine blk_drew ?_ | refine blk_alloc ?_ _)); exact BK424.out) hb); have n3_ := Aside0.mk (blk_below (g := gb430) (o := .cells #[.string t425, .string t426, .int .i64 t427] 33 (0, 0)) (by (with_reducible repeat (first | refine blk_drewN ?_ _ | refine blk_drew ?_ | refine blk_alloc ?_ _)); refine blk_put (cs := #[.string t425, .string t426, .int .i64 0]) ?_ 2 _ rfl; (with_reducible repeat (first | refine blk_drewN ?_ _ | refine blk_drew ?_ | refine blk_alloc ?_ _)); refine blk_put (cs := #[.string t425, .string (⟨#[]⟩ : ByteArray), .int .i64 0]) ?_ 1 _ rfl; (with_reducible repeat (first | refine blk_drewN ?_ _ | refine blk_drew ?_ | refine blk_alloc ?_ _)); refine blk_put (cs := #[.string (⟨#[]⟩ : ByteArray), .string (⟨#[]⟩ : ByteArray), .int .i64 0]) ?_ 0 _ rfl; (with_reducible repeat (first | refine blk_drewN ?_ _ | refine blk_drew ?_ | refine blk_alloc ?_ _)); exact BK430.out) hb); have n4_ := Aside0.mk (below_step (by repeat (first | (with_reducible first | exact HB.out | apply below_alloc | apply pw_below_drewN | apply below_drew1 | refine below_set ?_ GE404.out | refine below_set ?_ GE418.out | refine below_set ?_ GE424.out | refine below_set ?_ GE430.out) | exact HB.out)) hb); clear BK404; clear BK418; clear BK424; clear BK430; clear HB; have BK404 := n0_; have BK418 := n1_; have BK424 := n2_; have BK430 := n3_; have HB := n4_; clear n0_ n1_ n2_ n3_ n4_; (try clear hb); (try clear hb2); (try clear hk); (try clear hi); have hnb76 := NB404_418.out; have hnc76 := NB418_404.out; have hnb77 := NB404_424.out; have hnc77 := NB424_404.out; have hcz78_0 : w75.cell? ⟨gb404, 0, none⟩ = some (.string t399) := (blk_cell BK404.out 0).trans rfl; have hcz78_1 : w75.cell? ⟨gb404, 1, none⟩ = some (.string t400) := (blk_cell BK404.out 1).trans rfl; have hcz78_2 : w75.cell? ⟨gb404, 2, none⟩ = some (.int .i64 t401) := (blk_cell BK404.out 2).trans rfl; have hfz78_0 := blk_frozen BK404.out 0; have hfz78_1 := blk_frozen BK404.out 1; have hfz78_2 := blk_frozen BK404.out 2; have hcz79_0 : w75.cell? ⟨gb430, 0, none⟩ = some (.string t425) := (blk_cell BK430.out 0).trans rfl; have hcz79_1 : w75.cell? ⟨gb430, 1, none⟩ = some (.string t426) := (blk_cell BK430.out 1).trans rfl; have hcz79_2 : w75.cell? ⟨gb430, 2, none⟩ = some (.int .i64 t427) := (blk_cell BK430.out 2).trans rfl; have hfz79_0 := blk_frozen BK430.out 0; have hfz79_1 := blk_frozen BK430.out 1; have hfz79_2 := blk_frozen BK430.out 2))
                    go_meet
                    case rel => exact ⟨_, (((t425.size : Int) != t428)), (by first | rfl | (simp; done) | (simp [*]; done)), H', ⟨by have := HJ10.out; first | omega | exact Nat.le_refl _⟩, ⟨by (with_reducible repeat (first | refine blk_drewN ?_ _ | refine blk_drew ?_ | refine blk_alloc ?_ _)); exact BK404.out⟩, ⟨by (with_reducible repeat (first | refine blk_drewN ?_ _ | refine blk_drew ?_ | refine blk_alloc ?_ _)); exact BK418.out⟩, ⟨by (with_reducible repeat (first | refine blk_drewN ?_ _ | refine blk_drew ?_ | refine blk_alloc ?_ _)); exact BK424.out⟩, ⟨by (with_reducible repeat (first | refine blk_drewN ?_ _ | refine blk_drew ?_ | refine blk_alloc ?_ _)); exact BK430.out⟩, ⟨by repeat (first | (with_reducible first | exact HB.out | apply below_alloc | apply pw_below_drewN | apply below_drew1 | refine below_set ?_ GE404.out | refine below_set ?_ GE418.out | refine below_set ?_ GE424.out | refine below_set ?_ GE430.out) | exact HB.out)⟩⟩
                · replace c61 := Bool.eq_false_iff.mpr c61
                  subst c61
                  have H1 : (laws_FnCrashes.j1 kj10 t402 t403 true t399 t400 t401 t425 t426 t427) = some r := by rw [if_neg (show ¬ (false = true) by decide)] at H; exact H
                  clear H
                  have H := H1
                  clear H1
                  have H' := Aside0.mk H
                  clear H
                  have hnb80 := NB430_404.out
                  have hnc80 := NB404_430.out
                  have hnb81 := NB430_418.out
                  have hnc81 := NB418_430.out
                  have hnb82 := NB430_424.out
                  have hnc82 := NB424_430.out
                  have hcz83_0 : w54.cell? ⟨gb430, 0, none⟩ = some (.string (⟨#[]⟩ : ByteArray)) := (blk_cell BK430.out 0).trans rfl
                  have hcz83_1 : w54.cell? ⟨gb430, 1, none⟩ = some (.string (⟨#[]⟩ : ByteArray)) := (blk_cell BK430.out 1).trans rfl
                  have hcz83_2 : w54.cell? ⟨gb430, 2, none⟩ = some (.int .i64 0) := (blk_cell BK430.out 2).trans rfl
                  have hfz83_0 := blk_frozen BK430.out 0
                  have hfz83_1 := blk_frozen BK430.out 1
                  have hfz83_2 := blk_frozen BK430.out 2
                  go_wp2_with (first | (go_at_call 17; (with_reducible refine (impl_IsValidLog.calls kj10 t425 t426 t427 false _ ?side1 A60.out).mono ?_); (case side1 => exact XTab.below HTAB.out (by repeat (first | (with_reducible first | exact HB.out | apply below_alloc | apply pw_below_drewN | apply below_drew1 | refine below_set ?_ GE404.out | refine below_set ?_ GE418.out | refine below_set ?_ GE424.out | refine below_set ?_ GE430.out) | exact HB.out))); rintro e w84 ⟨rfl, hb⟩; have n0_ := Aside0.mk (blk_below (g := gb404) (o := .cells #[.string t399, .string t400, .int .i64 t401] 33 (0, 0)) (by (with_reducible repeat (first | refine blk_drewN ?_ _ | refine blk_drew ?_ | refine blk_alloc ?_ _)); refine blk_far ?_ NB404_430.out _; (with_reducible repeat (first | refine blk_drewN ?_ _ | refine blk_drew ?_ | refine blk_alloc ?_ _)); refine blk_far ?_ NB404_430.out _; (with_reducible repeat (first | refine blk_drewN ?_ _ | refine blk_drew ?_ | refine blk_alloc ?_ _)); refine blk_far ?_ NB404_430.out _; (with_reducible repeat (first | refine blk_drewN ?_ _ | refine blk_drew ?_ | refine blk_alloc ?_ _)); exact BK404.out) hb); have n1_ := Aside0.mk (blk_below (g := gb418) (o := .cells #[.string t413, .string t414, .int .i64 t415] 33 (0, 0)) (by (with_reducible repeat (first | refine blk_drewN ?_ _ | refine blk_drew ?_ | refine blk_alloc ?_ _)); refine blk_far ?_ NB418_430.out _; (with_reducible repeat (first | refine blk_drewN ?_ _ | refine blk_drew ?_ | refine blk_alloc ?_ _)); refine blk_far ?_ NB418_430.out _; (with_reducible repeat (first | refine blk_drewN ?_ _ | refine blk_drew ?_ | refine blk_alloc ?_ _)); refine blk_far ?_ NB418_430.out _; (with_reducible repeat (first | refine blk_drewN ?_ _ | refine blk_drew ?_ | refine blk_alloc ?_ _)); exact BK418.out) hb); have n2_ := Aside0.mk (blk_below (g := gb424) (o := .cells #[.string t419, .string t420, .int .i64 t421] 33 (0, 0)) (by (with_reducible repeat (first | refine blk_drewN ?_ _ | refine blk_drew ?_ | refine blk_alloc ?_ _)); refine blk_far ?_ NB424_430.out _; (with_reducible repeat (first | refine blk_drewN ?_ _ | refine blk_drew ?_ | refine blk_alloc ?_ _)); refine blk_far ?_ NB424_430.out _; (with_reducible repeat (first | refine blk_drewN ?_ _ | refine blk_drew ?_ | refine blk_alloc ?_ _)); refine blk_far ?_ NB424_430.out _; (with_reducible repeat (first | refine blk_drewN ?_ _ | refine blk_drew ?_ | refine blk_alloc ?_ _)); exact BK424.out) hb); have n3_ := Aside0.mk (blk_below (g := gb430) (o := .cells #[.string t425, .string t426, .int .i64 t427] 33 (0, 0)) (by (with_reducible repeat (first | refine blk_drewN ?_ _ | refine blk_drew ?_ | refine blk_alloc ?_ _)); refine blk_put (cs := #[.string t425, .string t426, .int .i64 0]) ?_ 2 _ rfl; (with_reducible repeat (first | refine blk_drewN ?_ _ | refine blk_drew ?_ | refine blk_alloc ?_ _)); refine blk_put (cs := #[.string t425, .string (⟨#[]⟩ : ByteArray), .int .i64 0]) ?_ 1 _ rfl; (with_reducible repeat (first | refine blk_drewN ?_ _ | refine blk_drew ?_ | refine blk_alloc ?_ _)); refine blk_put (cs := #[.string (⟨#[]⟩ : ByteArray), .string (⟨#[]⟩ : ByteArray), .int .i64 0]) ?_ 0 _ rfl; (with_reducible repeat (first | refine blk_drewN ?_ _ | refine blk_drew ?_ | refine blk_alloc ?_ _)); exact BK430.out) hb); have n4_ := Aside0.mk (below_step (by repeat (first | (with_reducible first | exact HB.out | apply below_alloc | apply pw_below_drewN | apply below_drew1 | refine below_set ?_ GE404.out | refine below_set ?_ GE418.out | refine below_set ?_ GE424.out | refine below_set ?_ GE430.out) | exact HB.out)) hb); clear BK404; clear BK418; clear BK424; clear BK430; clear HB; have BK404 := n0_; have BK418 := n1_; have BK424 := n2_; have BK430 := n3_; have HB := n4_; clear n0_ n1_ n2_ n3_ n4_; (try clear hb); (try clear hb2); (try clear hk); (try clear hi)))
                  go_meet
                  case rel => exact ⟨_, (true), (by first | rfl | (simp; done) | (simp [*]; done)), H', ⟨by have := HJ10.out; first | omega | exact Nat.le_refl _⟩, ⟨by (with_reducible repeat (first | refine blk_drewN ?_ _ | refine blk_drew ?_ | refine blk_alloc ?_ _)); exact BK404.out⟩, ⟨by (with_reducible repeat (first | refine blk_drewN ?_ _ | refine blk_drew ?_ | refine blk_alloc ?_ _)); exact BK418.out⟩, ⟨by (with_reducible repeat (first | refine blk_drewN ?_ _ | refine blk_drew ?_ | refine blk_alloc ?_ _)); exact BK424.out⟩, ⟨by (with_reducible repeat (first | refine blk_drewN ?_ _ | refine blk_drew ?_ | refine blk_alloc ?_ _)); exact BK430.out⟩, ⟨by repeat (first | (with_reducible first | exact HB.out | apply below_alloc | apply pw_below_drewN | apply below_drew1 | refine below_set ?_ GE404.out | refine below_set ?_ GE418.out | refine below_set ?_ GE424.out | refine below_set ?_ GE430.out) | exact HB.out)⟩⟩
              · replace c59 := Bool.eq_false_iff.mpr c59
                subst c59
                have H1 : (laws_FnCrashes.j1 kj10 t402 t403 true t399 t400 t401 t425 t426 t427) = some r := by rw [if_neg (show ¬ (false = true) by decide)] at H; exact H
                clear H
                have H := H1
                clear H1
                have H' := Aside0.mk H
                clear H
                go_wp2
                go_meet
                case rel => exact ⟨_, (true), (by first | rfl | (simp; done) | (simp [*]; done)), H', ⟨by have := HJ10.out; first | omega | exact Nat.le_refl _⟩, ⟨by (with_reducible repeat (first | refine blk_drewN ?_ _ | refine blk_drew ?_ | refine blk_alloc ?_ _)); refine blk_far ?_ NB404_430.out _; (with_reducible repeat (first | refine blk_drewN ?_ _ | refine blk_drew ?_ | refine blk_alloc ?_ _)); refine blk_far ?_ NB404_430.out _; (with_reducible repeat (first | refine blk_drewN ?_ _ | refine blk_drew ?_ | refine blk_alloc ?_ _)); refine blk_far ?_ NB404_430.out _; (with_reducible repeat (first | refine blk_drewN ?_ _ | refine blk_drew ?_ | refine blk_alloc ?_ _)); exact BK404.out⟩, ⟨by (with_reducible repeat (first | refine blk_drewN ?_ _ | refine blk_drew ?_ | refine blk_alloc ?_ _)); refine blk_far ?_ NB418_430.out _; (with_reducible repeat (first | refine blk_drewN ?_ _ | refine blk_drew ?_ | refine blk_alloc ?_ _)); refine blk_far ?_ NB418_430.out _; (with_reducible repeat (first | refine blk_drewN ?_ _ | refine blk_drew ?_ | refine blk_alloc ?_ _)); refine blk_far ?_ NB418_430.out _; (with_reducible repeat (first | refine blk_drewN ?_ _ | refine blk_drew ?_ | refine blk_alloc ?_ _)); exact BK418.out⟩, ⟨by (with_reducible repeat (first | refine blk_drewN ?_ _ | refine blk_drew ?_ | refine blk_alloc ?_ _)); refine blk_far ?_ NB424_430.out _; (with_reducible repeat (first | refine blk_drewN ?_ _ | refine blk_drew ?_ | refine blk_alloc ?_ _)); refine blk_far ?_ NB424_430.out _; (with_reducible repeat (first | refine blk_drewN ?_ _ | refine blk_drew ?_ | refine blk_alloc ?_ _)); refine blk_far ?_ NB424_430.out _; (with_reducible repeat (first | refine blk_drewN ?_ _ | refine blk_drew ?_ | refine blk_alloc ?_ _)); exact BK424.out⟩, ⟨by (with_reducible repeat (first | refine blk_drewN ?_ _ | refine blk_drew ?_ | refine blk_alloc ?_ _)); refine blk_put (cs := #[.string t425, .string t426, .int .i64 0]) ?_ 2 _ rfl; (with_reducible repeat (first | refine blk_drewN ?_ _ | refine blk_drew ?_ | refine blk_alloc ?_ _)); refine blk_put (cs := #[.string t425, .string (⟨#[]⟩ : ByteArray), .int .i64 0]) ?_ 1 _ rfl; (with_reducible repeat (first | refine blk_drewN ?_ _ | refine blk_drew ?_ | refine blk_alloc ?_ _)); refine blk_put (cs := #[.string (⟨#[]⟩ : ByteArray), .string (⟨#[]⟩ : ByteArray), .int .i64 0]) ?_ 0 _ rfl; (with_reducible repeat (first | refine blk_drewN ?_ _ | refine blk_drew ?_ | refine blk_alloc ?_ _)); exact BK430.out⟩, ⟨by repeat (first | (with_reducible first | exact HB.out | apply below_alloc | apply pw_below_drewN | apply below_drew1 | refine below_set ?_ GE404.out | refine below_set ?_ GE418.out | refine below_set ?_ GE424.out | refine below_set ?_ GE430.out) | exact HB.out)⟩⟩
            case rest =>
              clear HC52
              try clear c2
              try clear p2
              try clear c3
              try clear c4
              try clear c5
              try clear c6
              try clear c7
              try clear c8
              try clear c23
              try clear c24
              try clear c25
              try clear c26
              try clear c27
              try clear c28
              try clear c29
              try clear c30
              try clear c30b0
              try clear c30b1
              try clear c31
              try clear c31b0
              try clear c31b1
              try clear c31b2
              try clear c32
              try clear c32b0
              try clear c33
              try clear c34
              try clear c36
              try clear c38
              try clear c38b0
              try clear c38b1
              try clear c39
              try clear c40
              try clear c42
              try clear c44
              try clear c45
              try clear c47
              try clear c49
              try clear c50
              try clear c55
              try clear c56
              try clear c57
              try clear c59
              try clear c61
              try clear c62
              try clear c62b0
              try clear c63
              try clear c64
              try clear c65
              try clear c68
              try clear c69
              try clear c71
              try clear c72
              try clear c73
              try clear c76
              try clear c77
              try clear c80
              try clear c81
              try clear c82
              try clear hcz14_0
              try clear hcz14_1
              try clear hcz14_2
              try clear hcz16_0
              try clear hcz16_1
              try clear hcz16_2
              try clear hcz24_0
              try clear hcz24_1
              try clear hcz24_2
              try clear hcz29_0
              try clear hcz29_1
              try clear hcz29_2
              try clear hcz35_0
              try clear hcz35_1
              try clear hcz35_2
              try clear hcz37_0
              try clear hcz37_1
              try clear hcz37_2
              try clear hcz41_0
              try clear hcz41_1
              try clear hcz41_2
              try clear hcz43_0
              try clear hcz43_1
              try clear hcz43_2
              try clear hcz46_0
              try clear hcz46_1
              try clear hcz46_2
              try clear hcz48_0
              try clear hcz48_1
              try clear hcz48_2
              try clear hcz58_0
              try clear hcz58_1
              try clear hcz58_2
              try clear hcz66_0
              try clear hcz66_1
              try clear hcz66_2
              try clear hcz70_0
              try clear hcz70_1
              try clear hcz70_2
              try clear hcz74_0
              try clear hcz74_1
              try clear hcz74_2
              try clear hcz78_0
              try clear hcz78_1
              try clear hcz78_2
              try clear hcz79_0
              try clear hcz79_1
              try clear hcz79_2
              try clear hcz83_0
              try clear hcz83_1
              try clear hcz83_2
              try clear hfz14_0
              try clear hfz14_1
              try clear hfz14_2
              try clear hfz16_0
              try clear hfz16_1
              try clear hfz16_2
              try clear hfz24_0
              try clear hfz24_1
              try clear hfz24_2
              try clear hfz29_0
              try clear hfz29_1
              try clear hfz29_2
              try clear hfz35_0
              try clear hfz35_1
              try clear hfz35_2
              try clear hfz37_0
              try clear hfz37_1
              try clear hfz37_2
              try clear hfz41_0
              try clear hfz41_1
              try clear hfz41_2
              try clear hfz43_0
              try clear hfz43_1
              try clear hfz43_2
              try clear hfz46_0
              try clear hfz46_1
              try clear hfz46_2
              try clear hfz48_0
              try clear hfz48_1
              try clear hfz48_2
              try clear hfz58_0
              try clear hfz58_1
              try clear hfz58_2
              try clear hfz66_0
              try clear hfz66_1
              try clear hfz66_2
              try clear hfz70_0
              try clear hfz70_1
              try clear hfz70_2
              try clear hfz74_0
              try clear hfz74_1
              try clear hfz74_2
              try clear hfz78_0
              try clear hfz78_1
              try clear hfz78_2
              try clear hfz79_0
              try clear hfz79_1
              try clear hfz79_2
              try clear hfz83_0
              try clear hfz83_1
              try clear hfz83_2
              try clear p2
              obtain ⟨kq, x112_51, rfl, HA, HJ51, BK404, BK418, BK424, BK430, HB⟩ := hcut
              cases kq with
              | zero => exact absurd HA.out (by simp [laws_FnCrashes.j1])
              | succ kj51 =>
                have H := HA.out
                clear HA
                simp only [laws_FnCrashes.j1] at H
                by_cases c85 : x112_51 = true
                · subst c85
                  have H1 : (some false) = some r := by rw [if_pos rfl] at H; exact H
                  clear H
                  have H := H1
                  clear H1
                  obtain rfl := Option.some.inj H
                  go_wp2
                  go_ret
                  exact ⟨by first | rfl | (simp [errW_none, errW_some] <;> rfl) | (simp [*, errW_none, errW_some] <;> rfl), by repeat (first | (with_reducible first | exact HB.out | apply below_alloc | apply pw_below_drewN | apply below_drew1 | refine below_set ?_ GE404.out | refine below_set ?_ GE418.out | refine below_set ?_ GE424.out | refine below_set ?_ GE430.out) | exact HB.out)⟩
                · replace c85 := Bool.eq_false_iff.mpr c85
                  subst c85
                  have H1 : ((impl_LogRecords.f kj51 t399 t400 t401).bind fun bt432 => ((impl_LogRecords.f kj51 t425 t426 t427).bind fun bt436 => (if (bt436.1.length : Int) ≤ (bt432.1.length : Int) then (if 0 ≤ (bt436.1.length : Int) then ((laws_vRecords.f kj51 bt436.1 (bt432.1.take ((bt436.1.length : Int) : Int).toNat)).bind fun t444 => (if t444 = true then (if t403 = true then (some true) else (if t402 < (t400.size : Int) then (some true) else (some ((bt436.1.length : Int) == (bt432.1.length : Int))))) else (some false))) else (none)) else (some false)))) = some r := by rw [if_neg (show ¬ (false = true) by decide)] at H; exact H
                  clear H
                  have H := H1
                  clear H1
                  replace H := Option.bind_eq_some_iff.mp H
                  obtain ⟨⟨t432, t435⟩, A860, H⟩ := H
                  replace H : ((impl_LogRecords.f kj51 t425 t426 t427).bind fun bt436 => (if (bt436.1.length : Int) ≤ (t432.length : Int) then (if 0 ≤ (bt436.1.length : Int) then ((laws_vRecords.f kj51 bt436.1 (t432.take ((bt436.1.length : Int) : Int).toNat)).bind fun t444 => (if t444 = true then (if t403 = true then (some true) else (if t402 < (t400.size : Int) then (some true) else (some ((bt436.1.length : Int) == (t432.length : Int))))) else (some false))) else (none)) else (some false))) = some r := H
                  have A86 := Aside0.mk A860
                  clear A860
                  replace H := Option.bind_eq_some_iff.mp H
                  obtain ⟨⟨t436, t439⟩, A870, H⟩ := H
                  replace H : (if (t436.length : Int) ≤ (t432.length : Int) then (if 0 ≤ (t436.length : Int) then ((laws_vRecords.f kj51 t436 (t432.take ((t436.length : Int) : Int).toNat)).bind fun t444 => (if t444 = true then (if t403 = true then (some true) else (if t402 < (t400.size : Int) then (some true) else (some ((t436.length : Int) == (t432.length : Int))))) else (some false))) else (none)) else (some false)) = some r := H
                  have A87 := Aside0.mk A870
                  clear A870
                  by_cases c88 : (t436.length : Int) ≤ (t432.length : Int)
                  · rw [if_pos c88] at H
                    have c88b0 : decide ((t436.length : Int) ≤ (t432.length : Int)) = true := decide_eq_true c88
                    have c88b1 : decide (t436.length ≤ t432.length) = true := decide_eq_true (Int.ofNat_le.mp c88)
                    clear c88
                    by_cases c89 : 0 ≤ (t436.length : Int)
                    · rw [if_pos c89] at H
                      have c89b0 := eq_true c89
                      have c89b1 : decide (0 ≤ (t436.length : Int)) = true := decide_eq_true c89
                      clear c89
                      have c90b0 := eq_true (of_decide_eq_true (by first | (with_reducible assumption) | assumption) : (t436.length : Int) ≤ (t432.length : Int))
                      obtain ⟨y440, hy440⟩ : ∃ y_ : List (S25), y_ = (t432.take ((t436.length : Int) : Int).toNat) := ⟨_, rfl⟩
                      replace H : ((laws_vRecords.f kj51 t436 y440).bind fun t444 => (if t444 = true then (if t403 = true then (some true) else (if t402 < (t400.size : Int) then (some true) else (some ((t436.length : Int) == (t432.length : Int))))) else (some false))) = some r := by first | (rw [hy440]; with_reducible exact H) | (have H2_ := (Option.bind_some _ _).symm.trans H; rw [hy440]; with_reducible exact H2_) | (have H2_ := (Option.bind_some _ _).symm.trans H; with_reducible exact H2_) | with_reducible exact H | (rw [hy440]; exact H) | exact H
                      have Ny440 := Aside0.mk hy440
                      clear hy440
                      replace H := Option.bind_eq_some_iff.mp H
                      obtain ⟨t444, A910, H⟩ := H
                      replace H : (if t444 = true then (if t403 = true then (some true) else (if t402 < (t400.size : Int) then (some true) else (some ((t436.length : Int) == (t432.length : Int))))) else (some false)) = some r := H
                      have A91 := Aside0.mk A910
                      clear A910
                      by_cases c92 : t444 = true
                      · subst c92
                        have H1 : (if t403 = true then (some true) else (if t402 < (t400.size : Int) then (some true) else (some ((t436.length : Int) == (t432.length : Int))))) = some r := by rw [if_pos rfl] at H; exact H
                        clear H
                        have H := H1
                        clear H1
                        by_cases c93 : t403 = true
                        · subst c93
                          have H1 : (some true) = some r := by rw [if_pos rfl] at H; exact H
                          clear H
                          have H := H1
                          clear H1
                          obtain rfl := Option.some.inj H
                          have hnb94 := NB404_418.out
                          have hnc94 := NB418_404.out
                          have hnb95 := NB404_424.out
                          have hnc95 := NB424_404.out
                          have hnb96 := NB404_430.out
                          have hnc96 := NB430_404.out
                          have hcz97_0 : wc.cell? ⟨gb404, 0, none⟩ = some (.string t399) := (blk_cell BK404.out 0).trans rfl
                          have hcz97_1 : wc.cell? ⟨gb404, 1, none⟩ = some (.string t400) := (blk_cell BK404.out 1).trans rfl
                          have hcz97_2 : wc.cell? ⟨gb404, 2, none⟩ = some (.int .i64 t401) := (blk_cell BK404.out 2).trans rfl
                          have hfz97_0 := blk_frozen BK404.out 0
                          have hfz97_1 := blk_frozen BK404.out 1
                          have hfz97_2 := blk_frozen BK404.out 2
                          go_wp2_with (first | ((with_reducible refine gate_callee (f := 21) rfl ?_); refine goesL_ (some 115) rfl rfl Tryd.func21 (by kernel_rfl) rfl #[.agg #[.string t399, .string t400, .int .i64 t401]] rfl (by (try simp only [List.map_toArray, List.map_cons, List.map_nil]); first | done | rfl | (simp only [List.length_drop, List.length_take]; rfl)) ?_; (with_reducible refine (impl_LogRecords.calls kj51 t399 t400 t401 t432 t435 _ ?side1 A86.out).mono ?_); (case side1 => exact XTab.below HTAB.out (by repeat (first | (with_reducible first | exact HB.out | apply below_alloc | apply pw_below_drewN | apply below_drew1 | refine below_set ?_ GE404.out | refine below_set ?_ GE418.out | refine below_set ?_ GE424.out | refine below_set ?_ GE430.out) | exact HB.out))); rintro e w98 ⟨v433, rfl, ho0, hb⟩; refine ⟨_, rfl, ?_⟩; have n0_ := Aside0.mk (Kd.R_lower ho0 (below_size (by repeat (first | (with_reducible first | exact HB.out | apply below_alloc | apply pw_below_drewN | apply below_drew1 | refine below_set ?_ GE404.out | refine below_set ?_ GE418.out | refine below_set ?_ GE424.out | refine below_set ?_ GE430.out) | exact HB.out)))); have n1_ := Aside0.mk (blk_below (g := gb404) (o := .cells #[.string t399, .string t400, .int .i64 t401] 33 (0, 0)) (by (with_reducible repeat (first | refine blk_drewN ?_ _ | refine blk_drew ?_ | refine blk_alloc ?_ _)); exact BK404.out) hb); have n2_ := Aside0.mk (blk_below (g := gb418) (o := .cells #[.string t413, .string t414, .int .i64 t415] 33 (0, 0)) (by (with_reducible repeat (first | refine blk_drewN ?_ _ | refine blk_drew ?_ | refine blk_alloc ?_ _)); exact BK418.out) hb); have n3_ := Aside0.mk (blk_below (g := gb424) (o := .cells #[.string t419, .string t420, .int .i64 t421] 33 (0, 0)) (by (with_reducible repeat (first | refine blk_drewN ?_ _ | refine blk_drew ?_ | refine blk_alloc ?_ _)); exact BK424.out) hb); have n4_ := Aside0.mk (blk_below (g := gb430) (o := .cells #[.string t425, .string t426, .int .i64 t427] 33 (0, 0)) (by (with_reducible repeat (first | refine blk_drewN ?_ _ | refine blk_drew ?_ | refine blk_alloc ?_ _)); exact BK430.out) hb); have n5_ := Aside0.mk (below_step (by repeat (first | (with_reducible first | exact HB.out | apply below_alloc | apply pw_below_drewN | apply below_drew1 | refine below_set ?_ GE404.out | refine below_set ?_ GE418.out | refine below_set ?_ GE424.out | refine below_set ?_ GE430.out) | exact HB.out)) hb); clear BK404; clear BK418; clear BK424; clear BK430; clear HB; have HO434 := n0_; have BK404 := n1_; have BK418 := n2_; have BK424 := n3_; have BK430 := n4_; have HB := n5_; clear n0_ n1_ n2_ n3_ n4_ n5_; (try clear hb); (try clear hb2); (try clear hk); (try clear hi); (try clear ho0); have hnb99 := NB430_418.out; have hnc99 := NB418_430.out; have hnb100 := NB430_424.out; have hnc100 := NB424_430.out; have hcz101_0 : w98.cell? ⟨gb430, 0, none⟩ = some (.string t425) := (blk_cell BK430.out 0).trans rfl; have hcz101_1 : w98.cell? ⟨gb430, 1, none⟩ = some (.string t426) := (blk_cell BK430.out 1).trans rfl; have hcz101_2 : w98.cell? ⟨gb430, 2, none⟩ = some (.int .i64 t427) := (blk_cell BK430.out 2).trans rfl; have hfz101_0 := blk_frozen BK430.out 0; have hfz101_1 := blk_frozen BK430.out 1; have hfz101_2 := blk_frozen BK430.out 2) | ((with_reducible refine gate_callee (f := 21) rfl ?_); refine goesL_ (some 120) rfl rfl Tryd.func21 (by kernel_rfl) rfl #[.agg #[.string t425, .string t426, .int .i64 t427]] rfl (by (try simp only [List.map_toArray, List.map_cons, List.map_nil]); first | done | rfl | (simp only [List.length_drop, List.length_take]; rfl)) ?_; (with_reducible refine (impl_LogRecords.calls kj51 t425 t426 t427 t436 t439 _ ?side1 A87.out).mono ?_); (case side1 => exact XTab.below HTAB.out (by repeat (first | (with_reducible first | exact HB.out | apply below_alloc | apply pw_below_drewN | apply below_drew1 | refine below_set ?_ GE404.out | refine below_set ?_ GE418.out | refine below_set ?_ GE424.out | refine below_set ?_ GE430.out) | exact HB.out))); rintro e w102 ⟨v437, rfl, ho0, hb⟩; refine ⟨_, rfl, ?_⟩; have n0_ := Aside0.mk (Kd.R_elder' (by (with_reducible repeat (first | apply Kd.R_alloc | apply Kd.R_drewN | apply Kd.R_drew)); exact HO434.out) (Kd.R_base ho0) hb); have n1_ := Aside0.mk (Kd.R_lower (Kd.R_new' ho0 (Kd.R_lt (by (with_reducible repeat (first | apply Kd.R_alloc | apply Kd.R_drewN | apply Kd.R_drew)); exact HO434.out))) (below_size (by repeat (first | (with_reducible first | exact HB.out | apply below_alloc | apply pw_below_drewN | apply below_drew1 | refine below_set ?_ GE404.out | refine below_set ?_ GE418.out | refine below_set ?_ GE424.out | refine below_set ?_ GE430.out) | exact HB.out)))); have n2_ := Aside0.mk (blk_below (g := gb404) (o := .cells #[.string t399, .string t400, .int .i64 t401] 33 (0, 0)) (by (with_reducible repeat (first | refine blk_drewN ?_ _ | refine blk_drew ?_ | refine blk_alloc ?_ _)); exact BK404.out) hb); have n3_ := Aside0.mk (blk_below (g := gb418) (o := .cells #[.string t413, .string t414, .int .i64 t415] 33 (0, 0)) (by (with_reducible repeat (first | refine blk_drewN ?_ _ | refine blk_drew ?_ | refine blk_alloc ?_ _)); exact BK418.out) hb); have n4_ := Aside0.mk (blk_below (g := gb424) (o := .cells #[.string t419, .string t420, .int .i64 t421] 33 (0, 0)) (by (with_reducible repeat (first | refine blk_drewN ?_ _ | refine blk_drew ?_ | refine blk_alloc ?_ _)); exact BK424.out) hb); have n5_ := Aside0.mk (blk_below (g := gb430) (o := .cells #[.string t425, .string t426, .int .i64 t427] 33 (0, 0)) (by (with_reducible repeat (first | refine blk_drewN ?_ _ | refine blk_drew ?_ | refine blk_alloc ?_ _)); exact BK430.out) hb); have n6_ := Aside0.mk (below_step (by repeat (first | (with_reducible first | exact HB.out | apply below_alloc | apply pw_below_drewN | apply below_drew1 | refine below_set ?_ GE404.out | refine below_set ?_ GE418.out | refine below_set ?_ GE424.out | refine below_set ?_ GE430.out) | exact HB.out)) hb); clear HO434; clear BK404; clear BK418; clear BK424; clear BK430; clear HB; have HO434 := n0_; have HO438 := n1_; have BK404 := n2_; have BK418 := n3_; have BK424 := n4_; have BK430 := n5_; have HB := n6_; clear n0_ n1_ n2_ n3_ n4_ n5_ n6_; (try clear hb); (try clear hb2); (try clear hk); (try clear hi); (try clear ho0); obtain ⟨Ao103, co103, eo103⟩ := Kd.R_slice HO438.out; subst eo103; obtain ⟨Ao104, co104, eo104⟩ := Kd.R_slice HO434.out; subst eo104; have q105 : ((t436.length : Int) : Int) ≤ ((t432.length : Int) : Int) := of_decide_eq_true (by first | (with_reducible assumption) | assumption); obtain ⟨i0105, hi0105, _, hsz105, _⟩ := info_parts info25; have hroom105 : t432.length ≤ co104 := (Kd.R_reads' HO434.out).2.1; have hC105 : Kd.C k25 _ Ao104 t432.length t432 := (Kd.R_reads' HO434.out).2.2; have hcut105 := cut_to (P := Tryd.prog) 43 25 .i64 Tryd.underlying43 hi0105 Ao104 t432.length co104 (t436.length : Int) (of_decide_eq_true (by first | (with_reducible assumption) | assumption)) q105 hroom105; have hr105 := Kd.C_take (m := ((t436.length : Int) : Int).toNat) hC105 (by omega); have hy105 : y440.length = ((t436.length : Int) : Int).toNat := (by rw [Ny440.out, List.length_take]; omega); rw [← Ny440.out] at hr105; rw [← hy105] at hcut105; have HR443 := Aside0.mk hr105; have HC443 := Aside0.mk (show y440.length ≤ co104 from by omega); clear hr105 hC105 hroom105 hi0105 hsz105; have KY105 := Aside0.mk hy105; clear hy105; have KL105 := Aside0.mk (show ((t436.length : Int) : Int).toNat ≤ t432.length from by omega); replace q105 := eq_true q105) | (go_at_call 23; (with_reducible refine (laws_vRecords.calls kj51 _ _ t436 _ _ y440 true _ ?side1 ?side2 ?side3 ?side4 A91.out).mono ?_); (case side1 => repeat (first | exact (Kd.R_reads' HO438.out).2.2 | (with_reducible refine Kd.C_alloc ?_ _) | (with_reducible refine Kd.C_drewN ?_ _) | (with_reducible refine Kd.C_drew ?_))); (case side2 => exact (Kd.R_reads' HO438.out).2.1); (case side3 => repeat (first | exact (by repeat (first | (with_reducible exact HR443.out) | (with_reducible refine Kd.C_alloc ?_ _) | (with_reducible refine Kd.C_drewN ?_ _) | (with_reducible refine Kd.C_drew ?_) | exact HR443.out)) | (with_reducible refine Kd.C_alloc ?_ _) | (with_reducible refine Kd.C_drewN ?_ _) | (with_reducible refine Kd.C_drew ?_))); (case side4 => exact HC443.out); rintro e w' ⟨rfl, ⟨nd, rfl⟩⟩))
                          go_ret
                          exact ⟨by first | rfl | (simp [errW_none, errW_some] <;> rfl) | (simp [*, errW_none, errW_some] <;> rfl), by repeat (first | (with_reducible first | exact HB.out | apply below_alloc | apply pw_below_drewN | apply below_drew1 | refine below_set ?_ GE404.out | refine below_set ?_ GE418.out | refine below_set ?_ GE424.out | refine below_set ?_ GE430.out) | exact HB.out)⟩
                        · replace c93 := Bool.eq_false_iff.mpr c93
                          subst c93
                          have H1 : (if t402 < (t400.size : Int) then (some true) else (some ((t436.length : Int) == (t432.length : Int)))) = some r := by rw [if_neg (show ¬ (false = true) by decide)] at H; exact H
                          clear H
                          have H := H1
                          clear H1
                          by_cases c106 : t402 < (t400.size : Int)
                          · rw [if_pos c106] at H
                            have c106b0 : decide (t402 < (t400.size : Int)) = true := decide_eq_true c106
                            clear c106
                            obtain rfl := Option.some.inj H
                            have hnb107 := NB404_418.out
                            have hnc107 := NB418_404.out
                            have hnb108 := NB404_424.out
                            have hnc108 := NB424_404.out
                            have hnb109 := NB404_430.out
                            have hnc109 := NB430_404.out
                            have hcz110_0 : wc.cell? ⟨gb404, 0, none⟩ = some (.string t399) := (blk_cell BK404.out 0).trans rfl
                            have hcz110_1 : wc.cell? ⟨gb404, 1, none⟩ = some (.string t400) := (blk_cell BK404.out 1).trans rfl
                            have hcz110_2 : wc.cell? ⟨gb404, 2, none⟩ = some (.int .i64 t401) := (blk_cell BK404.out 2).trans rfl
                            have hfz110_0 := blk_frozen BK404.out 0
                            have hfz110_1 := blk_frozen BK404.out 1
                            have hfz110_2 := blk_frozen BK404.out 2
                            go_wp2_with (first | ((with_reducible refine gate_callee (f := 21) rfl ?_); refine goesL_ (some 115) rfl rfl Tryd.func21 (by kernel_rfl) rfl #[.agg #[.string t399, .string t400, .int .i64 t401]] rfl (by (try simp only [List.map_toArray, List.map_cons, List.map_nil]); first | done | rfl | (simp only [List.length_drop, List.length_take]; rfl)) ?_; (with_reducible refine (impl_LogRecords.calls kj51 t399 t400 t401 t432 t435 _ ?side1 A86.out).mono ?_); (case side1 => exact XTab.below HTAB.out (by repeat (first | (with_reducible first | exact HB.out | apply below_alloc | apply pw_below_drewN | apply below_drew1 | refine below_set ?_ GE404.out | refine below_set ?_ GE418.out | refine below_set ?_ GE424.out | refine below_set ?_ GE430.out) | exact HB.out))); rintro e w111 ⟨v433, rfl, ho0, hb⟩; refine ⟨_, rfl, ?_⟩; have n0_ := Aside0.mk (Kd.R_lower ho0 (below_size (by repeat (first | (with_reducible first | exact HB.out | apply below_alloc | apply pw_below_drewN | apply below_drew1 | refine below_set ?_ GE404.out | refine below_set ?_ GE418.out | refine below_set ?_ GE424.out | refine below_set ?_ GE430.out) | exact HB.out)))); have n1_ := Aside0.mk (blk_below (g := gb404) (o := .cells #[.string t399, .string t400, .int .i64 t401] 33 (0, 0)) (by (with_reducible repeat (first | refine blk_drewN ?_ _ | refine blk_drew ?_ | refine blk_alloc ?_ _)); exact BK404.out) hb); have n2_ := Aside0.mk (blk_below (g := gb418) (o := .cells #[.string t413, .string t414, .int .i64 t415] 33 (0, 0)) (by (with_reducible repeat (first | refine blk_drewN ?_ _ | refine blk_drew ?_ | refine blk_alloc ?_ _)); exact BK418.out) hb); have n3_ := Aside0.mk (blk_below (g := gb424) (o := .cells #[.string t419, .string t420, .int .i64 t421] 33 (0, 0)) (by (with_reducible repeat (first | refine blk_drewN ?_ _ | refine blk_drew ?_ | refine blk_alloc ?_ _)); exact BK424.out) hb); have n4_ := Aside0.mk (blk_below (g := gb430) (o := .cells #[.string t425, .string t426, .int .i64 t427] 33 (0, 0)) (by (with_reducible repeat (first | refine blk_drewN ?_ _ | refine blk_drew ?_ | refine blk_alloc ?_ _)); exact BK430.out) hb); have n5_ := Aside0.mk (below_step (by repeat (first | (with_reducible first | exact HB.out | apply below_alloc | apply pw_below_drewN | apply below_drew1 | refine below_set ?_ GE404.out | refine below_set ?_ GE418.out | refine below_set ?_ GE424.out | refine below_set ?_ GE430.out) | exact HB.out)) hb); clear BK404; clear BK418; clear BK424; clear BK430; clear HB; have HO434 := n0_; have BK404 := n1_; have BK418 := n2_; have BK424 := n3_; have BK430 := n4_; have HB := n5_; clear n0_ n1_ n2_ n3_ n4_ n5_; (try clear hb); (try clear hb2); (try clear hk); (try clear hi); (try clear ho0); have hnb112 := NB430_418.out; have hnc112 := NB418_430.out; have hnb113 := NB430_424.out; have hnc113 := NB424_430.out; have hcz114_0 : w111.cell? ⟨gb430, 0, none⟩ = some (.string t425) := (blk_cell BK430.out 0).trans rfl; have hcz114_1 : w111.cell? ⟨gb430, 1, none⟩ = some (.string t426) := (blk_cell BK430.out 1).trans rfl; have hcz114_2 : w111.cell? ⟨gb430, 2, none⟩ = some (.int .i64 t427) := (blk_cell BK430.out 2).trans rfl; have hfz114_0 := blk_frozen BK430.out 0; have hfz114_1 := blk_frozen BK430.out 1; have hfz114_2 := blk_frozen BK430.out 2) | ((with_reducible refine gate_callee (f := 21) rfl ?_); refine goesL_ (some 120) rfl rfl Tryd.func21 (by kernel_rfl) rfl #[.agg #[.string t425, .string t426, .int .i64 t427]] rfl (by (try simp only [List.map_toArray, List.map_cons, List.map_nil]); first | done | rfl | (simp only [List.length_drop, List.length_take]; rfl)) ?_; (with_reducible refine (impl_LogRecords.calls kj51 t425 t426 t427 t436 t439 _ ?side1 A87.out).mono ?_); (case side1 => exact XTab.below HTAB.out (by repeat (first | (with_reducible first | exact HB.out | apply below_alloc | apply pw_below_drewN | apply below_drew1 | refine below_set ?_ GE404.out | refine below_set ?_ GE418.out | refine below_set ?_ GE424.out | refine below_set ?_ GE430.out) | exact HB.out))); rintro e w115 ⟨v437, rfl, ho0, hb⟩; refine ⟨_, rfl, ?_⟩; have n0_ := Aside0.mk (Kd.R_elder' (by (with_reducible repeat (first | apply Kd.R_alloc | apply Kd.R_drewN | apply Kd.R_drew)); exact HO434.out) (Kd.R_base ho0) hb); have n1_ := Aside0.mk (Kd.R_lower (Kd.R_new' ho0 (Kd.R_lt (by (with_reducible repeat (first | apply Kd.R_alloc | apply Kd.R_drewN | apply Kd.R_drew)); exact HO434.out))) (below_size (by repeat (first | (with_reducible first | exact HB.out | apply below_alloc | apply pw_below_drewN | apply below_drew1 | refine below_set ?_ GE404.out | refine below_set ?_ GE418.out | refine below_set ?_ GE424.out | refine below_set ?_ GE430.out) | exact HB.out)))); have n2_ := Aside0.mk (blk_below (g := gb404) (o := .cells #[.string t399, .string t400, .int .i64 t401] 33 (0, 0)) (by (with_reducible repeat (first | refine blk_drewN ?_ _ | refine blk_drew ?_ | refine blk_alloc ?_ _)); exact BK404.out) hb); have n3_ := Aside0.mk (blk_below (g := gb418) (o := .cells #[.string t413, .string t414, .int .i64 t415] 33 (0, 0)) (by (with_reducible repeat (first | refine blk_drewN ?_ _ | refine blk_drew ?_ | refine blk_alloc ?_ _)); exact BK418.out) hb); have n4_ := Aside0.mk (blk_below (g := gb424) (o := .cells #[.string t419, .string t420, .int .i64 t421] 33 (0, 0)) (by (with_reducible repeat (first | refine blk_drewN ?_ _ | refine blk_drew ?_ | refine blk_alloc ?_ _)); exact BK424.out) hb); have n5_ := Aside0.mk (blk_below (g := gb430) (o := .cells #[.string t425, .string t426, .int .i64 t427] 33 (0, 0)) (by (with_reducible repeat (first | refine blk_drewN ?_ _ | refine blk_drew ?_ | refine blk_alloc ?_ _)); exact BK430.out) hb); have n6_ := Aside0.mk (below_step (by repeat (first | (with_reducible first | exact HB.out | apply below_alloc | apply pw_below_drewN | apply below_drew1 | refine below_set ?_ GE404.out | refine below_set ?_ GE418.out | refine below_set ?_ GE424.out | refine below_set ?_ GE430.out) | exact HB.out)) hb); clear HO434; clear BK404; clear BK418; clear BK424; clear BK430; clear HB; have HO434 := n0_; have HO438 := n1_; have BK404 := n2_; have BK418 := n3_; have BK424 := n4_; have BK430 := n5_; have HB := n6_; clear n0_ n1_ n2_ n3_ n4_ n5_ n6_; (try clear hb); (try clear hb2); (try clear hk); (try clear hi); (try clear ho0); obtain ⟨Ao116, co116, eo116⟩ := Kd.R_slice HO438.out; subst eo116; obtain ⟨Ao117, co117, eo117⟩ := Kd.R_slice HO434.out; subst eo117; have q118 : ((t436.length : Int) : Int) ≤ ((t432.length : Int) : Int) := of_decide_eq_true (by first | (with_reducible assumption) | assumption); obtain ⟨i0118, hi0118, _, hsz118, _⟩ := info_parts info25; have hroom118 : t432.length ≤ co117 := (Kd.R_reads' HO434.out).2.1; have hC118 : Kd.C k25 _ Ao117 t432.length t432 := (Kd.R_reads' HO434.out).2.2; have hcut118 := cut_to (P := Tryd.prog) 43 25 .i64 Tryd.underlying43 hi0118 Ao117 t432.length co117 (t436.length : Int) (of_decide_eq_true (by first | (with_reducible assumption) | assumption)) q118 hroom118; have hr118 := Kd.C_take (m := ((t436.length : Int) : Int).toNat) hC118 (by omega); have hy118 : y440.length = ((t436.length : Int) : Int).toNat := (by rw [Ny440.out, List.length_take]; omega); rw [← Ny440.out] at hr118; rw [← hy118] at hcut118; have HR443 := Aside0.mk hr118; have HC443 := Aside0.mk (show y440.length ≤ co117 from by omega); clear hr118 hC118 hroom118 hi0118 hsz118; have KY118 := Aside0.mk hy118; clear hy118; have KL118 := Aside0.mk (show ((t436.length : Int) : Int).toNat ≤ t432.length from by omega); replace q118 := eq_true q118) | (go_at_call 23; (with_reducible refine (laws_vRecords.calls kj51 _ _ t436 _ _ y440 true _ ?side1 ?side2 ?side3 ?side4 A91.out).mono ?_); (case side1 => repeat (first | exact (Kd.R_reads' HO438.out).2.2 | (with_reducible refine Kd.C_alloc ?_ _) | (with_reducible refine Kd.C_drewN ?_ _) | (with_reducible refine Kd.C_drew ?_))); (case side2 => exact (Kd.R_reads' HO438.out).2.1); (case side3 => repeat (first | exact (by repeat (first | (with_reducible exact HR443.out) | (with_reducible refine Kd.C_alloc ?_ _) | (with_reducible refine Kd.C_drewN ?_ _) | (with_reducible refine Kd.C_drew ?_) | exact HR443.out)) | (with_reducible refine Kd.C_alloc ?_ _) | (with_reducible refine Kd.C_drewN ?_ _) | (with_reducible refine Kd.C_drew ?_))); (case side4 => exact HC443.out); rintro e w' ⟨rfl, ⟨nd, rfl⟩⟩; have hcz119_0 : w115.cell? ⟨gb404, 0, none⟩ = some (.string t399) := (blk_cell BK404.out 0).trans rfl; have hcz119_1 : w115.cell? ⟨gb404, 1, none⟩ = some (.string t400) := (blk_cell BK404.out 1).trans rfl; have hcz119_2 : w115.cell? ⟨gb404, 2, none⟩ = some (.int .i64 t401) := (blk_cell BK404.out 2).trans rfl; have hfz119_0 := blk_frozen BK404.out 0; have hfz119_1 := blk_frozen BK404.out 1; have hfz119_2 := blk_frozen BK404.out 2))
                            go_ret
                            exact ⟨by first | rfl | (simp [errW_none, errW_some] <;> rfl) | (simp [*, errW_none, errW_some] <;> rfl), by repeat (first | (with_reducible first | exact HB.out | apply below_alloc | apply pw_below_drewN | apply below_drew1 | refine below_set ?_ GE404.out | refine below_set ?_ GE418.out | refine below_set ?_ GE424.out | refine below_set ?_ GE430.out) | exact HB.out)⟩
                          · rw [if_neg c106] at H
                            have c106b0 : decide (t402 < (t400.size : Int)) = false := decide_eq_false c106
                            clear c106
                            obtain rfl := Option.some.inj H
                            have hnb120 := NB404_418.out
                            have hnc120 := NB418_404.out
                            have hnb121 := NB404_424.out
                            have hnc121 := NB424_404.out
                            have hnb122 := NB404_430.out
                            have hnc122 := NB430_404.out
                            have hcz123_0 : wc.cell? ⟨gb404, 0, none⟩ = some (.string t399) := (blk_cell BK404.out 0).trans rfl
                            have hcz123_1 : wc.cell? ⟨gb404, 1, none⟩ = some (.string t400) := (blk_cell BK404.out 1).trans rfl
                            have hcz123_2 : wc.cell? ⟨gb404, 2, none⟩ = some (.int .i64 t401) := (blk_cell BK404.out 2).trans rfl
                            have hfz123_0 := blk_frozen BK404.out 0
                            have hfz123_1 := blk_frozen BK404.out 1
                            have hfz123_2 := blk_frozen BK404.out 2
                            go_wp2_with (first | ((with_reducible refine gate_callee (f := 21) rfl ?_); refine goesL_ (some 115) rfl rfl Tryd.func21 (by kernel_rfl) rfl #[.agg #[.string t399, .string t400, .int .i64 t401]] rfl (by (try simp only [List.map_toArray, List.map_cons, List.map_nil]); first | done | rfl | (simp only [List.length_drop, List.length_take]; rfl)) ?_; (with_reducible refine (impl_LogRecords.calls kj51 t399 t400 t401 t432 t435 _ ?side1 A86.out).mono ?_); (case side1 => exact XTab.below HTAB.out (by repeat (first | (with_reducible first | exact HB.out | apply below_alloc | apply pw_below_drewN | apply below_drew1 | refine below_set ?_ GE404.out | refine below_set ?_ GE418.out | refine below_set ?_ GE424.out | refine below_set ?_ GE430.out) | exact HB.out))); rintro e w124 ⟨v433, rfl, ho0, hb⟩; refine ⟨_, rfl, ?_⟩; have n0_ := Aside0.mk (Kd.R_lower ho0 (below_size (by repeat (first | (with_reducible first | exact HB.out | apply below_alloc | apply pw_below_drewN | apply below_drew1 | refine below_set ?_ GE404.out | refine below_set ?_ GE418.out | refine below_set ?_ GE424.out | refine below_set ?_ GE430.out) | exact HB.out)))); have n1_ := Aside0.mk (blk_below (g := gb404) (o := .cells #[.string t399, .string t400, .int .i64 t401] 33 (0, 0)) (by (with_reducible repeat (first | refine blk_drewN ?_ _ | refine blk_drew ?_ | refine blk_alloc ?_ _)); exact BK404.out) hb); have n2_ := Aside0.mk (blk_below (g := gb418) (o := .cells #[.string t413, .string t414, .int .i64 t415] 33 (0, 0)) (by (with_reducible repeat (first | refine blk_drewN ?_ _ | refine blk_drew ?_ | refine blk_alloc ?_ _)); exact BK418.out) hb); have n3_ := Aside0.mk (blk_below (g := gb424) (o := .cells #[.string t419, .string t420, .int .i64 t421] 33 (0, 0)) (by (with_reducible repeat (first | refine blk_drewN ?_ _ | refine blk_drew ?_ | refine blk_alloc ?_ _)); exact BK424.out) hb); have n4_ := Aside0.mk (blk_below (g := gb430) (o := .cells #[.string t425, .string t426, .int .i64 t427] 33 (0, 0)) (by (with_reducible repeat (first | refine blk_drewN ?_ _ | refine blk_drew ?_ | refine blk_alloc ?_ _)); exact BK430.out) hb); have n5_ := Aside0.mk (below_step (by repeat (first | (with_reducible first | exact HB.out | apply below_alloc | apply pw_below_drewN | apply below_drew1 | refine below_set ?_ GE404.out | refine below_set ?_ GE418.out | refine below_set ?_ GE424.out | refine below_set ?_ GE430.out) | exact HB.out)) hb); clear BK404; clear BK418; clear BK424; clear BK430; clear HB; have HO434 := n0_; have BK404 := n1_; have BK418 := n2_; have BK424 := n3_; have BK430 := n4_; have HB := n5_; clear n0_ n1_ n2_ n3_ n4_ n5_; (try clear hb); (try clear hb2); (try clear hk); (try clear hi); (try clear ho0); have hnb125 := NB430_418.out; have hnc125 := NB418_430.out; have hnb126 := NB430_424.out; have hnc126 := NB424_430.out; have hcz127_0 : w124.cell? ⟨gb430, 0, none⟩ = some (.string t425) := (blk_cell BK430.out 0).trans rfl; have hcz127_1 : w124.cell? ⟨gb430, 1, none⟩ = some (.string t426) := (blk_cell BK430.out 1).trans rfl; have hcz127_2 : w124.cell? ⟨gb430, 2, none⟩ = some (.int .i64 t427) := (blk_cell BK430.out 2).trans rfl; have hfz127_0 := blk_frozen BK430.out 0; have hfz127_1 := blk_frozen BK430.out 1; have hfz127_2 := blk_frozen BK430.out 2) | ((with_reducible refine gate_callee (f := 21) rfl ?_); refine goesL_ (some 120) rfl rfl Tryd.func21 (by kernel_rfl) rfl #[.agg #[.string t425, .string t426, .int .i64 t427]] rfl (by (try simp only [List.map_toArray, List.map_cons, List.map_nil]); first | done | rfl | (simp only [List.length_drop, List.length_take]; rfl)) ?_; (with_reducible refine (impl_LogRecords.calls kj51 t425 t426 t427 t436 t439 _ ?side1 A87.out).mono ?_); (case side1 => exact XTab.below HTAB.out (by repeat (first | (with_reducible first | exact HB.out | apply below_alloc | apply pw_below_drewN | apply below_drew1 | refine below_set ?_ GE404.out | refine below_set ?_ GE418.out | refine below_set ?_ GE424.out | refine below_set ?_ GE430.out) | exact HB.out))); rintro e w128 ⟨v437, rfl, ho0, hb⟩; refine ⟨_, rfl, ?_⟩; have n0_ := Aside0.mk (Kd.R_elder' (by (with_reducible repeat (first | apply Kd.R_alloc | apply Kd.R_drewN | apply Kd.R_drew)); exact HO434.out) (Kd.R_base ho0) hb); have n1_ := Aside0.mk (Kd.R_lower (Kd.R_new' ho0 (Kd.R_lt (by (with_reducible repeat (first | apply Kd.R_alloc | apply Kd.R_drewN | apply Kd.R_drew)); exact HO434.out))) (below_size (by repeat (first | (with_reducible first | exact HB.out | apply below_alloc | apply pw_below_drewN | apply below_drew1 | refine below_set ?_ GE404.out | refine below_set ?_ GE418.out | refine below_set ?_ GE424.out | refine below_set ?_ GE430.out) | exact HB.out)))); have n2_ := Aside0.mk (blk_below (g := gb404) (o := .cells #[.string t399, .string t400, .int .i64 t401] 33 (0, 0)) (by (with_reducible repeat (first | refine blk_drewN ?_ _ | refine blk_drew ?_ | refine blk_alloc ?_ _)); exact BK404.out) hb); have n3_ := Aside0.mk (blk_below (g := gb418) (o := .cells #[.string t413, .string t414, .int .i64 t415] 33 (0, 0)) (by (with_reducible repeat (first | refine blk_drewN ?_ _ | refine blk_drew ?_ | refine blk_alloc ?_ _)); exact BK418.out) hb); have n4_ := Aside0.mk (blk_below (g := gb424) (o := .cells #[.string t419, .string t420, .int .i64 t421] 33 (0, 0)) (by (with_reducible repeat (first | refine blk_drewN ?_ _ | refine blk_drew ?_ | refine blk_alloc ?_ _)); exact BK424.out) hb); have n5_ := Aside0.mk (blk_below (g := gb430) (o := .cells #[.string t425, .string t426, .int .i64 t427] 33 (0, 0)) (by (with_reducible repeat (first | refine blk_drewN ?_ _ | refine blk_drew ?_ | refine blk_alloc ?_ _)); exact BK430.out) hb); have n6_ := Aside0.mk (below_step (by repeat (first | (with_reducible first | exact HB.out | apply below_alloc | apply pw_below_drewN | apply below_drew1 | refine below_set ?_ GE404.out | refine below_set ?_ GE418.out | refine below_set ?_ GE424.out | refine below_set ?_ GE430.out) | exact HB.out)) hb); clear HO434; clear BK404; clear BK418; clear BK424; clear BK430; clear HB; have HO434 := n0_; have HO438 := n1_; have BK404 := n2_; have BK418 := n3_; have BK424 := n4_; have BK430 := n5_; have HB := n6_; clear n0_ n1_ n2_ n3_ n4_ n5_ n6_; (try clear hb); (try clear hb2); (try clear hk); (try clear hi); (try clear ho0); obtain ⟨Ao129, co129, eo129⟩ := Kd.R_slice HO438.out; subst eo129; obtain ⟨Ao130, co130, eo130⟩ := Kd.R_slice HO434.out; subst eo130; have q131 : ((t436.length : Int) : Int) ≤ ((t432.length : Int) : Int) := of_decide_eq_true (by first | (with_reducible assumption) | assumption); obtain ⟨i0131, hi0131, _, hsz131, _⟩ := info_parts info25; have hroom131 : t432.length ≤ co130 := (Kd.R_reads' HO434.out).2.1; have hC131 : Kd.C k25 _ Ao130 t432.length t432 := (Kd.R_reads' HO434.out).2.2; have hcut131 := cut_to (P := Tryd.prog) 43 25 .i64 Tryd.underlying43 hi0131 Ao130 t432.length co130 (t436.length : Int) (of_decide_eq_true (by first | (with_reducible assumption) | assumption)) q131 hroom131; have hr131 := Kd.C_take (m := ((t436.length : Int) : Int).toNat) hC131 (by omega); have hy131 : y440.length = ((t436.length : Int) : Int).toNat := (by rw [Ny440.out, List.length_take]; omega); rw [← Ny440.out] at hr131; rw [← hy131] at hcut131; have HR443 := Aside0.mk hr131; have HC443 := Aside0.mk (show y440.length ≤ co130 from by omega); clear hr131 hC131 hroom131 hi0131 hsz131; have KY131 := Aside0.mk hy131; clear hy131; have KL131 := Aside0.mk (show ((t436.length : Int) : Int).toNat ≤ t432.length from by omega); replace q131 := eq_true q131) | (go_at_call 23; (with_reducible refine (laws_vRecords.calls kj51 _ _ t436 _ _ y440 true _ ?side1 ?side2 ?side3 ?side4 A91.out).mono ?_); (case side1 => repeat (first | exact (Kd.R_reads' HO438.out).2.2 | (with_reducible refine Kd.C_alloc ?_ _) | (with_reducible refine Kd.C_drewN ?_ _) | (with_reducible refine Kd.C_drew ?_))); (case side2 => exact (Kd.R_reads' HO438.out).2.1); (case side3 => repeat (first | exact (by repeat (first | (with_reducible exact HR443.out) | (with_reducible refine Kd.C_alloc ?_ _) | (with_reducible refine Kd.C_drewN ?_ _) | (with_reducible refine Kd.C_drew ?_) | exact HR443.out)) | (with_reducible refine Kd.C_alloc ?_ _) | (with_reducible refine Kd.C_drewN ?_ _) | (with_reducible refine Kd.C_drew ?_))); (case side4 => exact HC443.out); rintro e w' ⟨rfl, ⟨nd, rfl⟩⟩; have hcz132_0 : w128.cell? ⟨gb404, 0, none⟩ = some (.string t399) := (blk_cell BK404.out 0).trans rfl; have hcz132_1 : w128.cell? ⟨gb404, 1, none⟩ = some (.string t400) := (blk_cell BK404.out 1).trans rfl; have hcz132_2 : w128.cell? ⟨gb404, 2, none⟩ = some (.int .i64 t401) := (blk_cell BK404.out 2).trans rfl; have hfz132_0 := blk_frozen BK404.out 0; have hfz132_1 := blk_frozen BK404.out 1; have hfz132_2 := blk_frozen BK404.out 2))
                            go_ret
                            exact ⟨by first | rfl | (simp [errW_none, errW_some] <;> rfl) | (simp [*, errW_none, errW_some] <;> rfl), by repeat (first | (with_reducible first | exact HB.out | apply below_alloc | apply pw_below_drewN | apply below_drew1 | refine below_set ?_ GE404.out | refine below_set ?_ GE418.out | refine below_set ?_ GE424.out | refine below_set ?_ GE430.out) | exact HB.out)⟩
                      · replace c92 := Bool.eq_false_iff.mpr c92
                        subst c92
                        have H1 : (some false) = some r := by rw [if_neg (show ¬ (false = true) by decide)] at H; exact H
                        clear H
                        have H := H1
                        clear H1
                        obtain rfl := Option.some.inj H
                        have hnb133 := NB404_418.out
                        have hnc133 := NB418_404.out
                        have hnb134 := NB404_424.out
                        have hnc134 := NB424_404.out
                        have hnb135 := NB404_430.out
                        have hnc135 := NB430_404.out
                        have hcz136_0 : wc.cell? ⟨gb404, 0, none⟩ = some (.string t399) := (blk_cell BK404.out 0).trans rfl
                        have hcz136_1 : wc.cell? ⟨gb404, 1, none⟩ = some (.string t400) := (blk_cell BK404.out 1).trans rfl
                        have hcz136_2 : wc.cell? ⟨gb404, 2, none⟩ = some (.int .i64 t401) := (blk_cell BK404.out 2).trans rfl
                        have hfz136_0 := blk_frozen BK404.out 0
                        have hfz136_1 := blk_frozen BK404.out 1
                        have hfz136_2 := blk_frozen BK404.out 2
                        go_wp2_with (first | ((with_reducible refine gate_callee (f := 21) rfl ?_); refine goesL_ (some 115) rfl rfl Tryd.func21 (by kernel_rfl) rfl #[.agg #[.string t399, .string t400, .int .i64 t401]] rfl (by (try simp only [List.map_toArray, List.map_cons, List.map_nil]); first | done | rfl | (simp only [List.length_drop, List.length_take]; rfl)) ?_; (with_reducible refine (impl_LogRecords.calls kj51 t399 t400 t401 t432 t435 _ ?side1 A86.out).mono ?_); (case side1 => exact XTab.below HTAB.out (by repeat (first | (with_reducible first | exact HB.out | apply below_alloc | apply pw_below_drewN | apply below_drew1 | refine below_set ?_ GE404.out | refine below_set ?_ GE418.out | refine below_set ?_ GE424.out | refine below_set ?_ GE430.out) | exact HB.out))); rintro e w137 ⟨v433, rfl, ho0, hb⟩; refine ⟨_, rfl, ?_⟩; have n0_ := Aside0.mk (Kd.R_lower ho0 (below_size (by repeat (first | (with_reducible first | exact HB.out | apply below_alloc | apply pw_below_drewN | apply below_drew1 | refine below_set ?_ GE404.out | refine below_set ?_ GE418.out | refine below_set ?_ GE424.out | refine below_set ?_ GE430.out) | exact HB.out)))); have n1_ := Aside0.mk (blk_below (g := gb404) (o := .cells #[.string t399, .string t400, .int .i64 t401] 33 (0, 0)) (by (with_reducible repeat (first | refine blk_drewN ?_ _ | refine blk_drew ?_ | refine blk_alloc ?_ _)); exact BK404.out) hb); have n2_ := Aside0.mk (blk_below (g := gb418) (o := .cells #[.string t413, .string t414, .int .i64 t415] 33 (0, 0)) (by (with_reducible repeat (first | refine blk_drewN ?_ _ | refine blk_drew ?_ | refine blk_alloc ?_ _)); exact BK418.out) hb); have n3_ := Aside0.mk (blk_below (g := gb424) (o := .cells #[.string t419, .string t420, .int .i64 t421] 33 (0, 0)) (by (with_reducible repeat (first | refine blk_drewN ?_ _ | refine blk_drew ?_ | refine blk_alloc ?_ _)); exact BK424.out) hb); have n4_ := Aside0.mk (blk_below (g := gb430) (o := .cells #[.string t425, .string t426, .int .i64 t427] 33 (0, 0)) (by (with_reducible repeat (first | refine blk_drewN ?_ _ | refine blk_drew ?_ | refine blk_alloc ?_ _)); exact BK430.out) hb); have n5_ := Aside0.mk (below_step (by repeat (first | (with_reducible first | exact HB.out | apply below_alloc | apply pw_below_drewN | apply below_drew1 | refine below_set ?_ GE404.out | refine below_set ?_ GE418.out | refine below_set ?_ GE424.out | refine below_set ?_ GE430.out) | exact HB.out)) hb); clear BK404; clear BK418; clear BK424; clear BK430; clear HB; have HO434 := n0_; have BK404 := n1_; have BK418 := n2_; have BK424 := n3_; have BK430 := n4_; have HB := n5_; clear n0_ n1_ n2_ n3_ n4_ n5_; (try clear hb); (try clear hb2); (try clear hk); (try clear hi); (try clear ho0); have hnb138 := NB430_418.out; have hnc138 := NB418_430.out; have hnb139 := NB430_424.out; have hnc139 := NB424_430.out; have hcz140_0 : w137.cell? ⟨gb430, 0, none⟩ = some (.string t425) := (blk_cell BK430.out 0).trans rfl; have hcz140_1 : w137.cell? ⟨gb430, 1, none⟩ = some (.string t426) := (blk_cell BK430.out 1).trans rfl; have hcz140_2 : w137.cell? ⟨gb430, 2, none⟩ = some (.int .i64 t427) := (blk_cell BK430.out 2).trans rfl; have hfz140_0 := blk_frozen BK430.out 0; have hfz140_1 := blk_frozen BK430.out 1; have hfz140_2 := blk_frozen BK430.out 2) | ((with_reducible refine gate_callee (f := 21) rfl ?_); refine goesL_ (some 120) rfl rfl Tryd.func21 (by kernel_rfl) rfl #[.agg #[.string t425, .string t426, .int .i64 t427]] rfl (by (try simp only [List.map_toArray, List.map_cons, List.map_nil]); first | done | rfl | (simp only [List.length_drop, List.length_take]; rfl)) ?_; (with_reducible refine (impl_LogRecords.calls kj51 t425 t426 t427 t436 t439 _ ?side1 A87.out).mono ?_); (case side1 => exact XTab.below HTAB.out (by repeat (first | (with_reducible first | exact HB.out | apply below_alloc | apply pw_below_drewN | apply below_drew1 | refine below_set ?_ GE404.out | refine below_set ?_ GE418.out | refine below_set ?_ GE424.out | refine below_set ?_ GE430.out) | exact HB.out))); rintro e w141 ⟨v437, rfl, ho0, hb⟩; refine ⟨_, rfl, ?_⟩; have n0_ := Aside0.mk (Kd.R_elder' (by (with_reducible repeat (first | apply Kd.R_alloc | apply Kd.R_drewN | apply Kd.R_drew)); exact HO434.out) (Kd.R_base ho0) hb); have n1_ := Aside0.mk (Kd.R_lower (Kd.R_new' ho0 (Kd.R_lt (by (with_reducible repeat (first | apply Kd.R_alloc | apply Kd.R_drewN | apply Kd.R_drew)); exact HO434.out))) (below_size (by repeat (first | (with_reducible first | exact HB.out | apply below_alloc | apply pw_below_drewN | apply below_drew1 | refine below_set ?_ GE404.out | refine below_set ?_ GE418.out | refine below_set ?_ GE424.out | refine below_set ?_ GE430.out) | exact HB.out)))); have n2_ := Aside0.mk (blk_below (g := gb404) (o := .cells #[.string t399, .string t400, .int .i64 t401] 33 (0, 0)) (by (with_reducible repeat (first | refine blk_drewN ?_ _ | refine blk_drew ?_ | refine blk_alloc ?_ _)); exact BK404.out) hb); have n3_ := Aside0.mk (blk_below (g := gb418) (o := .cells #[.string t413, .string t414, .int .i64 t415] 33 (0, 0)) (by (with_reducible repeat (first | refine blk_drewN ?_ _ | refine blk_drew ?_ | refine blk_alloc ?_ _)); exact BK418.out) hb); have n4_ := Aside0.mk (blk_below (g := gb424) (o := .cells #[.string t419, .string t420, .int .i64 t421] 33 (0, 0)) (by (with_reducible repeat (first | refine blk_drewN ?_ _ | refine blk_drew ?_ | refine blk_alloc ?_ _)); exact BK424.out) hb); have n5_ := Aside0.mk (blk_below (g := gb430) (o := .cells #[.string t425, .string t426, .int .i64 t427] 33 (0, 0)) (by (with_reducible repeat (first | refine blk_drewN ?_ _ | refine blk_drew ?_ | refine blk_alloc ?_ _)); exact BK430.out) hb); have n6_ := Aside0.mk (below_step (by repeat (first | (with_reducible first | exact HB.out | apply below_alloc | apply pw_below_drewN | apply below_drew1 | refine below_set ?_ GE404.out | refine below_set ?_ GE418.out | refine below_set ?_ GE424.out | refine below_set ?_ GE430.out) | exact HB.out)) hb); clear HO434; clear BK404; clear BK418; clear BK424; clear BK430; clear HB; have HO434 := n0_; have HO438 := n1_; have BK404 := n2_; have BK418 := n3_; have BK424 := n4_; have BK430 := n5_; have HB := n6_; clear n0_ n1_ n2_ n3_ n4_ n5_ n6_; (try clear hb); (try clear hb2); (try clear hk); (try clear hi); (try clear ho0); obtain ⟨Ao142, co142, eo142⟩ := Kd.R_slice HO438.out; subst eo142; obtain ⟨Ao143, co143, eo143⟩ := Kd.R_slice HO434.out; subst eo143; have q144 : ((t436.length : Int) : Int) ≤ ((t432.length : Int) : Int) := of_decide_eq_true (by first | (with_reducible assumption) | assumption); obtain ⟨i0144, hi0144, _, hsz144, _⟩ := info_parts info25; have hroom144 : t432.length ≤ co143 := (Kd.R_reads' HO434.out).2.1; have hC144 : Kd.C k25 _ Ao143 t432.length t432 := (Kd.R_reads' HO434.out).2.2; have hcut144 := cut_to (P := Tryd.prog) 43 25 .i64 Tryd.underlying43 hi0144 Ao143 t432.length co143 (t436.length : Int) (of_decide_eq_true (by first | (with_reducible assumption) | assumption)) q144 hroom144; have hr144 := Kd.C_take (m := ((t436.length : Int) : Int).toNat) hC144 (by omega); have hy144 : y440.length = ((t436.length : Int) : Int).toNat := (by rw [Ny440.out, List.length_take]; omega); rw [← Ny440.out] at hr144; rw [← hy144] at hcut144; have HR443 := Aside0.mk hr144; have HC443 := Aside0.mk (show y440.length ≤ co143 from by omega); clear hr144 hC144 hroom144 hi0144 hsz144; have KY144 := Aside0.mk hy144; clear hy144; have KL144 := Aside0.mk (show ((t436.length : Int) : Int).toNat ≤ t432.length from by omega); replace q144 := eq_true q144) | (go_at_call 23; (with_reducible refine (laws_vRecords.calls kj51 _ _ t436 _ _ y440 false _ ?side1 ?side2 ?side3 ?side4 A91.out).mono ?_); (case side1 => repeat (first | exact (Kd.R_reads' HO438.out).2.2 | (with_reducible refine Kd.C_alloc ?_ _) | (with_reducible refine Kd.C_drewN ?_ _) | (with_reducible refine Kd.C_drew ?_))); (case side2 => exact (Kd.R_reads' HO438.out).2.1); (case side3 => repeat (first | exact (by repeat (first | (with_reducible exact HR443.out) | (with_reducible refine Kd.C_alloc ?_ _) | (with_reducible refine Kd.C_drewN ?_ _) | (with_reducible refine Kd.C_drew ?_) | exact HR443.out)) | (with_reducible refine Kd.C_alloc ?_ _) | (with_reducible refine Kd.C_drewN ?_ _) | (with_reducible refine Kd.C_drew ?_))); (case side4 => exact HC443.out); rintro e w' ⟨rfl, ⟨nd, rfl⟩⟩))
                        go_ret
                        exact ⟨by first | rfl | (simp [errW_none, errW_some] <;> rfl) | (simp [*, errW_none, errW_some] <;> rfl), by repeat (first | (with_reducible first | exact HB.out | apply below_alloc | apply pw_below_drewN | apply below_drew1 | refine below_set ?_ GE404.out | refine below_set ?_ GE418.out | refine below_set ?_ GE424.out | refine below_set ?_ GE430.out) | exact HB.out)⟩
                    · rw [if_neg c89] at H
                      exact absurd H (by simp)
                  · rw [if_neg c88] at H
                    have c88b0 : decide ((t436.length : Int) ≤ (t432.length : Int)) = false := decide_eq_false c88
                    have c88b1 : decide (t436.length ≤ t432.length) = false := decide_eq_false (fun h => c88 (Int.ofNat_le.mpr h))
                    clear c88
                    obtain rfl := Option.some.inj H
                    have hnb145 := NB404_418.out
                    have hnc145 := NB418_404.out
                    have hnb146 := NB404_424.out
                    have hnc146 := NB424_404.out
                    have hnb147 := NB404_430.out
                    have hnc147 := NB430_404.out
                    have hcz148_0 : wc.cell? ⟨gb404, 0, none⟩ = some (.string t399) := (blk_cell BK404.out 0).trans rfl
                    have hcz148_1 : wc.cell? ⟨gb404, 1, none⟩ = some (.string t400) := (blk_cell BK404.out 1).trans rfl
                    have hcz148_2 : wc.cell? ⟨gb404, 2, none⟩ = some (.int .i64 t401) := (blk_cell BK404.out 2).trans rfl
                    have hfz148_0 := blk_frozen BK404.out 0
                    have hfz148_1 := blk_frozen BK404.out 1
                    have hfz148_2 := blk_frozen BK404.out 2
                    go_wp2_with (first | ((with_reducible refine gate_callee (f := 21) rfl ?_); refine goesL_ (some 115) rfl rfl Tryd.func21 (by kernel_rfl) rfl #[.agg #[.string t399, .string t400, .int .i64 t401]] rfl (by (try simp only [List.map_toArray, List.map_cons, List.map_nil]); first | done | rfl | (simp only [List.length_drop, List.length_take]; rfl)) ?_; (with_reducible refine (impl_LogRecords.calls kj51 t399 t400 t401 t432 t435 _ ?side1 A86.out).mono ?_); (case side1 => exact XTab.below HTAB.out (by repeat (first | (with_reducible first | exact HB.out | apply below_alloc | apply pw_below_drewN | apply below_drew1 | refine below_set ?_ GE404.out | refine below_set ?_ GE418.out | refine below_set ?_ GE424.out | refine below_set ?_ GE430.out) | exact HB.out))); rintro e w149 ⟨v433, rfl, ho0, hb⟩; refine ⟨_, rfl, ?_⟩; have n0_ := Aside0.mk (Kd.R_lower ho0 (below_size (by repeat (first | (with_reducible first | exact HB.out | apply below_alloc | apply pw_below_drewN | apply below_drew1 | refine below_set ?_ GE404.out | refine below_set ?_ GE418.out | refine below_set ?_ GE424.out | refine below_set ?_ GE430.out) | exact HB.out)))); have n1_ := Aside0.mk (blk_below (g := gb404) (o := .cells #[.string t399, .string t400, .int .i64 t401] 33 (0, 0)) (by (with_reducible repeat (first | refine blk_drewN ?_ _ | refine blk_drew ?_ | refine blk_alloc ?_ _)); exact BK404.out) hb); have n2_ := Aside0.mk (blk_below (g := gb418) (o := .cells #[.string t413, .string t414, .int .i64 t415] 33 (0, 0)) (by (with_reducible repeat (first | refine blk_drewN ?_ _ | refine blk_drew ?_ | refine blk_alloc ?_ _)); exact BK418.out) hb); have n3_ := Aside0.mk (blk_below (g := gb424) (o := .cells #[.string t419, .string t420, .int .i64 t421] 33 (0, 0)) (by (with_reducible repeat (first | refine blk_drewN ?_ _ | refine blk_drew ?_ | refine blk_alloc ?_ _)); exact BK424.out) hb); have n4_ := Aside0.mk (blk_below (g := gb430) (o := .cells #[.string t425, .string t426, .int .i64 t427] 33 (0, 0)) (by (with_reducible repeat (first | refine blk_drewN ?_ _ | refine blk_drew ?_ | refine blk_alloc ?_ _)); exact BK430.out) hb); have n5_ := Aside0.mk (below_step (by repeat (first | (with_reducible first | exact HB.out | apply below_alloc | apply pw_below_drewN | apply below_drew1 | refine below_set ?_ GE404.out | refine below_set ?_ GE418.out | refine below_set ?_ GE424.out | refine below_set ?_ GE430.out) | exact HB.out)) hb); clear BK404; clear BK418; clear BK424; clear BK430; clear HB; have HO434 := n0_; have BK404 := n1_; have BK418 := n2_; have BK424 := n3_; have BK430 := n4_; have HB := n5_; clear n0_ n1_ n2_ n3_ n4_ n5_; (try clear hb); (try clear hb2); (try clear hk); (try clear hi); (try clear ho0); have hnb150 := NB430_418.out; have hnc150 := NB418_430.out; have hnb151 := NB430_424.out; have hnc151 := NB424_430.out; have hcz152_0 : w149.cell? ⟨gb430, 0, none⟩ = some (.string t425) := (blk_cell BK430.out 0).trans rfl; have hcz152_1 : w149.cell? ⟨gb430, 1, none⟩ = some (.string t426) := (blk_cell BK430.out 1).trans rfl; have hcz152_2 : w149.cell? ⟨gb430, 2, none⟩ = some (.int .i64 t427) := (blk_cell BK430.out 2).trans rfl; have hfz152_0 := blk_frozen BK430.out 0; have hfz152_1 := blk_frozen BK430.out 1; have hfz152_2 := blk_frozen BK430.out 2) | ((with_reducible refine gate_callee (f := 21) rfl ?_); refine goesL_ (some 120) rfl rfl Tryd.func21 (by kernel_rfl) rfl #[.agg #[.string t425, .string t426, .int .i64 t427]] rfl (by (try simp only [List.map_toArray, List.map_cons, List.map_nil]); first | done | rfl | (simp only [List.length_drop, List.length_take]; rfl)) ?_; (with_reducible refine (impl_LogRecords.calls kj51 t425 t426 t427 t436 t439 _ ?side1 A87.out).mono ?_); (case side1 => exact XTab.below HTAB.out (by repeat (first | (with_reducible first | exact HB.out | apply below_alloc | apply pw_below_drewN | apply below_drew1 | refine below_set ?_ GE404.out | refine below_set ?_ GE418.out | refine below_set ?_ GE424.out | refine below_set ?_ GE430.out) | exact HB.out))); rintro e w153 ⟨v437, rfl, ho0, hb⟩; refine ⟨_, rfl, ?_⟩; have n0_ := Aside0.mk (Kd.R_elder' (by (with_reducible repeat (first | apply Kd.R_alloc | apply Kd.R_drewN | apply Kd.R_drew)); exact HO434.out) (Kd.R_base ho0) hb); have n1_ := Aside0.mk (Kd.R_lower (Kd.R_new' ho0 (Kd.R_lt (by (with_reducible repeat (first | apply Kd.R_alloc | apply Kd.R_drewN | apply Kd.R_drew)); exact HO434.out))) (below_size (by repeat (first | (with_reducible first | exact HB.out | apply below_alloc | apply pw_below_drewN | apply below_drew1 | refine below_set ?_ GE404.out | refine below_set ?_ GE418.out | refine below_set ?_ GE424.out | refine below_set ?_ GE430.out) | exact HB.out)))); have n2_ := Aside0.mk (blk_below (g := gb404) (o := .cells #[.string t399, .string t400, .int .i64 t401] 33 (0, 0)) (by (with_reducible repeat (first | refine blk_drewN ?_ _ | refine blk_drew ?_ | refine blk_alloc ?_ _)); exact BK404.out) hb); have n3_ := Aside0.mk (blk_below (g := gb418) (o := .cells #[.string t413, .string t414, .int .i64 t415] 33 (0, 0)) (by (with_reducible repeat (first | refine blk_drewN ?_ _ | refine blk_drew ?_ | refine blk_alloc ?_ _)); exact BK418.out) hb); have n4_ := Aside0.mk (blk_below (g := gb424) (o := .cells #[.string t419, .string t420, .int .i64 t421] 33 (0, 0)) (by (with_reducible repeat (first | refine blk_drewN ?_ _ | refine blk_drew ?_ | refine blk_alloc ?_ _)); exact BK424.out) hb); have n5_ := Aside0.mk (blk_below (g := gb430) (o := .cells #[.string t425, .string t426, .int .i64 t427] 33 (0, 0)) (by (with_reducible repeat (first | refine blk_drewN ?_ _ | refine blk_drew ?_ | refine blk_alloc ?_ _)); exact BK430.out) hb); have n6_ := Aside0.mk (below_step (by repeat (first | (with_reducible first | exact HB.out | apply below_alloc | apply pw_below_drewN | apply below_drew1 | refine below_set ?_ GE404.out | refine below_set ?_ GE418.out | refine below_set ?_ GE424.out | refine below_set ?_ GE430.out) | exact HB.out)) hb); clear HO434; clear BK404; clear BK418; clear BK424; clear BK430; clear HB; have HO434 := n0_; have HO438 := n1_; have BK404 := n2_; have BK418 := n3_; have BK424 := n4_; have BK430 := n5_; have HB := n6_; clear n0_ n1_ n2_ n3_ n4_ n5_ n6_; (try clear hb); (try clear hb2); (try clear hk); (try clear hi); (try clear ho0); obtain ⟨Ao154, co154, eo154⟩ := Kd.R_slice HO438.out; subst eo154; obtain ⟨Ao155, co155, eo155⟩ := Kd.R_slice HO434.out; subst eo155))
                    go_ret
                    exact ⟨by first | rfl | (simp [errW_none, errW_some] <;> rfl) | (simp [*, errW_none, errW_some] <;> rfl), by repeat (first | (with_reducible first | exact HB.out | apply below_alloc | apply pw_below_drewN | apply below_drew1 | refine below_set ?_ GE404.out | refine below_set ?_ GE418.out | refine below_set ?_ GE424.out | refine below_set ?_ GE430.out) | exact HB.out)⟩
          · replace c50 := Bool.eq_false_iff.mpr c50
            subst c50
            have H1 : (some true) = some r := by rw [if_neg (show ¬ (false = true) by decide)] at H; exact H
            clear H
            have H := H1
            clear H1
            obtain rfl := Option.some.inj H
            go_wp2
            go_ret
            exact ⟨by first | rfl | (simp [errW_none, errW_some] <;> rfl) | (simp [*, errW_none, errW_some] <;> rfl), by repeat (first | (with_reducible first | exact HB.out | apply below_alloc | apply pw_below_drewN | apply below_drew1 | refine below_set ?_ GE404.out | refine below_set ?_ GE418.out | refine below_set ?_ GE424.out) | exact HB.out)⟩

/-- THE ONE PURE STATEMENT of laws_FnCrashes: yours. -/
def laws_FnCrashes.Pure : Prop := ∀ (l0 : List Int), l0.length ≤ maxLen → l0.length * 1 ≤ 140737488351232 → (∀ x ∈ l0, (Lit.int .u8 x).wf = true) → ∃ k, laws_FnCrashes.f k l0 = some true
theorem laws_FnCrashes.walk (P : laws_FnCrashes.Pure) (a0 : Option Addr) (len0 cap0 : Nat) (z0 : List Int) (w : World) (w0 : (a0 = none ∧ len0 = 0 ∧ cap0 = 0 ∧ z0 = []) ∨ ∃ x, a0 = some x ∧ len0 ≤ cap0 ∧ cap0 ≤ maxLen ∧ z0.length = cap0 ∧ (∀ i, i < z0.length → w.cell? (x.add i) = some (.int .u8 (z0.getD i 0))) ∧ ∀ n ∈ z0, (Lit.int .u8 n).wf = true) (y0 : len0 * 1 ≤ 140737488351232) (hT : XTab w) :
    Calls Tryd.prog 4 #[.slice a0 len0 cap0] w fun e w' => e = .returned (.bool true) ∧ Below w.heap.size w w' := by
  obtain ⟨l0, rfl, hr0, hm0, hw0, hc0⟩ := ReadsInt.ofRowC w0
  obtain ⟨k, h⟩ := P l0 hm0 y0 hw0
  refine (laws_FnCrashes.calls k _ _ l0 true w (Kd.C_of_reads (d := (0 : Int)) (h1 := fun _ => rfl) hr0) hc0 hT h).mono ?_
  rintro e w' ⟨rfl, hd⟩
  exact ⟨rfl, hd⟩

end Go.Proofs.YtbonngejmdonfaaDoor.Xc
