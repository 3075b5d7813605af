-- Written by this session's own program (xprint.py) over the kit's print.py: functions, contracts and rows of the laws of one seat.
import Derived.Test.YtbonngejmdonfaaDoorZlXl0
import Derived.Test.YtbonngejmdonfaaDoorZlXl1
import Derived.Test.YtbonngejmdonfaaDoorZlXl2
import Derived.Test.YtbonngejmdonfaaDoorZlXl3
import Derived.Test.YtbonngejmdonfaaDoorZlXl4
import Derived.Test.YtbonngejmdonfaaDoorZlXl5
import Derived.Test.YtbonngejmdonfaaDoorZlXl7
import Derived.Test.YtbonngejmdonfaaDoorZlXl9
import Derived.Test.YtbonngejmdonfaaDoorZlXl11
import Derived.Test.YtbonngejmdonfaaDoorZlXl13
namespace Go.Proofs.YtbonngejmdonfaaDoor.Xl
open Go.RowKit Go.Proofs.YtbonngejmdonfaaDoorW.PrintWords Go.Proofs.YtbonngejmdonfaaDoorW.PrintLast Go.Proofs.YtbonngejmdonfaaDoorW.PrintMore
attribute [local go_sem] max2_int min2_int max_two min_two max_three min_three max_four min_four   -- for this text's walks alone
set_option linter.unusedVariables false
set_option linter.unusedSimpArgs false

attribute [local go_sem high] eqA25 eqA33
/-! ### laws_FnLogs: function 3 -/
mutual
def laws_FnLogs.j0 : Nat → Int → Bool → ByteArray → ByteArray → Int → ByteArray → ByteArray → ByteArray → ByteArray → Int → Option (Bool)
 | 0, _, _, _, _, _, _, _, _, _, _ => none
 | k + 1, x14, x103, x452000, x452001, x452002, x453000, x453001, x458000, x458001, x458002 => if x103 = true then (some false) else ((impl_SyncLog.f k x452000 x452001 x452002).bind fun bt467 => ((spec_SyncLog.f k x452000 x452001 x452002).bind fun bt472 => ((impl_LogRecords.f k x452000 x452001 x452002).bind fun bt477 => ((spec_LogRecords.f k x452000 x452001 x452002).bind fun bt481 => (if (!(bt467.1.toList == bt472.1.toList) || (!(bt467.2.1.toList == bt472.2.1.toList) || (!(bt467.2.2.1 == bt472.2.2.1)))) = true then (laws_FnLogs.j1 k x14 bt467.2.2.2 bt477.1 true x452000 x452001 x452002 x453000 x453001 x458000 x458001 x458002 bt467.1 bt467.2.1 bt467.2.2.1) else (if (bt467.2.2.2 != bt472.2.2.2) = true then (laws_FnLogs.j1 k x14 bt467.2.2.2 bt477.1 true x452000 x452001 x452002 x453000 x453001 x458000 x458001 x458002 bt467.1 bt467.2.1 bt467.2.2.1) else (if (bt477.2 != bt481.2) = true then (laws_FnLogs.j1 k x14 bt467.2.2.2 bt477.1 true x452000 x452001 x452002 x453000 x453001 x458000 x458001 x458002 bt467.1 bt467.2.1 bt467.2.2.1) else ((laws_vRecords.f k bt477.1 bt481.1).bind fun t485 => (laws_FnLogs.j1 k x14 bt467.2.2.2 bt477.1 (!t485) x452000 x452001 x452002 x453000 x453001 x458000 x458001 x458002 bt467.1 bt467.2.1 bt467.2.2.1)))))))))
def laws_FnLogs.j1 : Nat → Int → Bool → List (S25) → Bool → ByteArray → ByteArray → Int → ByteArray → ByteArray → ByteArray → ByteArray → Int → ByteArray → ByteArray → Int → Option (Bool)
 | 0, _, _, _, _, _, _, _, _, _, _, _, _, _, _, _ => none
 | k + 1, x14, x18, x21, x142, x452000, x452001, x452002, x453000, x453001, x458000, x458001, x458002, x472000, x472001, x472002 => if x142 = true then (some false) else ((impl_LogRecords.f k x472000 x472001 x472002).bind fun bt486 => (if x18 = true then ((laws_vRecords.f k bt486.1 x21).bind fun t490 => (laws_FnLogs.j2 k x14 x21 (!t490) x452000 x452001 x452002 x453000 x453001 x458000 x458001 x458002)) else (laws_FnLogs.j2 k x14 x21 false x452000 x452001 x452002 x453000 x453001 x458000 x458001 x458002)))
def laws_FnLogs.j2 : Nat → Int → List (S25) → Bool → ByteArray → ByteArray → Int → ByteArray → ByteArray → ByteArray → ByteArray → Int → Option (Bool)
 | 0, _, _, _, _, _, _, _, _, _, _, _ => none
 | k + 1, x14, x21, x154, x452000, x452001, x452002, x453000, x453001, x458000, x458001, x458002 => if x154 = true then (some false) else (if x14 = 0 then ((impl_LogRecords.f k x458000 x458001 x458002).bind fun bt491 => ((impl_IsValidLog.f k x458000 x458001 x458002).bind fun t495 => (if t495 = true then (if (bt491.1.length : Int) = (wrap64 ((x21.length : Int) + 1)) then (if 0 ≤ (x21.length : Int) then (if (x21.length : Int) ≤ (bt491.1.length : Int) then ((laws_vRecords.f k (bt491.1.take ((x21.length : Int) : Int).toNat) x21).bind fun t500 => (if t500 = true then (if (x21.length : Int) < (bt491.1.length : Int) then (some ((((rd_T25 bt491.1 (x21.length : Int)).f0).toList) == x453000.toList && ((((rd_T25 bt491.1 (x21.length : Int)).f1).toList) == x453001.toList))) else (none)) else (some false))) else (none)) else (none)) else (some false)) else (some false)))) else (some (x458000.toList == x452000.toList && (x458001.toList == x452001.toList && (x458002 == x452002)))))
end
def laws_FnLogs.f (k : Nat) (l0 : List Int) : Option (Bool) := (laws_vBig.f l0).bind fun t421 => (if t421 = true then (some true) else ((spec_DrawIsValidRecord.f l0).bind fun bt422 => ((laws_vCut.f l0 1).bind fun t425 => ((spec_DrawEncodeRecord.f t425).bind fun bt428 => ((impl_EncodeRecord.f k bt428.1 bt428.2.1 bt428.2.2).bind fun bt432 => ((spec_EncodeRecord.f k bt428.1 bt428.2.1 bt428.2.2).bind fun bt434 => ((laws_vCut.f l0 2).bind fun t436 => ((spec_DrawIsValidLog.f k t436).bind fun bt439 => ((laws_vCut.f l0 3).bind fun t443 => ((spec_DrawAppendRecord.f k t443).bind fun bt446 => ((impl_AppendRecord.f k bt446.1 bt446.2.1 bt446.2.2.1 bt446.2.2.2.1 bt446.2.2.2.2).bind fun bt453 => ((spec_AppendRecord.f k bt446.1 bt446.2.1 bt446.2.2.1 bt446.2.2.2.1 bt446.2.2.2.2).bind fun bt458 => ((impl_IsValidRecord.f k bt422.1 bt422.2).bind fun t463 => ((spec_IsValidRecord.f k bt422.1 bt422.2).bind fun t464 => (if (t463 != t464) = true then (laws_FnLogs.j0 k bt453.2.2.2 true bt446.1 bt446.2.1 bt446.2.2.1 bt446.2.2.2.1 bt446.2.2.2.2 bt453.1 bt453.2.1 bt453.2.2.1) else (if bt432.1.toList = bt434.1.toList then (if (bt432.2 != bt434.2) = true then (laws_FnLogs.j0 k bt453.2.2.2 true bt446.1 bt446.2.1 bt446.2.2.1 bt446.2.2.2.1 bt446.2.2.2.2 bt453.1 bt453.2.1 bt453.2.2.1) else ((impl_IsValidLog.f k bt439.1 bt439.2.1 bt439.2.2).bind fun t465 => ((spec_IsValidLog.f k bt439.1 bt439.2.1 bt439.2.2).bind fun t466 => (if (t465 != t466) = true then (laws_FnLogs.j0 k bt453.2.2.2 true bt446.1 bt446.2.1 bt446.2.2.1 bt446.2.2.2.1 bt446.2.2.2.2 bt453.1 bt453.2.1 bt453.2.2.1) else (if (!(bt453.1.toList == bt458.1.toList) || (!(bt453.2.1.toList == bt458.2.1.toList) || (!(bt453.2.2.1 == bt458.2.2.1)))) = true then (laws_FnLogs.j0 k bt453.2.2.2 true bt446.1 bt446.2.1 bt446.2.2.1 bt446.2.2.2.1 bt446.2.2.2.2 bt453.1 bt453.2.1 bt453.2.2.1) else (laws_FnLogs.j0 k bt453.2.2.2 (bt453.2.2.2 != bt458.2.2.2) bt446.1 bt446.2.1 bt446.2.2.1 bt446.2.2.2.1 bt446.2.2.2.2 bt453.1 bt453.2.1 bt453.2.2.1)))))) else (laws_FnLogs.j0 k bt453.2.2.2 true bt446.1 bt446.2.1 bt446.2.2.1 bt446.2.2.2.1 bt446.2.2.2.2 bt453.1 bt453.2.1 bt453.2.2.1)))))))))))))))))
theorem laws_FnLogs.mono_l : ∀ k, (∀ y0 y1 y2 y3 y4 y5 y6 y7 y8 y9, LeO (laws_FnLogs.j0 k y0 y1 y2 y3 y4 y5 y6 y7 y8 y9) (laws_FnLogs.j0 (k + 1) y0 y1 y2 y3 y4 y5 y6 y7 y8 y9)) ∧ (∀ y0 y1 y2 y3 y4 y5 y6 y7 y8 y9 y10 y11 y12 y13 y14, LeO (laws_FnLogs.j1 k y0 y1 y2 y3 y4 y5 y6 y7 y8 y9 y10 y11 y12 y13 y14) (laws_FnLogs.j1 (k + 1) y0 y1 y2 y3 y4 y5 y6 y7 y8 y9 y10 y11 y12 y13 y14)) ∧ (∀ y0 y1 y2 y3 y4 y5 y6 y7 y8 y9 y10, LeO (laws_FnLogs.j2 k y0 y1 y2 y3 y4 y5 y6 y7 y8 y9 y10) (laws_FnLogs.j2 (k + 1) y0 y1 y2 y3 y4 y5 y6 y7 y8 y9 y10))
 | 0 => ⟨fun _ _ _ _ _ _ _ _ _ _ r h => by simp [laws_FnLogs.j0] at h, fun _ _ _ _ _ _ _ _ _ _ _ _ _ _ _ r h => by simp [laws_FnLogs.j1] at h, fun _ _ _ _ _ _ _ _ _ _ _ r h => by simp [laws_FnLogs.j2] at h⟩
 | k + 1 => by
  obtain ⟨ih0, ih1, ih2⟩ := laws_FnLogs.mono_l k
  refine ⟨?_, ?_, ?_⟩
  ·intro y0 y1 y2 y3 y4 y5 y6 y7 y8 y9
   unfold laws_FnLogs.j0
   repeat' first
   | (with_reducible exact ih0 _ _ _ _ _ _ _ _ _ _)
   | (with_reducible exact ih1 _ _ _ _ _ _ _ _ _ _ _ _ _ _ _)
   | (with_reducible exact ih2 _ _ _ _ _ _ _ _ _ _ _)
   | (with_reducible exact impl_AppendRecord.mono _ _ _ _ _ _)
   | (with_reducible exact impl_EncodeRecord.mono _ _ _ _)
   | (with_reducible exact impl_IsValidLog.mono _ _ _ _)
   | (with_reducible exact impl_IsValidRecord.mono _ _ _)
   | (with_reducible exact impl_LogRecords.mono _ _ _ _)
   | (with_reducible exact impl_SyncLog.mono _ _ _ _)
   | (with_reducible exact laws_vRecords.mono _ _ _)
   | (with_reducible exact spec_AppendRecord.mono _ _ _ _ _ _)
   | (with_reducible exact spec_DrawAppendRecord.mono _ _)
   | (with_reducible exact spec_DrawIsValidLog.mono _ _)
   | (with_reducible exact spec_EncodeRecord.mono _ _ _ _)
   | (with_reducible exact spec_IsValidLog.mono _ _ _ _)
   | (with_reducible exact spec_IsValidRecord.mono _ _ _)
   | (with_reducible exact spec_LogRecords.mono _ _ _ _)
   | (with_reducible exact spec_SyncLog.mono _ _ _ _)
   | (with_reducible exact LeO.refl _)
   | (with_reducible exact LeO.none _)
   | (with_reducible refine LeO.ite ?_ ?_)
   | (with_reducible refine LeO.bind ?_ (fun _ => ?_))
   | exact ih0 _ _ _ _ _ _ _ _ _ _
   | exact ih1 _ _ _ _ _ _ _ _ _ _ _ _ _ _ _
   | exact ih2 _ _ _ _ _ _ _ _ _ _ _
   | exact impl_AppendRecord.mono _ _ _ _ _ _
   | exact impl_EncodeRecord.mono _ _ _ _
   | exact impl_IsValidLog.mono _ _ _ _
   | exact impl_IsValidRecord.mono _ _ _
   | exact impl_LogRecords.mono _ _ _ _
   | exact impl_SyncLog.mono _ _ _ _
   | exact laws_vRecords.mono _ _ _
   | exact spec_AppendRecord.mono _ _ _ _ _ _
   | exact spec_DrawAppendRecord.mono _ _
   | exact spec_DrawIsValidLog.mono _ _
   | exact spec_EncodeRecord.mono _ _ _ _
   | exact spec_IsValidLog.mono _ _ _ _
   | exact spec_IsValidRecord.mono _ _ _
   | exact spec_LogRecords.mono _ _ _ _
   | exact spec_SyncLog.mono _ _ _ _
   | exact LeO.none _
   | refine LeO.ite ?_ ?_
   | refine LeO.bind ?_ (fun _ => ?_)
  ·intro y0 y1 y2 y3 y4 y5 y6 y7 y8 y9 y10 y11 y12 y13 y14
   unfold laws_FnLogs.j1
   repeat' first
   | (with_reducible exact ih0 _ _ _ _ _ _ _ _ _ _)
   | (with_reducible exact ih1 _ _ _ _ _ _ _ _ _ _ _ _ _ _ _)
   | (with_reducible exact ih2 _ _ _ _ _ _ _ _ _ _ _)
   | (with_reducible exact impl_AppendRecord.mono _ _ _ _ _ _)
   | (with_reducible exact impl_EncodeRecord.mono _ _ _ _)
   | (with_reducible exact impl_IsValidLog.mono _ _ _ _)
   | (with_reducible exact impl_IsValidRecord.mono _ _ _)
   | (with_reducible exact impl_LogRecords.mono _ _ _ _)
   | (with_reducible exact impl_SyncLog.mono _ _ _ _)
   | (with_reducible exact laws_vRecords.mono _ _ _)
   | (with_reducible exact spec_AppendRecord.mono _ _ _ _ _ _)
   | (with_reducible exact spec_DrawAppendRecord.mono _ _)
   | (with_reducible exact spec_DrawIsValidLog.mono _ _)
   | (with_reducible exact spec_EncodeRecord.mono _ _ _ _)
   | (with_reducible exact spec_IsValidLog.mono _ _ _ _)
   | (with_reducible exact spec_IsValidRecord.mono _ _ _)
   | (with_reducible exact spec_LogRecords.mono _ _ _ _)
   | (with_reducible exact spec_SyncLog.mono _ _ _ _)
   | (with_reducible exact LeO.refl _)
   | (with_reducible exact LeO.none _)
   | (with_reducible refine LeO.ite ?_ ?_)
   | (with_reducible refine LeO.bind ?_ (fun _ => ?_))
   | exact ih0 _ _ _ _ _ _ _ _ _ _
   | exact ih1 _ _ _ _ _ _ _ _ _ _ _ _ _ _ _
   | exact ih2 _ _ _ _ _ _ _ _ _ _ _
   | exact impl_AppendRecord.mono _ _ _ _ _ _
   | exact impl_EncodeRecord.mono _ _ _ _
   | exact impl_IsValidLog.mono _ _ _ _
   | exact impl_IsValidRecord.mono _ _ _
   | exact impl_LogRecords.mono _ _ _ _
   | exact impl_SyncLog.mono _ _ _ _
   | exact laws_vRecords.mono _ _ _
   | exact spec_AppendRecord.mono _ _ _ _ _ _
   | exact spec_DrawAppendRecord.mono _ _
   | exact spec_DrawIsValidLog.mono _ _
   | exact spec_EncodeRecord.mono _ _ _ _
   | exact spec_IsValidLog.mono _ _ _ _
   | exact spec_IsValidRecord.mono _ _ _
   | exact spec_LogRecords.mono _ _ _ _
   | exact spec_SyncLog.mono _ _ _ _
   | exact LeO.none _
   | refine LeO.ite ?_ ?_
   | refine LeO.bind ?_ (fun _ => ?_)
  ·intro y0 y1 y2 y3 y4 y5 y6 y7 y8 y9 y10
   unfold laws_FnLogs.j2
   repeat' first
   | (with_reducible exact ih0 _ _ _ _ _ _ _ _ _ _)
   | (with_reducible exact ih1 _ _ _ _ _ _ _ _ _ _ _ _ _ _ _)
   | (with_reducible exact ih2 _ _ _ _ _ _ _ _ _ _ _)
   | (with_reducible exact impl_AppendRecord.mono _ _ _ _ _ _)
   | (with_reducible exact impl_EncodeRecord.mono _ _ _ _)
   | (with_reducible exact impl_IsValidLog.mono _ _ _ _)
   | (with_reducible exact impl_IsValidRecord.mono _ _ _)
   | (with_reducible exact impl_LogRecords.mono _ _ _ _)
   | (with_reducible exact impl_SyncLog.mono _ _ _ _)
   | (with_reducible exact laws_vRecords.mono _ _ _)
   | (with_reducible exact spec_AppendRecord.mono _ _ _ _ _ _)
   | (with_reducible exact spec_DrawAppendRecord.mono _ _)
   | (with_reducible exact spec_DrawIsValidLog.mono _ _)
   | (with_reducible exact spec_EncodeRecord.mono _ _ _ _)
   | (with_reducible exact spec_IsValidLog.mono _ _ _ _)
   | (with_reducible exact spec_IsValidRecord.mono _ _ _)
   | (with_reducible exact spec_LogRecords.mono _ _ _ _)
   | (with_reducible exact spec_SyncLog.mono _ _ _ _)
   | (with_reducible exact LeO.refl _)
   | (with_reducible exact LeO.none _)
   | (with_reducible refine LeO.ite ?_ ?_)
   | (with_reducible refine LeO.bind ?_ (fun _ => ?_))
   | exact ih0 _ _ _ _ _ _ _ _ _ _
   | exact ih1 _ _ _ _ _ _ _ _ _ _ _ _ _ _ _
   | exact ih2 _ _ _ _ _ _ _ _ _ _ _
   | exact impl_AppendRecord.mono _ _ _ _ _ _
   | exact impl_EncodeRecord.mono _ _ _ _
   | exact impl_IsValidLog.mono _ _ _ _
   | exact impl_IsValidRecord.mono _ _ _
   | exact impl_LogRecords.mono _ _ _ _
   | exact impl_SyncLog.mono _ _ _ _
   | exact laws_vRecords.mono _ _ _
   | exact spec_AppendRecord.mono _ _ _ _ _ _
   | exact spec_DrawAppendRecord.mono _ _
   | exact spec_DrawIsValidLog.mono _ _
   | exact spec_EncodeRecord.mono _ _ _ _
   | exact spec_IsValidLog.mono _ _ _ _
   | exact spec_IsValidRecord.mono _ _ _
   | exact spec_LogRecords.mono _ _ _ _
   | exact spec_SyncLog.mono _ _ _ _
   | exact LeO.none _
   | refine LeO.ite ?_ ?_
   | refine LeO.bind ?_ (fun _ => ?_)
theorem laws_FnLogs.mono : ∀ a0 k, LeO (laws_FnLogs.f k a0) (laws_FnLogs.f (k + 1) a0) := by
 intro a0 k
 obtain ⟨ih0, ih1, ih2⟩ := laws_FnLogs.mono_l k
 unfold laws_FnLogs.f
 repeat' first
   | (with_reducible exact ih0 _ _ _ _ _ _ _ _ _ _)
   | (with_reducible exact ih1 _ _ _ _ _ _ _ _ _ _ _ _ _ _ _)
   | (with_reducible exact ih2 _ _ _ _ _ _ _ _ _ _ _)
   | (with_reducible exact impl_AppendRecord.mono _ _ _ _ _ _)
   | (with_reducible exact impl_EncodeRecord.mono _ _ _ _)
   | (with_reducible exact impl_IsValidLog.mono _ _ _ _)
   | (with_reducible exact impl_IsValidRecord.mono _ _ _)
   | (with_reducible exact impl_LogRecords.mono _ _ _ _)
   | (with_reducible exact impl_SyncLog.mono _ _ _ _)
   | (with_reducible exact laws_vRecords.mono _ _ _)
   | (with_reducible exact spec_AppendRecord.mono _ _ _ _ _ _)
   | (with_reducible exact spec_DrawAppendRecord.mono _ _)
   | (with_reducible exact spec_DrawIsValidLog.mono _ _)
   | (with_reducible exact spec_EncodeRecord.mono _ _ _ _)
   | (with_reducible exact spec_IsValidLog.mono _ _ _ _)
   | (with_reducible exact spec_IsValidRecord.mono _ _ _)
   | (with_reducible exact spec_LogRecords.mono _ _ _ _)
   | (with_reducible exact spec_SyncLog.mono _ _ _ _)
   | (with_reducible exact LeO.refl _)
   | (with_reducible exact LeO.none _)
   | (with_reducible refine LeO.ite ?_ ?_)
   | (with_reducible refine LeO.bind ?_ (fun _ => ?_))
   | exact ih0 _ _ _ _ _ _ _ _ _ _
   | exact ih1 _ _ _ _ _ _ _ _ _ _ _ _ _ _ _
   | exact ih2 _ _ _ _ _ _ _ _ _ _ _
   | exact impl_AppendRecord.mono _ _ _ _ _ _
   | exact impl_EncodeRecord.mono _ _ _ _
   | exact impl_IsValidLog.mono _ _ _ _
   | exact impl_IsValidRecord.mono _ _ _
   | exact impl_LogRecords.mono _ _ _ _
   | exact impl_SyncLog.mono _ _ _ _
   | exact laws_vRecords.mono _ _ _
   | exact spec_AppendRecord.mono _ _ _ _ _ _
   | exact spec_DrawAppendRecord.mono _ _
   | exact spec_DrawIsValidLog.mono _ _
   | exact spec_EncodeRecord.mono _ _ _ _
   | exact spec_IsValidLog.mono _ _ _ _
   | exact spec_IsValidRecord.mono _ _ _
   | exact spec_LogRecords.mono _ _ _ _
   | exact spec_SyncLog.mono _ _ _ _
   | exact LeO.none _
   | refine LeO.ite ?_ ?_
   | refine LeO.bind ?_ (fun _ => ?_)
def laws_FnLogs.T11 : Bool × List (List Nat × List Nat) := (true, [([], []), ([0], [0]), ([], []), ([2, 1], [2]), ([1, 3], [1, 3]), ([4, 3], [4]), ([5], [5]), ([5], [5]), ([6, 7, 5], [5, 6, 7]), ([5, 8], [5, 8]), ([9, 5], [9]), ([10], [10]), ([10], [10]), ([11, 12, 10], [10, 11, 12]), ([10, 13], [10, 13]), ([14, 10], [14]), ([15], [15]), ([16, 15, 15], [15, 16]), ([15], [15]), ([18, 17, 15], [15, 18]), ([17, 19, 15], [15, 17, 19]), ([15, 20], [15, 20]), ([21, 19], [21]), ([22], [22]), ([22], [22]), ([23, 24, 22], [22, 23, 24]), ([22, 25], [22, 25]), ([26, 22], [26]), ([27], [27]), ([27], [27]), ([28, 29, 27], [27, 28, 29]), ([27, 30], [27, 30])])
def laws_FnLogs.B11 : List Nat := [0, 1, 0, 7, 15, 31, 63, 63, 255, 511, 1023, 2047, 2047, 8191, 16383, 32767, 65535, 131071, 65535, 524287, 1048575, 2097151, 4194303, 8388607, 8388607, 33554431, 67108863, 134217727, 268435455, 268435455, 1073741823, 2147483647]
theorem laws_FnLogs.tab11 : rtab .any (opsOf Tryd.f3 11) = laws_FnLogs.T11 := by kernel_rfl
theorem laws_FnLogs.bits11 : waitsOk laws_FnLogs.T11.2 laws_FnLogs.B11 = true := by kernel_rfl
def laws_FnLogs.T25 : Bool × List (List Nat × List Nat) := (true, [([], []), ([0], [0]), ([1, 1], [1]), ([2], [2]), ([3, 2], [2, 3]), ([2], [2]), ([5, 2], [2, 5]), ([6, 2], [2, 6]), ([4, 7, 2], [2, 4, 7]), ([2, 8], [2, 8]), ([9, 2], [9]), ([10], [10]), ([10], [10]), ([12, 10], [10, 12]), ([11, 13, 10], [10, 11, 13]), ([10], [10]), ([14, 15, 10, 10], [10, 14, 15]), ([10, 16], [10, 16]), ([17, 16], [17]), ([18], [18]), ([18], [18]), ([20, 18], [18, 20]), ([19, 21, 18], [18, 19, 21]), ([22, 18], [18, 22]), ([18], [18]), ([23, 24, 18], [18, 23, 24]), ([18, 25], [18, 25]), ([26, 18, 0, 1, 2, 3, 4, 5, 6, 7, 8, 9, 10, 11, 12, 13, 14, 15, 16, 17, 18, 19, 20, 21, 22, 23, 24, 25, 26], [26])])
def laws_FnLogs.B25 : List Nat := [0, 1, 3, 7, 15, 7, 39, 103, 255, 511, 1023, 2047, 2047, 6143, 16383, 2047, 65535, 131071, 262143, 524287, 524287, 1572863, 4194303, 8388607, 524287, 33554431, 67108863, 134217727]
theorem laws_FnLogs.tab25 : rtab .any (opsOf Tryd.f3 25) = laws_FnLogs.T25 := by kernel_rfl
theorem laws_FnLogs.bits25 : waitsOk laws_FnLogs.T25.2 laws_FnLogs.B25 = true := by kernel_rfl
theorem laws_FnLogs.j0_no {k : Nat} {a0} {a2} {a3} {a4} {a5} {a6} {a7} {a8} {a9} (h : laws_FnLogs.j0 k a0 true a2 a3 a4 a5 a6 a7 a8 a9 = some true) : False := by
 cases k with
 | zero => simp only [laws_FnLogs.j0] at h; cases h
 | succ k => simp only [laws_FnLogs.j0, ↓reduceIte] at h; cases h
theorem laws_FnLogs.j1_no {k : Nat} {a0} {a1} {a2} {a4} {a5} {a6} {a7} {a8} {a9} {a10} {a11} {a12} {a13} {a14} (h : laws_FnLogs.j1 k a0 a1 a2 true a4 a5 a6 a7 a8 a9 a10 a11 a12 a13 a14 = some true) : False := by
 cases k with
 | zero => simp only [laws_FnLogs.j1] at h; cases h
 | succ k => simp only [laws_FnLogs.j1, ↓reduceIte] at h; cases h
theorem laws_FnLogs.j2_no {k : Nat} {a0} {a1} {a3} {a4} {a5} {a6} {a7} {a8} {a9} {a10} (h : laws_FnLogs.j2 k a0 a1 true a3 a4 a5 a6 a7 a8 a9 a10 = some true) : False := by
 cases k with
 | zero => simp only [laws_FnLogs.j2] at h; cases h
 | succ k => simp only [laws_FnLogs.j2, ↓reduceIte] at h; cases h
set_option maxHeartbeats 8000000 in
set_option maxRecDepth 100000 in
theorem laws_FnLogs.calls (k : Nat) (A0 : Option Addr) (c0 : Nat) (l0 : List Int) (r : Bool) (w : World) (hr0 : Kd.C (Kd.int .u8) w A0 l0.length l0) (hc0 : l0.length ≤ c0) (hT : XTab w) (hr_ : Aside0 (r = true)) (h : laws_FnLogs.f k l0 = some r) :
  Calls Tryd.prog 3 #[.slice A0 l0.length c0] w fun e w' => e = .returned (.bool r) ∧ Below w.heap.size w w' := by
 have hu25 := Tryd.underlying25
 have hu33 := Tryd.underlying33
 have HR0 := Aside0.mk hr0
 have HC0 := Aside0.mk hc0
 clear hr0 hc0
 have HB := Aside0.mk (Below.refl w.heap.size w)
 have HTAB := Aside0.mk hT
 clear hT
 have H : ((laws_vBig.f l0).bind fun t421 => (if t421 = true then (some true) else ((spec_DrawIsValidRecord.f l0).bind fun bt422 => ((laws_vCut.f l0 1).bind fun t425 => ((spec_DrawEncodeRecord.f t425).bind fun bt428 => ((impl_EncodeRecord.f k bt428.1 bt428.2.1 bt428.2.2).bind fun bt432 => ((spec_EncodeRecord.f k bt428.1 bt428.2.1 bt428.2.2).bind fun bt434 => ((laws_vCut.f l0 2).bind fun t436 => ((spec_DrawIsValidLog.f k t436).bind fun bt439 => ((laws_vCut.f l0 3).bind fun t443 => ((spec_DrawAppendRecord.f k t443).bind fun bt446 => ((impl_AppendRecord.f k bt446.1 bt446.2.1 bt446.2.2.1 bt446.2.2.2.1 bt446.2.2.2.2).bind fun bt453 => ((spec_AppendRecord.f k bt446.1 bt446.2.1 bt446.2.2.1 bt446.2.2.2.1 bt446.2.2.2.2).bind fun bt458 => ((impl_IsValidRecord.f k bt422.1 bt422.2).bind fun t463 => ((spec_IsValidRecord.f k bt422.1 bt422.2).bind fun t464 => (if (t463 != t464) = true then (laws_FnLogs.j0 k bt453.2.2.2 true bt446.1 bt446.2.1 bt446.2.2.1 bt446.2.2.2.1 bt446.2.2.2.2 bt453.1 bt453.2.1 bt453.2.2.1) else (if bt432.1.toList = bt434.1.toList then (if (bt432.2 != bt434.2) = true then (laws_FnLogs.j0 k bt453.2.2.2 true bt446.1 bt446.2.1 bt446.2.2.1 bt446.2.2.2.1 bt446.2.2.2.2 bt453.1 bt453.2.1 bt453.2.2.1) else ((impl_IsValidLog.f k bt439.1 bt439.2.1 bt439.2.2).bind fun t465 => ((spec_IsValidLog.f k bt439.1 bt439.2.1 bt439.2.2).bind fun t466 => (if (t465 != t466) = true then (laws_FnLogs.j0 k bt453.2.2.2 true bt446.1 bt446.2.1 bt446.2.2.1 bt446.2.2.2.1 bt446.2.2.2.2 bt453.1 bt453.2.1 bt453.2.2.1) else (if (!(bt453.1.toList == bt458.1.toList) || (!(bt453.2.1.toList == bt458.2.1.toList) || (!(bt453.2.2.1 == bt458.2.2.1)))) = true then (laws_FnLogs.j0 k bt453.2.2.2 true bt446.1 bt446.2.1 bt446.2.2.1 bt446.2.2.2.1 bt446.2.2.2.2 bt453.1 bt453.2.1 bt453.2.2.1) else (laws_FnLogs.j0 k bt453.2.2.2 (bt453.2.2.2 != bt458.2.2.2) bt446.1 bt446.2.1 bt446.2.2.1 bt446.2.2.2.1 bt446.2.2.2.2 bt453.1 bt453.2.1 bt453.2.2.1)))))) else (laws_FnLogs.j0 k bt453.2.2.2 true bt446.1 bt446.2.1 bt446.2.2.1 bt446.2.2.2.1 bt446.2.2.2.2 bt453.1 bt453.2.1 bt453.2.2.1)))))))))))))))))) = some r := h
 clear h
 replace H := Option.bind_eq_some_iff.mp H
 obtain ⟨t421, A20, H⟩ := H
 replace H : (if t421 = true then (some true) else ((spec_DrawIsValidRecord.f l0).bind fun bt422 => ((laws_vCut.f l0 1).bind fun t425 => ((spec_DrawEncodeRecord.f t425).bind fun bt428 => ((impl_EncodeRecord.f k bt428.1 bt428.2.1 bt428.2.2).bind fun bt432 => ((spec_EncodeRecord.f k bt428.1 bt428.2.1 bt428.2.2).bind fun bt434 => ((laws_vCut.f l0 2).bind fun t436 => ((spec_DrawIsValidLog.f k t436).bind fun bt439 => ((laws_vCut.f l0 3).bind fun t443 => ((spec_DrawAppendRecord.f k t443).bind fun bt446 => ((impl_AppendRecord.f k bt446.1 bt446.2.1 bt446.2.2.1 bt446.2.2.2.1 bt446.2.2.2.2).bind fun bt453 => ((spec_AppendRecord.f k bt446.1 bt446.2.1 bt446.2.2.1 bt446.2.2.2.1 bt446.2.2.2.2).bind fun bt458 => ((impl_IsValidRecord.f k bt422.1 bt422.2).bind fun t463 => ((spec_IsValidRecord.f k bt422.1 bt422.2).bind fun t464 => (if (t463 != t464) = true then (laws_FnLogs.j0 k bt453.2.2.2 true bt446.1 bt446.2.1 bt446.2.2.1 bt446.2.2.2.1 bt446.2.2.2.2 bt453.1 bt453.2.1 bt453.2.2.1) else (if bt432.1.toList = bt434.1.toList then (if (bt432.2 != bt434.2) = true then (laws_FnLogs.j0 k bt453.2.2.2 true bt446.1 bt446.2.1 bt446.2.2.1 bt446.2.2.2.1 bt446.2.2.2.2 bt453.1 bt453.2.1 bt453.2.2.1) else ((impl_IsValidLog.f k bt439.1 bt439.2.1 bt439.2.2).bind fun t465 => ((spec_IsValidLog.f k bt439.1 bt439.2.1 bt439.2.2).bind fun t466 => (if (t465 != t466) = true then (laws_FnLogs.j0 k bt453.2.2.2 true bt446.1 bt446.2.1 bt446.2.2.1 bt446.2.2.2.1 bt446.2.2.2.2 bt453.1 bt453.2.1 bt453.2.2.1) else (if (!(bt453.1.toList == bt458.1.toList) || (!(bt453.2.1.toList == bt458.2.1.toList) || (!(bt453.2.2.1 == bt458.2.2.1)))) = true then (laws_FnLogs.j0 k bt453.2.2.2 true bt446.1 bt446.2.1 bt446.2.2.1 bt446.2.2.2.1 bt446.2.2.2.2 bt453.1 bt453.2.1 bt453.2.2.1) else (laws_FnLogs.j0 k bt453.2.2.2 (bt453.2.2.2 != bt458.2.2.2) bt446.1 bt446.2.1 bt446.2.2.1 bt446.2.2.2.1 bt446.2.2.2.2 bt453.1 bt453.2.1 bt453.2.2.1)))))) else (laws_FnLogs.j0 k bt453.2.2.2 true bt446.1 bt446.2.1 bt446.2.2.1 bt446.2.2.2.1 bt446.2.2.2.2 bt453.1 bt453.2.1 bt453.2.2.1))))))))))))))))) = some r := H
 have A2 := Aside0.mk A20
 clear A20
 by_cases c3 : t421 = true
 ·subst c3
  have H1 : (some true) = some r := by rw [if_pos rfl] at H; exact H
  clear H
  have H := H1
  clear H1
  obtain rfl := Option.some.inj H
  go_enter Tryd.func3, Tryd.ntmps3
  go_wp2_with (first | ((with_reducible refine gate_callee (f := 5) rfl ?_); refine goesL_ (some 30) rfl rfl Tryd.func5 (by kernel_rfl) rfl #[.slice A0 l0.length c0] rfl q60 ?_; (with_reducible refine (laws_vBig.calls _ _ l0 true _ ?side1 ?side2 A2.out).mono ?_); (case side1 => repeat (first | exact HR0.out | (with_reducible refine Kd.C_alloc ?_ _) | (with_reducible refine Kd.C_drewN ?_ _) | (with_reducible refine Kd.C_drew ?_))); (case side2 => exact HC0.out); rintro e w' ⟨rfl, ⟨nd, rfl⟩⟩; refine ⟨_, rfl, ?_⟩))
  go_ret
  exact ⟨by first | rfl | (simp [errW_none, errW_some] <;> rfl) | (simp [*, errW_none, errW_some] <;> rfl), by repeat (first | (with_reducible first | exact HB.out | apply below_alloc | apply pw_below_drewN | apply below_drew1) | exact HB.out)⟩
 ·replace c3 := Bool.eq_false_iff.mpr c3
  subst c3
  have H1 : ((spec_DrawIsValidRecord.f l0).bind fun bt422 => ((laws_vCut.f l0 1).bind fun t425 => ((spec_DrawEncodeRecord.f t425).bind fun bt428 => ((impl_EncodeRecord.f k bt428.1 bt428.2.1 bt428.2.2).bind fun bt432 => ((spec_EncodeRecord.f k bt428.1 bt428.2.1 bt428.2.2).bind fun bt434 => ((laws_vCut.f l0 2).bind fun t436 => ((spec_DrawIsValidLog.f k t436).bind fun bt439 => ((laws_vCut.f l0 3).bind fun t443 => ((spec_DrawAppendRecord.f k t443).bind fun bt446 => ((impl_AppendRecord.f k bt446.1 bt446.2.1 bt446.2.2.1 bt446.2.2.2.1 bt446.2.2.2.2).bind fun bt453 => ((spec_AppendRecord.f k bt446.1 bt446.2.1 bt446.2.2.1 bt446.2.2.2.1 bt446.2.2.2.2).bind fun bt458 => ((impl_IsValidRecord.f k bt422.1 bt422.2).bind fun t463 => ((spec_IsValidRecord.f k bt422.1 bt422.2).bind fun t464 => (if (t463 != t464) = true then (laws_FnLogs.j0 k bt453.2.2.2 true bt446.1 bt446.2.1 bt446.2.2.1 bt446.2.2.2.1 bt446.2.2.2.2 bt453.1 bt453.2.1 bt453.2.2.1) else (if bt432.1.toList = bt434.1.toList then (if (bt432.2 != bt434.2) = true then (laws_FnLogs.j0 k bt453.2.2.2 true bt446.1 bt446.2.1 bt446.2.2.1 bt446.2.2.2.1 bt446.2.2.2.2 bt453.1 bt453.2.1 bt453.2.2.1) else ((impl_IsValidLog.f k bt439.1 bt439.2.1 bt439.2.2).bind fun t465 => ((spec_IsValidLog.f k bt439.1 bt439.2.1 bt439.2.2).bind fun t466 => (if (t465 != t466) = true then (laws_FnLogs.j0 k bt453.2.2.2 true bt446.1 bt446.2.1 bt446.2.2.1 bt446.2.2.2.1 bt446.2.2.2.2 bt453.1 bt453.2.1 bt453.2.2.1) else (if (!(bt453.1.toList == bt458.1.toList) || (!(bt453.2.1.toList == bt458.2.1.toList) || (!(bt453.2.2.1 == bt458.2.2.1)))) = true then (laws_FnLogs.j0 k bt453.2.2.2 true bt446.1 bt446.2.1 bt446.2.2.1 bt446.2.2.2.1 bt446.2.2.2.2 bt453.1 bt453.2.1 bt453.2.2.1) else (laws_FnLogs.j0 k bt453.2.2.2 (bt453.2.2.2 != bt458.2.2.2) bt446.1 bt446.2.1 bt446.2.2.1 bt446.2.2.2.1 bt446.2.2.2.2 bt453.1 bt453.2.1 bt453.2.2.1)))))) else (laws_FnLogs.j0 k bt453.2.2.2 true bt446.1 bt446.2.1 bt446.2.2.1 bt446.2.2.2.1 bt446.2.2.2.2 bt453.1 bt453.2.1 bt453.2.2.1)))))))))))))))) = some r := by rw [if_neg (show ¬ (false = true) by decide)] at H; exact H
  clear H
  have H := H1
  clear H1
  replace H := Option.bind_eq_some_iff.mp H
  obtain ⟨⟨t422, t423⟩, A40, H⟩ := H
  replace H : ((laws_vCut.f l0 1).bind fun t425 => ((spec_DrawEncodeRecord.f t425).bind fun bt428 => ((impl_EncodeRecord.f k bt428.1 bt428.2.1 bt428.2.2).bind fun bt432 => ((spec_EncodeRecord.f k bt428.1 bt428.2.1 bt428.2.2).bind fun bt434 => ((laws_vCut.f l0 2).bind fun t436 => ((spec_DrawIsValidLog.f k t436).bind fun bt439 => ((laws_vCut.f l0 3).bind fun t443 => ((spec_DrawAppendRecord.f k t443).bind fun bt446 => ((impl_AppendRecord.f k bt446.1 bt446.2.1 bt446.2.2.1 bt446.2.2.2.1 bt446.2.2.2.2).bind fun bt453 => ((spec_AppendRecord.f k bt446.1 bt446.2.1 bt446.2.2.1 bt446.2.2.2.1 bt446.2.2.2.2).bind fun bt458 => ((impl_IsValidRecord.f k t422 t423).bind fun t463 => ((spec_IsValidRecord.f k t422 t423).bind fun t464 => (if (t463 != t464) = true then (laws_FnLogs.j0 k bt453.2.2.2 true bt446.1 bt446.2.1 bt446.2.2.1 bt446.2.2.2.1 bt446.2.2.2.2 bt453.1 bt453.2.1 bt453.2.2.1) else (if bt432.1.toList = bt434.1.toList then (if (bt432.2 != bt434.2) = true then (laws_FnLogs.j0 k bt453.2.2.2 true bt446.1 bt446.2.1 bt446.2.2.1 bt446.2.2.2.1 bt446.2.2.2.2 bt453.1 bt453.2.1 bt453.2.2.1) else ((impl_IsValidLog.f k bt439.1 bt439.2.1 bt439.2.2).bind fun t465 => ((spec_IsValidLog.f k bt439.1 bt439.2.1 bt439.2.2).bind fun t466 => (if (t465 != t466) = true then (laws_FnLogs.j0 k bt453.2.2.2 true bt446.1 bt446.2.1 bt446.2.2.1 bt446.2.2.2.1 bt446.2.2.2.2 bt453.1 bt453.2.1 bt453.2.2.1) else (if (!(bt453.1.toList == bt458.1.toList) || (!(bt453.2.1.toList == bt458.2.1.toList) || (!(bt453.2.2.1 == bt458.2.2.1)))) = true then (laws_FnLogs.j0 k bt453.2.2.2 true bt446.1 bt446.2.1 bt446.2.2.1 bt446.2.2.2.1 bt446.2.2.2.2 bt453.1 bt453.2.1 bt453.2.2.1) else (laws_FnLogs.j0 k bt453.2.2.2 (bt453.2.2.2 != bt458.2.2.2) bt446.1 bt446.2.1 bt446.2.2.1 bt446.2.2.2.1 bt446.2.2.2.2 bt453.1 bt453.2.1 bt453.2.2.1)))))) else (laws_FnLogs.j0 k bt453.2.2.2 true bt446.1 bt446.2.1 bt446.2.2.1 bt446.2.2.2.1 bt446.2.2.2.2 bt453.1 bt453.2.1 bt453.2.2.1))))))))))))))) = some r := H
  have A4 := Aside0.mk A40
  clear A40
  replace H := Option.bind_eq_some_iff.mp H
  obtain ⟨t425, A50, H⟩ := H
  replace H : ((spec_DrawEncodeRecord.f t425).bind fun bt428 => ((impl_EncodeRecord.f k bt428.1 bt428.2.1 bt428.2.2).bind fun bt432 => ((spec_EncodeRecord.f k bt428.1 bt428.2.1 bt428.2.2).bind fun bt434 => ((laws_vCut.f l0 2).bind fun t436 => ((spec_DrawIsValidLog.f k t436).bind fun bt439 => ((laws_vCut.f l0 3).bind fun t443 => ((spec_DrawAppendRecord.f k t443).bind fun bt446 => ((impl_AppendRecord.f k bt446.1 bt446.2.1 bt446.2.2.1 bt446.2.2.2.1 bt446.2.2.2.2).bind fun bt453 => ((spec_AppendRecord.f k bt446.1 bt446.2.1 bt446.2.2.1 bt446.2.2.2.1 bt446.2.2.2.2).bind fun bt458 => ((impl_IsValidRecord.f k t422 t423).bind fun t463 => ((spec_IsValidRecord.f k t422 t423).bind fun t464 => (if (t463 != t464) = true then (laws_FnLogs.j0 k bt453.2.2.2 true bt446.1 bt446.2.1 bt446.2.2.1 bt446.2.2.2.1 bt446.2.2.2.2 bt453.1 bt453.2.1 bt453.2.2.1) else (if bt432.1.toList = bt434.1.toList then (if (bt432.2 != bt434.2) = true then (laws_FnLogs.j0 k bt453.2.2.2 true bt446.1 bt446.2.1 bt446.2.2.1 bt446.2.2.2.1 bt446.2.2.2.2 bt453.1 bt453.2.1 bt453.2.2.1) else ((impl_IsValidLog.f k bt439.1 bt439.2.1 bt439.2.2).bind fun t465 => ((spec_IsValidLog.f k bt439.1 bt439.2.1 bt439.2.2).bind fun t466 => (if (t465 != t466) = true then (laws_FnLogs.j0 k bt453.2.2.2 true bt446.1 bt446.2.1 bt446.2.2.1 bt446.2.2.2.1 bt446.2.2.2.2 bt453.1 bt453.2.1 bt453.2.2.1) else (if (!(bt453.1.toList == bt458.1.toList) || (!(bt453.2.1.toList == bt458.2.1.toList) || (!(bt453.2.2.1 == bt458.2.2.1)))) = true then (laws_FnLogs.j0 k bt453.2.2.2 true bt446.1 bt446.2.1 bt446.2.2.1 bt446.2.2.2.1 bt446.2.2.2.2 bt453.1 bt453.2.1 bt453.2.2.1) else (laws_FnLogs.j0 k bt453.2.2.2 (bt453.2.2.2 != bt458.2.2.2) bt446.1 bt446.2.1 bt446.2.2.1 bt446.2.2.2.1 bt446.2.2.2.2 bt453.1 bt453.2.1 bt453.2.2.1)))))) else (laws_FnLogs.j0 k bt453.2.2.2 true bt446.1 bt446.2.1 bt446.2.2.1 bt446.2.2.2.1 bt446.2.2.2.2 bt453.1 bt453.2.1 bt453.2.2.1)))))))))))))) = some r := H
  have A5 := Aside0.mk A50
  clear A50
  replace H := Option.bind_eq_some_iff.mp H
  obtain ⟨⟨t428, t429, t430⟩, A60, H⟩ := H
  replace H : ((impl_EncodeRecord.f k t428 t429 t430).bind fun bt432 => ((spec_EncodeRecord.f k t428 t429 t430).bind fun bt434 => ((laws_vCut.f l0 2).bind fun t436 => ((spec_DrawIsValidLog.f k t436).bind fun bt439 => ((laws_vCut.f l0 3).bind fun t443 => ((spec_DrawAppendRecord.f k t443).bind fun bt446 => ((impl_AppendRecord.f k bt446.1 bt446.2.1 bt446.2.2.1 bt446.2.2.2.1 bt446.2.2.2.2).bind fun bt453 => ((spec_AppendRecord.f k bt446.1 bt446.2.1 bt446.2.2.1 bt446.2.2.2.1 bt446.2.2.2.2).bind fun bt458 => ((impl_IsValidRecord.f k t422 t423).bind fun t463 => ((spec_IsValidRecord.f k t422 t423).bind fun t464 => (if (t463 != t464) = true then (laws_FnLogs.j0 k bt453.2.2.2 true bt446.1 bt446.2.1 bt446.2.2.1 bt446.2.2.2.1 bt446.2.2.2.2 bt453.1 bt453.2.1 bt453.2.2.1) else (if bt432.1.toList = bt434.1.toList then (if (bt432.2 != bt434.2) = true then (laws_FnLogs.j0 k bt453.2.2.2 true bt446.1 bt446.2.1 bt446.2.2.1 bt446.2.2.2.1 bt446.2.2.2.2 bt453.1 bt453.2.1 bt453.2.2.1) else ((impl_IsValidLog.f k bt439.1 bt439.2.1 bt439.2.2).bind fun t465 => ((spec_IsValidLog.f k bt439.1 bt439.2.1 bt439.2.2).bind fun t466 => (if (t465 != t466) = true then (laws_FnLogs.j0 k bt453.2.2.2 true bt446.1 bt446.2.1 bt446.2.2.1 bt446.2.2.2.1 bt446.2.2.2.2 bt453.1 bt453.2.1 bt453.2.2.1) else (if (!(bt453.1.toList == bt458.1.toList) || (!(bt453.2.1.toList == bt458.2.1.toList) || (!(bt453.2.2.1 == bt458.2.2.1)))) = true then (laws_FnLogs.j0 k bt453.2.2.2 true bt446.1 bt446.2.1 bt446.2.2.1 bt446.2.2.2.1 bt446.2.2.2.2 bt453.1 bt453.2.1 bt453.2.2.1) else (laws_FnLogs.j0 k bt453.2.2.2 (bt453.2.2.2 != bt458.2.2.2) bt446.1 bt446.2.1 bt446.2.2.1 bt446.2.2.2.1 bt446.2.2.2.2 bt453.1 bt453.2.1 bt453.2.2.1)))))) else (laws_FnLogs.j0 k bt453.2.2.2 true bt446.1 bt446.2.1 bt446.2.2.1 bt446.2.2.2.1 bt446.2.2.2.2 bt453.1 bt453.2.1 bt453.2.2.1))))))))))))) = some r := H
  have A6 := Aside0.mk A60
  clear A60
  replace H := Option.bind_eq_some_iff.mp H
  obtain ⟨⟨t432, t433⟩, A70, H⟩ := H
  replace H : ((spec_EncodeRecord.f k t428 t429 t430).bind fun bt434 => ((laws_vCut.f l0 2).bind fun t436 => ((spec_DrawIsValidLog.f k t436).bind fun bt439 => ((laws_vCut.f l0 3).bind fun t443 => ((spec_DrawAppendRecord.f k t443).bind fun bt446 => ((impl_AppendRecord.f k bt446.1 bt446.2.1 bt446.2.2.1 bt446.2.2.2.1 bt446.2.2.2.2).bind fun bt453 => ((spec_AppendRecord.f k bt446.1 bt446.2.1 bt446.2.2.1 bt446.2.2.2.1 bt446.2.2.2.2).bind fun bt458 => ((impl_IsValidRecord.f k t422 t423).bind fun t463 => ((spec_IsValidRecord.f k t422 t423).bind fun t464 => (if (t463 != t464) = true then (laws_FnLogs.j0 k bt453.2.2.2 true bt446.1 bt446.2.1 bt446.2.2.1 bt446.2.2.2.1 bt446.2.2.2.2 bt453.1 bt453.2.1 bt453.2.2.1) else (if t432.toList = bt434.1.toList then (if (t433 != bt434.2) = true then (laws_FnLogs.j0 k bt453.2.2.2 true bt446.1 bt446.2.1 bt446.2.2.1 bt446.2.2.2.1 bt446.2.2.2.2 bt453.1 bt453.2.1 bt453.2.2.1) else ((impl_IsValidLog.f k bt439.1 bt439.2.1 bt439.2.2).bind fun t465 => ((spec_IsValidLog.f k bt439.1 bt439.2.1 bt439.2.2).bind fun t466 => (if (t465 != t466) = true then (laws_FnLogs.j0 k bt453.2.2.2 true bt446.1 bt446.2.1 bt446.2.2.1 bt446.2.2.2.1 bt446.2.2.2.2 bt453.1 bt453.2.1 bt453.2.2.1) else (if (!(bt453.1.toList == bt458.1.toList) || (!(bt453.2.1.toList == bt458.2.1.toList) || (!(bt453.2.2.1 == bt458.2.2.1)))) = true then (laws_FnLogs.j0 k bt453.2.2.2 true bt446.1 bt446.2.1 bt446.2.2.1 bt446.2.2.2.1 bt446.2.2.2.2 bt453.1 bt453.2.1 bt453.2.2.1) else (laws_FnLogs.j0 k bt453.2.2.2 (bt453.2.2.2 != bt458.2.2.2) bt446.1 bt446.2.1 bt446.2.2.1 bt446.2.2.2.1 bt446.2.2.2.2 bt453.1 bt453.2.1 bt453.2.2.1)))))) else (laws_FnLogs.j0 k bt453.2.2.2 true bt446.1 bt446.2.1 bt446.2.2.1 bt446.2.2.2.1 bt446.2.2.2.2 bt453.1 bt453.2.1 bt453.2.2.1)))))))))))) = some r := H
  have A7 := Aside0.mk A70
  clear A70
  replace H := Option.bind_eq_some_iff.mp H
  obtain ⟨⟨t434, t435⟩, A80, H⟩ := H
  replace H : ((laws_vCut.f l0 2).bind fun t436 => ((spec_DrawIsValidLog.f k t436).bind fun bt439 => ((laws_vCut.f l0 3).bind fun t443 => ((spec_DrawAppendRecord.f k t443).bind fun bt446 => ((impl_AppendRecord.f k bt446.1 bt446.2.1 bt446.2.2.1 bt446.2.2.2.1 bt446.2.2.2.2).bind fun bt453 => ((spec_AppendRecord.f k bt446.1 bt446.2.1 bt446.2.2.1 bt446.2.2.2.1 bt446.2.2.2.2).bind fun bt458 => ((impl_IsValidRecord.f k t422 t423).bind fun t463 => ((spec_IsValidRecord.f k t422 t423).bind fun t464 => (if (t463 != t464) = true then (laws_FnLogs.j0 k bt453.2.2.2 true bt446.1 bt446.2.1 bt446.2.2.1 bt446.2.2.2.1 bt446.2.2.2.2 bt453.1 bt453.2.1 bt453.2.2.1) else (if t432.toList = t434.toList then (if (t433 != t435) = true then (laws_FnLogs.j0 k bt453.2.2.2 true bt446.1 bt446.2.1 bt446.2.2.1 bt446.2.2.2.1 bt446.2.2.2.2 bt453.1 bt453.2.1 bt453.2.2.1) else ((impl_IsValidLog.f k bt439.1 bt439.2.1 bt439.2.2).bind fun t465 => ((spec_IsValidLog.f k bt439.1 bt439.2.1 bt439.2.2).bind fun t466 => (if (t465 != t466) = true then (laws_FnLogs.j0 k bt453.2.2.2 true bt446.1 bt446.2.1 bt446.2.2.1 bt446.2.2.2.1 bt446.2.2.2.2 bt453.1 bt453.2.1 bt453.2.2.1) else (if (!(bt453.1.toList == bt458.1.toList) || (!(bt453.2.1.toList == bt458.2.1.toList) || (!(bt453.2.2.1 == bt458.2.2.1)))) = true then (laws_FnLogs.j0 k bt453.2.2.2 true bt446.1 bt446.2.1 bt446.2.2.1 bt446.2.2.2.1 bt446.2.2.2.2 bt453.1 bt453.2.1 bt453.2.2.1) else (laws_FnLogs.j0 k bt453.2.2.2 (bt453.2.2.2 != bt458.2.2.2) bt446.1 bt446.2.1 bt446.2.2.1 bt446.2.2.2.1 bt446.2.2.2.2 bt453.1 bt453.2.1 bt453.2.2.1)))))) else (laws_FnLogs.j0 k bt453.2.2.2 true bt446.1 bt446.2.1 bt446.2.2.1 bt446.2.2.2.1 bt446.2.2.2.2 bt453.1 bt453.2.1 bt453.2.2.1))))))))))) = some r := H
  have A8 := Aside0.mk A80
  clear A80
  replace H := Option.bind_eq_some_iff.mp H
  obtain ⟨t436, A90, H⟩ := H
  replace H : ((spec_DrawIsValidLog.f k t436).bind fun bt439 => ((laws_vCut.f l0 3).bind fun t443 => ((spec_DrawAppendRecord.f k t443).bind fun bt446 => ((impl_AppendRecord.f k bt446.1 bt446.2.1 bt446.2.2.1 bt446.2.2.2.1 bt446.2.2.2.2).bind fun bt453 => ((spec_AppendRecord.f k bt446.1 bt446.2.1 bt446.2.2.1 bt446.2.2.2.1 bt446.2.2.2.2).bind fun bt458 => ((impl_IsValidRecord.f k t422 t423).bind fun t463 => ((spec_IsValidRecord.f k t422 t423).bind fun t464 => (if (t463 != t464) = true then (laws_FnLogs.j0 k bt453.2.2.2 true bt446.1 bt446.2.1 bt446.2.2.1 bt446.2.2.2.1 bt446.2.2.2.2 bt453.1 bt453.2.1 bt453.2.2.1) else (if t432.toList = t434.toList then (if (t433 != t435) = true then (laws_FnLogs.j0 k bt453.2.2.2 true bt446.1 bt446.2.1 bt446.2.2.1 bt446.2.2.2.1 bt446.2.2.2.2 bt453.1 bt453.2.1 bt453.2.2.1) else ((impl_IsValidLog.f k bt439.1 bt439.2.1 bt439.2.2).bind fun t465 => ((spec_IsValidLog.f k bt439.1 bt439.2.1 bt439.2.2).bind fun t466 => (if (t465 != t466) = true then (laws_FnLogs.j0 k bt453.2.2.2 true bt446.1 bt446.2.1 bt446.2.2.1 bt446.2.2.2.1 bt446.2.2.2.2 bt453.1 bt453.2.1 bt453.2.2.1) else (if (!(bt453.1.toList == bt458.1.toList) || (!(bt453.2.1.toList == bt458.2.1.toList) || (!(bt453.2.2.1 == bt458.2.2.1)))) = true then (laws_FnLogs.j0 k bt453.2.2.2 true bt446.1 bt446.2.1 bt446.2.2.1 bt446.2.2.2.1 bt446.2.2.2.2 bt453.1 bt453.2.1 bt453.2.2.1) else (laws_FnLogs.j0 k bt453.2.2.2 (bt453.2.2.2 != bt458.2.2.2) bt446.1 bt446.2.1 bt446.2.2.1 bt446.2.2.2.1 bt446.2.2.2.2 bt453.1 bt453.2.1 bt453.2.2.1)))))) else (laws_FnLogs.j0 k bt453.2.2.2 true bt446.1 bt446.2.1 bt446.2.2.1 bt446.2.2.2.1 bt446.2.2.2.2 bt453.1 bt453.2.1 bt453.2.2.1)))))))))) = some r := H
  have A9 := Aside0.mk A90
  clear A90
  replace H := Option.bind_eq_some_iff.mp H
  obtain ⟨⟨t439, t440, t441⟩, A100, H⟩ := H
  replace H : ((laws_vCut.f l0 3).bind fun t443 => ((spec_DrawAppendRecord.f k t443).bind fun bt446 => ((impl_AppendRecord.f k bt446.1 bt446.2.1 bt446.2.2.1 bt446.2.2.2.1 bt446.2.2.2.2).bind fun bt453 => ((spec_AppendRecord.f k bt446.1 bt446.2.1 bt446.2.2.1 bt446.2.2.2.1 bt446.2.2.2.2).bind fun bt458 => ((impl_IsValidRecord.f k t422 t423).bind fun t463 => ((spec_IsValidRecord.f k t422 t423).bind fun t464 => (if (t463 != t464) = true then (laws_FnLogs.j0 k bt453.2.2.2 true bt446.1 bt446.2.1 bt446.2.2.1 bt446.2.2.2.1 bt446.2.2.2.2 bt453.1 bt453.2.1 bt453.2.2.1) else (if t432.toList = t434.toList then (if (t433 != t435) = true then (laws_FnLogs.j0 k bt453.2.2.2 true bt446.1 bt446.2.1 bt446.2.2.1 bt446.2.2.2.1 bt446.2.2.2.2 bt453.1 bt453.2.1 bt453.2.2.1) else ((impl_IsValidLog.f k t439 t440 t441).bind fun t465 => ((spec_IsValidLog.f k t439 t440 t441).bind fun t466 => (if (t465 != t466) = true then (laws_FnLogs.j0 k bt453.2.2.2 true bt446.1 bt446.2.1 bt446.2.2.1 bt446.2.2.2.1 bt446.2.2.2.2 bt453.1 bt453.2.1 bt453.2.2.1) else (if (!(bt453.1.toList == bt458.1.toList) || (!(bt453.2.1.toList == bt458.2.1.toList) || (!(bt453.2.2.1 == bt458.2.2.1)))) = true then (laws_FnLogs.j0 k bt453.2.2.2 true bt446.1 bt446.2.1 bt446.2.2.1 bt446.2.2.2.1 bt446.2.2.2.2 bt453.1 bt453.2.1 bt453.2.2.1) else (laws_FnLogs.j0 k bt453.2.2.2 (bt453.2.2.2 != bt458.2.2.2) bt446.1 bt446.2.1 bt446.2.2.1 bt446.2.2.2.1 bt446.2.2.2.2 bt453.1 bt453.2.1 bt453.2.2.1)))))) else (laws_FnLogs.j0 k bt453.2.2.2 true bt446.1 bt446.2.1 bt446.2.2.1 bt446.2.2.2.1 bt446.2.2.2.2 bt453.1 bt453.2.1 bt453.2.2.1))))))))) = some r := H
  have A10 := Aside0.mk A100
  clear A100
  replace H := Option.bind_eq_some_iff.mp H
  obtain ⟨t443, A110, H⟩ := H
  replace H : ((spec_DrawAppendRecord.f k t443).bind fun bt446 => ((impl_AppendRecord.f k bt446.1 bt446.2.1 bt446.2.2.1 bt446.2.2.2.1 bt446.2.2.2.2).bind fun bt453 => ((spec_AppendRecord.f k bt446.1 bt446.2.1 bt446.2.2.1 bt446.2.2.2.1 bt446.2.2.2.2).bind fun bt458 => ((impl_IsValidRecord.f k t422 t423).bind fun t463 => ((spec_IsValidRecord.f k t422 t423).bind fun t464 => (if (t463 != t464) = true then (laws_FnLogs.j0 k bt453.2.2.2 true bt446.1 bt446.2.1 bt446.2.2.1 bt446.2.2.2.1 bt446.2.2.2.2 bt453.1 bt453.2.1 bt453.2.2.1) else (if t432.toList = t434.toList then (if (t433 != t435) = true then (laws_FnLogs.j0 k bt453.2.2.2 true bt446.1 bt446.2.1 bt446.2.2.1 bt446.2.2.2.1 bt446.2.2.2.2 bt453.1 bt453.2.1 bt453.2.2.1) else ((impl_IsValidLog.f k t439 t440 t441).bind fun t465 => ((spec_IsValidLog.f k t439 t440 t441).bind fun t466 => (if (t465 != t466) = true then (laws_FnLogs.j0 k bt453.2.2.2 true bt446.1 bt446.2.1 bt446.2.2.1 bt446.2.2.2.1 bt446.2.2.2.2 bt453.1 bt453.2.1 bt453.2.2.1) else (if (!(bt453.1.toList == bt458.1.toList) || (!(bt453.2.1.toList == bt458.2.1.toList) || (!(bt453.2.2.1 == bt458.2.2.1)))) = true then (laws_FnLogs.j0 k bt453.2.2.2 true bt446.1 bt446.2.1 bt446.2.2.1 bt446.2.2.2.1 bt446.2.2.2.2 bt453.1 bt453.2.1 bt453.2.2.1) else (laws_FnLogs.j0 k bt453.2.2.2 (bt453.2.2.2 != bt458.2.2.2) bt446.1 bt446.2.1 bt446.2.2.1 bt446.2.2.2.1 bt446.2.2.2.2 bt453.1 bt453.2.1 bt453.2.2.1)))))) else (laws_FnLogs.j0 k bt453.2.2.2 true bt446.1 bt446.2.1 bt446.2.2.1 bt446.2.2.2.1 bt446.2.2.2.2 bt453.1 bt453.2.1 bt453.2.2.1)))))))) = some r := H
  have A11 := Aside0.mk A110
  clear A110
  replace H := Option.bind_eq_some_iff.mp H
  obtain ⟨⟨t446, t447, t448, t449, t450⟩, A120, H⟩ := H
  replace H : ((impl_AppendRecord.f k t446 t447 t448 t449 t450).bind fun bt453 => ((spec_AppendRecord.f k t446 t447 t448 t449 t450).bind fun bt458 => ((impl_IsValidRecord.f k t422 t423).bind fun t463 => ((spec_IsValidRecord.f k t422 t423).bind fun t464 => (if (t463 != t464) = true then (laws_FnLogs.j0 k bt453.2.2.2 true t446 t447 t448 t449 t450 bt453.1 bt453.2.1 bt453.2.2.1) else (if t432.toList = t434.toList then (if (t433 != t435) = true then (laws_FnLogs.j0 k bt453.2.2.2 true t446 t447 t448 t449 t450 bt453.1 bt453.2.1 bt453.2.2.1) else ((impl_IsValidLog.f k t439 t440 t441).bind fun t465 => ((spec_IsValidLog.f k t439 t440 t441).bind fun t466 => (if (t465 != t466) = true then (laws_FnLogs.j0 k bt453.2.2.2 true t446 t447 t448 t449 t450 bt453.1 bt453.2.1 bt453.2.2.1) else (if (!(bt453.1.toList == bt458.1.toList) || (!(bt453.2.1.toList == bt458.2.1.toList) || (!(bt453.2.2.1 == bt458.2.2.1)))) = true then (laws_FnLogs.j0 k bt453.2.2.2 true t446 t447 t448 t449 t450 bt453.1 bt453.2.1 bt453.2.2.1) else (laws_FnLogs.j0 k bt453.2.2.2 (bt453.2.2.2 != bt458.2.2.2) t446 t447 t448 t449 t450 bt453.1 bt453.2.1 bt453.2.2.1)))))) else (laws_FnLogs.j0 k bt453.2.2.2 true t446 t447 t448 t449 t450 bt453.1 bt453.2.1 bt453.2.2.1))))))) = some r := H
  have A12 := Aside0.mk A120
  clear A120
  replace H := Option.bind_eq_some_iff.mp H
  obtain ⟨⟨t453, t454, t455, t456⟩, A130, H⟩ := H
  replace H : ((spec_AppendRecord.f k t446 t447 t448 t449 t450).bind fun bt458 => ((impl_IsValidRecord.f k t422 t423).bind fun t463 => ((spec_IsValidRecord.f k t422 t423).bind fun t464 => (if (t463 != t464) = true then (laws_FnLogs.j0 k t456 true t446 t447 t448 t449 t450 t453 t454 t455) else (if t432.toList = t434.toList then (if (t433 != t435) = true then (laws_FnLogs.j0 k t456 true t446 t447 t448 t449 t450 t453 t454 t455) else ((impl_IsValidLog.f k t439 t440 t441).bind fun t465 => ((spec_IsValidLog.f k t439 t440 t441).bind fun t466 => (if (t465 != t466) = true then (laws_FnLogs.j0 k t456 true t446 t447 t448 t449 t450 t453 t454 t455) else (if (!(t453.toList == bt458.1.toList) || (!(t454.toList == bt458.2.1.toList) || (!(t455 == bt458.2.2.1)))) = true then (laws_FnLogs.j0 k t456 true t446 t447 t448 t449 t450 t453 t454 t455) else (laws_FnLogs.j0 k t456 (t456 != bt458.2.2.2) t446 t447 t448 t449 t450 t453 t454 t455)))))) else (laws_FnLogs.j0 k t456 true t446 t447 t448 t449 t450 t453 t454 t455)))))) = some r := H
  have A13 := Aside0.mk A130
  clear A130
  replace H := Option.bind_eq_some_iff.mp H
  obtain ⟨⟨t458, t459, t460, t461⟩, A140, H⟩ := H
  replace H : ((impl_IsValidRecord.f k t422 t423).bind fun t463 => ((spec_IsValidRecord.f k t422 t423).bind fun t464 => (if (t463 != t464) = true then (laws_FnLogs.j0 k t456 true t446 t447 t448 t449 t450 t453 t454 t455) else (if t432.toList = t434.toList then (if (t433 != t435) = true then (laws_FnLogs.j0 k t456 true t446 t447 t448 t449 t450 t453 t454 t455) else ((impl_IsValidLog.f k t439 t440 t441).bind fun t465 => ((spec_IsValidLog.f k t439 t440 t441).bind fun t466 => (if (t465 != t466) = true then (laws_FnLogs.j0 k t456 true t446 t447 t448 t449 t450 t453 t454 t455) else (if (!(t453.toList == t458.toList) || (!(t454.toList == t459.toList) || (!(t455 == t460)))) = true then (laws_FnLogs.j0 k t456 true t446 t447 t448 t449 t450 t453 t454 t455) else (laws_FnLogs.j0 k t456 (t456 != t461) t446 t447 t448 t449 t450 t453 t454 t455)))))) else (laws_FnLogs.j0 k t456 true t446 t447 t448 t449 t450 t453 t454 t455))))) = some r := H
  have A14 := Aside0.mk A140
  clear A140
  have HC15 := Aside0.mk H
  clear H
  go_enter Tryd.func3, Tryd.ntmps3
  go_upto_region 11 with (first | ((with_reducible refine gate_callee (f := 5) rfl ?_); refine goesL_ (some 30) rfl rfl Tryd.func5 (by kernel_rfl) rfl #[.slice A0 l0.length c0] rfl q60 ?_; (with_reducible refine (laws_vBig.calls _ _ l0 false _ ?side1 ?side2 A2.out).mono ?_); (case side1 => repeat (first | exact HR0.out | (with_reducible refine Kd.C_alloc ?_ _) | (with_reducible refine Kd.C_drewN ?_ _) | (with_reducible refine Kd.C_drew ?_))); (case side2 => exact HC0.out); rintro e w' ⟨rfl, ⟨nd, rfl⟩⟩; refine ⟨_, rfl, ?_⟩) | ((with_reducible refine gate_callee (f := 6) rfl ?_); refine goesL_ (some 32) rfl rfl Tryd.func6 (by kernel_rfl) rfl #[.slice A0 l0.length c0] rfl q60 ?_; (with_reducible refine (spec_DrawIsValidRecord.calls _ _ l0 t422 t423 _ ?side1 ?side2 A4.out).mono ?_); (case side1 => repeat (first | exact HR0.out | (with_reducible refine Kd.C_alloc ?_ _) | (with_reducible refine Kd.C_drewN ?_ _) | (with_reducible refine Kd.C_drew ?_))); (case side2 => exact HC0.out); rintro e w16 ⟨rfl, hb⟩; refine ⟨_, rfl, ?_⟩; have n0_ := Aside0.mk (below_step q61 hb); clear HB; have HB := n0_; clear n0_; (try clear hb); (try clear hb2); (try clear hk); (try clear hi)) | ((with_reducible refine gate_dst (N := 3) rfl ?_); (try (refine gate_guard (by rfl) ?_; dsimp only)); refine box_event ?hg (N := 3) ?hd (cs := #[.string (⟨#[]⟩ : ByteArray), .string (⟨#[]⟩ : ByteArray)]) (t := 25) ?hr ?_; (case hd => rfl); (case hg => rfl); (case hr => first | (go_simp; done) | (go_simp; rfl)); intro gb424 hg w17 hbox hb; have n0_ := Aside0.mk (below_step q61 hb); have n1_ := Aside0.mk (hbox); have n2_ := Aside0.mk ((by rw [hg]; exact (below_size q61) : w.heap.size ≤ gb424)); have n3_ := Aside0.mk ((by rw [hg]; exact (below_size q61) : w.heap.size ≤ gb424)); clear HB; have HB := n0_; have BK424 := n1_; have GW424 := n2_; have GE424 := n3_; clear n0_ n1_ n2_ n3_; clear hb hbox hg; have hcz18_0 : w17.cell? ⟨gb424, 0, none⟩ = some (.string (⟨#[]⟩ : ByteArray)) := (blk_cell BK424.out 0).trans rfl; have hcz18_1 : w17.cell? ⟨gb424, 1, none⟩ = some (.string (⟨#[]⟩ : ByteArray)) := (blk_cell BK424.out 1).trans rfl; have hfz18_0 := blk_frozen BK424.out 0; have hfz18_1 := blk_frozen BK424.out 1) | ((with_reducible refine gate_callee (f := 8) rfl ?_); refine goesL_ (some 35) rfl rfl Tryd.func8 (by kernel_rfl) rfl #[.slice A0 l0.length c0, .int .i64 1] rfl q60 ?_; (with_reducible refine (laws_vCut.calls _ _ l0 1 t425 _ ?side1 ?side2 A5.out).mono ?_); (case side1 => exact Kd.C_below HR0.out q39); (case side2 => exact HC0.out); rintro e w19 ⟨v426, rfl, ho0, hb⟩; refine ⟨_, rfl, ?_⟩; have n0_ := Aside0.mk (Kd.R_lower ho0 (below_size q39)); have n1_ := Aside0.mk (blk_below (g := gb424) (o := .cells #[.string t422, .string t423] 25 (0, 0)) (by (with_reducible repeat (first | refine blk_drewN ?_ _ | refine blk_drew ?_ | refine blk_alloc ?_ _)); refine blk_put (cs := #[.string t422, .string (⟨#[]⟩ : ByteArray)]) ?_ 1 _ rfl; (with_reducible repeat (first | refine blk_drewN ?_ _ | refine blk_drew ?_ | refine blk_alloc ?_ _)); refine blk_put (cs := #[.string (⟨#[]⟩ : ByteArray), .string (⟨#[]⟩ : ByteArray)]) ?_ 0 _ rfl; (with_reducible repeat (first | refine blk_drewN ?_ _ | refine blk_drew ?_ | refine blk_alloc ?_ _)); exact BK424.out) hb); have n2_ := Aside0.mk (below_step q39 hb); clear BK424; clear HB; have HO427 := n0_; have BK424 := n1_; have HB := n2_; clear n0_ n1_ n2_; (try clear hb); (try clear hb2); (try clear hk); (try clear hi); (try clear ho0); obtain ⟨Ao20, co20, eo20⟩ := Kd.R_slice HO427.out; subst eo20) | ((with_reducible refine gate_callee (f := 7) rfl ?_); refine goesL_ (some 36) rfl rfl Tryd.func7 (by kernel_rfl) rfl #[.slice Ao20 t425.length co20] rfl q60 ?_; (with_reducible refine (spec_DrawEncodeRecord.calls _ _ t425 t428 t429 t430 _ ?side1 ?side2 A6.out).mono ?_); (case side1 => repeat (first | exact (Kd.R_reads' HO427.out).2.2 | (with_reducible refine Kd.C_alloc ?_ _) | (with_reducible refine Kd.C_drewN ?_ _) | (with_reducible refine Kd.C_drew ?_))); (case side2 => exact (Kd.R_reads' HO427.out).2.1); rintro e w21 ⟨rfl, hb⟩; refine ⟨_, rfl, ?_⟩; have n0_ := Aside0.mk (Kd.R_below q102 hb); have n1_ := Aside0.mk (blk_below (g := gb424) (o := .cells #[.string t422, .string t423] 25 (0, 0)) q70 hb); have n2_ := Aside0.mk (below_step q39 hb); clear HO427; clear BK424; clear HB; have HO427 := n0_; have BK424 := n1_; have HB := n2_; clear n0_ n1_ n2_; (try clear hb); (try clear hb2); (try clear hk); (try clear hi)) | ((with_reducible refine gate_dst (N := 5) rfl ?_); (try (refine gate_guard (by rfl) ?_; dsimp only)); refine box_event ?hg (N := 5) ?hd (cs := #[.string (⟨#[]⟩ : ByteArray), .string (⟨#[]⟩ : ByteArray)]) (t := 25) ?hr ?_; (case hd => rfl); (case hg => rfl); (case hr => first | (go_simp; done) | (go_simp; rfl)); intro gb431 hg w22 hbox hb; have n0_ := Aside0.mk (Kd.R_below q102 hb); have n1_ := Aside0.mk (blk_below (g := gb424) (o := .cells #[.string t422, .string t423] 25 (0, 0)) q70 hb); have n2_ := Aside0.mk (below_step q39 hb); have n3_ := Aside0.mk (hbox); have n4_ := Aside0.mk ((by rw [hg]; exact (below_size q39) : w.heap.size ≤ gb431)); have n5_ := Aside0.mk ((by rw [hg]; exact (below_size q39) : w.heap.size ≤ gb431)); have n6_ := Aside0.mk ((by rw [hg]; exact Nat.ne_of_lt (blk_lt (g := gb424) (o := .cells #[.string t422, .string t423] 25 (0, 0)) q70) : gb424 ≠ gb431)); have n7_ := Aside0.mk ((by rw [hg]; exact Nat.ne_of_gt (blk_lt (g := gb424) (o := .cells #[.string t422, .string t423] 25 (0, 0)) q70) : gb431 ≠ gb424)); clear HO427; clear BK424; clear HB; have HO427 := n0_; have BK424 := n1_; have HB := n2_; have BK431 := n3_; have GW431 := n4_; have GE431 := n5_; have NB424_431 := n6_; have NB431_424 := n7_; clear n0_ n1_ n2_ n3_ n4_ n5_ n6_ n7_; clear hb hbox hg; have hnb23 := NB431_424.out; have hnc23 := NB424_431.out; have hcz24_0 : w22.cell? ⟨gb431, 0, none⟩ = some (.string (⟨#[]⟩ : ByteArray)) := (blk_cell BK431.out 0).trans rfl; have hcz24_1 : w22.cell? ⟨gb431, 1, none⟩ = some (.string (⟨#[]⟩ : ByteArray)) := (blk_cell BK431.out 1).trans rfl; have hfz24_0 := blk_frozen BK431.out 0; have hfz24_1 := blk_frozen BK431.out 1) | ((with_reducible refine gate_callee (f := 9) rfl ?_); refine goesL_ (some 42) rfl rfl Tryd.func9 (by kernel_rfl) rfl #[.int .i64 t428, .agg #[.string t429, .string t430]] rfl q60 ?_; (with_reducible refine (impl_EncodeRecord.calls k t428 t429 t430 t432 t433 _ ?side1 A7.out).mono ?_); (case side1 => exact XTab.below HTAB.out q26); rintro e w25 ⟨rfl, hb⟩; refine ⟨_, rfl, ?_⟩; have n0_ := Aside0.mk (Kd.R_below (by (with_reducible repeat (first | apply Kd.R_alloc | apply Kd.R_drewN | apply Kd.R_drew)); exact (Kd.R_mono (Kd.R_far (p := ⟨gb431, 1, none⟩) (Kd.R_far (p := ⟨gb431, 0, none⟩) (Kd.R_types HO427.out BK431.out (by decide)) (fun _ hk => hk.2) (.string t429)) (fun _ hk => hk.2) (.string t430)) (fun _ h_ => h_.1))) hb); have n1_ := Aside0.mk (blk_below (g := gb424) (o := .cells #[.string t422, .string t423] 25 (0, 0)) (by (repeat (first | (with_reducible first | refine blk_drewN ?_ _ | refine blk_drew ?_ | refine blk_alloc ?_ _) | refine blk_far ?_ NB424_431.out _)); exact BK424.out) hb); have n2_ := Aside0.mk (blk_below (g := gb431) (o := .cells #[.string t429, .string t430] 25 (0, 0)) (by (with_reducible repeat (first | refine blk_drewN ?_ _ | refine blk_drew ?_ | refine blk_alloc ?_ _)); refine blk_put (cs := #[.string t429, .string (⟨#[]⟩ : ByteArray)]) ?_ 1 _ rfl; (with_reducible repeat (first | refine blk_drewN ?_ _ | refine blk_drew ?_ | refine blk_alloc ?_ _)); refine blk_put (cs := #[.string (⟨#[]⟩ : ByteArray), .string (⟨#[]⟩ : ByteArray)]) ?_ 0 _ rfl; (with_reducible repeat (first | refine blk_drewN ?_ _ | refine blk_drew ?_ | refine blk_alloc ?_ _)); exact BK431.out) hb); have n3_ := Aside0.mk (below_step q26 hb); clear HO427; clear BK424; clear BK431; clear HB; have HO427 := n0_; have BK424 := n1_; have BK431 := n2_; have HB := n3_; clear n0_ n1_ n2_ n3_; (try clear hb); (try clear hb2); (try clear hk); (try clear hi); have hcz26_0 : w25.cell? ⟨gb431, 0, none⟩ = some (.string t429) := (blk_cell BK431.out 0).trans rfl; have hcz26_1 : w25.cell? ⟨gb431, 1, none⟩ = some (.string t430) := (blk_cell BK431.out 1).trans rfl; have hfz26_0 := blk_frozen BK431.out 0; have hfz26_1 := blk_frozen BK431.out 1) | ((with_reducible refine gate_callee (f := 10) rfl ?_); refine goesL_ (some 48) rfl rfl Tryd.func10 (by kernel_rfl) rfl #[.int .i64 t428, .agg #[.string t429, .string t430]] rfl q60 ?_; (with_reducible refine (spec_EncodeRecord.calls k t428 t429 t430 t434 t435 _ A8.out).mono ?_); rintro e w27 ⟨rfl, hb⟩; refine ⟨_, rfl, ?_⟩; have n0_ := Aside0.mk (Kd.R_below q102 hb); have n1_ := Aside0.mk (blk_below (g := gb424) (o := .cells #[.string t422, .string t423] 25 (0, 0)) q70 hb); have n2_ := Aside0.mk (blk_below (g := gb431) (o := .cells #[.string t429, .string t430] 25 (0, 0)) q69 hb); have n3_ := Aside0.mk (below_step q26 hb); clear HO427; clear BK424; clear BK431; clear HB; have HO427 := n0_; have BK424 := n1_; have BK431 := n2_; have HB := n3_; clear n0_ n1_ n2_ n3_; (try clear hb); (try clear hb2); (try clear hk); (try clear hi)) | ((with_reducible refine gate_callee (f := 8) rfl ?_); refine goesL_ (some 52) rfl rfl Tryd.func8 (by kernel_rfl) rfl #[.slice A0 l0.length c0, .int .i64 2] rfl q60 ?_; (with_reducible refine (laws_vCut.calls _ _ l0 2 t436 _ ?side1 ?side2 A9.out).mono ?_); (case side1 => repeat (first | exact (Kd.C_below HR0.out HB.out) | (with_reducible refine Kd.C_alloc ?_ _) | (with_reducible refine Kd.C_drewN ?_ _) | (with_reducible refine Kd.C_drew ?_))); (case side2 => exact HC0.out); rintro e w28 ⟨v437, rfl, ho0, hb⟩; refine ⟨_, rfl, ?_⟩; have n0_ := Aside0.mk (Kd.R_elder' q102 (Kd.R_base ho0) hb); have n1_ := Aside0.mk (Kd.R_lower (Kd.R_new' ho0 (Kd.R_lt q102)) (below_size q26)); have n2_ := Aside0.mk (blk_below (g := gb424) (o := .cells #[.string t422, .string t423] 25 (0, 0)) q70 hb); have n3_ := Aside0.mk (blk_below (g := gb431) (o := .cells #[.string t429, .string t430] 25 (0, 0)) q69 hb); have n4_ := Aside0.mk (below_step q26 hb); clear HO427; clear BK424; clear BK431; clear HB; have HO427 := n0_; have HO438 := n1_; have BK424 := n2_; have BK431 := n3_; have HB := n4_; clear n0_ n1_ n2_ n3_ n4_; (try clear hb); (try clear hb2); (try clear hk); (try clear hi); (try clear ho0); obtain ⟨Ao29, co29, eo29⟩ := Kd.R_slice HO438.out; subst eo29) | ((with_reducible refine gate_callee (f := 11) rfl ?_); refine goesL_ (some 53) rfl rfl Tryd.func11 (by kernel_rfl) rfl #[.slice Ao29 t436.length co29] rfl q60 ?_; (with_reducible refine (spec_DrawIsValidLog.calls k _ _ t436 t439 t440 t441 _ ?side1 ?side2 A10.out).mono ?_); (case side1 => repeat (first | exact (Kd.R_reads' HO438.out).2.2 | (with_reducible refine Kd.C_alloc ?_ _) | (with_reducible refine Kd.C_drewN ?_ _) | (with_reducible refine Kd.C_drew ?_))); (case side2 => exact (Kd.R_reads' HO438.out).2.1); rintro e w30 ⟨rfl, hb⟩; refine ⟨_, rfl, ?_⟩; have n0_ := Aside0.mk (Kd.R_below q102 hb); have n1_ := Aside0.mk (Kd.R_below q101 hb); have n2_ := Aside0.mk (blk_below (g := gb424) (o := .cells #[.string t422, .string t423] 25 (0, 0)) q70 hb); have n3_ := Aside0.mk (blk_below (g := gb431) (o := .cells #[.string t429, .string t430] 25 (0, 0)) q69 hb); have n4_ := Aside0.mk (below_step q26 hb); clear HO427; clear HO438; clear BK424; clear BK431; clear HB; have HO427 := n0_; have HO438 := n1_; have BK424 := n2_; have BK431 := n3_; have HB := n4_; clear n0_ n1_ n2_ n3_ n4_; (try clear hb); (try clear hb2); (try clear hk); (try clear hi)) | ((with_reducible refine gate_dst (N := 10) rfl ?_); (try (refine gate_guard (by rfl) ?_; dsimp only)); refine box_event ?hg (N := 10) ?hd (cs := #[.string (⟨#[]⟩ : ByteArray), .string (⟨#[]⟩ : ByteArray), .int .i64 0]) (t := 33) ?hr ?_; (case hd => rfl); (case hg => rfl); (case hr => first | (go_simp; done) | (go_simp; rfl)); intro gb442 hg w31 hbox hb; have n0_ := Aside0.mk (Kd.R_below q102 hb); have n1_ := Aside0.mk (Kd.R_below q101 hb); have n2_ := Aside0.mk (blk_below (g := gb424) (o := .cells #[.string t422, .string t423] 25 (0, 0)) q70 hb); have n3_ := Aside0.mk (blk_below (g := gb431) (o := .cells #[.string t429, .string t430] 25 (0, 0)) q69 hb); have n4_ := Aside0.mk (below_step q26 hb); have n5_ := Aside0.mk (hbox); have n6_ := Aside0.mk ((by rw [hg]; exact (below_size q26) : w.heap.size ≤ gb442)); have n7_ := Aside0.mk ((by rw [hg]; exact (below_size q26) : w.heap.size ≤ gb442)); have n8_ := Aside0.mk ((by rw [hg]; exact Nat.ne_of_lt (blk_lt (g := gb424) (o := .cells #[.string t422, .string t423] 25 (0, 0)) q70) : gb424 ≠ gb442)); have n9_ := Aside0.mk ((by rw [hg]; exact Nat.ne_of_gt (blk_lt (g := gb424) (o := .cells #[.string t422, .string t423] 25 (0, 0)) q70) : gb442 ≠ gb424)); have n10_ := Aside0.mk ((by rw [hg]; exact Nat.ne_of_lt (blk_lt (g := gb431) (o := .cells #[.string t429, .string t430] 25 (0, 0)) q69) : gb431 ≠ gb442)); have n11_ := Aside0.mk ((by rw [hg]; exact Nat.ne_of_gt (blk_lt (g := gb431) (o := .cells #[.string t429, .string t430] 25 (0, 0)) q69) : gb442 ≠ gb431)); clear HO427; clear HO438; clear BK424; clear BK431; clear HB; have HO427 := n0_; have HO438 := n1_; have BK424 := n2_; have BK431 := n3_; have HB := n4_; have BK442 := n5_; have GW442 := n6_; have GE442 := n7_; have NB424_442 := n8_; have NB442_424 := n9_; have NB431_442 := n10_; have NB442_431 := n11_; clear n0_ n1_ n2_ n3_ n4_ n5_ n6_ n7_ n8_ n9_ n10_ n11_; clear hb hbox hg; have hnb32 := NB442_424.out; have hnc32 := NB424_442.out; have hnb33 := NB442_431.out; have hnc33 := NB431_442.out; have hcz34_0 : w31.cell? ⟨gb442, 0, none⟩ = some (.string (⟨#[]⟩ : ByteArray)) := (blk_cell BK442.out 0).trans rfl; have hcz34_1 : w31.cell? ⟨gb442, 1, none⟩ = some (.string (⟨#[]⟩ : ByteArray)) := (blk_cell BK442.out 1).trans rfl; have hcz34_2 : w31.cell? ⟨gb442, 2, none⟩ = some (.int .i64 0) := (blk_cell BK442.out 2).trans rfl; have hfz34_0 := blk_frozen BK442.out 0; have hfz34_1 := blk_frozen BK442.out 1; have hfz34_2 := blk_frozen BK442.out 2) | ((with_reducible refine gate_callee (f := 8) rfl ?_); refine goesL_ (some 56) rfl rfl Tryd.func8 (by kernel_rfl) rfl #[.slice A0 l0.length c0, .int .i64 3] rfl q60 ?_; (with_reducible refine (laws_vCut.calls _ _ l0 3 t443 _ ?side1 ?side2 A11.out).mono ?_); (case side1 => exact Kd.C_below HR0.out q16); (case side2 => exact HC0.out); rintro e w35 ⟨v444, rfl, ho0, hb⟩; refine ⟨_, rfl, ?_⟩; have n0_ := Aside0.mk (Kd.R_elder' (by (with_reducible repeat (first | apply Kd.R_alloc | apply Kd.R_drewN | apply Kd.R_drew)); exact (Kd.R_mono (Kd.R_far (p := ⟨gb442, 2, none⟩) (Kd.R_far (p := ⟨gb442, 1, none⟩) (Kd.R_far (p := ⟨gb442, 0, none⟩) (Kd.R_types HO427.out BK442.out (by decide)) (fun _ hk => hk.2) (.string t439)) (fun _ hk => hk.2) (.string t440)) (fun _ hk => hk.2) (.int .i64 t441)) (fun _ h_ => h_.1))) (Kd.R_base ho0) hb); have n1_ := Aside0.mk (Kd.R_elder' (by (with_reducible repeat (first | apply Kd.R_alloc | apply Kd.R_drewN | apply Kd.R_drew)); exact (Kd.R_mono (Kd.R_far (p := ⟨gb442, 2, none⟩) (Kd.R_far (p := ⟨gb442, 1, none⟩) (Kd.R_far (p := ⟨gb442, 0, none⟩) (Kd.R_types HO438.out BK442.out (by decide)) (fun _ hk => hk.2) (.string t439)) (fun _ hk => hk.2) (.string t440)) (fun _ hk => hk.2) (.int .i64 t441)) (fun _ h_ => h_.1))) (Kd.R_base ho0) hb); have n2_ := Aside0.mk (Kd.R_lower (Kd.R_new' (Kd.R_new' ho0 (Kd.R_lt (by (with_reducible repeat (first | apply Kd.R_alloc | apply Kd.R_drewN | apply Kd.R_drew)); exact (Kd.R_mono (Kd.R_far (p := ⟨gb442, 2, none⟩) (Kd.R_far (p := ⟨gb442, 1, none⟩) (Kd.R_far (p := ⟨gb442, 0, none⟩) (Kd.R_types HO427.out BK442.out (by decide)) (fun _ hk => hk.2) (.string t439)) (fun _ hk => hk.2) (.string t440)) (fun _ hk => hk.2) (.int .i64 t441)) (fun _ h_ => h_.1))))) (Kd.R_lt (by (with_reducible repeat (first | apply Kd.R_alloc | apply Kd.R_drewN | apply Kd.R_drew)); exact (Kd.R_mono (Kd.R_far (p := ⟨gb442, 2, none⟩) (Kd.R_far (p := ⟨gb442, 1, none⟩) (Kd.R_far (p := ⟨gb442, 0, none⟩) (Kd.R_types HO438.out BK442.out (by decide)) (fun _ hk => hk.2) (.string t439)) (fun _ hk => hk.2) (.string t440)) (fun _ hk => hk.2) (.int .i64 t441)) (fun _ h_ => h_.1))))) (below_size q16)); have n3_ := Aside0.mk (blk_below (g := gb424) (o := .cells #[.string t422, .string t423] 25 (0, 0)) (by (repeat (first | (with_reducible first | refine blk_drewN ?_ _ | refine blk_drew ?_ | refine blk_alloc ?_ _) | refine blk_far ?_ NB424_442.out _)); exact BK424.out) hb); have n4_ := Aside0.mk (blk_below (g := gb431) (o := .cells #[.string t429, .string t430] 25 (0, 0)) (by (repeat (first | (with_reducible first | refine blk_drewN ?_ _ | refine blk_drew ?_ | refine blk_alloc ?_ _) | refine blk_far ?_ NB431_442.out _)); exact BK431.out) hb); have n5_ := Aside0.mk (blk_below (g := gb442) (o := .cells #[.string t439, .string t440, .int .i64 t441] 33 (0, 0)) (by (with_reducible repeat (first | refine blk_drewN ?_ _ | refine blk_drew ?_ | refine blk_alloc ?_ _)); refine blk_put (cs := #[.string t439, .string t440, .int .i64 0]) ?_ 2 _ rfl; (with_reducible repeat (first | refine blk_drewN ?_ _ | refine blk_drew ?_ | refine blk_alloc ?_ _)); refine blk_put (cs := #[.string t439, .string (⟨#[]⟩ : ByteArray), .int .i64 0]) ?_ 1 _ rfl; (with_reducible repeat (first | refine blk_drewN ?_ _ | refine blk_drew ?_ | refine blk_alloc ?_ _)); refine blk_put (cs := #[.string (⟨#[]⟩ : ByteArray), .string (⟨#[]⟩ : ByteArray), .int .i64 0]) ?_ 0 _ rfl; (with_reducible repeat (first | refine blk_drewN ?_ _ | refine blk_drew ?_ | refine blk_alloc ?_ _)); exact BK442.out) hb); have n6_ := Aside0.mk (below_step q16 hb); clear HO427; clear HO438; clear BK424; clear BK431; clear BK442; clear HB; have HO427 := n0_; have HO438 := n1_; have HO445 := n2_; have BK424 := n3_; have BK431 := n4_; have BK442 := n5_; have HB := n6_; clear n0_ n1_ n2_ n3_ n4_ n5_ n6_; (try clear hb); (try clear hb2); (try clear hk); (try clear hi); (try clear ho0); obtain ⟨Ao36, co36, eo36⟩ := Kd.R_slice HO445.out; subst eo36) | ((with_reducible refine gate_callee (f := 12) rfl ?_); refine goesL_ (some 57) rfl rfl Tryd.func12 (by kernel_rfl) rfl #[.slice Ao36 t443.length co36] rfl q60 ?_; (with_reducible refine (spec_DrawAppendRecord.calls k _ _ t443 t446 t447 t448 t449 t450 _ ?side1 ?side2 A12.out).mono ?_); (case side1 => repeat (first | exact (Kd.R_reads' HO445.out).2.2 | (with_reducible refine Kd.C_alloc ?_ _) | (with_reducible refine Kd.C_drewN ?_ _) | (with_reducible refine Kd.C_drew ?_))); (case side2 => exact (Kd.R_reads' HO445.out).2.1); rintro e w37 ⟨rfl, hb⟩; refine ⟨_, rfl, ?_⟩; have n0_ := Aside0.mk (Kd.R_below q102 hb); have n1_ := Aside0.mk (Kd.R_below q101 hb); have n2_ := Aside0.mk (Kd.R_below q100 hb); have n3_ := Aside0.mk (blk_below (g := gb424) (o := .cells #[.string t422, .string t423] 25 (0, 0)) q70 hb); have n4_ := Aside0.mk (blk_below (g := gb431) (o := .cells #[.string t429, .string t430] 25 (0, 0)) q69 hb); have n5_ := Aside0.mk (blk_below (g := gb442) (o := .cells #[.string t439, .string t440, .int .i64 t441] 33 (0, 0)) q68 hb); have n6_ := Aside0.mk (below_step q16 hb); clear HO427; clear HO438; clear HO445; clear BK424; clear BK431; clear BK442; clear HB; have HO427 := n0_; have HO438 := n1_; have HO445 := n2_; have BK424 := n3_; have BK431 := n4_; have BK442 := n5_; have HB := n6_; clear n0_ n1_ n2_ n3_ n4_ n5_ n6_; (try clear hb); (try clear hb2); (try clear hk); (try clear hi)) | ((with_reducible refine gate_dst (N := 11) rfl ?_); (try (refine gate_guard (by rfl) ?_; dsimp only)); refine box_event ?hg (N := 11) ?hd (cs := #[.string (⟨#[]⟩ : ByteArray), .string (⟨#[]⟩ : ByteArray), .int .i64 0]) (t := 33) ?hr ?_; (case hd => rfl); (case hg => rfl); (case hr => first | (go_simp; done) | (go_simp; rfl)); intro gb451 hg w38 hbox hb; have n0_ := Aside0.mk (Kd.R_below q102 hb); have n1_ := Aside0.mk (Kd.R_below q101 hb); have n2_ := Aside0.mk (Kd.R_below q100 hb); have n3_ := Aside0.mk (blk_below (g := gb424) (o := .cells #[.string t422, .string t423] 25 (0, 0)) q70 hb); have n4_ := Aside0.mk (blk_below (g := gb431) (o := .cells #[.string t429, .string t430] 25 (0, 0)) q69 hb); have n5_ := Aside0.mk (blk_below (g := gb442) (o := .cells #[.string t439, .string t440, .int .i64 t441] 33 (0, 0)) q68 hb); have n6_ := Aside0.mk (below_step q16 hb); have n7_ := Aside0.mk (hbox); have n8_ := Aside0.mk ((by rw [hg]; exact (below_size q16) : w.heap.size ≤ gb451)); have n9_ := Aside0.mk ((by rw [hg]; exact (below_size q16) : w.heap.size ≤ gb451)); have n10_ := Aside0.mk ((by rw [hg]; exact Nat.ne_of_lt (blk_lt (g := gb424) (o := .cells #[.string t422, .string t423] 25 (0, 0)) q70) : gb424 ≠ gb451)); have n11_ := Aside0.mk ((by rw [hg]; exact Nat.ne_of_gt (blk_lt (g := gb424) (o := .cells #[.string t422, .string t423] 25 (0, 0)) q70) : gb451 ≠ gb424)); have n12_ := Aside0.mk ((by rw [hg]; exact Nat.ne_of_lt (blk_lt (g := gb431) (o := .cells #[.string t429, .string t430] 25 (0, 0)) q69) : gb431 ≠ gb451)); have n13_ := Aside0.mk ((by rw [hg]; exact Nat.ne_of_gt (blk_lt (g := gb431) (o := .cells #[.string t429, .string t430] 25 (0, 0)) q69) : gb451 ≠ gb431)); have n14_ := Aside0.mk ((by rw [hg]; exact Nat.ne_of_lt (blk_lt (g := gb442) (o := .cells #[.string t439, .string t440, .int .i64 t441] 33 (0, 0)) q68) : gb442 ≠ gb451)); have n15_ := Aside0.mk ((by rw [hg]; exact Nat.ne_of_gt (blk_lt (g := gb442) (o := .cells #[.string t439, .string t440, .int .i64 t441] 33 (0, 0)) q68) : gb451 ≠ gb442)); clear HO427; clear HO438; clear HO445; clear BK424; clear BK431; clear BK442; clear HB; have HO427 := n0_; have HO438 := n1_; have HO445 := n2_; have BK424 := n3_; have BK431 := n4_; have BK442 := n5_; have HB := n6_; have BK451 := n7_; have GW451 := n8_; have GE451 := n9_; have NB424_451 := n10_; have NB451_424 := n11_; have NB431_451 := n12_; have NB451_431 := n13_; have NB442_451 := n14_; have NB451_442 := n15_; clear n0_ n1_ n2_ n3_ n4_ n5_ n6_ n7_ n8_ n9_ n10_ n11_ n12_ n13_ n14_ n15_; clear hb hbox hg) | ((with_reducible refine gate_dst (N := 12) rfl ?_); (try (refine gate_guard (by rfl) ?_; dsimp only)); refine box_event ?hg (N := 12) ?hd (cs := #[.string (⟨#[]⟩ : ByteArray), .string (⟨#[]⟩ : ByteArray)]) (t := 25) ?hr ?_; (case hd => rfl); (case hg => rfl); (case hr => first | (go_simp; done) | (go_simp; rfl)); intro gb452 hg w39 hbox hb; have n0_ := Aside0.mk (Kd.R_below q102 hb); have n1_ := Aside0.mk (Kd.R_below q101 hb); have n2_ := Aside0.mk (Kd.R_below q100 hb); have n3_ := Aside0.mk (blk_below (g := gb424) (o := .cells #[.string t422, .string t423] 25 (0, 0)) q70 hb); have n4_ := Aside0.mk (blk_below (g := gb431) (o := .cells #[.string t429, .string t430] 25 (0, 0)) q69 hb); have n5_ := Aside0.mk (blk_below (g := gb442) (o := .cells #[.string t439, .string t440, .int .i64 t441] 33 (0, 0)) q68 hb); have n6_ := Aside0.mk (blk_below (g := gb451) (o := .cells #[.string (⟨#[]⟩ : ByteArray), .string (⟨#[]⟩ : ByteArray), .int .i64 0] 33 (0, 0)) q67 hb); have n7_ := Aside0.mk (below_step q10 hb); have n8_ := Aside0.mk (hbox); have n9_ := Aside0.mk ((by rw [hg]; exact (below_size q10) : w.heap.size ≤ gb452)); have n10_ := Aside0.mk ((by rw [hg]; exact (below_size q10) : w.heap.size ≤ gb452)); have n11_ := Aside0.mk ((by rw [hg]; exact Nat.ne_of_lt (blk_lt (g := gb424) (o := .cells #[.string t422, .string t423] 25 (0, 0)) q70) : gb424 ≠ gb452)); have n12_ := Aside0.mk ((by rw [hg]; exact Nat.ne_of_gt (blk_lt (g := gb424) (o := .cells #[.string t422, .string t423] 25 (0, 0)) q70) : gb452 ≠ gb424)); have n13_ := Aside0.mk ((by rw [hg]; exact Nat.ne_of_lt (blk_lt (g := gb431) (o := .cells #[.string t429, .string t430] 25 (0, 0)) q69) : gb431 ≠ gb452)); have n14_ := Aside0.mk ((by rw [hg]; exact Nat.ne_of_gt (blk_lt (g := gb431) (o := .cells #[.string t429, .string t430] 25 (0, 0)) q69) : gb452 ≠ gb431)); have n15_ := Aside0.mk ((by rw [hg]; exact Nat.ne_of_lt (blk_lt (g := gb442) (o := .cells #[.string t439, .string t440, .int .i64 t441] 33 (0, 0)) q68) : gb442 ≠ gb452)); have n16_ := Aside0.mk ((by rw [hg]; exact Nat.ne_of_gt (blk_lt (g := gb442) (o := .cells #[.string t439, .string t440, .int .i64 t441] 33 (0, 0)) q68) : gb452 ≠ gb442)); have n17_ := Aside0.mk ((by rw [hg]; exact Nat.ne_of_lt (blk_lt (g := gb451) (o := .cells #[.string (⟨#[]⟩ : ByteArray), .string (⟨#[]⟩ : ByteArray), .int .i64 0] 33 (0, 0)) q67) : gb451 ≠ gb452)); have n18_ := Aside0.mk ((by rw [hg]; exact Nat.ne_of_gt (blk_lt (g := gb451) (o := .cells #[.string (⟨#[]⟩ : ByteArray), .string (⟨#[]⟩ : ByteArray), .int .i64 0] 33 (0, 0)) q67) : gb452 ≠ gb451)); clear HO427; clear HO438; clear HO445; clear BK424; clear BK431; clear BK442; clear BK451; clear HB; have HO427 := n0_; have HO438 := n1_; have HO445 := n2_; have BK424 := n3_; have BK431 := n4_; have BK442 := n5_; have BK451 := n6_; have HB := n7_; have BK452 := n8_; have GW452 := n9_; have GE452 := n10_; have NB424_452 := n11_; have NB452_424 := n12_; have NB431_452 := n13_; have NB452_431 := n14_; have NB442_452 := n15_; have NB452_442 := n16_; have NB451_452 := n17_; have NB452_451 := n18_; clear n0_ n1_ n2_ n3_ n4_ n5_ n6_ n7_ n8_ n9_ n10_ n11_ n12_ n13_ n14_ n15_ n16_ n17_ n18_; clear hb hbox hg; have hnb40 := NB451_424.out; have hnc40 := NB424_451.out; have hnb41 := NB451_431.out; have hnc41 := NB431_451.out; have hnb42 := NB451_442.out; have hnc42 := NB442_451.out; have hnb43 := NB451_452.out; have hnc43 := NB452_451.out; have hcz44_0 : w39.cell? ⟨gb451, 0, none⟩ = some (.string (⟨#[]⟩ : ByteArray)) := (blk_cell BK451.out 0).trans rfl; have hcz44_1 : w39.cell? ⟨gb451, 1, none⟩ = some (.string (⟨#[]⟩ : ByteArray)) := (blk_cell BK451.out 1).trans rfl; have hcz44_2 : w39.cell? ⟨gb451, 2, none⟩ = some (.int .i64 0) := (blk_cell BK451.out 2).trans rfl; have hfz44_0 := blk_frozen BK451.out 0; have hfz44_1 := blk_frozen BK451.out 1; have hfz44_2 := blk_frozen BK451.out 2; have hnb45 := NB452_424.out; have hnc45 := NB424_452.out; have hnb46 := NB452_431.out; have hnc46 := NB431_452.out; have hnb47 := NB452_442.out; have hnc47 := NB442_452.out; have hcz48_0 : w39.cell? ⟨gb452, 0, none⟩ = some (.string (⟨#[]⟩ : ByteArray)) := (blk_cell BK452.out 0).trans rfl; have hcz48_1 : w39.cell? ⟨gb452, 1, none⟩ = some (.string (⟨#[]⟩ : ByteArray)) := (blk_cell BK452.out 1).trans rfl; have hfz48_0 := blk_frozen BK452.out 0; have hfz48_1 := blk_frozen BK452.out 1) | ((with_reducible refine gate_callee (f := 13) rfl ?_); refine goesL_ (some 63) rfl rfl Tryd.func13 (by kernel_rfl) rfl #[.agg #[.string t446, .string t447, .int .i64 t448], .agg #[.string t449, .string t450]] rfl q60 ?_; (with_reducible refine (impl_AppendRecord.calls k t446 t447 t448 t449 t450 t453 t454 t455 t456 _ ?side1 A13.out).mono ?_); (case side1 => exact XTab.below HTAB.out q9); rintro e w49 ⟨rfl, hb⟩; refine ⟨_, rfl, ?_⟩; have n0_ := Aside0.mk (Kd.R_below (by (with_reducible repeat (first | apply Kd.R_alloc | apply Kd.R_drewN | apply Kd.R_drew)); exact (Kd.R_mono (Kd.R_mono (Kd.R_far (p := ⟨gb452, 1, none⟩) (Kd.R_far (p := ⟨gb452, 0, none⟩) (Kd.R_far (p := ⟨gb451, 2, none⟩) (Kd.R_far (p := ⟨gb451, 1, none⟩) (Kd.R_far (p := ⟨gb451, 0, none⟩) (Kd.R_types (Kd.R_types HO427.out BK451.out (by decide)) BK452.out (by decide)) (fun _ hk => hk.1.2) (.string t446)) (fun _ hk => hk.1.2) (.string t447)) (fun _ hk => hk.1.2) (.int .i64 t448)) (fun _ hk => hk.2) (.string t449)) (fun _ hk => hk.2) (.string t450)) (fun _ h_ => h_.1)) (fun _ h_ => h_.1))) hb); have n1_ := Aside0.mk (Kd.R_below (by (with_reducible repeat (first | apply Kd.R_alloc | apply Kd.R_drewN | apply Kd.R_drew)); exact (Kd.R_mono (Kd.R_mono (Kd.R_far (p := ⟨gb452, 1, none⟩) (Kd.R_far (p := ⟨gb452, 0, none⟩) (Kd.R_far (p := ⟨gb451, 2, none⟩) (Kd.R_far (p := ⟨gb451, 1, none⟩) (Kd.R_far (p := ⟨gb451, 0, none⟩) (Kd.R_types (Kd.R_types HO438.out BK451.out (by decide)) BK452.out (by decide)) (fun _ hk => hk.1.2) (.string t446)) (fun _ hk => hk.1.2) (.string t447)) (fun _ hk => hk.1.2) (.int .i64 t448)) (fun _ hk => hk.2) (.string t449)) (fun _ hk => hk.2) (.string t450)) (fun _ h_ => h_.1)) (fun _ h_ => h_.1))) hb); have n2_ := Aside0.mk (Kd.R_below (by (with_reducible repeat (first | apply Kd.R_alloc | apply Kd.R_drewN | apply Kd.R_drew)); exact (Kd.R_mono (Kd.R_mono (Kd.R_far (p := ⟨gb452, 1, none⟩) (Kd.R_far (p := ⟨gb452, 0, none⟩) (Kd.R_far (p := ⟨gb451, 2, none⟩) (Kd.R_far (p := ⟨gb451, 1, none⟩) (Kd.R_far (p := ⟨gb451, 0, none⟩) (Kd.R_types (Kd.R_types HO445.out BK451.out (by decide)) BK452.out (by decide)) (fun _ hk => hk.1.2) (.string t446)) (fun _ hk => hk.1.2) (.string t447)) (fun _ hk => hk.1.2) (.int .i64 t448)) (fun _ hk => hk.2) (.string t449)) (fun _ hk => hk.2) (.string t450)) (fun _ h_ => h_.1)) (fun _ h_ => h_.1))) hb); have n3_ := Aside0.mk (blk_below (g := gb424) (o := .cells #[.string t422, .string t423] 25 (0, 0)) (by (repeat (first | (with_reducible first | refine blk_drewN ?_ _ | refine blk_drew ?_ | refine blk_alloc ?_ _) | refine blk_far ?_ NB424_452.out _)); refine blk_far ?_ NB424_451.out _; (repeat (first | (with_reducible first | refine blk_drewN ?_ _ | refine blk_drew ?_ | refine blk_alloc ?_ _) | refine blk_far ?_ NB424_451.out _)); exact BK424.out) hb); have n4_ := Aside0.mk (blk_below (g := gb431) (o := .cells #[.string t429, .string t430] 25 (0, 0)) (by (repeat (first | (with_reducible first | refine blk_drewN ?_ _ | refine blk_drew ?_ | refine blk_alloc ?_ _) | refine blk_far ?_ NB431_452.out _)); refine blk_far ?_ NB431_451.out _; (repeat (first | (with_reducible first | refine blk_drewN ?_ _ | refine blk_drew ?_ | refine blk_alloc ?_ _) | refine blk_far ?_ NB431_451.out _)); exact BK431.out) hb); have n5_ := Aside0.mk (blk_below (g := gb442) (o := .cells #[.string t439, .string t440, .int .i64 t441] 33 (0, 0)) (by (repeat (first | (with_reducible first | refine blk_drewN ?_ _ | refine blk_drew ?_ | refine blk_alloc ?_ _) | refine blk_far ?_ NB442_452.out _)); refine blk_far ?_ NB442_451.out _; (repeat (first | (with_reducible first | refine blk_drewN ?_ _ | refine blk_drew ?_ | refine blk_alloc ?_ _) | refine blk_far ?_ NB442_451.out _)); exact BK442.out) hb); have n6_ := Aside0.mk (blk_below (g := gb451) (o := .cells #[.string t446, .string t447, .int .i64 t448] 33 (0, 0)) (by (repeat (first | (with_reducible first | refine blk_drewN ?_ _ | refine blk_drew ?_ | refine blk_alloc ?_ _) | refine blk_far ?_ NB451_452.out _)); refine blk_put (cs := #[.string t446, .string t447, .int .i64 0]) ?_ 2 _ rfl; (with_reducible repeat (first | refine blk_drewN ?_ _ | refine blk_drew ?_ | refine blk_alloc ?_ _)); refine blk_put (cs := #[.string t446, .string (⟨#[]⟩ : ByteArray), .int .i64 0]) ?_ 1 _ rfl; (with_reducible repeat (first | refine blk_drewN ?_ _ | refine blk_drew ?_ | refine blk_alloc ?_ _)); refine blk_put (cs := #[.string (⟨#[]⟩ : ByteArray), .string (⟨#[]⟩ : ByteArray), .int .i64 0]) ?_ 0 _ rfl; (with_reducible repeat (first | refine blk_drewN ?_ _ | refine blk_drew ?_ | refine blk_alloc ?_ _)); exact BK451.out) hb); have n7_ := Aside0.mk (blk_below (g := gb452) (o := .cells #[.string t449, .string t450] 25 (0, 0)) (by (with_reducible repeat (first | refine blk_drewN ?_ _ | refine blk_drew ?_ | refine blk_alloc ?_ _)); refine blk_put (cs := #[.string t449, .string (⟨#[]⟩ : ByteArray)]) ?_ 1 _ rfl; (with_reducible repeat (first | refine blk_drewN ?_ _ | refine blk_drew ?_ | refine blk_alloc ?_ _)); refine blk_put (cs := #[.string (⟨#[]⟩ : ByteArray), .string (⟨#[]⟩ : ByteArray)]) ?_ 0 _ rfl; (repeat (first | (with_reducible first | refine blk_drewN ?_ _ | refine blk_drew ?_ | refine blk_alloc ?_ _) | refine blk_far ?_ NB452_451.out _)); exact BK452.out) hb); have n8_ := Aside0.mk (below_step q9 hb); clear HO427; clear HO438; clear HO445; clear BK424; clear BK431; clear BK442; clear BK451; clear BK452; clear HB; have HO427 := n0_; have HO438 := n1_; have HO445 := n2_; have BK424 := n3_; have BK431 := n4_; have BK442 := n5_; have BK451 := n6_; have BK452 := n7_; have HB := n8_; clear n0_ n1_ n2_ n3_ n4_ n5_ n6_ n7_ n8_; (try clear hb); (try clear hb2); (try clear hk); (try clear hi)) | ((with_reducible refine gate_dst (N := 13) rfl ?_); (try (refine gate_guard (by rfl) ?_; dsimp only)); refine box_event ?hg (N := 13) ?hd (cs := #[.string (⟨#[]⟩ : ByteArray), .string (⟨#[]⟩ : ByteArray), .int .i64 0]) (t := 33) ?hr ?_; (case hd => rfl); (case hg => rfl); (case hr => first | (go_simp; done) | (go_simp; rfl)); intro gb457 hg w50 hbox hb; have n0_ := Aside0.mk (Kd.R_below q102 hb); have n1_ := Aside0.mk (Kd.R_below q101 hb); have n2_ := Aside0.mk (Kd.R_below q100 hb); have n3_ := Aside0.mk (blk_below (g := gb424) (o := .cells #[.string t422, .string t423] 25 (0, 0)) q70 hb); have n4_ := Aside0.mk (blk_below (g := gb431) (o := .cells #[.string t429, .string t430] 25 (0, 0)) q69 hb); have n5_ := Aside0.mk (blk_below (g := gb442) (o := .cells #[.string t439, .string t440, .int .i64 t441] 33 (0, 0)) q68 hb); have n6_ := Aside0.mk (blk_below (g := gb451) (o := .cells #[.string t446, .string t447, .int .i64 t448] 33 (0, 0)) q67 hb); have n7_ := Aside0.mk (blk_below (g := gb452) (o := .cells #[.string t449, .string t450] 25 (0, 0)) q66 hb); have n8_ := Aside0.mk (below_step q9 hb); have n9_ := Aside0.mk (hbox); have n10_ := Aside0.mk ((by rw [hg]; exact (below_size q9) : w.heap.size ≤ gb457)); have n11_ := Aside0.mk ((by rw [hg]; exact (below_size q9) : w.heap.size ≤ gb457)); have n12_ := Aside0.mk ((by rw [hg]; exact Nat.ne_of_lt (blk_lt (g := gb424) (o := .cells #[.string t422, .string t423] 25 (0, 0)) q70) : gb424 ≠ gb457)); have n13_ := Aside0.mk ((by rw [hg]; exact Nat.ne_of_gt (blk_lt (g := gb424) (o := .cells #[.string t422, .string t423] 25 (0, 0)) q70) : gb457 ≠ gb424)); have n14_ := Aside0.mk ((by rw [hg]; exact Nat.ne_of_lt (blk_lt (g := gb431) (o := .cells #[.string t429, .string t430] 25 (0, 0)) q69) : gb431 ≠ gb457)); have n15_ := Aside0.mk ((by rw [hg]; exact Nat.ne_of_gt (blk_lt (g := gb431) (o := .cells #[.string t429, .string t430] 25 (0, 0)) q69) : gb457 ≠ gb431)); have n16_ := Aside0.mk ((by rw [hg]; exact Nat.ne_of_lt (blk_lt (g := gb442) (o := .cells #[.string t439, .string t440, .int .i64 t441] 33 (0, 0)) q68) : gb442 ≠ gb457)); have n17_ := Aside0.mk ((by rw [hg]; exact Nat.ne_of_gt (blk_lt (g := gb442) (o := .cells #[.string t439, .string t440, .int .i64 t441] 33 (0, 0)) q68) : gb457 ≠ gb442)); have n18_ := Aside0.mk ((by rw [hg]; exact Nat.ne_of_lt (blk_lt (g := gb451) (o := .cells #[.string t446, .string t447, .int .i64 t448] 33 (0, 0)) q67) : gb451 ≠ gb457)); have n19_ := Aside0.mk ((by rw [hg]; exact Nat.ne_of_gt (blk_lt (g := gb451) (o := .cells #[.string t446, .string t447, .int .i64 t448] 33 (0, 0)) q67) : gb457 ≠ gb451)); have n20_ := Aside0.mk ((by rw [hg]; exact Nat.ne_of_lt (blk_lt (g := gb452) (o := .cells #[.string t449, .string t450] 25 (0, 0)) q66) : gb452 ≠ gb457)); have n21_ := Aside0.mk ((by rw [hg]; exact Nat.ne_of_gt (blk_lt (g := gb452) (o := .cells #[.string t449, .string t450] 25 (0, 0)) q66) : gb457 ≠ gb452)); clear HO427; clear HO438; clear HO445; clear BK424; clear BK431; clear BK442; clear BK451; clear BK452; clear HB; have HO427 := n0_; have HO438 := n1_; have HO445 := n2_; have BK424 := n3_; have BK431 := n4_; have BK442 := n5_; have BK451 := n6_; have BK452 := n7_; have HB := n8_; have BK457 := n9_; have GW457 := n10_; have GE457 := n11_; have NB424_457 := n12_; have NB457_424 := n13_; have NB431_457 := n14_; have NB457_431 := n15_; have NB442_457 := n16_; have NB457_442 := n17_; have NB451_457 := n18_; have NB457_451 := n19_; have NB452_457 := n20_; have NB457_452 := n21_; clear n0_ n1_ n2_ n3_ n4_ n5_ n6_ n7_ n8_ n9_ n10_ n11_ n12_ n13_ n14_ n15_ n16_ n17_ n18_ n19_ n20_ n21_; clear hb hbox hg; have hnb51 := NB457_424.out; have hnc51 := NB424_457.out; have hnb52 := NB457_431.out; have hnc52 := NB431_457.out; have hnb53 := NB457_442.out; have hnc53 := NB442_457.out; have hnb54 := NB457_451.out; have hnc54 := NB451_457.out; have hnb55 := NB457_452.out; have hnc55 := NB452_457.out; have hcz56_0 : w50.cell? ⟨gb457, 0, none⟩ = some (.string (⟨#[]⟩ : ByteArray)) := (blk_cell BK457.out 0).trans rfl; have hcz56_1 : w50.cell? ⟨gb457, 1, none⟩ = some (.string (⟨#[]⟩ : ByteArray)) := (blk_cell BK457.out 1).trans rfl; have hcz56_2 : w50.cell? ⟨gb457, 2, none⟩ = some (.int .i64 0) := (blk_cell BK457.out 2).trans rfl; have hfz56_0 := blk_frozen BK457.out 0; have hfz56_1 := blk_frozen BK457.out 1; have hfz56_2 := blk_frozen BK457.out 2; have hcz57_0 : w50.cell? ⟨gb451, 0, none⟩ = some (.string t446) := (blk_cell BK451.out 0).trans rfl; have hcz57_1 : w50.cell? ⟨gb451, 1, none⟩ = some (.string t447) := (blk_cell BK451.out 1).trans rfl; have hcz57_2 : w50.cell? ⟨gb451, 2, none⟩ = some (.int .i64 t448) := (blk_cell BK451.out 2).trans rfl; have hfz57_0 := blk_frozen BK451.out 0; have hfz57_1 := blk_frozen BK451.out 1; have hfz57_2 := blk_frozen BK451.out 2; have hcz58_0 : w50.cell? ⟨gb452, 0, none⟩ = some (.string t449) := (blk_cell BK452.out 0).trans rfl; have hcz58_1 : w50.cell? ⟨gb452, 1, none⟩ = some (.string t450) := (blk_cell BK452.out 1).trans rfl; have hfz58_0 := blk_frozen BK452.out 0; have hfz58_1 := blk_frozen BK452.out 1) | ((with_reducible refine gate_callee (f := 14) rfl ?_); refine goesL_ (some 69) rfl rfl Tryd.func14 (by kernel_rfl) rfl #[.agg #[.string t446, .string t447, .int .i64 t448], .agg #[.string t449, .string t450]] rfl q60 ?_; (with_reducible refine (spec_AppendRecord.calls k t446 t447 t448 t449 t450 t458 t459 t460 t461 _ A14.out).mono ?_); rintro e w59 ⟨rfl, hb⟩; refine ⟨_, rfl, ?_⟩; have n0_ := Aside0.mk (Kd.R_below (by (with_reducible repeat (first | apply Kd.R_alloc | apply Kd.R_drewN | apply Kd.R_drew)); exact (Kd.R_mono (Kd.R_far (p := ⟨gb457, 2, none⟩) (Kd.R_far (p := ⟨gb457, 1, none⟩) (Kd.R_far (p := ⟨gb457, 0, none⟩) (Kd.R_types HO427.out BK457.out (by decide)) (fun _ hk => hk.2) (.string t453)) (fun _ hk => hk.2) (.string t454)) (fun _ hk => hk.2) (.int .i64 t455)) (fun _ h_ => h_.1))) hb); have n1_ := Aside0.mk (Kd.R_below (by (with_reducible repeat (first | apply Kd.R_alloc | apply Kd.R_drewN | apply Kd.R_drew)); exact (Kd.R_mono (Kd.R_far (p := ⟨gb457, 2, none⟩) (Kd.R_far (p := ⟨gb457, 1, none⟩) (Kd.R_far (p := ⟨gb457, 0, none⟩) (Kd.R_types HO438.out BK457.out (by decide)) (fun _ hk => hk.2) (.string t453)) (fun _ hk => hk.2) (.string t454)) (fun _ hk => hk.2) (.int .i64 t455)) (fun _ h_ => h_.1))) hb); have n2_ := Aside0.mk (Kd.R_below (by (with_reducible repeat (first | apply Kd.R_alloc | apply Kd.R_drewN | apply Kd.R_drew)); exact (Kd.R_mono (Kd.R_far (p := ⟨gb457, 2, none⟩) (Kd.R_far (p := ⟨gb457, 1, none⟩) (Kd.R_far (p := ⟨gb457, 0, none⟩) (Kd.R_types HO445.out BK457.out (by decide)) (fun _ hk => hk.2) (.string t453)) (fun _ hk => hk.2) (.string t454)) (fun _ hk => hk.2) (.int .i64 t455)) (fun _ h_ => h_.1))) hb); have n3_ := Aside0.mk (blk_below (g := gb424) (o := .cells #[.string t422, .string t423] 25 (0, 0)) (by (repeat (first | (with_reducible first | refine blk_drewN ?_ _ | refine blk_drew ?_ | refine blk_alloc ?_ _) | refine blk_far ?_ NB424_457.out _)); exact BK424.out) hb); have n4_ := Aside0.mk (blk_below (g := gb431) (o := .cells #[.string t429, .string t430] 25 (0, 0)) (by (repeat (first | (with_reducible first | refine blk_drewN ?_ _ | refine blk_drew ?_ | refine blk_alloc ?_ _) | refine blk_far ?_ NB431_457.out _)); exact BK431.out) hb); have n5_ := Aside0.mk (blk_below (g := gb442) (o := .cells #[.string t439, .string t440, .int .i64 t441] 33 (0, 0)) (by (repeat (first | (with_reducible first | refine blk_drewN ?_ _ | refine blk_drew ?_ | refine blk_alloc ?_ _) | refine blk_far ?_ NB442_457.out _)); exact BK442.out) hb); have n6_ := Aside0.mk (blk_below (g := gb451) (o := .cells #[.string t446, .string t447, .int .i64 t448] 33 (0, 0)) (by (repeat (first | (with_reducible first | refine blk_drewN ?_ _ | refine blk_drew ?_ | refine blk_alloc ?_ _) | refine blk_far ?_ NB451_457.out _)); exact BK451.out) hb); have n7_ := Aside0.mk (blk_below (g := gb452) (o := .cells #[.string t449, .string t450] 25 (0, 0)) (by (repeat (first | (with_reducible first | refine blk_drewN ?_ _ | refine blk_drew ?_ | refine blk_alloc ?_ _) | refine blk_far ?_ NB452_457.out _)); exact BK452.out) hb); have n8_ := Aside0.mk (blk_below (g := gb457) (o := .cells #[.string t453, .string t454, .int .i64 t455] 33 (0, 0)) (by (with_reducible repeat (first | refine blk_drewN ?_ _ | refine blk_drew ?_ | refine blk_alloc ?_ _)); refine blk_put (cs := #[.string t453, .string t454, .int .i64 0]) ?_ 2 _ rfl; (with_reducible repeat (first | refine blk_drewN ?_ _ | refine blk_drew ?_ | refine blk_alloc ?_ _)); refine blk_put (cs := #[.string t453, .string (⟨#[]⟩ : ByteArray), .int .i64 0]) ?_ 1 _ rfl; (with_reducible repeat (first | refine blk_drewN ?_ _ | refine blk_drew ?_ | refine blk_alloc ?_ _)); refine blk_put (cs := #[.string (⟨#[]⟩ : ByteArray), .string (⟨#[]⟩ : ByteArray), .int .i64 0]) ?_ 0 _ rfl; (with_reducible repeat (first | refine blk_drewN ?_ _ | refine blk_drew ?_ | refine blk_alloc ?_ _)); exact BK457.out) hb); have n9_ := Aside0.mk (below_step q6 hb); clear HO427; clear HO438; clear HO445; clear BK424; clear BK431; clear BK442; clear BK451; clear BK452; clear BK457; clear HB; have HO427 := n0_; have HO438 := n1_; have HO445 := n2_; have BK424 := n3_; have BK431 := n4_; have BK442 := n5_; have BK451 := n6_; have BK452 := n7_; have BK457 := n8_; have HB := n9_; clear n0_ n1_ n2_ n3_ n4_ n5_ n6_ n7_ n8_ n9_; (try clear hb); (try clear hb2); (try clear hk); (try clear hi)) | ((with_reducible refine gate_dst (N := 15) rfl ?_); (try (refine gate_guard (by rfl) ?_; dsimp only)); refine box_event ?hg (N := 15) ?hd (cs := #[.string (⟨#[]⟩ : ByteArray), .string (⟨#[]⟩ : ByteArray), .int .i64 0]) (t := 33) ?hr ?_; (case hd => rfl); (case hg => rfl); (case hr => first | (go_simp; done) | (go_simp; rfl)); intro gb462 hg w60 hbox hb; have n0_ := Aside0.mk (Kd.R_below q102 hb); have n1_ := Aside0.mk (Kd.R_below q101 hb); have n2_ := Aside0.mk (Kd.R_below q100 hb); have n3_ := Aside0.mk (blk_below (g := gb424) (o := .cells #[.string t422, .string t423] 25 (0, 0)) q70 hb); have n4_ := Aside0.mk (blk_below (g := gb431) (o := .cells #[.string t429, .string t430] 25 (0, 0)) q69 hb); have n5_ := Aside0.mk (blk_below (g := gb442) (o := .cells #[.string t439, .string t440, .int .i64 t441] 33 (0, 0)) q68 hb); have n6_ := Aside0.mk (blk_below (g := gb451) (o := .cells #[.string t446, .string t447, .int .i64 t448] 33 (0, 0)) q67 hb); have n7_ := Aside0.mk (blk_below (g := gb452) (o := .cells #[.string t449, .string t450] 25 (0, 0)) q66 hb); have n8_ := Aside0.mk (blk_below (g := gb457) (o := .cells #[.string t453, .string t454, .int .i64 t455] 33 (0, 0)) q65 hb); have n9_ := Aside0.mk (below_step q6 hb); have n10_ := Aside0.mk (hbox); have n11_ := Aside0.mk ((by rw [hg]; exact (below_size q6) : w.heap.size ≤ gb462)); have n12_ := Aside0.mk ((by rw [hg]; exact (below_size q6) : w.heap.size ≤ gb462)); have n13_ := Aside0.mk ((by rw [hg]; exact Nat.ne_of_lt (blk_lt (g := gb424) (o := .cells #[.string t422, .string t423] 25 (0, 0)) q70) : gb424 ≠ gb462)); have n14_ := Aside0.mk ((by rw [hg]; exact Nat.ne_of_gt (blk_lt (g := gb424) (o := .cells #[.string t422, .string t423] 25 (0, 0)) q70) : gb462 ≠ gb424)); have n15_ := Aside0.mk ((by rw [hg]; exact Nat.ne_of_lt (blk_lt (g := gb431) (o := .cells #[.string t429, .string t430] 25 (0, 0)) q69) : gb431 ≠ gb462)); have n16_ := Aside0.mk ((by rw [hg]; exact Nat.ne_of_gt (blk_lt (g := gb431) (o := .cells #[.string t429, .string t430] 25 (0, 0)) q69) : gb462 ≠ gb431)); have n17_ := Aside0.mk ((by rw [hg]; exact Nat.ne_of_lt (blk_lt (g := gb442) (o := .cells #[.string t439, .string t440, .int .i64 t441] 33 (0, 0)) q68) : gb442 ≠ gb462)); have n18_ := Aside0.mk ((by rw [hg]; exact Nat.ne_of_gt (blk_lt (g := gb442) (o := .cells #[.string t439, .string t440, .int .i64 t441] 33 (0, 0)) q68) : gb462 ≠ gb442)); have n19_ := Aside0.mk ((by rw [hg]; exact Nat.ne_of_lt (blk_lt (g := gb451) (o := .cells #[.string t446, .string t447, .int .i64 t448] 33 (0, 0)) q67) : gb451 ≠ gb462)); have n20_ := Aside0.mk ((by rw [hg]; exact Nat.ne_of_gt (blk_lt (g := gb451) (o := .cells #[.string t446, .string t447, .int .i64 t448] 33 (0, 0)) q67) : gb462 ≠ gb451)); have n21_ := Aside0.mk ((by rw [hg]; exact Nat.ne_of_lt (blk_lt (g := gb452) (o := .cells #[.string t449, .string t450] 25 (0, 0)) q66) : gb452 ≠ gb462)); have n22_ := Aside0.mk ((by rw [hg]; exact Nat.ne_of_gt (blk_lt (g := gb452) (o := .cells #[.string t449, .string t450] 25 (0, 0)) q66) : gb462 ≠ gb452)); have n23_ := Aside0.mk ((by rw [hg]; exact Nat.ne_of_lt (blk_lt (g := gb457) (o := .cells #[.string t453, .string t454, .int .i64 t455] 33 (0, 0)) q65) : gb457 ≠ gb462)); have n24_ := Aside0.mk ((by rw [hg]; exact Nat.ne_of_gt (blk_lt (g := gb457) (o := .cells #[.string t453, .string t454, .int .i64 t455] 33 (0, 0)) q65) : gb462 ≠ gb457)); clear HO427; clear HO438; clear HO445; clear BK424; clear BK431; clear BK442; clear BK451; clear BK452; clear BK457; clear HB; have HO427 := n0_; have HO438 := n1_; have HO445 := n2_; have BK424 := n3_; have BK431 := n4_; have BK442 := n5_; have BK451 := n6_; have BK452 := n7_; have BK457 := n8_; have HB := n9_; have BK462 := n10_; have GW462 := n11_; have GE462 := n12_; have NB424_462 := n13_; have NB462_424 := n14_; have NB431_462 := n15_; have NB462_431 := n16_; have NB442_462 := n17_; have NB462_442 := n18_; have NB451_462 := n19_; have NB462_451 := n20_; have NB452_462 := n21_; have NB462_452 := n22_; have NB457_462 := n23_; have NB462_457 := n24_; clear n0_ n1_ n2_ n3_ n4_ n5_ n6_ n7_ n8_ n9_ n10_ n11_ n12_ n13_ n14_ n15_ n16_ n17_ n18_ n19_ n20_ n21_ n22_ n23_ n24_; clear hb hbox hg; have hnb61 := NB462_424.out; have hnc61 := NB424_462.out; have hnb62 := NB462_431.out; have hnc62 := NB431_462.out; have hnb63 := NB462_442.out; have hnc63 := NB442_462.out; have hnb64 := NB462_451.out; have hnc64 := NB451_462.out; have hnb65 := NB462_452.out; have hnc65 := NB452_462.out; have hnb66 := NB462_457.out; have hnc66 := NB457_462.out; have hcz67_0 : w60.cell? ⟨gb462, 0, none⟩ = some (.string (⟨#[]⟩ : ByteArray)) := (blk_cell BK462.out 0).trans rfl; have hcz67_1 : w60.cell? ⟨gb462, 1, none⟩ = some (.string (⟨#[]⟩ : ByteArray)) := (blk_cell BK462.out 1).trans rfl; have hcz67_2 : w60.cell? ⟨gb462, 2, none⟩ = some (.int .i64 0) := (blk_cell BK462.out 2).trans rfl; have hfz67_0 := blk_frozen BK462.out 0; have hfz67_1 := blk_frozen BK462.out 1; have hfz67_2 := blk_frozen BK462.out 2))
  (try simp only [Act.put, List.setIfInBounds_toArray, List.set_cons_zero, List.set_cons_succ])
  go_cut [103] (fun v103 wc => ∃ (kq : Nat) (x103_14 : Bool), v103 = .bool x103_14 ∧ Aside0 (laws_FnLogs.j0 kq t456 x103_14 t446 t447 t448 t449 t450 t453 t454 t455 = some r) ∧ Aside0 (kq ≤ k) ∧ Aside0 (wc.heap[gb424]? = some (.cells #[.string t422, .string t423] 25 (0, 0))) ∧ Aside0 (wc.heap[gb431]? = some (.cells #[.string t429, .string t430] 25 (0, 0))) ∧ Aside0 (wc.heap[gb442]? = some (.cells #[.string t439, .string t440, .int .i64 t441] 33 (0, 0))) ∧ Aside0 (wc.heap[gb451]? = some (.cells #[.string t446, .string t447, .int .i64 t448] 33 (0, 0))) ∧ Aside0 (wc.heap[gb452]? = some (.cells #[.string t449, .string t450] 25 (0, 0))) ∧ Aside0 (wc.heap[gb457]? = some (.cells #[.string t453, .string t454, .int .i64 t455] 33 (0, 0))) ∧ Aside0 (wc.heap[gb462]? = some (.cells #[.string t458, .string t459, .int .i64 t460] 33 (0, 0))) ∧ Aside0 (Below w.heap.size w wc))
  case first =>
   have H := HC15.out
   clear HC15
   replace H := Option.bind_eq_some_iff.mp H
   obtain ⟨t463, A680, H⟩ := H
   replace H : ((spec_IsValidRecord.f k t422 t423).bind fun t464 => (if (t463 != t464) = true then (laws_FnLogs.j0 k t456 true t446 t447 t448 t449 t450 t453 t454 t455) else (if t432.toList = t434.toList then (if (t433 != t435) = true then (laws_FnLogs.j0 k t456 true t446 t447 t448 t449 t450 t453 t454 t455) else ((impl_IsValidLog.f k t439 t440 t441).bind fun t465 => ((spec_IsValidLog.f k t439 t440 t441).bind fun t466 => (if (t465 != t466) = true then (laws_FnLogs.j0 k t456 true t446 t447 t448 t449 t450 t453 t454 t455) else (if (!(t453.toList == t458.toList) || (!(t454.toList == t459.toList) || (!(t455 == t460)))) = true then (laws_FnLogs.j0 k t456 true t446 t447 t448 t449 t450 t453 t454 t455) else (laws_FnLogs.j0 k t456 (t456 != t461) t446 t447 t448 t449 t450 t453 t454 t455)))))) else (laws_FnLogs.j0 k t456 true t446 t447 t448 t449 t450 t453 t454 t455)))) = some r := H
   have A68 := Aside0.mk A680
   clear A680
   replace H := Option.bind_eq_some_iff.mp H
   obtain ⟨t464, A690, H⟩ := H
   replace H : (if (t463 != t464) = true then (laws_FnLogs.j0 k t456 true t446 t447 t448 t449 t450 t453 t454 t455) else (if t432.toList = t434.toList then (if (t433 != t435) = true then (laws_FnLogs.j0 k t456 true t446 t447 t448 t449 t450 t453 t454 t455) else ((impl_IsValidLog.f k t439 t440 t441).bind fun t465 => ((spec_IsValidLog.f k t439 t440 t441).bind fun t466 => (if (t465 != t466) = true then (laws_FnLogs.j0 k t456 true t446 t447 t448 t449 t450 t453 t454 t455) else (if (!(t453.toList == t458.toList) || (!(t454.toList == t459.toList) || (!(t455 == t460)))) = true then (laws_FnLogs.j0 k t456 true t446 t447 t448 t449 t450 t453 t454 t455) else (laws_FnLogs.j0 k t456 (t456 != t461) t446 t447 t448 t449 t450 t453 t454 t455)))))) else (laws_FnLogs.j0 k t456 true t446 t447 t448 t449 t450 t453 t454 t455))) = some r := H
   have A69 := Aside0.mk A690
   clear A690
   by_cases c70 : (t463 != t464) = true
   ·rw [if_pos c70] at H
    exact (laws_FnLogs.j0_no (hr_.out ▸ H)).elim
   ·rw [if_neg c70] at H
    have c70b0 : (t463 != t464) = false := by simpa using c70
    (try (have c70b1 : decide (t463 = t464) = true := by simpa using c70))
    (try (have c70b2 : (t463 == t464) = true := by simpa using c70))
    clear c70
    (first | rw [c70b0] | (simp only [i64_w, i32_w]; rw [c70b0]) | skip)
    by_cases c75 : t432.toList = t434.toList
    ·rw [if_pos c75] at H
     have c75b0 : (t432.toList == t434.toList) = true := beq_iff_eq.mpr c75
     have c75b1 : (t432.toList != t434.toList) = false := bne_eq_false_iff_eq.mpr c75
     clear c75
     by_cases c76 : (t433 != t435) = true
     ·rw [if_pos c76] at H
      exact (laws_FnLogs.j0_no (hr_.out ▸ H)).elim
     ·rw [if_neg c76] at H
      have c76b0 : (t433 != t435) = false := by simpa using c76
      (try (have c76b1 : decide (t433 = t435) = true := by simpa using c76))
      (try (have c76b2 : (t433 == t435) = true := by simpa using c76))
      clear c76
      replace H := Option.bind_eq_some_iff.mp H
      obtain ⟨t465, A810, H⟩ := H
      replace H : ((spec_IsValidLog.f k t439 t440 t441).bind fun t466 => (if (t465 != t466) = true then (laws_FnLogs.j0 k t456 true t446 t447 t448 t449 t450 t453 t454 t455) else (if (!(t453.toList == t458.toList) || (!(t454.toList == t459.toList) || (!(t455 == t460)))) = true then (laws_FnLogs.j0 k t456 true t446 t447 t448 t449 t450 t453 t454 t455) else (laws_FnLogs.j0 k t456 (t456 != t461) t446 t447 t448 t449 t450 t453 t454 t455)))) = some r := H
      have A81 := Aside0.mk A810
      clear A810
      replace H := Option.bind_eq_some_iff.mp H
      obtain ⟨t466, A820, H⟩ := H
      replace H : (if (t465 != t466) = true then (laws_FnLogs.j0 k t456 true t446 t447 t448 t449 t450 t453 t454 t455) else (if (!(t453.toList == t458.toList) || (!(t454.toList == t459.toList) || (!(t455 == t460)))) = true then (laws_FnLogs.j0 k t456 true t446 t447 t448 t449 t450 t453 t454 t455) else (laws_FnLogs.j0 k t456 (t456 != t461) t446 t447 t448 t449 t450 t453 t454 t455))) = some r := H
      have A82 := Aside0.mk A820
      clear A820
      by_cases c83 : (t465 != t466) = true
      ·rw [if_pos c83] at H
       exact (laws_FnLogs.j0_no (hr_.out ▸ H)).elim
      ·rw [if_neg c83] at H
       have c83b0 : (t465 != t466) = false := by simpa using c83
       (try (have c83b1 : decide (t465 = t466) = true := by simpa using c83))
       (try (have c83b2 : (t465 == t466) = true := by simpa using c83))
       clear c83
       by_cases c90 : (!(t453.toList == t458.toList) || (!(t454.toList == t459.toList) || (!(t455 == t460)))) = true
       ·rw [if_pos c90] at H
        exact (laws_FnLogs.j0_no (hr_.out ▸ H)).elim
       ·rw [if_neg c90] at H
        have c90b0 : (!(t453.toList == t458.toList) || (!(t454.toList == t459.toList) || (!(t455 == t460)))) = false := by simpa using c90
        clear c90
        have H' := Aside0.mk H
        clear H
        try go_wp2
        have n0_ : Aside0 (Kd.R (Kd.int .u8) 5 (((w60.setCell ⟨gb462, 0, none⟩ (.string t458)).setCell ⟨gb462, 1, none⟩ (.string t459)).setCell ⟨gb462, 2, none⟩ (.int .i64 t460)) w.heap.size (fun k_ => some k_ ≠ (.slice Ao29 t436.length co29 : Value).ownBlock ∧ some k_ ≠ (.slice Ao36 t443.length co36 : Value).ownBlock) (.slice Ao20 t425.length co20) t425) := ⟨by (with_reducible repeat (first | apply Kd.R_alloc | apply Kd.R_drewN | apply Kd.R_drew)); exact Kd.R_mono (Kd.R_far (p := ⟨gb462, 2, none⟩) (Kd.R_far (p := ⟨gb462, 1, none⟩) (Kd.R_far (p := ⟨gb462, 0, none⟩) (Kd.R_types HO427.out BK462.out (by decide)) (fun _ hk => hk.2) (.string t458)) (fun _ hk => hk.2) (.string t459)) (fun _ hk => hk.2) (.int .i64 t460)) (fun _ hk => ⟨hk.1.1.2, hk.1.2⟩)⟩
        have n1_ : Aside0 (Kd.R (Kd.int .u8) 5 (((w60.setCell ⟨gb462, 0, none⟩ (.string t458)).setCell ⟨gb462, 1, none⟩ (.string t459)).setCell ⟨gb462, 2, none⟩ (.int .i64 t460)) w.heap.size (fun k_ => some k_ ≠ (.slice Ao20 t425.length co20 : Value).ownBlock ∧ some k_ ≠ (.slice Ao36 t443.length co36 : Value).ownBlock) (.slice Ao29 t436.length co29) t436) := ⟨by (with_reducible repeat (first | apply Kd.R_alloc | apply Kd.R_drewN | apply Kd.R_drew)); exact Kd.R_mono (Kd.R_far (p := ⟨gb462, 2, none⟩) (Kd.R_far (p := ⟨gb462, 1, none⟩) (Kd.R_far (p := ⟨gb462, 0, none⟩) (Kd.R_types HO438.out BK462.out (by decide)) (fun _ hk => hk.2) (.string t458)) (fun _ hk => hk.2) (.string t459)) (fun _ hk => hk.2) (.int .i64 t460)) (fun _ hk => ⟨hk.1.1.2, hk.1.2⟩)⟩
        have n2_ : Aside0 (Kd.R (Kd.int .u8) 5 (((w60.setCell ⟨gb462, 0, none⟩ (.string t458)).setCell ⟨gb462, 1, none⟩ (.string t459)).setCell ⟨gb462, 2, none⟩ (.int .i64 t460)) w.heap.size (fun k_ => some k_ ≠ (.slice Ao20 t425.length co20 : Value).ownBlock ∧ some k_ ≠ (.slice Ao29 t436.length co29 : Value).ownBlock) (.slice Ao36 t443.length co36) t443) := ⟨by (with_reducible repeat (first | apply Kd.R_alloc | apply Kd.R_drewN | apply Kd.R_drew)); exact Kd.R_mono (Kd.R_far (p := ⟨gb462, 2, none⟩) (Kd.R_far (p := ⟨gb462, 1, none⟩) (Kd.R_far (p := ⟨gb462, 0, none⟩) (Kd.R_types HO445.out BK462.out (by decide)) (fun _ hk => hk.2) (.string t458)) (fun _ hk => hk.2) (.string t459)) (fun _ hk => hk.2) (.int .i64 t460)) (fun _ hk => ⟨hk.1.1.2, hk.1.2⟩)⟩
        have n3_ : Aside0 ((((w60.setCell ⟨gb462, 0, none⟩ (.string t458)).setCell ⟨gb462, 1, none⟩ (.string t459)).setCell ⟨gb462, 2, none⟩ (.int .i64 t460)).heap[gb424]? = some (.cells #[.string t422, .string t423] 25 (0, 0))) := ⟨by (repeat (first | (with_reducible first | refine blk_drewN ?_ _ | refine blk_drew ?_ | refine blk_alloc ?_ _) | refine blk_far ?_ NB424_462.out _)); exact BK424.out⟩
        have n4_ : Aside0 ((((w60.setCell ⟨gb462, 0, none⟩ (.string t458)).setCell ⟨gb462, 1, none⟩ (.string t459)).setCell ⟨gb462, 2, none⟩ (.int .i64 t460)).heap[gb431]? = some (.cells #[.string t429, .string t430] 25 (0, 0))) := ⟨by (repeat (first | (with_reducible first | refine blk_drewN ?_ _ | refine blk_drew ?_ | refine blk_alloc ?_ _) | refine blk_far ?_ NB431_462.out _)); exact BK431.out⟩
        have n5_ : Aside0 ((((w60.setCell ⟨gb462, 0, none⟩ (.string t458)).setCell ⟨gb462, 1, none⟩ (.string t459)).setCell ⟨gb462, 2, none⟩ (.int .i64 t460)).heap[gb442]? = some (.cells #[.string t439, .string t440, .int .i64 t441] 33 (0, 0))) := ⟨by (repeat (first | (with_reducible first | refine blk_drewN ?_ _ | refine blk_drew ?_ | refine blk_alloc ?_ _) | refine blk_far ?_ NB442_462.out _)); exact BK442.out⟩
        have n6_ : Aside0 ((((w60.setCell ⟨gb462, 0, none⟩ (.string t458)).setCell ⟨gb462, 1, none⟩ (.string t459)).setCell ⟨gb462, 2, none⟩ (.int .i64 t460)).heap[gb451]? = some (.cells #[.string t446, .string t447, .int .i64 t448] 33 (0, 0))) := ⟨by (repeat (first | (with_reducible first | refine blk_drewN ?_ _ | refine blk_drew ?_ | refine blk_alloc ?_ _) | refine blk_far ?_ NB451_462.out _)); exact BK451.out⟩
        have n7_ : Aside0 ((((w60.setCell ⟨gb462, 0, none⟩ (.string t458)).setCell ⟨gb462, 1, none⟩ (.string t459)).setCell ⟨gb462, 2, none⟩ (.int .i64 t460)).heap[gb452]? = some (.cells #[.string t449, .string t450] 25 (0, 0))) := ⟨by (repeat (first | (with_reducible first | refine blk_drewN ?_ _ | refine blk_drew ?_ | refine blk_alloc ?_ _) | refine blk_far ?_ NB452_462.out _)); exact BK452.out⟩
        have n8_ : Aside0 ((((w60.setCell ⟨gb462, 0, none⟩ (.string t458)).setCell ⟨gb462, 1, none⟩ (.string t459)).setCell ⟨gb462, 2, none⟩ (.int .i64 t460)).heap[gb457]? = some (.cells #[.string t453, .string t454, .int .i64 t455] 33 (0, 0))) := ⟨by (repeat (first | (with_reducible first | refine blk_drewN ?_ _ | refine blk_drew ?_ | refine blk_alloc ?_ _) | refine blk_far ?_ NB457_462.out _)); exact BK457.out⟩
        have n9_ : Aside0 ((((w60.setCell ⟨gb462, 0, none⟩ (.string t458)).setCell ⟨gb462, 1, none⟩ (.string t459)).setCell ⟨gb462, 2, none⟩ (.int .i64 t460)).heap[gb462]? = some (.cells #[.string t458, .string t459, .int .i64 t460] 33 (0, 0))) := ⟨by (with_reducible repeat (first | refine blk_drewN ?_ _ | refine blk_drew ?_ | refine blk_alloc ?_ _)); refine blk_put (cs := #[.string t458, .string t459, .int .i64 0]) ?_ 2 _ rfl; (with_reducible repeat (first | refine blk_drewN ?_ _ | refine blk_drew ?_ | refine blk_alloc ?_ _)); refine blk_put (cs := #[.string t458, .string (⟨#[]⟩ : ByteArray), .int .i64 0]) ?_ 1 _ rfl; (with_reducible repeat (first | refine blk_drewN ?_ _ | refine blk_drew ?_ | refine blk_alloc ?_ _)); refine blk_put (cs := #[.string (⟨#[]⟩ : ByteArray), .string (⟨#[]⟩ : ByteArray), .int .i64 0]) ?_ 0 _ rfl; (with_reducible repeat (first | refine blk_drewN ?_ _ | refine blk_drew ?_ | refine blk_alloc ?_ _)); exact BK462.out⟩
        have n10_ : Aside0 (Below w.heap.size w (((w60.setCell ⟨gb462, 0, none⟩ (.string t458)).setCell ⟨gb462, 1, none⟩ (.string t459)).setCell ⟨gb462, 2, none⟩ (.int .i64 t460))) := ⟨by repeat (first | (with_reducible first | exact HB.out | apply below_alloc | apply pw_below_drewN | apply below_drew1 | refine below_set ?_ GE424.out | refine below_set ?_ GE431.out | refine below_set ?_ GE442.out | refine below_set ?_ GE451.out | refine below_set ?_ GE452.out | refine below_set ?_ GE457.out | refine below_set ?_ GE462.out) | exact HB.out)⟩
        (try clear HO427)
        (try clear HO438)
        (try clear HO445)
        (try clear BK424)
        (try clear BK431)
        (try clear BK442)
        (try clear BK451)
        (try clear BK452)
        (try clear BK457)
        (try clear BK462)
        (try clear HB)
        generalize (((w60.setCell ⟨gb462, 0, none⟩ (.string t458)).setCell ⟨gb462, 1, none⟩ (.string t459)).setCell ⟨gb462, 2, none⟩ (.int .i64 t460)) = w97 at n0_ n1_ n2_ n3_ n4_ n5_ n6_ n7_ n8_ n9_ n10_ ⊢
        have HO427 := n0_
        have HO438 := n1_
        have HO445 := n2_
        have BK424 := n3_
        have BK431 := n4_
        have BK442 := n5_
        have BK451 := n6_
        have BK452 := n7_
        have BK457 := n8_
        have BK462 := n9_
        have HB := n10_
        clear n0_ n1_ n2_ n3_ n4_ n5_ n6_ n7_ n8_ n9_ n10_
        have n0_ := Aside0.mk (Kd.R_drew HO427.out)
        have n1_ := Aside0.mk (Kd.R_drew HO438.out)
        have n2_ := Aside0.mk (Kd.R_drew HO445.out)
        have n3_ := Aside0.mk (blk_drew BK424.out)
        have n4_ := Aside0.mk (blk_drew BK431.out)
        have n5_ := Aside0.mk (blk_drew BK442.out)
        have n6_ := Aside0.mk (blk_drew BK451.out)
        have n7_ := Aside0.mk (blk_drew BK452.out)
        have n8_ := Aside0.mk (blk_drew BK457.out)
        have n9_ := Aside0.mk (blk_drew BK462.out)
        have n10_ := Aside0.mk (below_drew1 HB.out)
        clear HO427
        clear HO438
        clear HO445
        clear BK424
        clear BK431
        clear BK442
        clear BK451
        clear BK452
        clear BK457
        clear BK462
        clear HB
        have HO427 := n0_
        have HO438 := n1_
        have HO445 := n2_
        have BK424 := n3_
        have BK431 := n4_
        have BK442 := n5_
        have BK451 := n6_
        have BK452 := n7_
        have BK457 := n8_
        have BK462 := n9_
        have HB := n10_
        clear n0_ n1_ n2_ n3_ n4_ n5_ n6_ n7_ n8_ n9_ n10_
        refine start_ (n := 32) (S := fun w' => w'.cell? ⟨gb424, 0, none⟩ = some (.string t422) ∧ w'.cell? ⟨gb424, 1, none⟩ = some (.string t423) ∧ w'.cell? ⟨gb442, 0, none⟩ = some (.string t439) ∧ w'.cell? ⟨gb442, 1, none⟩ = some (.string t440) ∧ w'.cell? ⟨gb442, 2, none⟩ = some (.int .i64 t441) ∧ w'.cell? ⟨gb457, 0, none⟩ = some (.string t453) ∧ w'.cell? ⟨gb457, 1, none⟩ = some (.string t454) ∧ w'.cell? ⟨gb457, 2, none⟩ = some (.int .i64 t455) ∧ w'.cell? ⟨gb462, 0, none⟩ = some (.string t458) ∧ w'.cell? ⟨gb462, 1, none⟩ = some (.string t459) ∧ w'.cell? ⟨gb462, 2, none⟩ = some (.int .i64 t460)) (ds := []) #[false, false, false, false, false, false, false, false, false, false, false, false, false, false, false, false, false, false, false, false, false, false, false, false, false, false, false, false, false, false, false, false] (by kernel_rfl) rfl rfl ⟨(blk_cell BK424.out 0).trans rfl, (blk_cell BK424.out 1).trans rfl, (blk_cell BK442.out 0).trans rfl, (blk_cell BK442.out 1).trans rfl, (blk_cell BK442.out 2).trans rfl, (blk_cell BK457.out 0).trans rfl, (blk_cell BK457.out 1).trans rfl, (blk_cell BK457.out 2).trans rfl, (blk_cell BK462.out 0).trans rfl, (blk_cell BK462.out 1).trans rfl, (blk_cell BK462.out 2).trans rfl⟩ (fun hHeld => ?_); refine with_tabW laws_FnLogs.tab11 laws_FnLogs.bits11 (fun HT_ HW_ => ?_)
        generalize w97.drew = w98 at HO427 HO438 HO445 BK424 BK431 BK442 BK451 BK452 BK457 BK462 HB hHeld ⊢
        refine take_ (i := 0) (N := some 72) (v := ?_) (a' := ?_) #[true, false, false, false, false, false, false, false, false, false, false, false, false, false, false, false, false, false, false, false, false, false, false, false, false, false, false, false, false, false, false, false] rfl rfl (take_ofW HT_.out HW_.out (by kernel_rfl)) (fun _ _ _ h => h) (Or.inl ⟨by rfl, ?_⟩) hHeld ?_ ?_
        rotate_left
        ·rintro w' ⟨s0, s1, s2, s3, s4, s5, s6, s7, s8, s9, s10⟩
         go_simp
         with_reducible rfl
        rotate_left
        ·simp only [Act.put, List.setIfInBounds_toArray, List.set_cons_zero, List.set_cons_succ, i64_w, i32_w]
         rfl
        refine take_ (i := 2) (N := some 74) (v := ?_) (a' := ?_) #[true, false, true, false, false, false, false, false, false, false, false, false, false, false, false, false, false, false, false, false, false, false, false, false, false, false, false, false, false, false, false, false] rfl rfl (take_ofW HT_.out HW_.out (by kernel_rfl)) (fun _ _ _ h => h) (Or.inl ⟨by rfl, ?_⟩) hHeld ?_ ?_
        rotate_left
        ·rintro w' ⟨s0, s1, s2, s3, s4, s5, s6, s7, s8, s9, s10⟩
         go_simp
         with_reducible rfl
        rotate_left
        ·simp only [Act.put, List.setIfInBounds_toArray, List.set_cons_zero, List.set_cons_succ, i64_w, i32_w]
         rfl
        refine one_ (i := 1) (N := some 73) #[true, true, true, false, false, false, false, false, false, false, false, false, false, false, false, false, false, false, false, false, false, false, false, false, false, false, false, false, false, false, false, false] rfl rfl (one_of HT_.out (by kernel_rfl)) (by decide) (fun K hK => ?_)
        refine goes_ Tryd.func15 (by kernel_rfl) rfl #[.agg #[.string t422, .string t423]] (by rfl) rfl rfl q60 ?_
        with_reducible refine (impl_IsValidRecord.calls k t422 t423 t463 _ A68.out).mono ?_
        rintro e w99 ⟨rfl, hb⟩
        refine ⟨_, rfl, ?_⟩
        have n0_ := Aside0.mk (Kd.R_below q102 hb)
        have n1_ := Aside0.mk (Kd.R_below q101 hb)
        have n2_ := Aside0.mk (Kd.R_below q100 hb)
        have n3_ := Aside0.mk (blk_below (g := gb424) (o := .cells #[.string t422, .string t423] 25 (0, 0)) q70 hb)
        have n4_ := Aside0.mk (blk_below (g := gb431) (o := .cells #[.string t429, .string t430] 25 (0, 0)) q69 hb)
        have n5_ := Aside0.mk (blk_below (g := gb442) (o := .cells #[.string t439, .string t440, .int .i64 t441] 33 (0, 0)) q68 hb)
        have n6_ := Aside0.mk (blk_below (g := gb451) (o := .cells #[.string t446, .string t447, .int .i64 t448] 33 (0, 0)) q67 hb)
        have n7_ := Aside0.mk (blk_below (g := gb452) (o := .cells #[.string t449, .string t450] 25 (0, 0)) q66 hb)
        have n8_ := Aside0.mk (blk_below (g := gb457) (o := .cells #[.string t453, .string t454, .int .i64 t455] 33 (0, 0)) q65 hb)
        have n9_ := Aside0.mk (blk_below (g := gb462) (o := .cells #[.string t458, .string t459, .int .i64 t460] 33 (0, 0)) q64 hb)
        have n10_ := Aside0.mk (below_step q5 hb)
        clear HO427
        clear HO438
        clear HO445
        clear BK424
        clear BK431
        clear BK442
        clear BK451
        clear BK452
        clear BK457
        clear BK462
        clear HB
        have HO427 := n0_
        have HO438 := n1_
        have HO445 := n2_
        have BK424 := n3_
        have BK431 := n4_
        have BK442 := n5_
        have BK451 := n6_
        have BK452 := n7_
        have BK457 := n8_
        have BK462 := n9_
        have HB := n10_
        clear n0_ n1_ n2_ n3_ n4_ n5_ n6_ n7_ n8_ n9_ n10_
        (try clear hb)
        (try clear hb2)
        (try clear hk)
        (try clear hi)
        refine hK.out _ _ ⟨(blk_cell BK424.out 0).trans rfl, (blk_cell BK424.out 1).trans rfl, (blk_cell BK442.out 0).trans rfl, (blk_cell BK442.out 1).trans rfl, (blk_cell BK442.out 2).trans rfl, (blk_cell BK457.out 0).trans rfl, (blk_cell BK457.out 1).trans rfl, (blk_cell BK457.out 2).trans rfl, (blk_cell BK462.out 0).trans rfl, (blk_cell BK462.out 1).trans rfl, (blk_cell BK462.out 2).trans rfl⟩ (fun hHeld => ?_)
        clear hK K
        refine norm_ (a' := ?_) ?_ ?_
        rotate_left
        ·show Act.put _ (some 73) _ = _
         simp only [Act.put, List.setIfInBounds_toArray, List.set_cons_zero, List.set_cons_succ, i64_w, i32_w]
         rfl
        refine one_ (i := 3) (N := some 75) #[true, true, true, true, false, false, false, false, false, false, false, false, false, false, false, false, false, false, false, false, false, false, false, false, false, false, false, false, false, false, false, false] rfl rfl (one_of HT_.out (by kernel_rfl)) (by decide) (fun K hK => ?_)
        refine goes_ Tryd.func16 (by kernel_rfl) rfl #[.agg #[.string t422, .string t423]] (by rfl) rfl rfl q60 ?_
        with_reducible refine (spec_IsValidRecord.calls k t422 t423 t464 _ A69.out).mono ?_
        rintro e w100 ⟨rfl, hb⟩
        refine ⟨_, rfl, ?_⟩
        have n0_ := Aside0.mk (Kd.R_below q102 hb)
        have n1_ := Aside0.mk (Kd.R_below q101 hb)
        have n2_ := Aside0.mk (Kd.R_below q100 hb)
        have n3_ := Aside0.mk (blk_below (g := gb424) (o := .cells #[.string t422, .string t423] 25 (0, 0)) q70 hb)
        have n4_ := Aside0.mk (blk_below (g := gb431) (o := .cells #[.string t429, .string t430] 25 (0, 0)) q69 hb)
        have n5_ := Aside0.mk (blk_below (g := gb442) (o := .cells #[.string t439, .string t440, .int .i64 t441] 33 (0, 0)) q68 hb)
        have n6_ := Aside0.mk (blk_below (g := gb451) (o := .cells #[.string t446, .string t447, .int .i64 t448] 33 (0, 0)) q67 hb)
        have n7_ := Aside0.mk (blk_below (g := gb452) (o := .cells #[.string t449, .string t450] 25 (0, 0)) q66 hb)
        have n8_ := Aside0.mk (blk_below (g := gb457) (o := .cells #[.string t453, .string t454, .int .i64 t455] 33 (0, 0)) q65 hb)
        have n9_ := Aside0.mk (blk_below (g := gb462) (o := .cells #[.string t458, .string t459, .int .i64 t460] 33 (0, 0)) q64 hb)
        have n10_ := Aside0.mk (below_step q5 hb)
        clear HO427
        clear HO438
        clear HO445
        clear BK424
        clear BK431
        clear BK442
        clear BK451
        clear BK452
        clear BK457
        clear BK462
        clear HB
        have HO427 := n0_
        have HO438 := n1_
        have HO445 := n2_
        have BK424 := n3_
        have BK431 := n4_
        have BK442 := n5_
        have BK451 := n6_
        have BK452 := n7_
        have BK457 := n8_
        have BK462 := n9_
        have HB := n10_
        clear n0_ n1_ n2_ n3_ n4_ n5_ n6_ n7_ n8_ n9_ n10_
        (try clear hb)
        (try clear hb2)
        (try clear hk)
        (try clear hi)
        refine hK.out _ _ ⟨(blk_cell BK424.out 0).trans rfl, (blk_cell BK424.out 1).trans rfl, (blk_cell BK442.out 0).trans rfl, (blk_cell BK442.out 1).trans rfl, (blk_cell BK442.out 2).trans rfl, (blk_cell BK457.out 0).trans rfl, (blk_cell BK457.out 1).trans rfl, (blk_cell BK457.out 2).trans rfl, (blk_cell BK462.out 0).trans rfl, (blk_cell BK462.out 1).trans rfl, (blk_cell BK462.out 2).trans rfl⟩ (fun hHeld => ?_)
        clear hK K
        refine norm_ (a' := ?_) ?_ ?_
        rotate_left
        ·show Act.put _ (some 75) _ = _
         simp only [Act.put, List.setIfInBounds_toArray, List.set_cons_zero, List.set_cons_succ, i64_w, i32_w]
         rfl
        refine pure_ (i := 4) (N := some 76) (v := ?_) (a' := ?_) #[true, true, true, true, true, false, false, false, false, false, false, false, false, false, false, false, false, false, false, false, false, false, false, false, false, false, false, false, false, false, false, false] rfl rfl (any_of HT_.out (by kernel_rfl)) (fun _ _ _ h => h) (Or.inl ⟨by rfl, ?_⟩) ?_ ?_
        rotate_left
        ·intro w'
         go_simp
         with_reducible rfl
        rotate_left
        ·simp only [Act.put, List.setIfInBounds_toArray, List.set_cons_zero, List.set_cons_succ, i64_w, i32_w]
         rfl
        refine pure_ (i := 5) (N := some 77) (v := ?_) (a' := ?_) #[true, true, true, true, true, true, false, false, false, false, false, false, false, false, false, false, false, false, false, false, false, false, false, false, false, false, false, false, false, false, false, false] rfl rfl (any_of HT_.out (by kernel_rfl)) (fun _ _ _ h => h) (Or.inl ⟨by rfl, ?_⟩) ?_ ?_
        rotate_left
        ·intro w'
         go_simp
         with_reducible rfl
        rotate_left
        ·simp only [Act.put, List.setIfInBounds_toArray, List.set_cons_zero, List.set_cons_succ, i64_w, i32_w]
         rfl
        refine pure_ (i := 6) (N := some 78) (v := ?_) (a' := ?_) #[true, true, true, true, true, true, true, false, false, false, false, false, false, false, false, false, false, false, false, false, false, false, false, false, false, false, false, false, false, false, false, false] rfl rfl (any_of HT_.out (by kernel_rfl)) (fun _ _ _ h => h) (Or.inl ⟨by rfl, ?_⟩) ?_ ?_
        rotate_left
        ·intro w'
         go_simp
         with_reducible rfl
        rotate_left
        ·simp only [Act.put, List.setIfInBounds_toArray, List.set_cons_zero, List.set_cons_succ, i64_w, i32_w]
         rfl
        refine pure_ (i := 7) (N := some 79) (v := ?_) (a' := ?_) #[true, true, true, true, true, true, true, true, false, false, false, false, false, false, false, false, false, false, false, false, false, false, false, false, false, false, false, false, false, false, false, false] rfl rfl (any_of HT_.out (by kernel_rfl)) (fun _ _ _ h => h) (Or.inl ⟨by rfl, ?_⟩) ?_ ?_
        rotate_left
        ·intro w'
         go_simp
         with_reducible rfl
        rotate_left
        ·simp only [Act.put, List.setIfInBounds_toArray, List.set_cons_zero, List.set_cons_succ, i64_w, i32_w]
         rfl
        refine pure_ (i := 8) (N := some 80) (v := ?_) (a' := ?_) #[true, true, true, true, true, true, true, true, true, false, false, false, false, false, false, false, false, false, false, false, false, false, false, false, false, false, false, false, false, false, false, false] rfl rfl (any_of HT_.out (by kernel_rfl)) (fun _ _ _ h => h) (Or.inl ⟨by rfl, ?_⟩) ?_ ?_
        rotate_left
        ·intro w'
         go_simp
         with_reducible rfl
        rotate_left
        ·simp only [Act.put, List.setIfInBounds_toArray, List.set_cons_zero, List.set_cons_succ, i64_w, i32_w]
         rfl
        refine pure_ (i := 9) (N := some 81) (v := ?_) (a' := ?_) #[true, true, true, true, true, true, true, true, true, true, false, false, false, false, false, false, false, false, false, false, false, false, false, false, false, false, false, false, false, false, false, false] rfl rfl (any_of HT_.out (by kernel_rfl)) (fun _ _ _ h => h) (Or.inl ⟨by rfl, ?_⟩) ?_ ?_
        rotate_left
        ·intro w'
         go_simp
         with_reducible rfl
        rotate_left
        ·simp only [Act.put, List.setIfInBounds_toArray, List.set_cons_zero, List.set_cons_succ, i64_w, i32_w]
         rfl
        refine pure_ (i := 10) (N := some 82) (v := ?_) (a' := ?_) #[true, true, true, true, true, true, true, true, true, true, true, false, false, false, false, false, false, false, false, false, false, false, false, false, false, false, false, false, false, false, false, false] rfl rfl (any_of HT_.out (by kernel_rfl)) (fun _ _ _ h => h) (Or.inl ⟨by rfl, ?_⟩) ?_ ?_
        rotate_left
        ·intro w'
         go_simp
         with_reducible rfl
        rotate_left
        ·simp only [Act.put, List.setIfInBounds_toArray, List.set_cons_zero, List.set_cons_succ, i64_w, i32_w]
         rfl
        refine pure_ (i := 11) (N := some 83) (v := ?_) (a' := ?_) #[true, true, true, true, true, true, true, true, true, true, true, true, false, false, false, false, false, false, false, false, false, false, false, false, false, false, false, false, false, false, false, false] rfl rfl (any_of HT_.out (by kernel_rfl)) (fun _ _ _ h => h) (Or.inl ⟨by rfl, ?_⟩) ?_ ?_
        rotate_left
        ·intro w'
         go_simp
         with_reducible rfl
        rotate_left
        ·simp only [Act.put, List.setIfInBounds_toArray, List.set_cons_zero, List.set_cons_succ, i64_w, i32_w]
         rfl
        refine pure_ (i := 12) (N := some 84) (v := ?_) (a' := ?_) #[true, true, true, true, true, true, true, true, true, true, true, true, true, false, false, false, false, false, false, false, false, false, false, false, false, false, false, false, false, false, false, false] rfl rfl (any_of HT_.out (by kernel_rfl)) (fun _ _ _ h => h) (Or.inl ⟨by rfl, ?_⟩) ?_ ?_
        rotate_left
        ·intro w'
         go_simp
         with_reducible rfl
        rotate_left
        ·simp only [Act.put, List.setIfInBounds_toArray, List.set_cons_zero, List.set_cons_succ, i64_w, i32_w]
         rfl
        refine pure_ (i := 13) (N := some 85) (v := ?_) (a' := ?_) #[true, true, true, true, true, true, true, true, true, true, true, true, true, true, false, false, false, false, false, false, false, false, false, false, false, false, false, false, false, false, false, false] rfl rfl (any_of HT_.out (by kernel_rfl)) (fun _ _ _ h => h) (Or.inl ⟨by rfl, ?_⟩) ?_ ?_
        rotate_left
        ·intro w'
         go_simp
         with_reducible rfl
        rotate_left
        ·simp only [Act.put, List.setIfInBounds_toArray, List.set_cons_zero, List.set_cons_succ, i64_w, i32_w]
         rfl
        refine pure_ (i := 14) (N := some 86) (v := ?_) (a' := ?_) #[true, true, true, true, true, true, true, true, true, true, true, true, true, true, true, false, false, false, false, false, false, false, false, false, false, false, false, false, false, false, false, false] rfl rfl (any_of HT_.out (by kernel_rfl)) (fun _ _ _ h => h) (Or.inl ⟨by rfl, ?_⟩) ?_ ?_
        rotate_left
        ·intro w'
         go_simp
         with_reducible rfl
        rotate_left
        ·simp only [Act.put, List.setIfInBounds_toArray, List.set_cons_zero, List.set_cons_succ, i64_w, i32_w]
         rfl
        refine pure_ (i := 15) (N := some 87) (v := ?_) (a' := ?_) #[true, true, true, true, true, true, true, true, true, true, true, true, true, true, true, true, false, false, false, false, false, false, false, false, false, false, false, false, false, false, false, false] rfl rfl (any_of HT_.out (by kernel_rfl)) (fun _ _ _ h => h) (Or.inl ⟨by rfl, ?_⟩) ?_ ?_
        rotate_left
        ·intro w'
         go_simp
         with_reducible rfl
        rotate_left
        ·simp only [Act.put, List.setIfInBounds_toArray, List.set_cons_zero, List.set_cons_succ, i64_w, i32_w]
         rfl
        refine take_ (i := 16) (N := some 88) (v := ?_) (a' := ?_) #[true, true, true, true, true, true, true, true, true, true, true, true, true, true, true, true, true, false, false, false, false, false, false, false, false, false, false, false, false, false, false, false] rfl rfl (take_ofW HT_.out HW_.out (by kernel_rfl)) (fun _ _ _ h => h) (Or.inl ⟨by rfl, ?_⟩) hHeld ?_ ?_
        rotate_left
        ·rintro w' ⟨s0, s1, s2, s3, s4, s5, s6, s7, s8, s9, s10⟩
         go_simp
         with_reducible rfl
        rotate_left
        ·simp only [Act.put, List.setIfInBounds_toArray, List.set_cons_zero, List.set_cons_succ, i64_w, i32_w]
         rfl
        refine take_ (i := 18) (N := some 90) (v := ?_) (a' := ?_) #[true, true, true, true, true, true, true, true, true, true, true, true, true, true, true, true, true, false, true, false, false, false, false, false, false, false, false, false, false, false, false, false] rfl rfl (take_ofW HT_.out HW_.out (by kernel_rfl)) (fun _ _ _ h => h) (Or.inl ⟨by rfl, ?_⟩) hHeld ?_ ?_
        rotate_left
        ·rintro w' ⟨s0, s1, s2, s3, s4, s5, s6, s7, s8, s9, s10⟩
         go_simp
         with_reducible rfl
        rotate_left
        ·simp only [Act.put, List.setIfInBounds_toArray, List.set_cons_zero, List.set_cons_succ, i64_w, i32_w]
         rfl
        refine one_ (i := 17) (N := some 89) #[true, true, true, true, true, true, true, true, true, true, true, true, true, true, true, true, true, true, true, false, false, false, false, false, false, false, false, false, false, false, false, false] rfl rfl (one_of HT_.out (by kernel_rfl)) (by decide) (fun K hK => ?_)
        refine goes_ Tryd.func17 (by kernel_rfl) rfl #[.agg #[.string t439, .string t440, .int .i64 t441]] (by rfl) rfl rfl q60 ?_
        with_reducible refine (impl_IsValidLog.calls k t439 t440 t441 t465 _ ?side1 A81.out).mono ?_
        (case side1 => exact XTab.below HTAB.out q5)
        rintro e w101 ⟨rfl, hb⟩
        refine ⟨_, rfl, ?_⟩
        have n0_ := Aside0.mk (Kd.R_below q102 hb)
        have n1_ := Aside0.mk (Kd.R_below q101 hb)
        have n2_ := Aside0.mk (Kd.R_below q100 hb)
        have n3_ := Aside0.mk (blk_below (g := gb424) (o := .cells #[.string t422, .string t423] 25 (0, 0)) q70 hb)
        have n4_ := Aside0.mk (blk_below (g := gb431) (o := .cells #[.string t429, .string t430] 25 (0, 0)) q69 hb)
        have n5_ := Aside0.mk (blk_below (g := gb442) (o := .cells #[.string t439, .string t440, .int .i64 t441] 33 (0, 0)) q68 hb)
        have n6_ := Aside0.mk (blk_below (g := gb451) (o := .cells #[.string t446, .string t447, .int .i64 t448] 33 (0, 0)) q67 hb)
        have n7_ := Aside0.mk (blk_below (g := gb452) (o := .cells #[.string t449, .string t450] 25 (0, 0)) q66 hb)
        have n8_ := Aside0.mk (blk_below (g := gb457) (o := .cells #[.string t453, .string t454, .int .i64 t455] 33 (0, 0)) q65 hb)
        have n9_ := Aside0.mk (blk_below (g := gb462) (o := .cells #[.string t458, .string t459, .int .i64 t460] 33 (0, 0)) q64 hb)
        have n10_ := Aside0.mk (below_step q5 hb)
        clear HO427
        clear HO438
        clear HO445
        clear BK424
        clear BK431
        clear BK442
        clear BK451
        clear BK452
        clear BK457
        clear BK462
        clear HB
        have HO427 := n0_
        have HO438 := n1_
        have HO445 := n2_
        have BK424 := n3_
        have BK431 := n4_
        have BK442 := n5_
        have BK451 := n6_
        have BK452 := n7_
        have BK457 := n8_
        have BK462 := n9_
        have HB := n10_
        clear n0_ n1_ n2_ n3_ n4_ n5_ n6_ n7_ n8_ n9_ n10_
        (try clear hb)
        (try clear hb2)
        (try clear hk)
        (try clear hi)
        refine hK.out _ _ ⟨(blk_cell BK424.out 0).trans rfl, (blk_cell BK424.out 1).trans rfl, (blk_cell BK442.out 0).trans rfl, (blk_cell BK442.out 1).trans rfl, (blk_cell BK442.out 2).trans rfl, (blk_cell BK457.out 0).trans rfl, (blk_cell BK457.out 1).trans rfl, (blk_cell BK457.out 2).trans rfl, (blk_cell BK462.out 0).trans rfl, (blk_cell BK462.out 1).trans rfl, (blk_cell BK462.out 2).trans rfl⟩ (fun hHeld => ?_)
        clear hK K
        refine norm_ (a' := ?_) ?_ ?_
        rotate_left
        ·show Act.put _ (some 89) _ = _
         simp only [Act.put, List.setIfInBounds_toArray, List.set_cons_zero, List.set_cons_succ, i64_w, i32_w]
         rfl
        refine one_ (i := 19) (N := some 91) #[true, true, true, true, true, true, true, true, true, true, true, true, true, true, true, true, true, true, true, true, false, false, false, false, false, false, false, false, false, false, false, false] rfl rfl (one_of HT_.out (by kernel_rfl)) (by decide) (fun K hK => ?_)
        refine goes_ Tryd.func18 (by kernel_rfl) rfl #[.agg #[.string t439, .string t440, .int .i64 t441]] (by rfl) rfl rfl q60 ?_
        with_reducible refine (spec_IsValidLog.calls k t439 t440 t441 t466 _ A82.out).mono ?_
        rintro e w102 ⟨rfl, hb⟩
        refine ⟨_, rfl, ?_⟩
        have n0_ := Aside0.mk (Kd.R_below q102 hb)
        have n1_ := Aside0.mk (Kd.R_below q101 hb)
        have n2_ := Aside0.mk (Kd.R_below q100 hb)
        have n3_ := Aside0.mk (blk_below (g := gb424) (o := .cells #[.string t422, .string t423] 25 (0, 0)) q70 hb)
        have n4_ := Aside0.mk (blk_below (g := gb431) (o := .cells #[.string t429, .string t430] 25 (0, 0)) q69 hb)
        have n5_ := Aside0.mk (blk_below (g := gb442) (o := .cells #[.string t439, .string t440, .int .i64 t441] 33 (0, 0)) q68 hb)
        have n6_ := Aside0.mk (blk_below (g := gb451) (o := .cells #[.string t446, .string t447, .int .i64 t448] 33 (0, 0)) q67 hb)
        have n7_ := Aside0.mk (blk_below (g := gb452) (o := .cells #[.string t449, .string t450] 25 (0, 0)) q66 hb)
        have n8_ := Aside0.mk (blk_below (g := gb457) (o := .cells #[.string t453, .string t454, .int .i64 t455] 33 (0, 0)) q65 hb)
        have n9_ := Aside0.mk (blk_below (g := gb462) (o := .cells #[.string t458, .string t459, .int .i64 t460] 33 (0, 0)) q64 hb)
        have n10_ := Aside0.mk (below_step q5 hb)
        clear HO427
        clear HO438
        clear HO445
        clear BK424
        clear BK431
        clear BK442
        clear BK451
        clear BK452
        clear BK457
        clear BK462
        clear HB
        have HO427 := n0_
        have HO438 := n1_
        have HO445 := n2_
        have BK424 := n3_
        have BK431 := n4_
        have BK442 := n5_
        have BK451 := n6_
        have BK452 := n7_
        have BK457 := n8_
        have BK462 := n9_
        have HB := n10_
        clear n0_ n1_ n2_ n3_ n4_ n5_ n6_ n7_ n8_ n9_ n10_
        (try clear hb)
        (try clear hb2)
        (try clear hk)
        (try clear hi)
        refine hK.out _ _ ⟨(blk_cell BK424.out 0).trans rfl, (blk_cell BK424.out 1).trans rfl, (blk_cell BK442.out 0).trans rfl, (blk_cell BK442.out 1).trans rfl, (blk_cell BK442.out 2).trans rfl, (blk_cell BK457.out 0).trans rfl, (blk_cell BK457.out 1).trans rfl, (blk_cell BK457.out 2).trans rfl, (blk_cell BK462.out 0).trans rfl, (blk_cell BK462.out 1).trans rfl, (blk_cell BK462.out 2).trans rfl⟩ (fun hHeld => ?_)
        clear hK K
        refine norm_ (a' := ?_) ?_ ?_
        rotate_left
        ·show Act.put _ (some 91) _ = _
         simp only [Act.put, List.setIfInBounds_toArray, List.set_cons_zero, List.set_cons_succ, i64_w, i32_w]
         rfl
        refine pure_ (i := 20) (N := some 92) (v := ?_) (a' := ?_) #[true, true, true, true, true, true, true, true, true, true, true, true, true, true, true, true, true, true, true, true, true, false, false, false, false, false, false, false, false, false, false, false] rfl rfl (any_of HT_.out (by kernel_rfl)) (fun _ _ _ h => h) (Or.inl ⟨by rfl, ?_⟩) ?_ ?_
        rotate_left
        ·intro w'
         go_simp
         with_reducible rfl
        rotate_left
        ·simp only [Act.put, List.setIfInBounds_toArray, List.set_cons_zero, List.set_cons_succ, i64_w, i32_w]
         rfl
        refine pure_ (i := 21) (N := some 93) (v := ?_) (a' := ?_) #[true, true, true, true, true, true, true, true, true, true, true, true, true, true, true, true, true, true, true, true, true, true, false, false, false, false, false, false, false, false, false, false] rfl rfl (any_of HT_.out (by kernel_rfl)) (fun _ _ _ h => h) (Or.inl ⟨by rfl, ?_⟩) ?_ ?_
        rotate_left
        ·intro w'
         go_simp
         with_reducible rfl
        rotate_left
        ·simp only [Act.put, List.setIfInBounds_toArray, List.set_cons_zero, List.set_cons_succ, i64_w, i32_w]
         rfl
        refine pure_ (i := 22) (N := some 94) (v := ?_) (a' := ?_) #[true, true, true, true, true, true, true, true, true, true, true, true, true, true, true, true, true, true, true, true, true, true, true, false, false, false, false, false, false, false, false, false] rfl rfl (any_of HT_.out (by kernel_rfl)) (fun _ _ _ h => h) (Or.inl ⟨by rfl, ?_⟩) ?_ ?_
        rotate_left
        ·intro w'
         go_simp
         with_reducible rfl
        rotate_left
        ·simp only [Act.put, List.setIfInBounds_toArray, List.set_cons_zero, List.set_cons_succ, i64_w, i32_w]
         rfl
        refine take_ (i := 23) (N := some 95) (v := ?_) (a' := ?_) #[true, true, true, true, true, true, true, true, true, true, true, true, true, true, true, true, true, true, true, true, true, true, true, true, false, false, false, false, false, false, false, false] rfl rfl (take_ofW HT_.out HW_.out (by kernel_rfl)) (fun _ _ _ h => h) (Or.inl ⟨by rfl, ?_⟩) hHeld ?_ ?_
        rotate_left
        ·rintro w' ⟨s0, s1, s2, s3, s4, s5, s6, s7, s8, s9, s10⟩
         go_simp
         with_reducible rfl
        rotate_left
        ·simp only [Act.put, List.setIfInBounds_toArray, List.set_cons_zero, List.set_cons_succ, i64_w, i32_w]
         rfl
        refine take_ (i := 24) (N := some 96) (v := ?_) (a' := ?_) #[true, true, true, true, true, true, true, true, true, true, true, true, true, true, true, true, true, true, true, true, true, true, true, true, true, false, false, false, false, false, false, false] rfl rfl (take_ofW HT_.out HW_.out (by kernel_rfl)) (fun _ _ _ h => h) (Or.inl ⟨by rfl, ?_⟩) hHeld ?_ ?_
        rotate_left
        ·rintro w' ⟨s0, s1, s2, s3, s4, s5, s6, s7, s8, s9, s10⟩
         go_simp
         with_reducible rfl
        rotate_left
        ·simp only [Act.put, List.setIfInBounds_toArray, List.set_cons_zero, List.set_cons_succ, i64_w, i32_w]
         rfl
        refine pure_ (i := 25) (N := some 97) (v := ?_) (a' := ?_) #[true, true, true, true, true, true, true, true, true, true, true, true, true, true, true, true, true, true, true, true, true, true, true, true, true, true, false, false, false, false, false, false] rfl rfl (any_of HT_.out (by kernel_rfl)) (fun _ _ _ h => h) (Or.inl ⟨by rfl, ?_⟩) ?_ ?_
        rotate_left
        ·intro w'
         go_simp
         with_reducible rfl
        rotate_left
        ·simp only [Act.put, List.setIfInBounds_toArray, List.set_cons_zero, List.set_cons_succ, i64_w, i32_w]
         rfl
        refine pure_ (i := 26) (N := some 98) (v := ?_) (a' := ?_) #[true, true, true, true, true, true, true, true, true, true, true, true, true, true, true, true, true, true, true, true, true, true, true, true, true, true, true, false, false, false, false, false] rfl rfl (any_of HT_.out (by kernel_rfl)) (fun _ _ _ h => h) (Or.inl ⟨by rfl, ?_⟩) ?_ ?_
        rotate_left
        ·intro w'
         go_simp
         with_reducible rfl
        rotate_left
        ·simp only [Act.put, List.setIfInBounds_toArray, List.set_cons_zero, List.set_cons_succ, i64_w, i32_w]
         rfl
        refine pure_ (i := 27) (N := some 99) (v := ?_) (a' := ?_) #[true, true, true, true, true, true, true, true, true, true, true, true, true, true, true, true, true, true, true, true, true, true, true, true, true, true, true, true, false, false, false, false] rfl rfl (any_of HT_.out (by kernel_rfl)) (fun _ _ _ h => h) (Or.inl ⟨by rfl, ?_⟩) ?_ ?_
        rotate_left
        ·intro w'
         go_simp
         with_reducible rfl
        rotate_left
        ·simp only [Act.put, List.setIfInBounds_toArray, List.set_cons_zero, List.set_cons_succ, i64_w, i32_w]
         rfl
        refine pure_ (i := 28) (N := some 100) (v := ?_) (a' := ?_) #[true, true, true, true, true, true, true, true, true, true, true, true, true, true, true, true, true, true, true, true, true, true, true, true, true, true, true, true, true, false, false, false] rfl rfl (any_of HT_.out (by kernel_rfl)) (fun _ _ _ h => h) (Or.inl ⟨by rfl, ?_⟩) ?_ ?_
        rotate_left
        ·intro w'
         go_simp
         with_reducible rfl
        rotate_left
        ·simp only [Act.put, List.setIfInBounds_toArray, List.set_cons_zero, List.set_cons_succ, i64_w, i32_w]
         rfl
        refine pure_ (i := 29) (N := some 101) (v := ?_) (a' := ?_) #[true, true, true, true, true, true, true, true, true, true, true, true, true, true, true, true, true, true, true, true, true, true, true, true, true, true, true, true, true, true, false, false] rfl rfl (any_of HT_.out (by kernel_rfl)) (fun _ _ _ h => h) (Or.inl ⟨by rfl, ?_⟩) ?_ ?_
        rotate_left
        ·intro w'
         go_simp
         with_reducible rfl
        rotate_left
        ·simp only [Act.put, List.setIfInBounds_toArray, List.set_cons_zero, List.set_cons_succ, i64_w, i32_w]
         rfl
        refine pure_ (i := 30) (N := some 102) (v := ?_) (a' := ?_) #[true, true, true, true, true, true, true, true, true, true, true, true, true, true, true, true, true, true, true, true, true, true, true, true, true, true, true, true, true, true, true, false] rfl rfl (any_of HT_.out (by kernel_rfl)) (fun _ _ _ h => h) (Or.inl ⟨by rfl, ?_⟩) ?_ ?_
        rotate_left
        ·intro w'
         go_simp
         with_reducible rfl
        rotate_left
        ·simp only [Act.put, List.setIfInBounds_toArray, List.set_cons_zero, List.set_cons_succ, i64_w, i32_w]
         rfl
        refine pure_ (i := 31) (N := some 103) (v := ?_) (a' := ?_) #[true, true, true, true, true, true, true, true, true, true, true, true, true, true, true, true, true, true, true, true, true, true, true, true, true, true, true, true, true, true, true, true] rfl rfl (any_of HT_.out (by kernel_rfl)) (fun _ _ _ h => h) (Or.inl ⟨by rfl, ?_⟩) ?_ ?_
        rotate_left
        ·intro w'
         go_simp
         with_reducible rfl
        rotate_left
        ·simp only [Act.put, List.setIfInBounds_toArray, List.set_cons_zero, List.set_cons_succ, i64_w, i32_w]
         rfl
        refine done_ (done_of HT_.out (by kernel_rfl)) ?_
        try go_wp2
        go_meet
        case rel => exact ⟨_, ((t456 != t461)), q112, H', ⟨by first | omega | exact Nat.le_refl _⟩, ⟨by (with_reducible repeat (first | refine blk_drewN ?_ _ | refine blk_drew ?_ | refine blk_alloc ?_ _)); exact BK424.out⟩, ⟨by (with_reducible repeat (first | refine blk_drewN ?_ _ | refine blk_drew ?_ | refine blk_alloc ?_ _)); exact BK431.out⟩, ⟨by (with_reducible repeat (first | refine blk_drewN ?_ _ | refine blk_drew ?_ | refine blk_alloc ?_ _)); exact BK442.out⟩, ⟨by (with_reducible repeat (first | refine blk_drewN ?_ _ | refine blk_drew ?_ | refine blk_alloc ?_ _)); exact BK451.out⟩, ⟨by (with_reducible repeat (first | refine blk_drewN ?_ _ | refine blk_drew ?_ | refine blk_alloc ?_ _)); exact BK452.out⟩, ⟨by (with_reducible repeat (first | refine blk_drewN ?_ _ | refine blk_drew ?_ | refine blk_alloc ?_ _)); exact BK457.out⟩, ⟨by (with_reducible repeat (first | refine blk_drewN ?_ _ | refine blk_drew ?_ | refine blk_alloc ?_ _)); exact BK462.out⟩, ⟨by repeat (first | (with_reducible first | exact HB.out | apply below_alloc | apply pw_below_drewN | apply below_drew1 | refine below_set ?_ GE424.out | refine below_set ?_ GE431.out | refine below_set ?_ GE442.out | refine below_set ?_ GE451.out | refine below_set ?_ GE452.out | refine below_set ?_ GE457.out | refine below_set ?_ GE462.out) | exact HB.out)⟩⟩
    ·rw [if_neg c75] at H
     exact (laws_FnLogs.j0_no (hr_.out ▸ H)).elim
  case rest =>
   clear HC15
   try clear c1
   try clear p2
   try clear c7
   try clear c15
   try clear c16
   try clear c17
   try clear c18
   try clear c75
   try clear c75b0
   try clear c75b1
   obtain ⟨kq, x103_14, rfl, HA, HJ14, BK424, BK431, BK442, BK451, BK452, BK457, BK462, HB⟩ := hcut
   cases kq with
   | zero => exact absurd HA.out (by simp [laws_FnLogs.j0])
   | succ kj14 =>
    have H := HA.out
    clear HA
    simp only [laws_FnLogs.j0] at H
    by_cases c107 : x103_14 = true
    ·subst c107
     have H1 : (some false) = some r := by rw [if_pos rfl] at H; exact H
     exact absurd ((Option.some.inj H1).trans hr_.out) Bool.false_ne_true
    ·replace c107 := Bool.eq_false_iff.mpr c107
     subst c107
     have H1 : ((impl_SyncLog.f kj14 t446 t447 t448).bind fun bt467 => ((spec_SyncLog.f kj14 t446 t447 t448).bind fun bt472 => ((impl_LogRecords.f kj14 t446 t447 t448).bind fun bt477 => ((spec_LogRecords.f kj14 t446 t447 t448).bind fun bt481 => (if (!(bt467.1.toList == bt472.1.toList) || (!(bt467.2.1.toList == bt472.2.1.toList) || (!(bt467.2.2.1 == bt472.2.2.1)))) = true then (laws_FnLogs.j1 kj14 t456 bt467.2.2.2 bt477.1 true t446 t447 t448 t449 t450 t453 t454 t455 bt467.1 bt467.2.1 bt467.2.2.1) else (if (bt467.2.2.2 != bt472.2.2.2) = true then (laws_FnLogs.j1 kj14 t456 bt467.2.2.2 bt477.1 true t446 t447 t448 t449 t450 t453 t454 t455 bt467.1 bt467.2.1 bt467.2.2.1) else (if (bt477.2 != bt481.2) = true then (laws_FnLogs.j1 kj14 t456 bt467.2.2.2 bt477.1 true t446 t447 t448 t449 t450 t453 t454 t455 bt467.1 bt467.2.1 bt467.2.2.1) else ((laws_vRecords.f kj14 bt477.1 bt481.1).bind fun t485 => (laws_FnLogs.j1 kj14 t456 bt467.2.2.2 bt477.1 (!t485) t446 t447 t448 t449 t450 t453 t454 t455 bt467.1 bt467.2.1 bt467.2.2.1))))))))) = some r := by rw [if_neg (show ¬ (false = true) by decide)] at H; exact H
     clear H
     have H := H1
     clear H1
     replace H := Option.bind_eq_some_iff.mp H
     obtain ⟨⟨t467, t468, t469, t470⟩, A1080, H⟩ := H
     replace H : ((spec_SyncLog.f kj14 t446 t447 t448).bind fun bt472 => ((impl_LogRecords.f kj14 t446 t447 t448).bind fun bt477 => ((spec_LogRecords.f kj14 t446 t447 t448).bind fun bt481 => (if (!(t467.toList == bt472.1.toList) || (!(t468.toList == bt472.2.1.toList) || (!(t469 == bt472.2.2.1)))) = true then (laws_FnLogs.j1 kj14 t456 t470 bt477.1 true t446 t447 t448 t449 t450 t453 t454 t455 t467 t468 t469) else (if (t470 != bt472.2.2.2) = true then (laws_FnLogs.j1 kj14 t456 t470 bt477.1 true t446 t447 t448 t449 t450 t453 t454 t455 t467 t468 t469) else (if (bt477.2 != bt481.2) = true then (laws_FnLogs.j1 kj14 t456 t470 bt477.1 true t446 t447 t448 t449 t450 t453 t454 t455 t467 t468 t469) else ((laws_vRecords.f kj14 bt477.1 bt481.1).bind fun t485 => (laws_FnLogs.j1 kj14 t456 t470 bt477.1 (!t485) t446 t447 t448 t449 t450 t453 t454 t455 t467 t468 t469)))))))) = some r := H
     have A108 := Aside0.mk A1080
     clear A1080
     replace H := Option.bind_eq_some_iff.mp H
     obtain ⟨⟨t472, t473, t474, t475⟩, A1090, H⟩ := H
     replace H : ((impl_LogRecords.f kj14 t446 t447 t448).bind fun bt477 => ((spec_LogRecords.f kj14 t446 t447 t448).bind fun bt481 => (if (!(t467.toList == t472.toList) || (!(t468.toList == t473.toList) || (!(t469 == t474)))) = true then (laws_FnLogs.j1 kj14 t456 t470 bt477.1 true t446 t447 t448 t449 t450 t453 t454 t455 t467 t468 t469) else (if (t470 != t475) = true then (laws_FnLogs.j1 kj14 t456 t470 bt477.1 true t446 t447 t448 t449 t450 t453 t454 t455 t467 t468 t469) else (if (bt477.2 != bt481.2) = true then (laws_FnLogs.j1 kj14 t456 t470 bt477.1 true t446 t447 t448 t449 t450 t453 t454 t455 t467 t468 t469) else ((laws_vRecords.f kj14 bt477.1 bt481.1).bind fun t485 => (laws_FnLogs.j1 kj14 t456 t470 bt477.1 (!t485) t446 t447 t448 t449 t450 t453 t454 t455 t467 t468 t469))))))) = some r := H
     have A109 := Aside0.mk A1090
     clear A1090
     replace H := Option.bind_eq_some_iff.mp H
     obtain ⟨⟨t477, t480⟩, A1100, H⟩ := H
     replace H : ((spec_LogRecords.f kj14 t446 t447 t448).bind fun bt481 => (if (!(t467.toList == t472.toList) || (!(t468.toList == t473.toList) || (!(t469 == t474)))) = true then (laws_FnLogs.j1 kj14 t456 t470 t477 true t446 t447 t448 t449 t450 t453 t454 t455 t467 t468 t469) else (if (t470 != t475) = true then (laws_FnLogs.j1 kj14 t456 t470 t477 true t446 t447 t448 t449 t450 t453 t454 t455 t467 t468 t469) else (if (t480 != bt481.2) = true then (laws_FnLogs.j1 kj14 t456 t470 t477 true t446 t447 t448 t449 t450 t453 t454 t455 t467 t468 t469) else ((laws_vRecords.f kj14 t477 bt481.1).bind fun t485 => (laws_FnLogs.j1 kj14 t456 t470 t477 (!t485) t446 t447 t448 t449 t450 t453 t454 t455 t467 t468 t469)))))) = some r := H
     have A110 := Aside0.mk A1100
     clear A1100
     replace H := Option.bind_eq_some_iff.mp H
     obtain ⟨⟨t481, t484⟩, A1110, H⟩ := H
     replace H : (if (!(t467.toList == t472.toList) || (!(t468.toList == t473.toList) || (!(t469 == t474)))) = true then (laws_FnLogs.j1 kj14 t456 t470 t477 true t446 t447 t448 t449 t450 t453 t454 t455 t467 t468 t469) else (if (t470 != t475) = true then (laws_FnLogs.j1 kj14 t456 t470 t477 true t446 t447 t448 t449 t450 t453 t454 t455 t467 t468 t469) else (if (t480 != t484) = true then (laws_FnLogs.j1 kj14 t456 t470 t477 true t446 t447 t448 t449 t450 t453 t454 t455 t467 t468 t469) else ((laws_vRecords.f kj14 t477 t481).bind fun t485 => (laws_FnLogs.j1 kj14 t456 t470 t477 (!t485) t446 t447 t448 t449 t450 t453 t454 t455 t467 t468 t469))))) = some r := H
     have A111 := Aside0.mk A1110
     clear A1110
     have HC112 := Aside0.mk H
     clear H
     have hnb113 := NB451_424.out
     have hnc113 := NB424_451.out
     have hnb114 := NB451_431.out
     have hnc114 := NB431_451.out
     have hnb115 := NB451_442.out
     have hnc115 := NB442_451.out
     have hnb116 := NB451_452.out
     have hnc116 := NB452_451.out
     have hnb117 := NB451_457.out
     have hnc117 := NB457_451.out
     have hnb118 := NB451_462.out
     have hnc118 := NB462_451.out
     have hcz119_0 : wc.cell? ⟨gb451, 0, none⟩ = some (.string t446) := (blk_cell BK451.out 0).trans rfl
     have hcz119_1 : wc.cell? ⟨gb451, 1, none⟩ = some (.string t447) := (blk_cell BK451.out 1).trans rfl
     have hcz119_2 : wc.cell? ⟨gb451, 2, none⟩ = some (.int .i64 t448) := (blk_cell BK451.out 2).trans rfl
     have hfz119_0 := blk_frozen BK451.out 0
     have hfz119_1 := blk_frozen BK451.out 1
     have hfz119_2 := blk_frozen BK451.out 2
     go_upto_region 17 with (first | ((with_reducible refine gate_callee (f := 19) rfl ?_); refine goesL_ (some 106) rfl rfl Tryd.func19 (by kernel_rfl) rfl #[.agg #[.string t446, .string t447, .int .i64 t448]] rfl q60 ?_; (with_reducible refine (impl_SyncLog.calls kj14 t446 t447 t448 t467 t468 t469 t470 _ ?side1 A108.out).mono ?_); (case side1 => exact XTab.below HTAB.out q5); rintro e w120 ⟨rfl, hb⟩; refine ⟨_, rfl, ?_⟩; have n0_ := Aside0.mk (blk_below (g := gb424) (o := .cells #[.string t422, .string t423] 25 (0, 0)) q70 hb); have n1_ := Aside0.mk (blk_below (g := gb431) (o := .cells #[.string t429, .string t430] 25 (0, 0)) q69 hb); have n2_ := Aside0.mk (blk_below (g := gb442) (o := .cells #[.string t439, .string t440, .int .i64 t441] 33 (0, 0)) q68 hb); have n3_ := Aside0.mk (blk_below (g := gb451) (o := .cells #[.string t446, .string t447, .int .i64 t448] 33 (0, 0)) q67 hb); have n4_ := Aside0.mk (blk_below (g := gb452) (o := .cells #[.string t449, .string t450] 25 (0, 0)) q66 hb); have n5_ := Aside0.mk (blk_below (g := gb457) (o := .cells #[.string t453, .string t454, .int .i64 t455] 33 (0, 0)) q65 hb); have n6_ := Aside0.mk (blk_below (g := gb462) (o := .cells #[.string t458, .string t459, .int .i64 t460] 33 (0, 0)) q64 hb); have n7_ := Aside0.mk (below_step q5 hb); clear BK424; clear BK431; clear BK442; clear BK451; clear BK452; clear BK457; clear BK462; clear HB; have BK424 := n0_; have BK431 := n1_; have BK442 := n2_; have BK451 := n3_; have BK452 := n4_; have BK457 := n5_; have BK462 := n6_; have HB := n7_; clear n0_ n1_ n2_ n3_ n4_ n5_ n6_ n7_; (try clear hb); (try clear hb2); (try clear hk); (try clear hi)) | ((with_reducible refine gate_dst (N := 17) rfl ?_); (try (refine gate_guard (by rfl) ?_; dsimp only)); refine box_event ?hg (N := 17) ?hd (cs := #[.string (⟨#[]⟩ : ByteArray), .string (⟨#[]⟩ : ByteArray), .int .i64 0]) (t := 33) ?hr ?_; (case hd => rfl); (case hg => rfl); (case hr => first | (go_simp; done) | (go_simp; rfl)); intro gb471 hg w121 hbox hb; have n0_ := Aside0.mk (blk_below (g := gb424) (o := .cells #[.string t422, .string t423] 25 (0, 0)) q70 hb); have n1_ := Aside0.mk (blk_below (g := gb431) (o := .cells #[.string t429, .string t430] 25 (0, 0)) q69 hb); have n2_ := Aside0.mk (blk_below (g := gb442) (o := .cells #[.string t439, .string t440, .int .i64 t441] 33 (0, 0)) q68 hb); have n3_ := Aside0.mk (blk_below (g := gb451) (o := .cells #[.string t446, .string t447, .int .i64 t448] 33 (0, 0)) q67 hb); have n4_ := Aside0.mk (blk_below (g := gb452) (o := .cells #[.string t449, .string t450] 25 (0, 0)) q66 hb); have n5_ := Aside0.mk (blk_below (g := gb457) (o := .cells #[.string t453, .string t454, .int .i64 t455] 33 (0, 0)) q65 hb); have n6_ := Aside0.mk (blk_below (g := gb462) (o := .cells #[.string t458, .string t459, .int .i64 t460] 33 (0, 0)) q64 hb); have n7_ := Aside0.mk (below_step q5 hb); have n8_ := Aside0.mk (hbox); have n9_ := Aside0.mk ((by rw [hg]; exact (below_size q5) : w.heap.size ≤ gb471)); have n10_ := Aside0.mk ((by rw [hg]; exact (below_size q5) : w.heap.size ≤ gb471)); have n11_ := Aside0.mk ((by rw [hg]; exact Nat.ne_of_lt (blk_lt (g := gb424) (o := .cells #[.string t422, .string t423] 25 (0, 0)) q70) : gb424 ≠ gb471)); have n12_ := Aside0.mk ((by rw [hg]; exact Nat.ne_of_gt (blk_lt (g := gb424) (o := .cells #[.string t422, .string t423] 25 (0, 0)) q70) : gb471 ≠ gb424)); have n13_ := Aside0.mk ((by rw [hg]; exact Nat.ne_of_lt (blk_lt (g := gb431) (o := .cells #[.string t429, .string t430] 25 (0, 0)) q69) : gb431 ≠ gb471)); have n14_ := Aside0.mk ((by rw [hg]; exact Nat.ne_of_gt (blk_lt (g := gb431) (o := .cells #[.string t429, .string t430] 25 (0, 0)) q69) : gb471 ≠ gb431)); have n15_ := Aside0.mk ((by rw [hg]; exact Nat.ne_of_lt (blk_lt (g := gb442) (o := .cells #[.string t439, .string t440, .int .i64 t441] 33 (0, 0)) q68) : gb442 ≠ gb471)); have n16_ := Aside0.mk ((by rw [hg]; exact Nat.ne_of_gt (blk_lt (g := gb442) (o := .cells #[.string t439, .string t440, .int .i64 t441] 33 (0, 0)) q68) : gb471 ≠ gb442)); have n17_ := Aside0.mk ((by rw [hg]; exact Nat.ne_of_lt (blk_lt (g := gb451) (o := .cells #[.string t446, .string t447, .int .i64 t448] 33 (0, 0)) q67) : gb451 ≠ gb471)); have n18_ := Aside0.mk ((by rw [hg]; exact Nat.ne_of_gt (blk_lt (g := gb451) (o := .cells #[.string t446, .string t447, .int .i64 t448] 33 (0, 0)) q67) : gb471 ≠ gb451)); have n19_ := Aside0.mk ((by rw [hg]; exact Nat.ne_of_lt (blk_lt (g := gb452) (o := .cells #[.string t449, .string t450] 25 (0, 0)) q66) : gb452 ≠ gb471)); have n20_ := Aside0.mk ((by rw [hg]; exact Nat.ne_of_gt (blk_lt (g := gb452) (o := .cells #[.string t449, .string t450] 25 (0, 0)) q66) : gb471 ≠ gb452)); have n21_ := Aside0.mk ((by rw [hg]; exact Nat.ne_of_lt (blk_lt (g := gb457) (o := .cells #[.string t453, .string t454, .int .i64 t455] 33 (0, 0)) q65) : gb457 ≠ gb471)); have n22_ := Aside0.mk ((by rw [hg]; exact Nat.ne_of_gt (blk_lt (g := gb457) (o := .cells #[.string t453, .string t454, .int .i64 t455] 33 (0, 0)) q65) : gb471 ≠ gb457)); have n23_ := Aside0.mk ((by rw [hg]; exact Nat.ne_of_lt (blk_lt (g := gb462) (o := .cells #[.string t458, .string t459, .int .i64 t460] 33 (0, 0)) q64) : gb462 ≠ gb471)); have n24_ := Aside0.mk ((by rw [hg]; exact Nat.ne_of_gt (blk_lt (g := gb462) (o := .cells #[.string t458, .string t459, .int .i64 t460] 33 (0, 0)) q64) : gb471 ≠ gb462)); clear BK424; clear BK431; clear BK442; clear BK451; clear BK452; clear BK457; clear BK462; clear HB; have BK424 := n0_; have BK431 := n1_; have BK442 := n2_; have BK451 := n3_; have BK452 := n4_; have BK457 := n5_; have BK462 := n6_; have HB := n7_; have BK471 := n8_; have GW471 := n9_; have GE471 := n10_; have NB424_471 := n11_; have NB471_424 := n12_; have NB431_471 := n13_; have NB471_431 := n14_; have NB442_471 := n15_; have NB471_442 := n16_; have NB451_471 := n17_; have NB471_451 := n18_; have NB452_471 := n19_; have NB471_452 := n20_; have NB457_471 := n21_; have NB471_457 := n22_; have NB462_471 := n23_; have NB471_462 := n24_; clear n0_ n1_ n2_ n3_ n4_ n5_ n6_ n7_ n8_ n9_ n10_ n11_ n12_ n13_ n14_ n15_ n16_ n17_ n18_ n19_ n20_ n21_ n22_ n23_ n24_; clear hb hbox hg; have hnb122 := NB471_424.out; have hnc122 := NB424_471.out; have hnb123 := NB471_431.out; have hnc123 := NB431_471.out; have hnb124 := NB471_442.out; have hnc124 := NB442_471.out; have hnb125 := NB471_451.out; have hnc125 := NB451_471.out; have hnb126 := NB471_452.out; have hnc126 := NB452_471.out; have hnb127 := NB471_457.out; have hnc127 := NB457_471.out; have hnb128 := NB471_462.out; have hnc128 := NB462_471.out; have hcz129_0 : w121.cell? ⟨gb471, 0, none⟩ = some (.string (⟨#[]⟩ : ByteArray)) := (blk_cell BK471.out 0).trans rfl; have hcz129_1 : w121.cell? ⟨gb471, 1, none⟩ = some (.string (⟨#[]⟩ : ByteArray)) := (blk_cell BK471.out 1).trans rfl; have hcz129_2 : w121.cell? ⟨gb471, 2, none⟩ = some (.int .i64 0) := (blk_cell BK471.out 2).trans rfl; have hfz129_0 := blk_frozen BK471.out 0; have hfz129_1 := blk_frozen BK471.out 1; have hfz129_2 := blk_frozen BK471.out 2; have hcz130_0 : w121.cell? ⟨gb451, 0, none⟩ = some (.string t446) := (blk_cell BK451.out 0).trans rfl; have hcz130_1 : w121.cell? ⟨gb451, 1, none⟩ = some (.string t447) := (blk_cell BK451.out 1).trans rfl; have hcz130_2 : w121.cell? ⟨gb451, 2, none⟩ = some (.int .i64 t448) := (blk_cell BK451.out 2).trans rfl; have hfz130_0 := blk_frozen BK451.out 0; have hfz130_1 := blk_frozen BK451.out 1; have hfz130_2 := blk_frozen BK451.out 2) | ((with_reducible refine gate_callee (f := 20) rfl ?_); refine goesL_ (some 111) rfl rfl Tryd.func20 (by kernel_rfl) rfl #[.agg #[.string t446, .string t447, .int .i64 t448]] rfl q60 ?_; (with_reducible refine (spec_SyncLog.calls kj14 t446 t447 t448 t472 t473 t474 t475 _ A109.out).mono ?_); rintro e w131 ⟨rfl, hb⟩; refine ⟨_, rfl, ?_⟩; have n0_ := Aside0.mk (blk_below (g := gb424) (o := .cells #[.string t422, .string t423] 25 (0, 0)) (by (repeat (first | (with_reducible first | refine blk_drewN ?_ _ | refine blk_drew ?_ | refine blk_alloc ?_ _) | refine blk_far ?_ NB424_471.out _)); exact BK424.out) hb); have n1_ := Aside0.mk (blk_below (g := gb431) (o := .cells #[.string t429, .string t430] 25 (0, 0)) (by (repeat (first | (with_reducible first | refine blk_drewN ?_ _ | refine blk_drew ?_ | refine blk_alloc ?_ _) | refine blk_far ?_ NB431_471.out _)); exact BK431.out) hb); have n2_ := Aside0.mk (blk_below (g := gb442) (o := .cells #[.string t439, .string t440, .int .i64 t441] 33 (0, 0)) (by (repeat (first | (with_reducible first | refine blk_drewN ?_ _ | refine blk_drew ?_ | refine blk_alloc ?_ _) | refine blk_far ?_ NB442_471.out _)); exact BK442.out) hb); have n3_ := Aside0.mk (blk_below (g := gb451) (o := .cells #[.string t446, .string t447, .int .i64 t448] 33 (0, 0)) (by (repeat (first | (with_reducible first | refine blk_drewN ?_ _ | refine blk_drew ?_ | refine blk_alloc ?_ _) | refine blk_far ?_ NB451_471.out _)); exact BK451.out) hb); have n4_ := Aside0.mk (blk_below (g := gb452) (o := .cells #[.string t449, .string t450] 25 (0, 0)) (by (repeat (first | (with_reducible first | refine blk_drewN ?_ _ | refine blk_drew ?_ | refine blk_alloc ?_ _) | refine blk_far ?_ NB452_471.out _)); exact BK452.out) hb); have n5_ := Aside0.mk (blk_below (g := gb457) (o := .cells #[.string t453, .string t454, .int .i64 t455] 33 (0, 0)) (by (repeat (first | (with_reducible first | refine blk_drewN ?_ _ | refine blk_drew ?_ | refine blk_alloc ?_ _) | refine blk_far ?_ NB457_471.out _)); exact BK457.out) hb); have n6_ := Aside0.mk (blk_below (g := gb462) (o := .cells #[.string t458, .string t459, .int .i64 t460] 33 (0, 0)) (by (repeat (first | (with_reducible first | refine blk_drewN ?_ _ | refine blk_drew ?_ | refine blk_alloc ?_ _) | refine blk_far ?_ NB462_471.out _)); exact BK462.out) hb); have n7_ := Aside0.mk (blk_below (g := gb471) (o := .cells #[.string t467, .string t468, .int .i64 t469] 33 (0, 0)) (by (with_reducible repeat (first | refine blk_drewN ?_ _ | refine blk_drew ?_ | refine blk_alloc ?_ _)); refine blk_put (cs := #[.string t467, .string t468, .int .i64 0]) ?_ 2 _ rfl; (with_reducible repeat (first | refine blk_drewN ?_ _ | refine blk_drew ?_ | refine blk_alloc ?_ _)); refine blk_put (cs := #[.string t467, .string (⟨#[]⟩ : ByteArray), .int .i64 0]) ?_ 1 _ rfl; (with_reducible repeat (first | refine blk_drewN ?_ _ | refine blk_drew ?_ | refine blk_alloc ?_ _)); refine blk_put (cs := #[.string (⟨#[]⟩ : ByteArray), .string (⟨#[]⟩ : ByteArray), .int .i64 0]) ?_ 0 _ rfl; (with_reducible repeat (first | refine blk_drewN ?_ _ | refine blk_drew ?_ | refine blk_alloc ?_ _)); exact BK471.out) hb); have n8_ := Aside0.mk (below_step q4 hb); clear BK424; clear BK431; clear BK442; clear BK451; clear BK452; clear BK457; clear BK462; clear BK471; clear HB; have BK424 := n0_; have BK431 := n1_; have BK442 := n2_; have BK451 := n3_; have BK452 := n4_; have BK457 := n5_; have BK462 := n6_; have BK471 := n7_; have HB := n8_; clear n0_ n1_ n2_ n3_ n4_ n5_ n6_ n7_ n8_; (try clear hb); (try clear hb2); (try clear hk); (try clear hi)) | ((with_reducible refine gate_dst (N := 19) rfl ?_); (try (refine gate_guard (by rfl) ?_; dsimp only)); refine box_event ?hg (N := 19) ?hd (cs := #[.string (⟨#[]⟩ : ByteArray), .string (⟨#[]⟩ : ByteArray), .int .i64 0]) (t := 33) ?hr ?_; (case hd => rfl); (case hg => rfl); (case hr => first | (go_simp; done) | (go_simp; rfl)); intro gb476 hg w132 hbox hb; have n0_ := Aside0.mk (blk_below (g := gb424) (o := .cells #[.string t422, .string t423] 25 (0, 0)) q70 hb); have n1_ := Aside0.mk (blk_below (g := gb431) (o := .cells #[.string t429, .string t430] 25 (0, 0)) q69 hb); have n2_ := Aside0.mk (blk_below (g := gb442) (o := .cells #[.string t439, .string t440, .int .i64 t441] 33 (0, 0)) q68 hb); have n3_ := Aside0.mk (blk_below (g := gb451) (o := .cells #[.string t446, .string t447, .int .i64 t448] 33 (0, 0)) q67 hb); have n4_ := Aside0.mk (blk_below (g := gb452) (o := .cells #[.string t449, .string t450] 25 (0, 0)) q66 hb); have n5_ := Aside0.mk (blk_below (g := gb457) (o := .cells #[.string t453, .string t454, .int .i64 t455] 33 (0, 0)) q65 hb); have n6_ := Aside0.mk (blk_below (g := gb462) (o := .cells #[.string t458, .string t459, .int .i64 t460] 33 (0, 0)) q64 hb); have n7_ := Aside0.mk (blk_below (g := gb471) (o := .cells #[.string t467, .string t468, .int .i64 t469] 33 (0, 0)) q63 hb); have n8_ := Aside0.mk (below_step q4 hb); have n9_ := Aside0.mk (hbox); have n10_ := Aside0.mk ((by rw [hg]; exact (below_size q4) : w.heap.size ≤ gb476)); have n11_ := Aside0.mk ((by rw [hg]; exact (below_size q4) : w.heap.size ≤ gb476)); have n12_ := Aside0.mk ((by rw [hg]; exact Nat.ne_of_lt (blk_lt (g := gb424) (o := .cells #[.string t422, .string t423] 25 (0, 0)) q70) : gb424 ≠ gb476)); have n13_ := Aside0.mk ((by rw [hg]; exact Nat.ne_of_gt (blk_lt (g := gb424) (o := .cells #[.string t422, .string t423] 25 (0, 0)) q70) : gb476 ≠ gb424)); have n14_ := Aside0.mk ((by rw [hg]; exact Nat.ne_of_lt (blk_lt (g := gb431) (o := .cells #[.string t429, .string t430] 25 (0, 0)) q69) : gb431 ≠ gb476)); have n15_ := Aside0.mk ((by rw [hg]; exact Nat.ne_of_gt (blk_lt (g := gb431) (o := .cells #[.string t429, .string t430] 25 (0, 0)) q69) : gb476 ≠ gb431)); have n16_ := Aside0.mk ((by rw [hg]; exact Nat.ne_of_lt (blk_lt (g := gb442) (o := .cells #[.string t439, .string t440, .int .i64 t441] 33 (0, 0)) q68) : gb442 ≠ gb476)); have n17_ := Aside0.mk ((by rw [hg]; exact Nat.ne_of_gt (blk_lt (g := gb442) (o := .cells #[.string t439, .string t440, .int .i64 t441] 33 (0, 0)) q68) : gb476 ≠ gb442)); have n18_ := Aside0.mk ((by rw [hg]; exact Nat.ne_of_lt (blk_lt (g := gb451) (o := .cells #[.string t446, .string t447, .int .i64 t448] 33 (0, 0)) q67) : gb451 ≠ gb476)); have n19_ := Aside0.mk ((by rw [hg]; exact Nat.ne_of_gt (blk_lt (g := gb451) (o := .cells #[.string t446, .string t447, .int .i64 t448] 33 (0, 0)) q67) : gb476 ≠ gb451)); have n20_ := Aside0.mk ((by rw [hg]; exact Nat.ne_of_lt (blk_lt (g := gb452) (o := .cells #[.string t449, .string t450] 25 (0, 0)) q66) : gb452 ≠ gb476)); have n21_ := Aside0.mk ((by rw [hg]; exact Nat.ne_of_gt (blk_lt (g := gb452) (o := .cells #[.string t449, .string t450] 25 (0, 0)) q66) : gb476 ≠ gb452)); have n22_ := Aside0.mk ((by rw [hg]; exact Nat.ne_of_lt (blk_lt (g := gb457) (o := .cells #[.string t453, .string t454, .int .i64 t455] 33 (0, 0)) q65) : gb457 ≠ gb476)); have n23_ := Aside0.mk ((by rw [hg]; exact Nat.ne_of_gt (blk_lt (g := gb457) (o := .cells #[.string t453, .string t454, .int .i64 t455] 33 (0, 0)) q65) : gb476 ≠ gb457)); have n24_ := Aside0.mk ((by rw [hg]; exact Nat.ne_of_lt (blk_lt (g := gb462) (o := .cells #[.string t458, .string t459, .int .i64 t460] 33 (0, 0)) q64) : gb462 ≠ gb476)); have n25_ := Aside0.mk ((by rw [hg]; exact Nat.ne_of_gt (blk_lt (g := gb462) (o := .cells #[.string t458, .string t459, .int .i64 t460] 33 (0, 0)) q64) : gb476 ≠ gb462)); have n26_ := Aside0.mk ((by rw [hg]; exact Nat.ne_of_lt (blk_lt (g := gb471) (o := .cells #[.string t467, .string t468, .int .i64 t469] 33 (0, 0)) q63) : gb471 ≠ gb476)); have n27_ := Aside0.mk ((by rw [hg]; exact Nat.ne_of_gt (blk_lt (g := gb471) (o := .cells #[.string t467, .string t468, .int .i64 t469] 33 (0, 0)) q63) : gb476 ≠ gb471)); clear BK424; clear BK431; clear BK442; clear BK451; clear BK452; clear BK457; clear BK462; clear BK471; clear HB; have BK424 := n0_; have BK431 := n1_; have BK442 := n2_; have BK451 := n3_; have BK452 := n4_; have BK457 := n5_; have BK462 := n6_; have BK471 := n7_; have HB := n8_; have BK476 := n9_; have GW476 := n10_; have GE476 := n11_; have NB424_476 := n12_; have NB476_424 := n13_; have NB431_476 := n14_; have NB476_431 := n15_; have NB442_476 := n16_; have NB476_442 := n17_; have NB451_476 := n18_; have NB476_451 := n19_; have NB452_476 := n20_; have NB476_452 := n21_; have NB457_476 := n22_; have NB476_457 := n23_; have NB462_476 := n24_; have NB476_462 := n25_; have NB471_476 := n26_; have NB476_471 := n27_; clear n0_ n1_ n2_ n3_ n4_ n5_ n6_ n7_ n8_ n9_ n10_ n11_ n12_ n13_ n14_ n15_ n16_ n17_ n18_ n19_ n20_ n21_ n22_ n23_ n24_ n25_ n26_ n27_; clear hb hbox hg; have hnb133 := NB476_424.out; have hnc133 := NB424_476.out; have hnb134 := NB476_431.out; have hnc134 := NB431_476.out; have hnb135 := NB476_442.out; have hnc135 := NB442_476.out; have hnb136 := NB476_451.out; have hnc136 := NB451_476.out; have hnb137 := NB476_452.out; have hnc137 := NB452_476.out; have hnb138 := NB476_457.out; have hnc138 := NB457_476.out; have hnb139 := NB476_462.out; have hnc139 := NB462_476.out; have hnb140 := NB476_471.out; have hnc140 := NB471_476.out; have hcz141_0 : w132.cell? ⟨gb476, 0, none⟩ = some (.string (⟨#[]⟩ : ByteArray)) := (blk_cell BK476.out 0).trans rfl; have hcz141_1 : w132.cell? ⟨gb476, 1, none⟩ = some (.string (⟨#[]⟩ : ByteArray)) := (blk_cell BK476.out 1).trans rfl; have hcz141_2 : w132.cell? ⟨gb476, 2, none⟩ = some (.int .i64 0) := (blk_cell BK476.out 2).trans rfl; have hfz141_0 := blk_frozen BK476.out 0; have hfz141_1 := blk_frozen BK476.out 1; have hfz141_2 := blk_frozen BK476.out 2; have hcz142_0 : w132.cell? ⟨gb451, 0, none⟩ = some (.string t446) := (blk_cell BK451.out 0).trans rfl; have hcz142_1 : w132.cell? ⟨gb451, 1, none⟩ = some (.string t447) := (blk_cell BK451.out 1).trans rfl; have hcz142_2 : w132.cell? ⟨gb451, 2, none⟩ = some (.int .i64 t448) := (blk_cell BK451.out 2).trans rfl; have hfz142_0 := blk_frozen BK451.out 0; have hfz142_1 := blk_frozen BK451.out 1; have hfz142_2 := blk_frozen BK451.out 2) | ((with_reducible refine gate_callee (f := 21) rfl ?_); refine goesL_ (some 116) rfl rfl Tryd.func21 (by kernel_rfl) rfl #[.agg #[.string t446, .string t447, .int .i64 t448]] rfl q60 ?_; (with_reducible refine (impl_LogRecords.calls kj14 t446 t447 t448 t477 t480 _ ?side1 A110.out).mono ?_); (case side1 => exact XTab.below HTAB.out q3); rintro e w143 ⟨v478, rfl, ho0, hb⟩; refine ⟨_, rfl, ?_⟩; have n0_ := Aside0.mk (Kd.R_lower (Kd.R_newB (Kd.R_newB (Kd.R_newB ho0 (g := gb424) (o := .cells #[.string t422, .string t423] 25 (0, 0)) (by (repeat (first | (with_reducible first | refine blk_drewN ?_ _ | refine blk_drew ?_ | refine blk_alloc ?_ _) | refine blk_far ?_ NB424_476.out _)); exact BK424.out)) (g := gb431) (o := .cells #[.string t429, .string t430] 25 (0, 0)) (by (repeat (first | (with_reducible first | refine blk_drewN ?_ _ | refine blk_drew ?_ | refine blk_alloc ?_ _) | refine blk_far ?_ NB431_476.out _)); exact BK431.out)) (g := gb452) (o := .cells #[.string t449, .string t450] 25 (0, 0)) (by (repeat (first | (with_reducible first | refine blk_drewN ?_ _ | refine blk_drew ?_ | refine blk_alloc ?_ _) | refine blk_far ?_ NB452_476.out _)); exact BK452.out)) (below_size q3)); have n1_ := Aside0.mk (blk_below (g := gb424) (o := .cells #[.string t422, .string t423] 25 (0, 0)) (by (repeat (first | (with_reducible first | refine blk_drewN ?_ _ | refine blk_drew ?_ | refine blk_alloc ?_ _) | refine blk_far ?_ NB424_476.out _)); exact BK424.out) hb); have n2_ := Aside0.mk (blk_below (g := gb431) (o := .cells #[.string t429, .string t430] 25 (0, 0)) (by (repeat (first | (with_reducible first | refine blk_drewN ?_ _ | refine blk_drew ?_ | refine blk_alloc ?_ _) | refine blk_far ?_ NB431_476.out _)); exact BK431.out) hb); have n3_ := Aside0.mk (blk_below (g := gb442) (o := .cells #[.string t439, .string t440, .int .i64 t441] 33 (0, 0)) (by (repeat (first | (with_reducible first | refine blk_drewN ?_ _ | refine blk_drew ?_ | refine blk_alloc ?_ _) | refine blk_far ?_ NB442_476.out _)); exact BK442.out) hb); have n4_ := Aside0.mk (blk_below (g := gb451) (o := .cells #[.string t446, .string t447, .int .i64 t448] 33 (0, 0)) (by (repeat (first | (with_reducible first | refine blk_drewN ?_ _ | refine blk_drew ?_ | refine blk_alloc ?_ _) | refine blk_far ?_ NB451_476.out _)); exact BK451.out) hb); have n5_ := Aside0.mk (blk_below (g := gb452) (o := .cells #[.string t449, .string t450] 25 (0, 0)) (by (repeat (first | (with_reducible first | refine blk_drewN ?_ _ | refine blk_drew ?_ | refine blk_alloc ?_ _) | refine blk_far ?_ NB452_476.out _)); exact BK452.out) hb); have n6_ := Aside0.mk (blk_below (g := gb457) (o := .cells #[.string t453, .string t454, .int .i64 t455] 33 (0, 0)) (by (repeat (first | (with_reducible first | refine blk_drewN ?_ _ | refine blk_drew ?_ | refine blk_alloc ?_ _) | refine blk_far ?_ NB457_476.out _)); exact BK457.out) hb); have n7_ := Aside0.mk (blk_below (g := gb462) (o := .cells #[.string t458, .string t459, .int .i64 t460] 33 (0, 0)) (by (repeat (first | (with_reducible first | refine blk_drewN ?_ _ | refine blk_drew ?_ | refine blk_alloc ?_ _) | refine blk_far ?_ NB462_476.out _)); exact BK462.out) hb); have n8_ := Aside0.mk (blk_below (g := gb471) (o := .cells #[.string t467, .string t468, .int .i64 t469] 33 (0, 0)) (by (repeat (first | (with_reducible first | refine blk_drewN ?_ _ | refine blk_drew ?_ | refine blk_alloc ?_ _) | refine blk_far ?_ NB471_476.out _)); exact BK471.out) hb); have n9_ := Aside0.mk (blk_below (g := gb476) (o := .cells #[.string t472, .string t473, .int .i64 t474] 33 (0, 0)) (by (with_reducible repeat (first | refine blk_drewN ?_ _ | refine blk_drew ?_ | refine blk_alloc ?_ _)); refine blk_put (cs := #[.string t472, .string t473, .int .i64 0]) ?_ 2 _ rfl; (with_reducible repeat (first | refine blk_drewN ?_ _ | refine blk_drew ?_ | refine blk_alloc ?_ _)); refine blk_put (cs := #[.string t472, .string (⟨#[]⟩ : ByteArray), .int .i64 0]) ?_ 1 _ rfl; (with_reducible repeat (first | refine blk_drewN ?_ _ | refine blk_drew ?_ | refine blk_alloc ?_ _)); refine blk_put (cs := #[.string (⟨#[]⟩ : ByteArray), .string (⟨#[]⟩ : ByteArray), .int .i64 0]) ?_ 0 _ rfl; (with_reducible repeat (first | refine blk_drewN ?_ _ | refine blk_drew ?_ | refine blk_alloc ?_ _)); exact BK476.out) hb); have n10_ := Aside0.mk (below_step q3 hb); clear BK424; clear BK431; clear BK442; clear BK451; clear BK452; clear BK457; clear BK462; clear BK471; clear BK476; clear HB; have HO479 := n0_; have BK424 := n1_; have BK431 := n2_; have BK442 := n3_; have BK451 := n4_; have BK452 := n5_; have BK457 := n6_; have BK462 := n7_; have BK471 := n8_; have BK476 := n9_; have HB := n10_; clear n0_ n1_ n2_ n3_ n4_ n5_ n6_ n7_ n8_ n9_ n10_; (try clear hb); (try clear hb2); (try clear hk); (try clear hi); (try clear ho0); have hcz144_0 : w143.cell? ⟨gb451, 0, none⟩ = some (.string t446) := (blk_cell BK451.out 0).trans rfl; have hcz144_1 : w143.cell? ⟨gb451, 1, none⟩ = some (.string t447) := (blk_cell BK451.out 1).trans rfl; have hcz144_2 : w143.cell? ⟨gb451, 2, none⟩ = some (.int .i64 t448) := (blk_cell BK451.out 2).trans rfl; have hfz144_0 := blk_frozen BK451.out 0; have hfz144_1 := blk_frozen BK451.out 1; have hfz144_2 := blk_frozen BK451.out 2) | ((with_reducible refine gate_callee (f := 22) rfl ?_); refine goesL_ (some 121) rfl rfl Tryd.func22 (by kernel_rfl) rfl #[.agg #[.string t446, .string t447, .int .i64 t448]] rfl q60 ?_; (with_reducible refine (spec_LogRecords.calls kj14 t446 t447 t448 t481 t484 _ A111.out).mono ?_); rintro e w145 ⟨v482, rfl, ho0, hb⟩; refine ⟨_, rfl, ?_⟩; have n0_ := Aside0.mk (Kd.R_elder' (by (with_reducible repeat (first | apply Kd.R_alloc | apply Kd.R_drewN | apply Kd.R_drew)); exact HO479.out) (Kd.R_base ho0) hb); have n1_ := Aside0.mk (Kd.R_lower (Kd.R_newB (Kd.R_newB (Kd.R_newB (Kd.R_new' ho0 (Kd.R_lt (by (with_reducible repeat (first | apply Kd.R_alloc | apply Kd.R_drewN | apply Kd.R_drew)); exact HO479.out))) (g := gb424) (o := .cells #[.string t422, .string t423] 25 (0, 0)) q70) (g := gb431) (o := .cells #[.string t429, .string t430] 25 (0, 0)) q69) (g := gb452) (o := .cells #[.string t449, .string t450] 25 (0, 0)) q66) (below_size q3)); have n2_ := Aside0.mk (blk_below (g := gb424) (o := .cells #[.string t422, .string t423] 25 (0, 0)) q70 hb); have n3_ := Aside0.mk (blk_below (g := gb431) (o := .cells #[.string t429, .string t430] 25 (0, 0)) q69 hb); have n4_ := Aside0.mk (blk_below (g := gb442) (o := .cells #[.string t439, .string t440, .int .i64 t441] 33 (0, 0)) q68 hb); have n5_ := Aside0.mk (blk_below (g := gb451) (o := .cells #[.string t446, .string t447, .int .i64 t448] 33 (0, 0)) q67 hb); have n6_ := Aside0.mk (blk_below (g := gb452) (o := .cells #[.string t449, .string t450] 25 (0, 0)) q66 hb); have n7_ := Aside0.mk (blk_below (g := gb457) (o := .cells #[.string t453, .string t454, .int .i64 t455] 33 (0, 0)) q65 hb); have n8_ := Aside0.mk (blk_below (g := gb462) (o := .cells #[.string t458, .string t459, .int .i64 t460] 33 (0, 0)) q64 hb); have n9_ := Aside0.mk (blk_below (g := gb471) (o := .cells #[.string t467, .string t468, .int .i64 t469] 33 (0, 0)) q63 hb); have n10_ := Aside0.mk (blk_below (g := gb476) (o := .cells #[.string t472, .string t473, .int .i64 t474] 33 (0, 0)) q62 hb); have n11_ := Aside0.mk (below_step q3 hb); clear HO479; clear BK424; clear BK431; clear BK442; clear BK451; clear BK452; clear BK457; clear BK462; clear BK471; clear BK476; clear HB; have HO479 := n0_; have HO483 := n1_; have BK424 := n2_; have BK431 := n3_; have BK442 := n4_; have BK451 := n5_; have BK452 := n6_; have BK457 := n7_; have BK462 := n8_; have BK471 := n9_; have BK476 := n10_; have HB := n11_; clear n0_ n1_ n2_ n3_ n4_ n5_ n6_ n7_ n8_ n9_ n10_ n11_; (try clear hb); (try clear hb2); (try clear hk); (try clear hi); (try clear ho0)))
     (try simp only [Act.put, List.setIfInBounds_toArray, List.set_cons_zero, List.set_cons_succ])
     go_cut [142] (fun v142 wc => ∃ (kq : Nat) (x142_111 : Bool), v142 = .bool x142_111 ∧ Aside0 (laws_FnLogs.j1 kq t456 t470 t477 x142_111 t446 t447 t448 t449 t450 t453 t454 t455 t467 t468 t469 = some r) ∧ Aside0 (kq ≤ kj14) ∧ Aside0 (Kd.R k25 25 wc w.heap.size (fun k_ => k_ ≠ gb424 ∧ k_ ≠ gb431 ∧ k_ ≠ gb452) v478 t477) ∧ Aside0 (wc.heap[gb424]? = some (.cells #[.string t422, .string t423] 25 (0, 0))) ∧ Aside0 (wc.heap[gb431]? = some (.cells #[.string t429, .string t430] 25 (0, 0))) ∧ Aside0 (wc.heap[gb442]? = some (.cells #[.string t439, .string t440, .int .i64 t441] 33 (0, 0))) ∧ Aside0 (wc.heap[gb451]? = some (.cells #[.string t446, .string t447, .int .i64 t448] 33 (0, 0))) ∧ Aside0 (wc.heap[gb452]? = some (.cells #[.string t449, .string t450] 25 (0, 0))) ∧ Aside0 (wc.heap[gb457]? = some (.cells #[.string t453, .string t454, .int .i64 t455] 33 (0, 0))) ∧ Aside0 (wc.heap[gb462]? = some (.cells #[.string t458, .string t459, .int .i64 t460] 33 (0, 0))) ∧ Aside0 (wc.heap[gb471]? = some (.cells #[.string t467, .string t468, .int .i64 t469] 33 (0, 0))) ∧ Aside0 (wc.heap[gb476]? = some (.cells #[.string t472, .string t473, .int .i64 t474] 33 (0, 0))) ∧ Aside0 (Below w.heap.size w wc))
     case first =>
      have H := HC112.out
      clear HC112
      by_cases c146 : (!(t467.toList == t472.toList) || (!(t468.toList == t473.toList) || (!(t469 == t474)))) = true
      ·rw [if_pos c146] at H
       exact (laws_FnLogs.j1_no (hr_.out ▸ H)).elim
      ·rw [if_neg c146] at H
       have c146b0 : (!(t467.toList == t472.toList) || (!(t468.toList == t473.toList) || (!(t469 == t474)))) = false := by simpa using c146
       clear c146
       (first | rw [c146b0] | (simp only [i64_w, i32_w]; rw [c146b0]) | skip)
       by_cases c164 : (t470 != t475) = true
       ·rw [if_pos c164] at H
        exact (laws_FnLogs.j1_no (hr_.out ▸ H)).elim
       ·rw [if_neg c164] at H
        have c164b0 : (t470 != t475) = false := by simpa using c164
        (try (have c164b1 : decide (t470 = t475) = true := by simpa using c164))
        (try (have c164b2 : (t470 == t475) = true := by simpa using c164))
        clear c164
        by_cases c182 : (t480 != t484) = true
        ·rw [if_pos c182] at H
         exact (laws_FnLogs.j1_no (hr_.out ▸ H)).elim
        ·rw [if_neg c182] at H
         have c182b0 : (t480 != t484) = false := by simpa using c182
         (try (have c182b1 : decide (t480 = t484) = true := by simpa using c182))
         (try (have c182b2 : (t480 == t484) = true := by simpa using c182))
         clear c182
         replace H := Option.bind_eq_some_iff.mp H
         obtain ⟨t485, A2000, H⟩ := H
         replace H : (laws_FnLogs.j1 kj14 t456 t470 t477 (!t485) t446 t447 t448 t449 t450 t453 t454 t455 t467 t468 t469) = some r := H
         have A200 := Aside0.mk A2000
         clear A2000
         have H' := Aside0.mk H
         clear H
         have hnb201 := NB471_424.out
         have hnc201 := NB424_471.out
         have hnb202 := NB471_431.out
         have hnc202 := NB431_471.out
         have hnb203 := NB471_442.out
         have hnc203 := NB442_471.out
         have hnb204 := NB471_451.out
         have hnc204 := NB451_471.out
         have hnb205 := NB471_452.out
         have hnc205 := NB452_471.out
         have hnb206 := NB471_457.out
         have hnc206 := NB457_471.out
         have hnb207 := NB471_462.out
         have hnc207 := NB462_471.out
         have hnb208 := NB471_476.out
         have hnc208 := NB476_471.out
         have hcz209_0 : w145.cell? ⟨gb471, 0, none⟩ = some (.string t467) := (blk_cell BK471.out 0).trans rfl
         have hcz209_1 : w145.cell? ⟨gb471, 1, none⟩ = some (.string t468) := (blk_cell BK471.out 1).trans rfl
         have hcz209_2 : w145.cell? ⟨gb471, 2, none⟩ = some (.int .i64 t469) := (blk_cell BK471.out 2).trans rfl
         have hfz209_0 := blk_frozen BK471.out 0
         have hfz209_1 := blk_frozen BK471.out 1
         have hfz209_2 := blk_frozen BK471.out 2
         have hnb210 := NB476_424.out
         have hnc210 := NB424_476.out
         have hnb211 := NB476_431.out
         have hnc211 := NB431_476.out
         have hnb212 := NB476_442.out
         have hnc212 := NB442_476.out
         have hnb213 := NB476_451.out
         have hnc213 := NB451_476.out
         have hnb214 := NB476_452.out
         have hnc214 := NB452_476.out
         have hnb215 := NB476_457.out
         have hnc215 := NB457_476.out
         have hnb216 := NB476_462.out
         have hnc216 := NB462_476.out
         have hcz217_0 : w145.cell? ⟨gb476, 0, none⟩ = some (.string t472) := (blk_cell BK476.out 0).trans rfl
         have hcz217_1 : w145.cell? ⟨gb476, 1, none⟩ = some (.string t473) := (blk_cell BK476.out 1).trans rfl
         have hcz217_2 : w145.cell? ⟨gb476, 2, none⟩ = some (.int .i64 t474) := (blk_cell BK476.out 2).trans rfl
         have hfz217_0 := blk_frozen BK476.out 0
         have hfz217_1 := blk_frozen BK476.out 1
         have hfz217_2 := blk_frozen BK476.out 2
         obtain ⟨Ao218, co218, eo218⟩ := Kd.R_slice HO479.out
         subst eo218
         obtain ⟨Ao219, co219, eo219⟩ := Kd.R_slice HO483.out
         subst eo219
         go_wp2_with (first | (go_at_call 23; (with_reducible refine (laws_vRecords.calls kj14 _ _ t477 _ _ t481 t485 _ ?side1 ?side2 ?side3 ?side4 A200.out).mono ?_); (case side1 => repeat (first | exact (Kd.R_reads' HO479.out).2.2 | (with_reducible refine Kd.C_alloc ?_ _) | (with_reducible refine Kd.C_drewN ?_ _) | (with_reducible refine Kd.C_drew ?_))); (case side2 => exact (Kd.R_reads' HO479.out).2.1); (case side3 => repeat (first | exact (Kd.R_reads' HO483.out).2.2 | (with_reducible refine Kd.C_alloc ?_ _) | (with_reducible refine Kd.C_drewN ?_ _) | (with_reducible refine Kd.C_drew ?_))); (case side4 => exact (Kd.R_reads' HO483.out).2.1); rintro e w' ⟨rfl, ⟨nd, rfl⟩⟩))
         go_meet
         case rel => exact ⟨_, (!t485), q112, H', ⟨by have := HJ14.out; first | omega | exact Nat.le_refl _⟩, ⟨by (with_reducible repeat (first | apply Kd.R_alloc | apply Kd.R_drewN | apply Kd.R_drew)); exact Kd.R_mono HO479.out (fun _ hk => ⟨hk.1.1.1.2, ⟨hk.1.1.2, hk.1.2⟩⟩)⟩, ⟨by (with_reducible repeat (first | refine blk_drewN ?_ _ | refine blk_drew ?_ | refine blk_alloc ?_ _)); exact BK424.out⟩, ⟨by (with_reducible repeat (first | refine blk_drewN ?_ _ | refine blk_drew ?_ | refine blk_alloc ?_ _)); exact BK431.out⟩, ⟨by (with_reducible repeat (first | refine blk_drewN ?_ _ | refine blk_drew ?_ | refine blk_alloc ?_ _)); exact BK442.out⟩, ⟨by (with_reducible repeat (first | refine blk_drewN ?_ _ | refine blk_drew ?_ | refine blk_alloc ?_ _)); exact BK451.out⟩, ⟨by (with_reducible repeat (first | refine blk_drewN ?_ _ | refine blk_drew ?_ | refine blk_alloc ?_ _)); exact BK452.out⟩, ⟨by (with_reducible repeat (first | refine blk_drewN ?_ _ | refine blk_drew ?_ | refine blk_alloc ?_ _)); exact BK457.out⟩, ⟨by (with_reducible repeat (first | refine blk_drewN ?_ _ | refine blk_drew ?_ | refine blk_alloc ?_ _)); exact BK462.out⟩, ⟨by (with_reducible repeat (first | refine blk_drewN ?_ _ | refine blk_drew ?_ | refine blk_alloc ?_ _)); exact BK471.out⟩, ⟨by (with_reducible repeat (first | refine blk_drewN ?_ _ | refine blk_drew ?_ | refine blk_alloc ?_ _)); exact BK476.out⟩, ⟨by repeat (first | (with_reducible first | exact HB.out | apply below_alloc | apply pw_below_drewN | apply below_drew1 | refine below_set ?_ GE424.out | refine below_set ?_ GE431.out | refine below_set ?_ GE442.out | refine below_set ?_ GE451.out | refine below_set ?_ GE452.out | refine below_set ?_ GE457.out | refine below_set ?_ GE462.out | refine below_set ?_ GE471.out | refine below_set ?_ GE476.out) | exact HB.out)⟩⟩
     case rest =>
      clear HC112
      try clear c1
      try clear c2
      try clear p2
      try clear c7
      try clear c10
      try clear c11
      try clear c12
      try clear c13
      try clear c14
      try clear c15
      try clear c16
      try clear c17
      try clear c18
      try clear c19
      try clear c20
      try clear c21
      try clear c22
      try clear c75
      try clear c75b0
      try clear c75b1
      try clear c107
      try clear c113
      try clear c114
      try clear c115
      try clear c116
      try clear c117
      try clear c118
      try clear c122
      try clear c123
      try clear c124
      try clear c125
      try clear c126
      try clear c127
      try clear c128
      try clear c133
      try clear c134
      try clear c135
      try clear c136
      try clear c137
      try clear c138
      try clear c139
      try clear c140
      try clear c146
      try clear c146b0
      try clear c147
      try clear c148
      try clear c149
      try clear c150
      try clear c151
      try clear c152
      try clear c153
      try clear c154
      try clear c156
      try clear c157
      try clear c158
      try clear c159
      try clear c160
      try clear c161
      try clear c162
      try clear c164
      try clear c164b0
      try clear c164b1
      try clear c164b2
      try clear c165
      try clear c166
      try clear c167
      try clear c168
      try clear c169
      try clear c170
      try clear c171
      try clear c172
      try clear c174
      try clear c175
      try clear c176
      try clear c177
      try clear c178
      try clear c179
      try clear c180
      try clear c182
      try clear c182b0
      try clear c182b1
      try clear c182b2
      try clear c183
      try clear c184
      try clear c185
      try clear c186
      try clear c187
      try clear c188
      try clear c189
      try clear c190
      try clear c192
      try clear c193
      try clear c194
      try clear c195
      try clear c196
      try clear c197
      try clear c198
      try clear c201
      try clear c202
      try clear c203
      try clear c204
      try clear c205
      try clear c206
      try clear c207
      try clear c208
      try clear c210
      try clear c211
      try clear c212
      try clear c213
      try clear c214
      try clear c215
      try clear c216
      try clear hcz119_0
      try clear hcz119_1
      try clear hcz119_2
      try clear hcz129_0
      try clear hcz129_1
      try clear hcz129_2
      try clear hcz130_0
      try clear hcz130_1
      try clear hcz130_2
      try clear hcz141_0
      try clear hcz141_1
      try clear hcz141_2
      try clear hcz142_0
      try clear hcz142_1
      try clear hcz142_2
      try clear hcz144_0
      try clear hcz144_1
      try clear hcz144_2
      try clear hcz155_0
      try clear hcz155_1
      try clear hcz155_2
      try clear hcz163_0
      try clear hcz163_1
      try clear hcz163_2
      try clear hcz173_0
      try clear hcz173_1
      try clear hcz173_2
      try clear hcz181_0
      try clear hcz181_1
      try clear hcz181_2
      try clear hcz191_0
      try clear hcz191_1
      try clear hcz191_2
      try clear hcz199_0
      try clear hcz199_1
      try clear hcz199_2
      try clear hcz209_0
      try clear hcz209_1
      try clear hcz209_2
      try clear hcz217_0
      try clear hcz217_1
      try clear hcz217_2
      try clear hfz119_0
      try clear hfz119_1
      try clear hfz119_2
      try clear hfz129_0
      try clear hfz129_1
      try clear hfz129_2
      try clear hfz130_0
      try clear hfz130_1
      try clear hfz130_2
      try clear hfz141_0
      try clear hfz141_1
      try clear hfz141_2
      try clear hfz142_0
      try clear hfz142_1
      try clear hfz142_2
      try clear hfz144_0
      try clear hfz144_1
      try clear hfz144_2
      try clear hfz155_0
      try clear hfz155_1
      try clear hfz155_2
      try clear hfz163_0
      try clear hfz163_1
      try clear hfz163_2
      try clear hfz173_0
      try clear hfz173_1
      try clear hfz173_2
      try clear hfz181_0
      try clear hfz181_1
      try clear hfz181_2
      try clear hfz191_0
      try clear hfz191_1
      try clear hfz191_2
      try clear hfz199_0
      try clear hfz199_1
      try clear hfz199_2
      try clear hfz209_0
      try clear hfz209_1
      try clear hfz209_2
      try clear hfz217_0
      try clear hfz217_1
      try clear hfz217_2
      try clear p2
      obtain ⟨kq, x142_111, rfl, HA, HJ111, HO_21, BK424, BK431, BK442, BK451, BK452, BK457, BK462, BK471, BK476, HB⟩ := hcut
      cases kq with
      | zero => exact absurd HA.out (by simp [laws_FnLogs.j1])
      | succ kj111 =>
       have H := HA.out
       clear HA
       simp only [laws_FnLogs.j1] at H
       by_cases c220 : x142_111 = true
       ·subst c220
        have H1 : (some false) = some r := by rw [if_pos rfl] at H; exact H
        exact absurd ((Option.some.inj H1).trans hr_.out) Bool.false_ne_true
       ·replace c220 := Bool.eq_false_iff.mpr c220
        subst c220
        have H1 : ((impl_LogRecords.f kj111 t467 t468 t469).bind fun bt486 => (if t470 = true then ((laws_vRecords.f kj111 bt486.1 t477).bind fun t490 => (laws_FnLogs.j2 kj111 t456 t477 (!t490) t446 t447 t448 t449 t450 t453 t454 t455)) else (laws_FnLogs.j2 kj111 t456 t477 false t446 t447 t448 t449 t450 t453 t454 t455))) = some r := by rw [if_neg (show ¬ (false = true) by decide)] at H; exact H
        clear H
        have H := H1
        clear H1
        replace H := Option.bind_eq_some_iff.mp H
        obtain ⟨⟨t486, t489⟩, A2210, H⟩ := H
        replace H : (if t470 = true then ((laws_vRecords.f kj111 t486 t477).bind fun t490 => (laws_FnLogs.j2 kj111 t456 t477 (!t490) t446 t447 t448 t449 t450 t453 t454 t455)) else (laws_FnLogs.j2 kj111 t456 t477 false t446 t447 t448 t449 t450 t453 t454 t455)) = some r := H
        have A221 := Aside0.mk A2210
        clear A2210
        have HC222 := Aside0.mk H
        clear H
        have hnb223 := NB471_424.out
        have hnc223 := NB424_471.out
        have hnb224 := NB471_431.out
        have hnc224 := NB431_471.out
        have hnb225 := NB471_442.out
        have hnc225 := NB442_471.out
        have hnb226 := NB471_451.out
        have hnc226 := NB451_471.out
        have hnb227 := NB471_452.out
        have hnc227 := NB452_471.out
        have hnb228 := NB471_457.out
        have hnc228 := NB457_471.out
        have hnb229 := NB471_462.out
        have hnc229 := NB462_471.out
        have hnb230 := NB471_476.out
        have hnc230 := NB476_471.out
        have hcz231_0 : wc.cell? ⟨gb471, 0, none⟩ = some (.string t467) := (blk_cell BK471.out 0).trans rfl
        have hcz231_1 : wc.cell? ⟨gb471, 1, none⟩ = some (.string t468) := (blk_cell BK471.out 1).trans rfl
        have hcz231_2 : wc.cell? ⟨gb471, 2, none⟩ = some (.int .i64 t469) := (blk_cell BK471.out 2).trans rfl
        have hfz231_0 := blk_frozen BK471.out 0
        have hfz231_1 := blk_frozen BK471.out 1
        have hfz231_2 := blk_frozen BK471.out 2
        go_upto_region 20 with (first | ((with_reducible refine gate_callee (f := 21) rfl ?_); refine goesL_ (some 145) rfl rfl Tryd.func21 (by kernel_rfl) rfl #[.agg #[.string t467, .string t468, .int .i64 t469]] rfl q60 ?_; (with_reducible refine (impl_LogRecords.calls kj111 t467 t468 t469 t486 t489 _ ?side1 A221.out).mono ?_); (case side1 => exact XTab.below HTAB.out q3); rintro e w232 ⟨v487, rfl, ho0, hb⟩; refine ⟨_, rfl, ?_⟩; have n0_ := Aside0.mk (Kd.R_elder' q99 (Kd.R_base ho0) hb); have n1_ := Aside0.mk (Kd.R_lower (Kd.R_newB (Kd.R_newB (Kd.R_newB (Kd.R_new' ho0 (Kd.R_lt q99)) (g := gb424) (o := .cells #[.string t422, .string t423] 25 (0, 0)) q70) (g := gb431) (o := .cells #[.string t429, .string t430] 25 (0, 0)) q69) (g := gb452) (o := .cells #[.string t449, .string t450] 25 (0, 0)) q66) (below_size q3)); have n2_ := Aside0.mk (blk_below (g := gb424) (o := .cells #[.string t422, .string t423] 25 (0, 0)) q70 hb); have n3_ := Aside0.mk (blk_below (g := gb431) (o := .cells #[.string t429, .string t430] 25 (0, 0)) q69 hb); have n4_ := Aside0.mk (blk_below (g := gb442) (o := .cells #[.string t439, .string t440, .int .i64 t441] 33 (0, 0)) q68 hb); have n5_ := Aside0.mk (blk_below (g := gb451) (o := .cells #[.string t446, .string t447, .int .i64 t448] 33 (0, 0)) q67 hb); have n6_ := Aside0.mk (blk_below (g := gb452) (o := .cells #[.string t449, .string t450] 25 (0, 0)) q66 hb); have n7_ := Aside0.mk (blk_below (g := gb457) (o := .cells #[.string t453, .string t454, .int .i64 t455] 33 (0, 0)) q65 hb); have n8_ := Aside0.mk (blk_below (g := gb462) (o := .cells #[.string t458, .string t459, .int .i64 t460] 33 (0, 0)) q64 hb); have n9_ := Aside0.mk (blk_below (g := gb471) (o := .cells #[.string t467, .string t468, .int .i64 t469] 33 (0, 0)) q63 hb); have n10_ := Aside0.mk (blk_below (g := gb476) (o := .cells #[.string t472, .string t473, .int .i64 t474] 33 (0, 0)) q62 hb); have n11_ := Aside0.mk (below_step q3 hb); clear HO_21; clear BK424; clear BK431; clear BK442; clear BK451; clear BK452; clear BK457; clear BK462; clear BK471; clear BK476; clear HB; have HO_21 := n0_; have HO488 := n1_; have BK424 := n2_; have BK431 := n3_; have BK442 := n4_; have BK451 := n5_; have BK452 := n6_; have BK457 := n7_; have BK462 := n8_; have BK471 := n9_; have BK476 := n10_; have HB := n11_; clear n0_ n1_ n2_ n3_ n4_ n5_ n6_ n7_ n8_ n9_ n10_ n11_; (try clear hb); (try clear hb2); (try clear hk); (try clear hi); (try clear ho0)))
        (try simp only [Act.put, List.setIfInBounds_toArray, List.set_cons_zero, List.set_cons_succ])
        go_cut [154] (fun v154 wc => ∃ (kq : Nat) (x154_221 : Bool), v154 = .bool x154_221 ∧ Aside0 (laws_FnLogs.j2 kq t456 t477 x154_221 t446 t447 t448 t449 t450 t453 t454 t455 = some r) ∧ Aside0 (kq ≤ kj111) ∧ Aside0 (Kd.R k25 25 wc w.heap.size (fun k_ => k_ ≠ gb424 ∧ k_ ≠ gb431 ∧ k_ ≠ gb452) v478 t477) ∧ Aside0 (wc.heap[gb424]? = some (.cells #[.string t422, .string t423] 25 (0, 0))) ∧ Aside0 (wc.heap[gb431]? = some (.cells #[.string t429, .string t430] 25 (0, 0))) ∧ Aside0 (wc.heap[gb442]? = some (.cells #[.string t439, .string t440, .int .i64 t441] 33 (0, 0))) ∧ Aside0 (wc.heap[gb451]? = some (.cells #[.string t446, .string t447, .int .i64 t448] 33 (0, 0))) ∧ Aside0 (wc.heap[gb452]? = some (.cells #[.string t449, .string t450] 25 (0, 0))) ∧ Aside0 (wc.heap[gb457]? = some (.cells #[.string t453, .string t454, .int .i64 t455] 33 (0, 0))) ∧ Aside0 (wc.heap[gb462]? = some (.cells #[.string t458, .string t459, .int .i64 t460] 33 (0, 0))) ∧ Aside0 (wc.heap[gb471]? = some (.cells #[.string t467, .string t468, .int .i64 t469] 33 (0, 0))) ∧ Aside0 (wc.heap[gb476]? = some (.cells #[.string t472, .string t473, .int .i64 t474] 33 (0, 0))) ∧ Aside0 (Below w.heap.size w wc))
        case first =>
         have H := HC222.out
         clear HC222
         by_cases c233 : t470 = true
         ·subst c233
          have H1 : ((laws_vRecords.f kj111 t486 t477).bind fun t490 => (laws_FnLogs.j2 kj111 t456 t477 (!t490) t446 t447 t448 t449 t450 t453 t454 t455)) = some r := by rw [if_pos rfl] at H; exact H
          clear H
          have H := H1
          clear H1
          replace H := Option.bind_eq_some_iff.mp H
          obtain ⟨t490, A2340, H⟩ := H
          replace H : (laws_FnLogs.j2 kj111 t456 t477 (!t490) t446 t447 t448 t449 t450 t453 t454 t455) = some r := H
          have A234 := Aside0.mk A2340
          clear A2340
          have H' := Aside0.mk H
          clear H
          obtain ⟨Ao235, co235, eo235⟩ := Kd.R_slice HO488.out
          subst eo235
          obtain ⟨Ao236, co236, eo236⟩ := Kd.R_slice HO_21.out
          subst eo236
          go_wp2_with (first | (go_at_call 23; (with_reducible refine (laws_vRecords.calls kj111 _ _ t486 _ _ t477 t490 _ ?side1 ?side2 ?side3 ?side4 A234.out).mono ?_); (case side1 => repeat (first | exact (Kd.R_reads' HO488.out).2.2 | (with_reducible refine Kd.C_alloc ?_ _) | (with_reducible refine Kd.C_drewN ?_ _) | (with_reducible refine Kd.C_drew ?_))); (case side2 => exact (Kd.R_reads' HO488.out).2.1); (case side3 => repeat (first | exact (Kd.R_reads' HO_21.out).2.2 | (with_reducible refine Kd.C_alloc ?_ _) | (with_reducible refine Kd.C_drewN ?_ _) | (with_reducible refine Kd.C_drew ?_))); (case side4 => exact (Kd.R_reads' HO_21.out).2.1); rintro e w' ⟨rfl, ⟨nd, rfl⟩⟩))
          go_meet
          case rel => exact ⟨_, (!t490), q112, H', ⟨by have := HJ14.out; have := HJ111.out; first | omega | exact Nat.le_refl _⟩, ⟨by (with_reducible repeat (first | apply Kd.R_alloc | apply Kd.R_drewN | apply Kd.R_drew)); exact Kd.R_mono HO_21.out (fun _ hk => ⟨hk.1.1, ⟨hk.1.2.1, hk.1.2.2⟩⟩)⟩, ⟨by (with_reducible repeat (first | refine blk_drewN ?_ _ | refine blk_drew ?_ | refine blk_alloc ?_ _)); exact BK424.out⟩, ⟨by (with_reducible repeat (first | refine blk_drewN ?_ _ | refine blk_drew ?_ | refine blk_alloc ?_ _)); exact BK431.out⟩, ⟨by (with_reducible repeat (first | refine blk_drewN ?_ _ | refine blk_drew ?_ | refine blk_alloc ?_ _)); exact BK442.out⟩, ⟨by (with_reducible repeat (first | refine blk_drewN ?_ _ | refine blk_drew ?_ | refine blk_alloc ?_ _)); exact BK451.out⟩, ⟨by (with_reducible repeat (first | refine blk_drewN ?_ _ | refine blk_drew ?_ | refine blk_alloc ?_ _)); exact BK452.out⟩, ⟨by (with_reducible repeat (first | refine blk_drewN ?_ _ | refine blk_drew ?_ | refine blk_alloc ?_ _)); exact BK457.out⟩, ⟨by (with_reducible repeat (first | refine blk_drewN ?_ _ | refine blk_drew ?_ | refine blk_alloc ?_ _)); exact BK462.out⟩, ⟨by (with_reducible repeat (first | refine blk_drewN ?_ _ | refine blk_drew ?_ | refine blk_alloc ?_ _)); exact BK471.out⟩, ⟨by (with_reducible repeat (first | refine blk_drewN ?_ _ | refine blk_drew ?_ | refine blk_alloc ?_ _)); exact BK476.out⟩, ⟨by repeat (first | (with_reducible first | exact HB.out | apply below_alloc | apply pw_below_drewN | apply below_drew1 | refine below_set ?_ GE424.out | refine below_set ?_ GE431.out | refine below_set ?_ GE442.out | refine below_set ?_ GE451.out | refine below_set ?_ GE452.out | refine below_set ?_ GE457.out | refine below_set ?_ GE462.out | refine below_set ?_ GE471.out | refine below_set ?_ GE476.out) | exact HB.out)⟩⟩
         ·replace c233 := Bool.eq_false_iff.mpr c233
          subst c233
          have H1 : (laws_FnLogs.j2 kj111 t456 t477 false t446 t447 t448 t449 t450 t453 t454 t455) = some r := by rw [if_neg (show ¬ (false = true) by decide)] at H; exact H
          clear H
          have H := H1
          clear H1
          have H' := Aside0.mk H
          clear H
          go_wp2
          go_meet
          case rel => exact ⟨_, (false), q112, H', ⟨by have := HJ14.out; have := HJ111.out; first | omega | exact Nat.le_refl _⟩, ⟨by (with_reducible repeat (first | apply Kd.R_alloc | apply Kd.R_drewN | apply Kd.R_drew)); exact Kd.R_mono HO_21.out (fun _ hk => ⟨hk.1.1, ⟨hk.1.2.1, hk.1.2.2⟩⟩)⟩, ⟨by (with_reducible repeat (first | refine blk_drewN ?_ _ | refine blk_drew ?_ | refine blk_alloc ?_ _)); exact BK424.out⟩, ⟨by (with_reducible repeat (first | refine blk_drewN ?_ _ | refine blk_drew ?_ | refine blk_alloc ?_ _)); exact BK431.out⟩, ⟨by (with_reducible repeat (first | refine blk_drewN ?_ _ | refine blk_drew ?_ | refine blk_alloc ?_ _)); exact BK442.out⟩, ⟨by (with_reducible repeat (first | refine blk_drewN ?_ _ | refine blk_drew ?_ | refine blk_alloc ?_ _)); exact BK451.out⟩, ⟨by (with_reducible repeat (first | refine blk_drewN ?_ _ | refine blk_drew ?_ | refine blk_alloc ?_ _)); exact BK452.out⟩, ⟨by (with_reducible repeat (first | refine blk_drewN ?_ _ | refine blk_drew ?_ | refine blk_alloc ?_ _)); exact BK457.out⟩, ⟨by (with_reducible repeat (first | refine blk_drewN ?_ _ | refine blk_drew ?_ | refine blk_alloc ?_ _)); exact BK462.out⟩, ⟨by (with_reducible repeat (first | refine blk_drewN ?_ _ | refine blk_drew ?_ | refine blk_alloc ?_ _)); exact BK471.out⟩, ⟨by (with_reducible repeat (first | refine blk_drewN ?_ _ | refine blk_drew ?_ | refine blk_alloc ?_ _)); exact BK476.out⟩, ⟨by repeat (first | (with_reducible first | exact HB.out | apply below_alloc | apply pw_below_drewN | apply below_drew1 | refine below_set ?_ GE424.out | refine below_set ?_ GE431.out | refine below_set ?_ GE442.out | refine below_set ?_ GE451.out | refine below_set ?_ GE452.out | refine below_set ?_ GE457.out | refine below_set ?_ GE462.out | refine below_set ?_ GE471.out | refine below_set ?_ GE476.out) | exact HB.out)⟩⟩
        case rest =>
         clear HC222
         try clear c1
         try clear c2
         try clear p2
         try clear c7
         try clear c10
         try clear c11
         try clear c12
         try clear c13
         try clear c14
         try clear c15
         try clear c16
         try clear c17
         try clear c18
         try clear c19
         try clear c20
         try clear c21
         try clear c22
         try clear c23
         try clear c75
         try clear c75b0
         try clear c75b1
         try clear c107
         try clear c113
         try clear c114
         try clear c115
         try clear c116
         try clear c117
         try clear c118
         try clear c122
         try clear c123
         try clear c124
         try clear c125
         try clear c126
         try clear c127
         try clear c128
         try clear c133
         try clear c134
         try clear c135
         try clear c136
         try clear c137
         try clear c138
         try clear c139
         try clear c140
         try clear c146
         try clear c146b0
         try clear c147
         try clear c148
         try clear c149
         try clear c150
         try clear c151
         try clear c152
         try clear c153
         try clear c154
         try clear c156
         try clear c157
         try clear c158
         try clear c159
         try clear c160
         try clear c161
         try clear c162
         try clear c164
         try clear c164b0
         try clear c164b1
         try clear c164b2
         try clear c165
         try clear c166
         try clear c167
         try clear c168
         try clear c169
         try clear c170
         try clear c171
         try clear c172
         try clear c174
         try clear c175
         try clear c176
         try clear c177
         try clear c178
         try clear c179
         try clear c180
         try clear c182
         try clear c182b0
         try clear c182b1
         try clear c182b2
         try clear c183
         try clear c184
         try clear c185
         try clear c186
         try clear c187
         try clear c188
         try clear c189
         try clear c190
         try clear c192
         try clear c193
         try clear c194
         try clear c195
         try clear c196
         try clear c197
         try clear c198
         try clear c201
         try clear c202
         try clear c203
         try clear c204
         try clear c205
         try clear c206
         try clear c207
         try clear c208
         try clear c210
         try clear c211
         try clear c212
         try clear c213
         try clear c214
         try clear c215
         try clear c216
         try clear c220
         try clear c223
         try clear c224
         try clear c225
         try clear c226
         try clear c227
         try clear c228
         try clear c229
         try clear c230
         try clear c233
         try clear hcz119_0
         try clear hcz119_1
         try clear hcz119_2
         try clear hcz129_0
         try clear hcz129_1
         try clear hcz129_2
         try clear hcz130_0
         try clear hcz130_1
         try clear hcz130_2
         try clear hcz141_0
         try clear hcz141_1
         try clear hcz141_2
         try clear hcz142_0
         try clear hcz142_1
         try clear hcz142_2
         try clear hcz144_0
         try clear hcz144_1
         try clear hcz144_2
         try clear hcz155_0
         try clear hcz155_1
         try clear hcz155_2
         try clear hcz163_0
         try clear hcz163_1
         try clear hcz163_2
         try clear hcz173_0
         try clear hcz173_1
         try clear hcz173_2
         try clear hcz181_0
         try clear hcz181_1
         try clear hcz181_2
         try clear hcz191_0
         try clear hcz191_1
         try clear hcz191_2
         try clear hcz199_0
         try clear hcz199_1
         try clear hcz199_2
         try clear hcz209_0
         try clear hcz209_1
         try clear hcz209_2
         try clear hcz217_0
         try clear hcz217_1
         try clear hcz217_2
         try clear hcz231_0
         try clear hcz231_1
         try clear hcz231_2
         try clear hfz119_0
         try clear hfz119_1
         try clear hfz119_2
         try clear hfz129_0
         try clear hfz129_1
         try clear hfz129_2
         try clear hfz130_0
         try clear hfz130_1
         try clear hfz130_2
         try clear hfz141_0
         try clear hfz141_1
         try clear hfz141_2
         try clear hfz142_0
         try clear hfz142_1
         try clear hfz142_2
         try clear hfz144_0
         try clear hfz144_1
         try clear hfz144_2
         try clear hfz155_0
         try clear hfz155_1
         try clear hfz155_2
         try clear hfz163_0
         try clear hfz163_1
         try clear hfz163_2
         try clear hfz173_0
         try clear hfz173_1
         try clear hfz173_2
         try clear hfz181_0
         try clear hfz181_1
         try clear hfz181_2
         try clear hfz191_0
         try clear hfz191_1
         try clear hfz191_2
         try clear hfz199_0
         try clear hfz199_1
         try clear hfz199_2
         try clear hfz209_0
         try clear hfz209_1
         try clear hfz209_2
         try clear hfz217_0
         try clear hfz217_1
         try clear hfz217_2
         try clear hfz231_0
         try clear hfz231_1
         try clear hfz231_2
         try clear p2
         obtain ⟨kq, x154_221, rfl, HA, HJ221, HO_21, BK424, BK431, BK442, BK451, BK452, BK457, BK462, BK471, BK476, HB⟩ := hcut
         cases kq with
         | zero => exact absurd HA.out (by simp [laws_FnLogs.j2])
         | succ kj221 =>
          have H := HA.out
          clear HA
          simp only [laws_FnLogs.j2] at H
          by_cases c237 : x154_221 = true
          ·subst c237
           have H1 : (some false) = some r := by rw [if_pos rfl] at H; exact H
           exact absurd ((Option.some.inj H1).trans hr_.out) Bool.false_ne_true
          ·replace c237 := Bool.eq_false_iff.mpr c237
           subst c237
           have H1 : (if t456 = 0 then ((impl_LogRecords.f kj221 t453 t454 t455).bind fun bt491 => ((impl_IsValidLog.f kj221 t453 t454 t455).bind fun t495 => (if t495 = true then (if (bt491.1.length : Int) = (wrap64 ((t477.length : Int) + 1)) then (if 0 ≤ (t477.length : Int) then (if (t477.length : Int) ≤ (bt491.1.length : Int) then ((laws_vRecords.f kj221 (bt491.1.take ((t477.length : Int) : Int).toNat) t477).bind fun t500 => (if t500 = true then (if (t477.length : Int) < (bt491.1.length : Int) then (some ((((rd_T25 bt491.1 (t477.length : Int)).f0).toList) == t449.toList && ((((rd_T25 bt491.1 (t477.length : Int)).f1).toList) == t450.toList))) else (none)) else (some false))) else (none)) else (none)) else (some false)) else (some false)))) else (some (t453.toList == t446.toList && (t454.toList == t447.toList && (t455 == t448))))) = some r := by rw [if_neg (show ¬ (false = true) by decide)] at H; exact H
           clear H
           have H := H1
           clear H1
           by_cases c238 : t456 = 0
           ·rw [if_pos c238] at H
            have c238b0 : (t456 == 0) = true := beq_iff_eq.mpr c238
            have c238b1 : (t456 != 0) = false := bne_eq_false_iff_eq.mpr c238
            clear c238
            replace H := Option.bind_eq_some_iff.mp H
            obtain ⟨⟨t491, t494⟩, A2390, H⟩ := H
            replace H : ((impl_IsValidLog.f kj221 t453 t454 t455).bind fun t495 => (if t495 = true then (if (t491.length : Int) = (wrap64 ((t477.length : Int) + 1)) then (if 0 ≤ (t477.length : Int) then (if (t477.length : Int) ≤ (t491.length : Int) then ((laws_vRecords.f kj221 (t491.take ((t477.length : Int) : Int).toNat) t477).bind fun t500 => (if t500 = true then (if (t477.length : Int) < (t491.length : Int) then (some ((((rd_T25 t491 (t477.length : Int)).f0).toList) == t449.toList && ((((rd_T25 t491 (t477.length : Int)).f1).toList) == t450.toList))) else (none)) else (some false))) else (none)) else (none)) else (some false)) else (some false))) = some r := H
            have A239 := Aside0.mk A2390
            clear A2390
            replace H := Option.bind_eq_some_iff.mp H
            obtain ⟨t495, A2400, H⟩ := H
            replace H : (if t495 = true then (if (t491.length : Int) = (wrap64 ((t477.length : Int) + 1)) then (if 0 ≤ (t477.length : Int) then (if (t477.length : Int) ≤ (t491.length : Int) then ((laws_vRecords.f kj221 (t491.take ((t477.length : Int) : Int).toNat) t477).bind fun t500 => (if t500 = true then (if (t477.length : Int) < (t491.length : Int) then (some ((((rd_T25 t491 (t477.length : Int)).f0).toList) == t449.toList && ((((rd_T25 t491 (t477.length : Int)).f1).toList) == t450.toList))) else (none)) else (some false))) else (none)) else (none)) else (some false)) else (some false)) = some r := H
            have A240 := Aside0.mk A2400
            clear A2400
            by_cases c241 : t495 = true
            ·subst c241
             have H1 : (if (t491.length : Int) = (wrap64 ((t477.length : Int) + 1)) then (if 0 ≤ (t477.length : Int) then (if (t477.length : Int) ≤ (t491.length : Int) then ((laws_vRecords.f kj221 (t491.take ((t477.length : Int) : Int).toNat) t477).bind fun t500 => (if t500 = true then (if (t477.length : Int) < (t491.length : Int) then (some ((((rd_T25 t491 (t477.length : Int)).f0).toList) == t449.toList && ((((rd_T25 t491 (t477.length : Int)).f1).toList) == t450.toList))) else (none)) else (some false))) else (none)) else (none)) else (some false)) = some r := by rw [if_pos rfl] at H; exact H
             clear H
             have H := H1
             clear H1
             by_cases c242 : (t491.length : Int) = (wrap64 ((t477.length : Int) + 1))
             ·rw [if_pos c242] at H
              have c242b0 : ((t491.length : Int) == (wrap64 ((t477.length : Int) + 1))) = true := beq_iff_eq.mpr c242
              have c242b1 : ((t491.length : Int) != (wrap64 ((t477.length : Int) + 1))) = false := bne_eq_false_iff_eq.mpr c242
              clear c242
              by_cases c243 : 0 ≤ (t477.length : Int)
              ·rw [if_pos c243] at H
               have c243b0 := eq_true c243
               have c243b1 : decide (0 ≤ (t477.length : Int)) = true := decide_eq_true c243
               clear c243
               by_cases c244 : (t477.length : Int) ≤ (t491.length : Int)
               ·rw [if_pos c244] at H
                have c244b0 := eq_true c244
                have c244b1 : decide ((t477.length : Int) ≤ (t491.length : Int)) = true := decide_eq_true c244
                clear c244
                obtain ⟨y496, hy496⟩ : ∃ y_ : List (S25), y_ = (t491.take ((t477.length : Int) : Int).toNat) := ⟨_, rfl⟩
                replace H : ((laws_vRecords.f kj221 y496 t477).bind fun t500 => (if t500 = true then (if (t477.length : Int) < (t491.length : Int) then (some ((((rd_T25 t491 (t477.length : Int)).f0).toList) == t449.toList && ((((rd_T25 t491 (t477.length : Int)).f1).toList) == t450.toList))) else (none)) else (some false))) = some r := by first | (rw [hy496]; with_reducible exact H) | (have H2_ := (Option.bind_some _ _).symm.trans H; rw [hy496]; with_reducible exact H2_) | (have H2_ := (Option.bind_some _ _).symm.trans H; with_reducible exact H2_) | with_reducible exact H | (rw [hy496]; exact H) | exact H
                have Ny496 := Aside0.mk hy496
                clear hy496
                replace H := Option.bind_eq_some_iff.mp H
                obtain ⟨t500, A2450, H⟩ := H
                replace H : (if t500 = true then (if (t477.length : Int) < (t491.length : Int) then (some ((((rd_T25 t491 (t477.length : Int)).f0).toList) == t449.toList && ((((rd_T25 t491 (t477.length : Int)).f1).toList) == t450.toList))) else (none)) else (some false)) = some r := H
                have A245 := Aside0.mk A2450
                clear A2450
                by_cases c246 : t500 = true
                ·subst c246
                 have H1 : (if (t477.length : Int) < (t491.length : Int) then (some ((((rd_T25 t491 (t477.length : Int)).f0).toList) == t449.toList && ((((rd_T25 t491 (t477.length : Int)).f1).toList) == t450.toList))) else (none)) = some r := by rw [if_pos rfl] at H; exact H
                 clear H
                 have H := H1
                 clear H1
                 by_cases c247 : (t477.length : Int) < (t491.length : Int)
                 ·rw [if_pos c247] at H
                  have c247b0 : decide ((t477.length : Int) < (t491.length : Int)) = true := decide_eq_true c247
                  have c247b1 : decide (t477.length < t491.length) = true := decide_eq_true (Int.ofNat_lt.mp c247)
                  clear c247
                  obtain rfl := Option.some.inj H
                  have hnb248 := NB457_424.out
                  have hnc248 := NB424_457.out
                  have hnb249 := NB457_431.out
                  have hnc249 := NB431_457.out
                  have hnb250 := NB457_442.out
                  have hnc250 := NB442_457.out
                  have hnb251 := NB457_451.out
                  have hnc251 := NB451_457.out
                  have hnb252 := NB457_452.out
                  have hnc252 := NB452_457.out
                  have hnb253 := NB457_462.out
                  have hnc253 := NB462_457.out
                  have hnb254 := NB457_471.out
                  have hnc254 := NB471_457.out
                  have hnb255 := NB457_476.out
                  have hnc255 := NB476_457.out
                  have hcz256_0 : wc.cell? ⟨gb457, 0, none⟩ = some (.string t453) := (blk_cell BK457.out 0).trans rfl
                  have hcz256_1 : wc.cell? ⟨gb457, 1, none⟩ = some (.string t454) := (blk_cell BK457.out 1).trans rfl
                  have hcz256_2 : wc.cell? ⟨gb457, 2, none⟩ = some (.int .i64 t455) := (blk_cell BK457.out 2).trans rfl
                  have hfz256_0 := blk_frozen BK457.out 0
                  have hfz256_1 := blk_frozen BK457.out 1
                  have hfz256_2 := blk_frozen BK457.out 2
                  try go_wp2_with (first | ((with_reducible refine gate_callee (f := 21) rfl ?_); refine goesL_ (some 162) rfl rfl Tryd.func21 (by kernel_rfl) rfl #[.agg #[.string t453, .string t454, .int .i64 t455]] rfl q60 ?_; (with_reducible refine (impl_LogRecords.calls kj221 t453 t454 t455 t491 t494 _ ?side1 A239.out).mono ?_); (case side1 => exact XTab.below HTAB.out q3); rintro e w257 ⟨v492, rfl, ho0, hb⟩; refine ⟨_, rfl, ?_⟩; have n0_ := Aside0.mk (Kd.R_elder' q99 (Kd.R_base ho0) hb); have n1_ := Aside0.mk (Kd.R_lower (Kd.R_newB (Kd.R_newB (Kd.R_newB (Kd.R_new' ho0 (Kd.R_lt q99)) (g := gb424) (o := .cells #[.string t422, .string t423] 25 (0, 0)) q70) (g := gb431) (o := .cells #[.string t429, .string t430] 25 (0, 0)) q69) (g := gb452) (o := .cells #[.string t449, .string t450] 25 (0, 0)) q66) (below_size q3)); have n2_ := Aside0.mk (blk_below (g := gb424) (o := .cells #[.string t422, .string t423] 25 (0, 0)) q70 hb); have n3_ := Aside0.mk (blk_below (g := gb431) (o := .cells #[.string t429, .string t430] 25 (0, 0)) q69 hb); have n4_ := Aside0.mk (blk_below (g := gb442) (o := .cells #[.string t439, .string t440, .int .i64 t441] 33 (0, 0)) q68 hb); have n5_ := Aside0.mk (blk_below (g := gb451) (o := .cells #[.string t446, .string t447, .int .i64 t448] 33 (0, 0)) q67 hb); have n6_ := Aside0.mk (blk_below (g := gb452) (o := .cells #[.string t449, .string t450] 25 (0, 0)) q66 hb); have n7_ := Aside0.mk (blk_below (g := gb457) (o := .cells #[.string t453, .string t454, .int .i64 t455] 33 (0, 0)) q65 hb); have n8_ := Aside0.mk (blk_below (g := gb462) (o := .cells #[.string t458, .string t459, .int .i64 t460] 33 (0, 0)) q64 hb); have n9_ := Aside0.mk (blk_below (g := gb471) (o := .cells #[.string t467, .string t468, .int .i64 t469] 33 (0, 0)) q63 hb); have n10_ := Aside0.mk (blk_below (g := gb476) (o := .cells #[.string t472, .string t473, .int .i64 t474] 33 (0, 0)) q62 hb); have n11_ := Aside0.mk (below_step q3 hb); clear HO_21; clear BK424; clear BK431; clear BK442; clear BK451; clear BK452; clear BK457; clear BK462; clear BK471; clear BK476; clear HB; have HO_21 := n0_; have HO493 := n1_; have BK424 := n2_; have BK431 := n3_; have BK442 := n4_; have BK451 := n5_; have BK452 := n6_; have BK457 := n7_; have BK462 := n8_; have BK471 := n9_; have BK476 := n10_; have HB := n11_; clear n0_ n1_ n2_ n3_ n4_ n5_ n6_ n7_ n8_ n9_ n10_ n11_; (try clear hb); (try clear hb2); (try clear hk); (try clear hi); (try clear ho0)))
                  have n0_ := Aside0.mk (Kd.R_drew HO_21.out)
                  have n1_ := Aside0.mk (Kd.R_drew HO493.out)
                  have n2_ := Aside0.mk (blk_drew BK424.out)
                  have n3_ := Aside0.mk (blk_drew BK431.out)
                  have n4_ := Aside0.mk (blk_drew BK442.out)
                  have n5_ := Aside0.mk (blk_drew BK451.out)
                  have n6_ := Aside0.mk (blk_drew BK452.out)
                  have n7_ := Aside0.mk (blk_drew BK457.out)
                  have n8_ := Aside0.mk (blk_drew BK462.out)
                  have n9_ := Aside0.mk (blk_drew BK471.out)
                  have n10_ := Aside0.mk (blk_drew BK476.out)
                  have n11_ := Aside0.mk (below_drew1 HB.out)
                  clear HO_21
                  clear HO493
                  clear BK424
                  clear BK431
                  clear BK442
                  clear BK451
                  clear BK452
                  clear BK457
                  clear BK462
                  clear BK471
                  clear BK476
                  clear HB
                  have HO_21 := n0_
                  have HO493 := n1_
                  have BK424 := n2_
                  have BK431 := n3_
                  have BK442 := n4_
                  have BK451 := n5_
                  have BK452 := n6_
                  have BK457 := n7_
                  have BK462 := n8_
                  have BK471 := n9_
                  have BK476 := n10_
                  have HB := n11_
                  clear n0_ n1_ n2_ n3_ n4_ n5_ n6_ n7_ n8_ n9_ n10_ n11_
                  have p501 : 0 ≤ ((t477.length : Int) : Int) := of_decide_eq_true q111
                  have q501 : (t477.length : Int) < (t491.length : Int) := of_decide_eq_true q111
                  obtain ⟨Ao_, co_, eo_⟩ := Kd.R_slice HO493.out
                  subst eo_
                  obtain ⟨ad501, e501, hx501_0, hx501_1⟩ := at_T25 (Kd.R_reads' HO493.out).2.2 (t477.length : Int) p501 q501
                  cases e501
                  (try simp only [Go.IntWalk.toNatUp] at hx501_0)
                  (try simp only [Go.IntWalk.toNatUp] at hx501_1)
                  replace p501 := eq_true p501
                  replace q501 := eq_true q501
                  refine start_ (n := 28) (S := fun w' => w'.cell? ⟨gb457, 0, none⟩ = some (.string t453) ∧ w'.cell? ⟨gb457, 1, none⟩ = some (.string t454) ∧ w'.cell? ⟨gb457, 2, none⟩ = some (.int .i64 t455) ∧ w'.cell? ⟨gb452, 0, none⟩ = some (.string t449) ∧ w'.cell? ⟨gb452, 1, none⟩ = some (.string t450) ∧ w'.cell? (ad501.add (t477.length * 2)) = some (.string ((rd_T25 t491 (t477.length : Int)).f0)) ∧ w'.cell? ⟨(ad501.add (t477.length * 2)).block, (ad501.add (t477.length * 2)).off + 1, none⟩ = some (.string ((rd_T25 t491 (t477.length : Int)).f1))) (ds := []) #[false, false, false, false, false, false, false, false, false, false, false, false, false, false, false, false, false, false, false, false, false, false, false, false, false, false, false, false] (by kernel_rfl) rfl rfl ⟨(blk_cell BK457.out 0).trans rfl, (blk_cell BK457.out 1).trans rfl, (blk_cell BK457.out 2).trans rfl, (blk_cell BK452.out 0).trans rfl, (blk_cell BK452.out 1).trans rfl, hx501_0, hx501_1⟩ (fun hHeld => ?_); refine with_tabW laws_FnLogs.tab25 laws_FnLogs.bits25 (fun HT_ HW_ => ?_)
                  generalize w257.drew = w258 at HO_21 HO493 BK424 BK431 BK442 BK451 BK452 BK457 BK462 BK471 BK476 HB hx501_0 hx501_1 hHeld ⊢
                  refine take_ (i := 0) (N := some 165) (v := ?_) (a' := ?_) #[true, false, false, false, false, false, false, false, false, false, false, false, false, false, false, false, false, false, false, false, false, false, false, false, false, false, false, false] rfl rfl (take_ofW HT_.out HW_.out (by kernel_rfl)) (fun _ _ _ h => h) (Or.inl ⟨by rfl, ?_⟩) hHeld ?_ ?_
                  rotate_left
                  ·rintro w' ⟨s0, s1, s2, s3, s4, s5, s6⟩
                   go_simp
                   with_reducible rfl
                  rotate_left
                  ·simp only [Act.put, List.setIfInBounds_toArray, List.set_cons_zero, List.set_cons_succ, i64_w, i32_w]
                   rfl
                  refine one_ (i := 1) (N := some 166) #[true, true, false, false, false, false, false, false, false, false, false, false, false, false, false, false, false, false, false, false, false, false, false, false, false, false, false, false] rfl rfl (one_of HT_.out (by kernel_rfl)) (by decide) (fun K hK => ?_)
                  refine goes_ Tryd.func17 (by kernel_rfl) rfl #[.agg #[.string t453, .string t454, .int .i64 t455]] (by rfl) rfl rfl q60 ?_
                  with_reducible refine (impl_IsValidLog.calls kj221 t453 t454 t455 true _ ?side1 A240.out).mono ?_
                  (case side1 => exact XTab.below HTAB.out q3)
                  rintro e w259 ⟨rfl, hb⟩
                  have HS5_ := (hb.cell (World.block_lt_of_cell? _ _ (hHeld.2.2.2.2.2.1))).trans (hHeld.2.2.2.2.2.1)
                  have HS6_ := (hb.cell (World.block_lt_of_cell? _ _ (hHeld.2.2.2.2.2.2))).trans (hHeld.2.2.2.2.2.2)
                  refine ⟨_, rfl, ?_⟩
                  have n0_ := Aside0.mk (Kd.R_below q99 hb)
                  have n1_ := Aside0.mk (Kd.R_below (by (with_reducible repeat (first | apply Kd.R_alloc | apply Kd.R_drewN | apply Kd.R_drew)); exact HO493.out) hb)
                  have n2_ := Aside0.mk (blk_below (g := gb424) (o := .cells #[.string t422, .string t423] 25 (0, 0)) q70 hb)
                  have n3_ := Aside0.mk (blk_below (g := gb431) (o := .cells #[.string t429, .string t430] 25 (0, 0)) q69 hb)
                  have n4_ := Aside0.mk (blk_below (g := gb442) (o := .cells #[.string t439, .string t440, .int .i64 t441] 33 (0, 0)) q68 hb)
                  have n5_ := Aside0.mk (blk_below (g := gb451) (o := .cells #[.string t446, .string t447, .int .i64 t448] 33 (0, 0)) q67 hb)
                  have n6_ := Aside0.mk (blk_below (g := gb452) (o := .cells #[.string t449, .string t450] 25 (0, 0)) q66 hb)
                  have n7_ := Aside0.mk (blk_below (g := gb457) (o := .cells #[.string t453, .string t454, .int .i64 t455] 33 (0, 0)) q65 hb)
                  have n8_ := Aside0.mk (blk_below (g := gb462) (o := .cells #[.string t458, .string t459, .int .i64 t460] 33 (0, 0)) q64 hb)
                  have n9_ := Aside0.mk (blk_below (g := gb471) (o := .cells #[.string t467, .string t468, .int .i64 t469] 33 (0, 0)) q63 hb)
                  have n10_ := Aside0.mk (blk_below (g := gb476) (o := .cells #[.string t472, .string t473, .int .i64 t474] 33 (0, 0)) q62 hb)
                  have n11_ := Aside0.mk (below_step q3 hb)
                  clear HO_21
                  clear HO493
                  clear BK424
                  clear BK431
                  clear BK442
                  clear BK451
                  clear BK452
                  clear BK457
                  clear BK462
                  clear BK471
                  clear BK476
                  clear HB
                  have HO_21 := n0_
                  have HO493 := n1_
                  have BK424 := n2_
                  have BK431 := n3_
                  have BK442 := n4_
                  have BK451 := n5_
                  have BK452 := n6_
                  have BK457 := n7_
                  have BK462 := n8_
                  have BK471 := n9_
                  have BK476 := n10_
                  have HB := n11_
                  clear n0_ n1_ n2_ n3_ n4_ n5_ n6_ n7_ n8_ n9_ n10_ n11_
                  (try clear hb)
                  (try clear hb2)
                  (try clear hk)
                  (try clear hi)
                  obtain ⟨Ao261, co261, eo261⟩ := Kd.R_slice HO_21.out
                  (first | subst eo261 | (injection eo261 with f1_ f2_ f3_; have f4_ := f1_.symm; have f5_ := f3_.symm; clear f1_ f2_ f3_; subst f4_; subst f5_))
                  have q262 : ((t477.length : Int) : Int) ≤ ((t491.length : Int) : Int) := of_decide_eq_true q111
                  obtain ⟨i0262, hi0262, _, hsz262, _⟩ := info_parts info25
                  have hroom262 : t491.length ≤ co_ := (Kd.R_reads' HO493.out).2.1
                  have hC262 : Kd.C k25 _ (some ad501) t491.length t491 := (Kd.R_reads' HO493.out).2.2
                  have hcut262 := cut_to (P := Tryd.prog) 43 25 .i64 Tryd.underlying43 hi0262 (some ad501) t491.length co_ (t477.length : Int) (of_decide_eq_true q111) q262 hroom262
                  have hr262 := Kd.C_take (m := ((t477.length : Int) : Int).toNat) hC262 (by omega)
                  have hy262 : y496.length = ((t477.length : Int) : Int).toNat := (by rw [Ny496.out, List.length_take]; omega)
                  rw [← Ny496.out] at hr262
                  rw [← hy262] at hcut262
                  have HR499 := Aside0.mk hr262
                  have HC499 := Aside0.mk (show y496.length ≤ co_ from by omega)
                  clear hr262 hC262 hroom262 hi0262 hsz262
                  have KY262 := Aside0.mk hy262
                  clear hy262
                  have KL262 := Aside0.mk (show ((t477.length : Int) : Int).toNat ≤ t491.length from by omega)
                  replace q262 := eq_true q262
                  refine hK.out _ _ ⟨(blk_cell BK457.out 0).trans rfl, (blk_cell BK457.out 1).trans rfl, (blk_cell BK457.out 2).trans rfl, (blk_cell BK452.out 0).trans rfl, (blk_cell BK452.out 1).trans rfl, HS5_, HS6_⟩ (fun hHeld => ?_)
                  clear hK K
                  refine norm_ (a' := ?_) ?_ ?_
                  rotate_left
                  ·show Act.put _ (some 166) _ = _
                   simp only [Act.put, List.setIfInBounds_toArray, List.set_cons_zero, List.set_cons_succ, i64_w, i32_w]
                   rfl
                  refine pure_ (i := 2) (N := some 167) (v := ?_) (a' := ?_) #[true, true, true, false, false, false, false, false, false, false, false, false, false, false, false, false, false, false, false, false, false, false, false, false, false, false, false, false] rfl rfl (any_of HT_.out (by kernel_rfl)) (fun _ _ _ h => h) (Or.inl ⟨by rfl, ?_⟩) ?_ ?_
                  rotate_left
                  ·intro w'
                   go_simp
                   with_reducible rfl
                  rotate_left
                  ·simp only [Act.put, List.setIfInBounds_toArray, List.set_cons_zero, List.set_cons_succ, i64_w, i32_w]
                   rfl
                  refine pure_ (i := 3) (N := some 168) (v := ?_) (a' := ?_) #[true, true, true, true, false, false, false, false, false, false, false, false, false, false, false, false, false, false, false, false, false, false, false, false, false, false, false, false] rfl rfl (any_of HT_.out (by kernel_rfl)) (fun _ _ _ h => h) (Or.inl ⟨by rfl, ?_⟩) ?_ ?_
                  rotate_left
                  ·intro w'
                   go_simp
                   with_reducible rfl
                  rotate_left
                  ·simp only [Act.put, List.setIfInBounds_toArray, List.set_cons_zero, List.set_cons_succ, i64_w, i32_w]
                   rfl
                  refine pure_ (i := 4) (N := some 169) (v := ?_) (a' := ?_) #[true, true, true, true, true, false, false, false, false, false, false, false, false, false, false, false, false, false, false, false, false, false, false, false, false, false, false, false] rfl rfl (any_of HT_.out (by kernel_rfl)) (fun _ _ _ h => h) (Or.inl ⟨by rfl, ?_⟩) ?_ ?_
                  rotate_left
                  ·intro w'
                   go_simp
                   with_reducible rfl
                  rotate_left
                  ·simp only [Act.put, List.setIfInBounds_toArray, List.set_cons_zero, List.set_cons_succ, i64_w, i32_w]
                   rfl
                  refine pure_ (i := 5) (N := some 170) (v := ?_) (a' := ?_) #[true, true, true, true, true, true, false, false, false, false, false, false, false, false, false, false, false, false, false, false, false, false, false, false, false, false, false, false] rfl rfl (any_of HT_.out (by kernel_rfl)) (fun _ _ _ h => h) (Or.inl ⟨by rfl, ?_⟩) ?_ ?_
                  rotate_left
                  ·intro w'
                   go_simp
                   with_reducible rfl
                  rotate_left
                  ·simp only [Act.put, List.setIfInBounds_toArray, List.set_cons_zero, List.set_cons_succ, i64_w, i32_w]
                   rfl
                  refine pure_ (i := 6) (N := some 171) (v := ?_) (a' := ?_) #[true, true, true, true, true, true, true, false, false, false, false, false, false, false, false, false, false, false, false, false, false, false, false, false, false, false, false, false] rfl rfl (any_of HT_.out (by kernel_rfl)) (fun _ _ _ h => h) (Or.inl ⟨by rfl, ?_⟩) ?_ ?_
                  rotate_left
                  ·intro w'
                   go_simp
                   with_reducible rfl
                  rotate_left
                  ·simp only [Act.put, List.setIfInBounds_toArray, List.set_cons_zero, List.set_cons_succ, i64_w, i32_w]
                   rfl
                  refine pure_ (i := 7) (N := some 172) (v := ?_) (a' := ?_) #[true, true, true, true, true, true, true, true, false, false, false, false, false, false, false, false, false, false, false, false, false, false, false, false, false, false, false, false] rfl rfl (any_of HT_.out (by kernel_rfl)) (fun _ _ _ h => h) (Or.inl ⟨by rfl, ?_⟩) ?_ ?_
                  rotate_left
                  ·intro w'
                   go_simp
                   with_reducible rfl
                  rotate_left
                  ·simp only [Act.put, List.setIfInBounds_toArray, List.set_cons_zero, List.set_cons_succ, i64_w, i32_w]
                   rfl
                  refine pure_ (i := 8) (N := some 173) (v := ?_) (a' := ?_) #[true, true, true, true, true, true, true, true, true, false, false, false, false, false, false, false, false, false, false, false, false, false, false, false, false, false, false, false] rfl rfl (any_of HT_.out (by kernel_rfl)) (fun _ _ _ h => h) (Or.inl ⟨by rfl, ?_⟩) ?_ ?_
                  rotate_left
                  ·intro w'
                   go_simp
                   with_reducible rfl
                  rotate_left
                  ·simp only [Act.put, List.setIfInBounds_toArray, List.set_cons_zero, List.set_cons_succ, i64_w, i32_w]
                   rfl
                  refine pure_ (i := 9) (N := some 174) (v := ?_) (a' := ?_) #[true, true, true, true, true, true, true, true, true, true, false, false, false, false, false, false, false, false, false, false, false, false, false, false, false, false, false, false] rfl rfl (any_of HT_.out (by kernel_rfl)) (fun _ _ _ h => h) (Or.inl ⟨by rfl, ?_⟩) ?_ ?_
                  rotate_left
                  ·intro w'
                   go_simp
                   with_reducible rfl
                  rotate_left
                  ·simp only [Act.put, List.setIfInBounds_toArray, List.set_cons_zero, List.set_cons_succ, i64_w, i32_w]
                   rfl
                  refine pure_ (i := 10) (N := some 175) (v := ?_) (a' := ?_) #[true, true, true, true, true, true, true, true, true, true, true, false, false, false, false, false, false, false, false, false, false, false, false, false, false, false, false, false] rfl rfl (any_of HT_.out (by kernel_rfl)) (fun _ _ _ h => h) (Or.inl ⟨by rfl, ?_⟩) ?_ ?_
                  rotate_left
                  ·intro w'
                   go_simp
                   with_reducible rfl
                  rotate_left
                  ·simp only [Act.put, List.setIfInBounds_toArray, List.set_cons_zero, List.set_cons_succ, i64_w, i32_w]
                   rfl
                  refine pure_ (i := 11) (N := some 176) (v := ?_) (a' := ?_) #[true, true, true, true, true, true, true, true, true, true, true, true, false, false, false, false, false, false, false, false, false, false, false, false, false, false, false, false] rfl rfl (any_of HT_.out (by kernel_rfl)) (fun _ _ _ h => h) (Or.inl ⟨by rfl, ?_⟩) ?_ ?_
                  rotate_left
                  ·intro w'
                   go_simp
                   with_reducible rfl
                  rotate_left
                  ·simp only [Act.put, List.setIfInBounds_toArray, List.set_cons_zero, List.set_cons_succ, i64_w, i32_w]
                   rfl
                  refine pure_ (i := 12) (N := some 177) (v := ?_) (a' := ?_) #[true, true, true, true, true, true, true, true, true, true, true, true, true, false, false, false, false, false, false, false, false, false, false, false, false, false, false, false] rfl rfl (any_of HT_.out (by kernel_rfl)) (fun _ _ _ h => h) (Or.inl ⟨by rfl, ?_⟩) ?_ ?_
                  rotate_left
                  ·intro w'
                   go_simp
                   with_reducible rfl
                  rotate_left
                  ·simp only [Act.put, List.setIfInBounds_toArray, List.set_cons_zero, List.set_cons_succ, i64_w, i32_w]
                   rfl
                  refine pure_ (i := 13) (N := some 178) (v := ?_) (a' := ?_) #[true, true, true, true, true, true, true, true, true, true, true, true, true, true, false, false, false, false, false, false, false, false, false, false, false, false, false, false] rfl rfl (any_of HT_.out (by kernel_rfl)) (fun _ _ _ h => h) (Or.inl ⟨by rfl, ?_⟩) ?_ ?_
                  rotate_left
                  ·intro w'
                   go_simp
                   with_reducible rfl
                  rotate_left
                  ·simp only [Act.put, List.setIfInBounds_toArray, List.set_cons_zero, List.set_cons_succ, i64_w, i32_w]
                   rfl
                  refine pure_ (i := 14) (N := some 179) (v := ?_) (a' := ?_) #[true, true, true, true, true, true, true, true, true, true, true, true, true, true, true, false, false, false, false, false, false, false, false, false, false, false, false, false] rfl rfl (any_of HT_.out (by kernel_rfl)) (fun _ _ _ h => h) (Or.inl ⟨by rfl, ?_⟩) ?_ ?_
                  rotate_left
                  ·intro w'
                   go_simp
                   with_reducible rfl
                  rotate_left
                  ·simp only [Act.put, List.setIfInBounds_toArray, List.set_cons_zero, List.set_cons_succ, i64_w, i32_w]
                   rfl
                  refine pure_ (i := 15) (N := some 180) (v := ?_) (a' := ?_) #[true, true, true, true, true, true, true, true, true, true, true, true, true, true, true, true, false, false, false, false, false, false, false, false, false, false, false, false] rfl rfl (any_of HT_.out (by kernel_rfl)) (fun _ _ _ h => h) (Or.inl ⟨by rfl, ?_⟩) ?_ ?_
                  rotate_left
                  ·intro w'
                   go_simp
                   with_reducible rfl
                  rotate_left
                  ·simp only [Act.put, List.setIfInBounds_toArray, List.set_cons_zero, List.set_cons_succ, i64_w, i32_w]
                   rfl
                  refine one_ (i := 16) (N := some 181) #[true, true, true, true, true, true, true, true, true, true, true, true, true, true, true, true, true, false, false, false, false, false, false, false, false, false, false, false] rfl rfl (one_of HT_.out (by kernel_rfl)) (by decide) (fun K hK => ?_)
                  refine goes_ Tryd.func23 (by kernel_rfl) rfl #[.slice (some ad501) y496.length co_, .slice Ao261 t477.length co261] (by rfl) rfl rfl q60 ?_
                  with_reducible refine (laws_vRecords.calls kj221 _ _ y496 _ _ t477 true _ ?side1 ?side2 ?side3 ?side4 A245.out).mono ?_
                  (case side1 => repeat (first | exact (by repeat (first | (with_reducible exact HR499.out) | (with_reducible refine Kd.C_alloc ?_ _) | (with_reducible refine Kd.C_drewN ?_ _) | (with_reducible refine Kd.C_drew ?_) | exact HR499.out)) | (with_reducible refine Kd.C_alloc ?_ _) | (with_reducible refine Kd.C_drewN ?_ _) | (with_reducible refine Kd.C_drew ?_)))
                  (case side2 => exact HC499.out)
                  (case side3 => repeat (first | exact (Kd.R_reads' HO_21.out).2.2 | (with_reducible refine Kd.C_alloc ?_ _) | (with_reducible refine Kd.C_drewN ?_ _) | (with_reducible refine Kd.C_drew ?_)))
                  (case side4 => exact (Kd.R_reads' HO_21.out).2.1)
                  rintro e w' ⟨rfl, ⟨nd, rfl⟩⟩
                  refine ⟨_, rfl, ?_⟩
                  refine hK.out _ _ ⟨(blk_cell BK457.out 0).trans rfl, (blk_cell BK457.out 1).trans rfl, (blk_cell BK457.out 2).trans rfl, (blk_cell BK452.out 0).trans rfl, (blk_cell BK452.out 1).trans rfl, hHeld.2.2.2.2.2.1, hHeld.2.2.2.2.2.2⟩ (fun hHeld => ?_)
                  clear hK K
                  refine norm_ (a' := ?_) ?_ ?_
                  rotate_left
                  ·show Act.put _ (some 181) _ = _
                   simp only [Act.put, List.setIfInBounds_toArray, List.set_cons_zero, List.set_cons_succ, i64_w, i32_w]
                   rfl
                  refine pure_ (i := 17) (N := some 182) (v := ?_) (a' := ?_) #[true, true, true, true, true, true, true, true, true, true, true, true, true, true, true, true, true, true, false, false, false, false, false, false, false, false, false, false] rfl rfl (any_of HT_.out (by kernel_rfl)) (fun _ _ _ h => h) (Or.inl ⟨by rfl, ?_⟩) ?_ ?_
                  rotate_left
                  ·intro w'
                   go_simp
                   with_reducible rfl
                  rotate_left
                  ·simp only [Act.put, List.setIfInBounds_toArray, List.set_cons_zero, List.set_cons_succ, i64_w, i32_w]
                   rfl
                  refine pure_ (i := 18) (N := some 183) (v := ?_) (a' := ?_) #[true, true, true, true, true, true, true, true, true, true, true, true, true, true, true, true, true, true, true, false, false, false, false, false, false, false, false, false] rfl rfl (any_of HT_.out (by kernel_rfl)) (fun _ _ _ h => h) (Or.inl ⟨by rfl, ?_⟩) ?_ ?_
                  rotate_left
                  ·intro w'
                   go_simp
                   with_reducible rfl
                  rotate_left
                  ·simp only [Act.put, List.setIfInBounds_toArray, List.set_cons_zero, List.set_cons_succ, i64_w, i32_w]
                   rfl
                  refine pure_ (i := 19) (N := some 184) (v := ?_) (a' := ?_) #[true, true, true, true, true, true, true, true, true, true, true, true, true, true, true, true, true, true, true, true, false, false, false, false, false, false, false, false] rfl rfl (any_of HT_.out (by kernel_rfl)) (fun _ _ _ h => h) (Or.inl ⟨by rfl, ?_⟩) ?_ ?_
                  rotate_left
                  ·intro w'
                   go_simp
                   with_reducible rfl
                  rotate_left
                  ·simp only [Act.put, List.setIfInBounds_toArray, List.set_cons_zero, List.set_cons_succ, i64_w, i32_w]
                   rfl
                  refine pure_ (i := 20) (N := some 185) (v := ?_) (a' := ?_) #[true, true, true, true, true, true, true, true, true, true, true, true, true, true, true, true, true, true, true, true, true, false, false, false, false, false, false, false] rfl rfl (any_of HT_.out (by kernel_rfl)) (fun _ _ _ h => h) (Or.inl ⟨by rfl, ?_⟩) ?_ ?_
                  rotate_left
                  ·intro w'
                   go_simp
                   with_reducible rfl
                  rotate_left
                  ·simp only [Act.put, List.setIfInBounds_toArray, List.set_cons_zero, List.set_cons_succ, i64_w, i32_w]
                   rfl
                  refine pure_ (i := 21) (N := some 186) (v := ?_) (a' := ?_) #[true, true, true, true, true, true, true, true, true, true, true, true, true, true, true, true, true, true, true, true, true, true, false, false, false, false, false, false] rfl rfl (any_of HT_.out (by kernel_rfl)) (fun _ _ _ h => h) (Or.inl ⟨by rfl, ?_⟩) ?_ ?_
                  rotate_left
                  ·intro w'
                   go_simp
                   with_reducible rfl
                  rotate_left
                  ·simp only [Act.put, List.setIfInBounds_toArray, List.set_cons_zero, List.set_cons_succ, i64_w, i32_w]
                   rfl
                  refine pure_ (i := 22) (N := some 187) (v := ?_) (a' := ?_) #[true, true, true, true, true, true, true, true, true, true, true, true, true, true, true, true, true, true, true, true, true, true, true, false, false, false, false, false] rfl rfl (any_of HT_.out (by kernel_rfl)) (fun _ _ _ h => h) (Or.inl ⟨by rfl, ?_⟩) ?_ ?_
                  rotate_left
                  ·intro w'
                   go_simp
                   with_reducible rfl
                  rotate_left
                  ·simp only [Act.put, List.setIfInBounds_toArray, List.set_cons_zero, List.set_cons_succ, i64_w, i32_w]
                   rfl
                  refine take_ (i := 23) (N := some 188) (v := ?_) (a' := ?_) #[true, true, true, true, true, true, true, true, true, true, true, true, true, true, true, true, true, true, true, true, true, true, true, true, false, false, false, false] rfl rfl (take_ofW HT_.out HW_.out (by kernel_rfl)) (fun _ _ _ h => h) (Or.inl ⟨by rfl, ?_⟩) hHeld ?_ ?_
                  rotate_left
                  ·rintro w' ⟨s0, s1, s2, s3, s4, s5, s6⟩
                   go_simp
                   with_reducible rfl
                  rotate_left
                  ·simp only [Act.put, List.setIfInBounds_toArray, List.set_cons_zero, List.set_cons_succ, i64_w, i32_w]
                   rfl
                  refine take_ (i := 24) (N := some 189) (v := ?_) (a' := ?_) #[true, true, true, true, true, true, true, true, true, true, true, true, true, true, true, true, true, true, true, true, true, true, true, true, true, false, false, false] rfl rfl (take_ofW HT_.out HW_.out (by kernel_rfl)) (fun _ _ _ h => h) (Or.inl ⟨by rfl, ?_⟩) hHeld ?_ ?_
                  rotate_left
                  ·rintro w' ⟨s0, s1, s2, s3, s4, s5, s6⟩
                   go_simp
                   with_reducible rfl
                  rotate_left
                  ·simp only [Act.put, List.setIfInBounds_toArray, List.set_cons_zero, List.set_cons_succ, i64_w, i32_w]
                   rfl
                  refine pure_ (i := 25) (N := some 190) (v := ?_) (a' := ?_) #[true, true, true, true, true, true, true, true, true, true, true, true, true, true, true, true, true, true, true, true, true, true, true, true, true, true, false, false] rfl rfl (any_of HT_.out (by kernel_rfl)) (fun _ _ _ h => h) (Or.inl ⟨by rfl, ?_⟩) ?_ ?_
                  rotate_left
                  ·intro w'
                   go_simp
                   with_reducible rfl
                  rotate_left
                  ·simp only [Act.put, List.setIfInBounds_toArray, List.set_cons_zero, List.set_cons_succ, i64_w, i32_w]
                   rfl
                  refine pure_ (i := 26) (N := some 191) (v := ?_) (a' := ?_) #[true, true, true, true, true, true, true, true, true, true, true, true, true, true, true, true, true, true, true, true, true, true, true, true, true, true, true, false] rfl rfl (any_of HT_.out (by kernel_rfl)) (fun _ _ _ h => h) (Or.inl ⟨by rfl, ?_⟩) ?_ ?_
                  rotate_left
                  ·intro w'
                   go_simp
                   with_reducible rfl
                  rotate_left
                  ·simp only [Act.put, List.setIfInBounds_toArray, List.set_cons_zero, List.set_cons_succ, i64_w, i32_w]
                   rfl
                  refine pure_ (i := 27) (N := some 2) (v := ?_) (a' := ?_) #[true, true, true, true, true, true, true, true, true, true, true, true, true, true, true, true, true, true, true, true, true, true, true, true, true, true, true, true] rfl rfl (any_of HT_.out (by kernel_rfl)) (fun _ _ _ h => h) (Or.inl ⟨by rfl, ?_⟩) ?_ ?_
                  rotate_left
                  ·intro w'
                   go_simp
                   with_reducible rfl
                  rotate_left
                  ·simp only [Act.put, List.setIfInBounds_toArray, List.set_cons_zero, List.set_cons_succ, i64_w, i32_w]
                   rfl
                  refine done_ (done_of HT_.out (by kernel_rfl)) ?_
                  try go_wp2
                  go_ret
                  exact ⟨by first | rfl | (simp [errW_none, errW_some] <;> rfl) | (simp [*, errW_none, errW_some] <;> rfl), by repeat (first | (with_reducible first | exact HB.out | apply below_alloc | apply pw_below_drewN | apply below_drew1 | refine below_set ?_ GE424.out | refine below_set ?_ GE431.out | refine below_set ?_ GE442.out | refine below_set ?_ GE451.out | refine below_set ?_ GE452.out | refine below_set ?_ GE457.out | refine below_set ?_ GE462.out | refine below_set ?_ GE471.out | refine below_set ?_ GE476.out) | exact HB.out)⟩
                 ·rw [if_neg c247] at H
                  exact absurd H (by simp)
                ·replace c246 := Bool.eq_false_iff.mpr c246
                 subst c246
                 have H1 : (some false) = some r := by rw [if_neg (show ¬ (false = true) by decide)] at H; exact H
                 exact absurd ((Option.some.inj H1).trans hr_.out) Bool.false_ne_true
               ·rw [if_neg c244] at H
                exact absurd H (by simp)
              ·rw [if_neg c243] at H
               exact absurd H (by simp)
             ·rw [if_neg c242] at H
              exact absurd ((Option.some.inj H).trans hr_.out) Bool.false_ne_true
            ·replace c241 := Bool.eq_false_iff.mpr c241
             subst c241
             have H1 : (some false) = some r := by rw [if_neg (show ¬ (false = true) by decide)] at H; exact H
             exact absurd ((Option.some.inj H1).trans hr_.out) Bool.false_ne_true
           ·rw [if_neg c238] at H
            have c238b0 : (t456 == 0) = false := beq_eq_false_iff_ne.mpr c238
            have c238b1 : (t456 != 0) = true := bne_iff_ne.mpr c238
            obtain rfl := Option.some.inj H
            have hnb304 := NB457_424.out
            have hnc304 := NB424_457.out
            have hnb305 := NB457_431.out
            have hnc305 := NB431_457.out
            have hnb306 := NB457_442.out
            have hnc306 := NB442_457.out
            have hnb307 := NB457_451.out
            have hnc307 := NB451_457.out
            have hnb308 := NB457_452.out
            have hnc308 := NB452_457.out
            have hnb309 := NB457_462.out
            have hnc309 := NB462_457.out
            have hnb310 := NB457_471.out
            have hnc310 := NB471_457.out
            have hnb311 := NB457_476.out
            have hnc311 := NB476_457.out
            have hcz312_0 : wc.cell? ⟨gb457, 0, none⟩ = some (.string t453) := (blk_cell BK457.out 0).trans rfl
            have hcz312_1 : wc.cell? ⟨gb457, 1, none⟩ = some (.string t454) := (blk_cell BK457.out 1).trans rfl
            have hcz312_2 : wc.cell? ⟨gb457, 2, none⟩ = some (.int .i64 t455) := (blk_cell BK457.out 2).trans rfl
            have hfz312_0 := blk_frozen BK457.out 0
            have hfz312_1 := blk_frozen BK457.out 1
            have hfz312_2 := blk_frozen BK457.out 2
            have hnb313 := NB451_424.out
            have hnc313 := NB424_451.out
            have hnb314 := NB451_431.out
            have hnc314 := NB431_451.out
            have hnb315 := NB451_442.out
            have hnc315 := NB442_451.out
            have hnb316 := NB451_452.out
            have hnc316 := NB452_451.out
            have hnb317 := NB451_462.out
            have hnc317 := NB462_451.out
            have hnb318 := NB451_471.out
            have hnc318 := NB471_451.out
            have hnb319 := NB451_476.out
            have hnc319 := NB476_451.out
            have hcz320_0 : wc.cell? ⟨gb451, 0, none⟩ = some (.string t446) := (blk_cell BK451.out 0).trans rfl
            have hcz320_1 : wc.cell? ⟨gb451, 1, none⟩ = some (.string t447) := (blk_cell BK451.out 1).trans rfl
            have hcz320_2 : wc.cell? ⟨gb451, 2, none⟩ = some (.int .i64 t448) := (blk_cell BK451.out 2).trans rfl
            have hfz320_0 := blk_frozen BK451.out 0
            have hfz320_1 := blk_frozen BK451.out 1
            have hfz320_2 := blk_frozen BK451.out 2
            go_wp2
            go_ret
            exact ⟨by first | rfl | (simp [errW_none, errW_some] <;> rfl) | (simp [*, errW_none, errW_some] <;> rfl), by repeat (first | (with_reducible first | exact HB.out | apply below_alloc | apply pw_below_drewN | apply below_drew1 | refine below_set ?_ GE424.out | refine below_set ?_ GE431.out | refine below_set ?_ GE442.out | refine below_set ?_ GE451.out | refine below_set ?_ GE452.out | refine below_set ?_ GE457.out | refine below_set ?_ GE462.out | refine below_set ?_ GE471.out | refine below_set ?_ GE476.out) | exact HB.out)⟩

/-- THE ONE PURE STATEMENT of laws_FnLogs: yours. -/
def laws_FnLogs.Pure : Prop := ∀ (l0 : List Int), l0.length ≤ maxLen → l0.length * 1 ≤ 140737488351232 → (∀ x ∈ l0, (Lit.int .u8 x).wf = true) → ∃ k, laws_FnLogs.f k l0 = some true
theorem laws_FnLogs.walk (P : laws_FnLogs.Pure) (a0 : Option Addr) (len0 cap0 : Nat) (z0 : List Int) (w : World) (w0 : (a0 = none ∧ len0 = 0 ∧ cap0 = 0 ∧ z0 = []) ∨ ∃ x, a0 = some x ∧ len0 ≤ cap0 ∧ cap0 ≤ maxLen ∧ z0.length = cap0 ∧ (∀ i, i < z0.length → w.cell? (x.add i) = some (.int .u8 (z0.getD i 0))) ∧ ∀ n ∈ z0, (Lit.int .u8 n).wf = true) (y0 : len0 * 1 ≤ 140737488351232) (hT : XTab w) :
  Calls Tryd.prog 3 #[.slice a0 len0 cap0] w fun e w' => e = .returned (.bool true) ∧ Below w.heap.size w w' := by
 obtain ⟨l0, rfl, hr0, hm0, hw0, hc0⟩ := ReadsInt.ofRowC w0
 obtain ⟨k, h⟩ := P l0 hm0 y0 hw0
 refine (laws_FnLogs.calls k _ _ l0 true w (Kd.C_of_reads (d := (0 : Int)) (h1 := fun _ => rfl) hr0) hc0 hT ⟨rfl⟩ h).mono ?_
 rintro e w' ⟨rfl, hd⟩
 exact ⟨rfl, hd⟩

end Go.Proofs.YtbonngejmdonfaaDoor.Xl
