/- strings.Cut at a separator of one byte, in the printer's shape. -/
import Derived.Test.YtdeklpmmdakbeaaDoorZvXv0
import Derived.Shelf.Strings.Search3
import Derived.BigQuiet
import Derived.Deep.QuietTactic
import Derived.RegionTactic
import Derived.BigRegion
import Derived.OwnWalk
namespace Go.Proofs.YtdeklpmmdakbeaaDoor.Xv
open Go.RowKit Go.Proofs.YtdeklpmmdakbeaaDoorW.PrintWords Go.Proofs.YtdeklpmmdakbeaaDoorW.PrintLast Go.Proofs.YtdeklpmmdakbeaaDoorW.PrintMore
attribute [local go_sem] max2_int min2_int max_two min_two max_three min_three max_four min_four
set_option linter.unusedVariables false
set_option linter.unusedSimpArgs false

namespace Lay
end Lay
open Go.Shelf Go.Proofs
def Lay.lays219_ren : Go.Shelf.Ren := ⟨fun | 219 => 54 | 217 => 60 | 225 => 61 | 224 => 62 | 267 => 63 | 266 => 66 | 314 => 67 | n => n, fun | 9 => 9 | 3 => 3 | 4 => 4 | 5 => 5 | 46 => 93 | 146 => 96 | 51 => 95 | n => n, fun | 1 => 0 | n => n⟩
theorem Lay.lays219 : Go.Proofs.Lays.n219 Tryd.prog Lay.lays219_ren := {
  mixed := by kernel_rfl
  f217 := Tryd.func60.trans (congrArg some (by kernel_rfl))
  f219 := Tryd.func54.trans (congrArg some (by kernel_rfl))
  f224 := Tryd.func62.trans (congrArg some (by kernel_rfl))
  f225 := Tryd.func61.trans (congrArg some (by kernel_rfl))
  f266 := Tryd.func66.trans (congrArg some (by kernel_rfl))
  f267 := Tryd.func63.trans (congrArg some (by kernel_rfl))
  f314 := Tryd.func67.trans (congrArg some (by kernel_rfl))
  t3 := Tryd.underlying3
  a3 := Tryd.isAgg3
  z3 := Tryd.sizeOf3
  v3 := Tryd.zeroValue3
  t4 := Tryd.underlying4
  a4 := Tryd.isAgg4
  z4 := Tryd.sizeOf4
  v4 := Tryd.zeroValue4
  t5 := Tryd.underlying5
  a5 := Tryd.isAgg5
  z5 := Tryd.sizeOf5
  v5 := Tryd.zeroValue5
  t9 := Tryd.underlying9
  a9 := Tryd.isAgg9
  z9 := Tryd.sizeOf9
  v9 := Tryd.zeroValue9
  t46 := Tryd.underlying93
  a46 := Tryd.isAgg93
  z46 := Tryd.sizeOf93
  v46 := Tryd.zeroValue93
  t51 := Tryd.underlying95
  a51 := Tryd.isAgg95
  z51 := Tryd.sizeOf95
  v51 := Tryd.zeroValue95
  t146 := Tryd.underlying96
  a146 := Tryd.isAgg96
  z146 := Tryd.sizeOf96
  v146 := Tryd.zeroValue96
  g1 := by kernel_rfl }
open Go.RowKit Go.Lib in
/-- internal/stringslite.Index (what strings.Index calls) AT A substr OF ONE BYTE c: IT RETURNS 'Lib.indexByte s c'; the world is as it was. (LAID: no walk: one application.) -/
theorem Lay.stringslite_Index_one (s : ByteArray) (c : UInt8) (w : World) :
    Calls Tryd.prog 54 #[.string s, .string ⟨#[c]⟩] w fun e w' => e = .returned (.int .i64 (Lib.indexByte s.data.toList c)) ∧ w' = w := Any.stringslite_Index_one Lay.lays219 s c w

theorem indexByte_bounds (c : UInt8) : ∀ l : List UInt8, -1 ≤ Go.Lib.indexByte l c ∧ Go.Lib.indexByte l c < (l.length : Int)
  | [] => by simp [Go.Lib.indexByte]
  | b :: l => by
    have h := indexByte_bounds c l
    unfold Go.Lib.indexByte
    split
    · simp only [List.length_cons]; omega
    · split
      · rename_i h1 h2
        simp only [List.length_cons]
        omega
      · rename_i h1 h2
        have : Go.Lib.indexByte l c ≠ -1 := by simpa using h2
        simp only [List.length_cons]
        omega
/-- at a separator of one byte -/
def strings_Cut.f (a0 : ByteArray) (a1 : ByteArray) : Option (ByteArray × ByteArray × Bool) := match a1.data.toList with
  | [c] => if a0.size ≤ 9223372036854775806 then some (if 0 ≤ Go.Lib.indexByte a0.data.toList c then (a0.extract 0 (Go.Lib.indexByte a0.data.toList c).toNat, a0.extract ((Go.Lib.indexByte a0.data.toList c).toNat + 1) a0.size, true) else (a0, ⟨#[]⟩, false)) else none
  | _ => none
set_option maxHeartbeats 8000000 in
set_option maxRecDepth 100000 in
theorem lite_Cut (s : ByteArray) (c : UInt8) (w : World) (hs : s.size ≤ 9223372036854775806) :
    Calls Tryd.prog 48 #[.string s, .string ⟨#[c]⟩] w fun e w' => e = .returned (.tuple #[.string (if 0 ≤ Go.Lib.indexByte s.data.toList c then s.extract 0 (Go.Lib.indexByte s.data.toList c).toNat else s), .string (if 0 ≤ Go.Lib.indexByte s.data.toList c then s.extract ((Go.Lib.indexByte s.data.toList c).toNat + 1) s.size else ⟨#[]⟩), .bool (decide (0 ≤ Go.Lib.indexByte s.data.toList c))]) ∧ Drawn0 w w' := by
  have hb := indexByte_bounds c s.data.toList
  have hl : s.data.toList.length = s.size := Array.length_toList
  rw [hl] at hb
  have HI := Aside0.mk (fun w => Lay.stringslite_Index_one s c w)
  generalize Go.Lib.indexByte s.data.toList c = i at hb HI ⊢
  obtain ⟨sp, hsp⟩ : ∃ sp : ByteArray, sp = ⟨#[c]⟩ := ⟨_, rfl⟩
  have h1 : sp.size = 1 := by rw [hsp]; rfl
  rw [← hsp] at HI ⊢
  clear hsp
  by_cases h0 : 0 ≤ i
  · rw [if_pos h0, if_pos h0, decide_eq_true h0]
    have g0 : decide (0 ≤ i) = true := decide_eq_true h0
    have g1 : i ≤ (s.size : Int) := by omega
    obtain ⟨j, hj⟩ : ∃ j : Int, i + 1 = j := ⟨_, rfl⟩
    have g2 : wrap64 (i + 1) = j := by rw [← hj]; unfold wrap64; omega
    have g3 : 0 ≤ j := by omega
    have g4 : j ≤ (s.size : Int) := by omega
    have hjn : j.toNat = i.toNat + 1 := by omega
    rw [← hjn]
    clear hjn hb hl
    go_enter Tryd.func48, Tryd.ntmps48
    go_wp2_with (first | (go_at_call 54; refine (HI.out _).mono ?_; rintro e w' ⟨rfl, rfl⟩))
    repeat (go_quiet (fail); try go_wp2)
    go_ret3
    exact ⟨by first | rfl | simp, by first | exact ⟨_, rfl⟩ | exact Drawn0.refl _⟩
  · rw [if_neg h0, if_neg h0, decide_eq_false h0]
    have g0 : decide (0 ≤ i) = false := decide_eq_false h0
    clear hb hl
    go_enter Tryd.func48, Tryd.ntmps48
    go_wp2_with (first | (go_at_call 54; refine (HI.out _).mono ?_; rintro e w' ⟨rfl, rfl⟩))
    go_ret3
    exact ⟨rfl, Drawn0.refl _⟩
set_option maxHeartbeats 8000000 in
set_option maxRecDepth 100000 in
theorem pub_Cut (s sp x y : ByteArray) (b : Bool) (w : World) (h : Calls Tryd.prog 48 #[.string s, .string sp] w fun e w' => e = .returned (.tuple #[.string x, .string y, .bool b]) ∧ Drawn0 w w') :
    Calls Tryd.prog 40 #[.string s, .string sp] w fun e w' => e = .returned (.tuple #[.string x, .string y, .bool b]) ∧ Drawn0 w w' := by
  have H := Aside0.mk h
  clear h
  go_enter Tryd.func40, Tryd.ntmps40
  go_wp2_with (first | (go_at_call 48; refine H.out.mono ?_; rintro e w2 ⟨rfl, hd⟩))
  go_ret3
  exact ⟨rfl, hd⟩
theorem strings_Cut.calls (a0 : ByteArray) (a1 : ByteArray) (r1 : ByteArray) (r2 : ByteArray) (r3 : Bool) (w : World) (h : strings_Cut.f a0 a1 = some (r1, r2, r3)) :
    Calls Tryd.prog 40 #[.string a0, .string a1] w fun e w' => e = .returned (.tuple #[.string r1, .string r2, .bool r3]) ∧ Drawn0 w w' := by
  unfold strings_Cut.f at h
  split at h
  · rename_i c hc
    split at h
    · rename_i hs
      have e : a1 = (⟨#[c]⟩ : ByteArray) := by
        apply ByteArray.ext
        apply Array.toList_inj.1
        rw [hc]
      rw [e]
      have HC := lite_Cut a0 c w hs
      by_cases h0 : 0 ≤ Go.Lib.indexByte a0.data.toList c
      · rw [if_pos h0, if_pos h0, decide_eq_true h0] at HC
        rw [if_pos h0] at h
        cases h
        exact pub_Cut _ _ _ _ _ _ HC
      · rw [if_neg h0, if_neg h0, decide_eq_false h0] at HC
        rw [if_neg h0] at h
        cases h
        exact pub_Cut _ _ _ _ _ _ HC
    · cases h
  · cases h

end Go.Proofs.YtdeklpmmdakbeaaDoor.Xv
