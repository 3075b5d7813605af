import Derived.Test.YtdeklpmmdakbeaaDoorRows
import Derived.SevenTiedAt
import Derived.Stop.Joined
import Derived.Stop.LaidErr
import Derived.Lib.LaidTab
import Derived.LaidMore
import Derived.Test.YtdeklpmmdakbeaaDoorTie
import Derived.Test.YtdeklpmmdakbeaaDoorCards
import Derived.Test.YtdeklpmmdakbeaaDoorZvPureFnExactIsValidConsole
import Derived.WalkKit
import Derived.ProofKit
import Derived.OpenShut
import Derived.ShutString
import Derived.ChangeOld
import Derived.Below
import Derived.SizedLaws
import Derived.Deep.FieldsWide
import Derived.Deep.Strs
namespace Go.Proofs.YtdeklpmmdakbeaaDoor.fnExactIsValidConsole
open Go.ChangeShapes Go.WideShapes Go.ChangeAt Go.RowKit Go.Deep
open Go.ChangeMaps (open_string shut_string)
set_option linter.unusedVariables false
theorem own : ownKnob Tryd.prog.godebug = none := by kernel_rfl
theorem laidOut : laidOutB Tryd.prog = true := by kernel_rfl
def cellN (cs : Array Value) (i : Nat) : Int := match cs[i]? with | some (.int _ n) => n | _ => 0
def cellS (cs : Array Value) (i : Nat) : ByteArray := match cs[i]? with | some (.string s) => s | _ => ByteArray.empty
set_option maxHeartbeats 4000000 in
set_option maxRecDepth 100000 in
theorem y22_at (p0 p1 p2 : Nat → Int) (cn : Int) (f : Nat → Int) (h0 : ∀ j, p0 j = f j) (h1 : ∀ j, p1 j = f (7 + j)) (h2 : ∀ j, p2 j = f (14 + j)) (h3 : cn = f 21) (i : Nat) (hi : i < 22) : (Xv.yv p0 p1 p2 cn)[i]? = some (.int .i64 (f i)) := by
  have : i = 0 ∨ i = 1 ∨ i = 2 ∨ i = 3 ∨ i = 4 ∨ i = 5 ∨ i = 6 ∨ i = 7 ∨ i = 8 ∨ i = 9 ∨ i = 10 ∨ i = 11 ∨ i = 12 ∨ i = 13 ∨ i = 14 ∨ i = 15 ∨ i = 16 ∨ i = 17 ∨ i = 18 ∨ i = 19 ∨ i = 20 ∨ i = 21 := by omega
  subst h3
  obtain rfl : p0 = fun j => f j := funext h0
  obtain rfl : p1 = fun j => f (7 + j) := funext h1
  obtain rfl : p2 = fun j => f (14 + j) := funext h2
  rcases this with rfl | rfl | rfl | rfl | rfl | rfl | rfl | rfl | rfl | rfl | rfl | rfl | rfl | rfl | rfl | rfl | rfl | rfl | rfl | rfl | rfl | rfl <;> rfl
set_option maxHeartbeats 4000000 in
set_option maxRecDepth 100000 in
theorem console_open {W : World} {base : Nat} {v : Value} (h : Value.okWide Tryd.prog W .any base 28 v) : ∃ (p0 p1 p2 : Nat → Int) (cn : Int) (d p : ByteArray) (n : Int), v = .agg (Xv.con p0 p1 p2 cn d p n) ∧ d.size ≤ 9223372036854775807 ∧ p.size ≤ 9223372036854775807 := by
  unfold Value.okWide at h
  rw [Tryd.underlying28] at h
  obtain ⟨cs, rfl, hsz, ts, hts, _, hcell⟩ := h
  have hs25 : cs.size = 25 := hsz.trans (by kernel_rfl)
  have hts' : Tryd.prog.cellTypes Tryd.prog.depth 28 = some [3, 3, 3, 3, 3, 3, 3, 3, 3, 3, 3, 3, 3, 3, 3, 3, 3, 3, 3, 3, 3, 3, 9, 9, 3] := by kernel_rfl
  rw [hts'] at hts
  obtain rfl := Option.some.inj hts
  have hint : ∀ i, i < 25 → i ≠ 22 → i ≠ 23 → cs[i]? = some (.int .i64 (cellN cs i)) := by
    intro i hi h22 h23
    have hlt : i < cs.size := by omega
    have hg : cs[i]? = some cs[i] := Array.getElem?_eq_getElem hlt
    obtain ⟨u, hu, hc⟩ := hcell i cs[i] hg
    have hu3 : u = 3 := by
      have : ∀ q, q < 25 → q ≠ 22 → q ≠ 23 → ∀ u, ([3, 3, 3, 3, 3, 3, 3, 3, 3, 3, 3, 3, 3, 3, 3, 3, 3, 3, 3, 3, 3, 3, 9, 9, 3] : List TypeId)[q]? = some u → u = 3 := by decide
      have hm : i % 25 = i := Nat.mod_eq_of_lt hi
      exact this i hi h22 h23 u (by have h_ := hu; rw [show ([3, 3, 3, 3, 3, 3, 3, 3, 3, 3, 3, 3, 3, 3, 3, 3, 3, 3, 3, 3, 3, 3, 9, 9, 3] : List TypeId).length = 25 from rfl, hm] at h_; exact h_)
    subst hu3
    have hv : Value.okWide Tryd.prog W .any base 3 cs[i] := by
      unfold Value.okWide
      rw [Tryd.underlying3]
      exact hc
    obtain ⟨n, hn⟩ := okWide_int Tryd.underlying3 hv
    rw [hg, hn]
    unfold cellN
    rw [hg, hn]
  have hstr : ∀ i, i = 22 ∨ i = 23 → cs[i]? = some (.string (cellS cs i)) ∧ (cellS cs i).size ≤ 9223372036854775807 := by
    intro i hi
    have hlt : i < cs.size := by omega
    have hg : cs[i]? = some cs[i] := Array.getElem?_eq_getElem hlt
    obtain ⟨u, hu, hc⟩ := hcell i cs[i] hg
    have hu9 : u = 9 := by
      rcases hi with rfl | rfl <;> exact (Option.some.inj hu).symm
    subst hu9
    have hv : Value.okWide Tryd.prog W .any base 9 cs[i] := by
      unfold Value.okWide
      rw [Tryd.underlying9]
      exact hc
    obtain ⟨s, hs⟩ := okWide_string Tryd.underlying9 hv
    rw [hs] at hv
    have hb : (s.size : Int) ≤ IntKind.i64.max := by simpa [Value.okWide, Cell.okWide, Cell.ok, Tryd.underlying9] using hv
    have h2 : IntKind.i64.max = 9223372036854775807 := rfl
    have hS : cellS cs i = s := by
      unfold cellS
      rw [hg, hs]
    rw [hS]
    exact ⟨by rw [hg, hs], by omega⟩
  refine ⟨fun j => cellN cs j, fun j => cellN cs (7 + j), fun j => cellN cs (14 + j), cellN cs 21, cellS cs 22, cellS cs 23, cellN cs 24, ?_, (hstr 22 (.inl rfl)).2, (hstr 23 (.inr rfl)).2⟩
  congr 1
  apply Array.ext_getElem?
  intro i
  rcases Nat.lt_or_ge i 22 with hi | hi
  · rw [hint i (by omega) (by omega) (by omega)]
    unfold Xv.con
    rw [List.getElem?_toArray, List.getElem?_append_left (by exact hi), y22_at _ _ _ _ (cellN cs) (fun _ => rfl) (fun _ => rfl) (fun _ => rfl) rfl i hi]
  · rcases Nat.lt_or_ge i 25 with h25 | h25
    · have : i = 22 ∨ i = 23 ∨ i = 24 := by omega
      rcases this with rfl | rfl | rfl
      · exact (hstr 22 (.inl rfl)).1
      · exact (hstr 23 (.inr rfl)).1
      · exact hint 24 (by omega) (by omega) (by omega)
    · rw [Array.getElem?_eq_none (by omega), Array.getElem?_eq_none (by show 25 ≤ i; exact h25)]
open Go in
theorem gTab : Tryd.prog.globalNamed "internal/strconv.uint64pow10" = some 1 := by kernel_rfl
theorem tTab : (Tryd.prog.globals[1]?).map (·.type) = some 106 := by kernel_rfl
theorem uTab : Tryd.prog.underlying 106 = some (.array 20 99) := by kernel_rfl
theorem uWord : Tryd.prog.underlying 99 = some (.int .u64) := by kernel_rfl
theorem cWord : Tryd.prog.cellsOf 99 = 1 := by kernel_rfl
theorem cTab : Tryd.prog.cellsOf 106 = 20 := by kernel_rfl
/-- What the laid variables give. -/
theorem tab_of {W : World} (h : laidMetH Tryd.prog Rows.fnExactIsValidConsoleRow.laid W) : Xv.XTab W := by
  rw [MakeChecks.laidMetH_plain _ _ _ (by kernel_rfl)] at h
  exact Lib.tabIs_of_head (rest := []) gTab tTab uTab uWord cWord cTab (laidMet.tail (laidMet.tail h))
theorem door_met (os : Os) (args : Array Value) : laidMetH Tryd.prog Rows.fnExactIsValidConsoleRow.laid ((World.doorLaid Tryd.prog 400 os).forCall (fun _ _ => 0) ⟨#[], args, []⟩).memory :=
  laidMetH_of_parts3 (fuel := 8) (laidMet_of_run' 8 (by kernel_rfl) (by kernel_rfl)) (by kernel_rfl) (by kernel_rfl)
set_option maxHeartbeats 4000000 in
set_option maxRecDepth 100000 in
theorem lifted (os : Os) (started : os.Started) (H : Type) (enc : TypeId × Value → H) :
    ReturnsInHanded {} Tryd.checked os 3 .any (fun w args => (Rows.fnExactIsValidConsoleSpec.pre enc Tryd.prog Tryd.f3 [] false w args ∧ laidMetH Tryd.prog Rows.fnExactIsValidConsoleRow.laid w) ∧ sizedMet enc Tryd.prog Tryd.f3 (OpenSpec.ofChange Rows.fnExactIsValidConsoleSpec) false w args) (Rows.fnExactIsValidConsoleSpec.post enc Tryd.prog Tryd.f3 false true false false) := by
  refine returnsInHanded_of_change_and (C := Tryd.checked) (X := fun w _ => laidMetH Tryd.prog Rows.fnExactIsValidConsoleRow.laid w) (fun _ _ _ hh h => h.of_heap hh) own started (by kernel_rfl) Tryd.func3
    (ChangeSpec.witness_shaped (enc := enc) (C := Tryd.checked) (os := os) (X := fun w _ => laidMetH Tryd.prog Rows.fnExactIsValidConsoleRow.laid w) false (World.doorLaid Tryd.prog 400 os) #[.agg #[.int .i64 0, .int .i64 0, .int .i64 0, .int .i64 0, .int .i64 0, .int .i64 0, .int .i64 0, .int .i64 0, .int .i64 0, .int .i64 0, .int .i64 0, .int .i64 0, .int .i64 0, .int .i64 0, .int .i64 0, .int .i64 0, .int .i64 0, .int .i64 0, .int .i64 0, .int .i64 0, .int .i64 0, .int .i64 0, .string ByteArray.empty, .string ByteArray.empty, .int .i64 0]] 8 rfl (World.shaped_of_RefB (by kernel_rfl) (by kernel_rfl)) (by kernel_rfl) (by kernel_rfl) (by kernel_rfl) (door_met os _)) ?_
  intro W base args ds gs before hval0 hW _ hsz0 hL _
  have hval : ∀ (j : Nat) t v, Tryd.f3.params[j]? = some t → args[j]? = some v → Value.okWide Tryd.prog W .any base t v := hval0
  have hW' := hW
  obtain ⟨PP, q, hA0, hV, rfl, hfz, hnd⟩ := hW
  have hA : DataW.TrodAll enc Tryd.prog W 0 (fun _ => true) true Tryd.f3.params.toList args.toList ds PP := hA0
  rw [Tryd.params3] at hA hval
  obtain ⟨v0, d0, rfl, rfl, h0⟩ := trodAll_one hA
  obtain ⟨rfl, rfl⟩ := trodVars_none hV
  have k0 := h0
  have lt0 : ∀ x ∈ PP, x.block < W.heap.size := by obtain ⟨m, hm⟩ := k0; exact DataW.trod_lt m _ _ _ hm
  obtain ⟨p0, p1, p2, cn, d, p, n, rfl, wd, wp⟩ := console_open (hval 0 28 v0 rfl rfl)
  clear hA0 hval0 hsz0
  refine (Pure.law_IsValidConsole p0 p1 p2 cn d p n wd wp W (tab_of hL)).mono fun e W' ⟨he, bel⟩ => ?_
  subst he
  exact ⟨_, rfl, _, _, _, [], _, [], hW', trodAll_mk1 (shut_bool Tryd.underlying4 _), trodAll_cons_mk (Below.trod laidOut (by kernel_rfl) (of_decide_eq_true (by kernel_rfl)) k0 bel lt0) trodAll_mk0, rfl, bel.frame _, fun h => by cases h⟩
theorem over : Rows.fnExactIsValidConsoleRow.holds Tryd.pinned (OpenSpec.ofChange Rows.fnExactIsValidConsoleSpec) :=
  OpenClaim.holds_of_wide 3 Tryd.f3 rfl rfl rfl rfl rfl rfl rfl ⟨rfl, rfl, rfl, rfl, rfl⟩ rfl rfl rfl rfl rfl (by kernel_rfl) Tryd.func3 (by kernel_rfl)
    (of_decide_eq_true (by kernel_rfl)) (by unfold Func.isWrapper; first | (rw [if_pos (by decide +kernel)]; kernel_rfl) | (rw [if_neg (by decide +kernel)]; exact ⟨rfl, rfl⟩))
    (fun os started H enc _ => lifted os started H enc)
theorem proved : Rows.FnExactIsValidConsoleSaid := over
/-- The card: what the row lists is tied to the program's text. -/
theorem card_holds : Rows.FnExactIsValidConsoleCardSaid :=
  Claim7.holds_tied_plain_at .later [] [.data, .data, .data] true (true, "9cf6da1283b894972d946e92d55f52923ea3ba1fb013ce361c92cf059ad6cd52") false
    proved (fun _ h => by cases h) (by kernel_rfl) (fun _ h => by cases h) fnExactIsValidConsole_row_tie rfl ⟨rfl, rfl⟩ (by kernel_rfl) rfl
    (fun f fn hf hfn => by
      obtain rfl : f = 3 := Option.some.inj ((show Tryd.prog.funcNamed "loop.example/g01286/laws.FnExactIsValidConsole" = some 3 by kernel_rfl).symm.trans hf) |>.symm
      obtain rfl : fn = Tryd.f3 := (Option.some.inj (Tryd.func3.symm.trans hfn)).symm
      exact ⟨by kernel_rfl, fun j t ht => by
        rw [Tryd.params3] at ht
        have hm : t ∈ [28] := by simpa using Array.mem_of_getElem? ht
        have hall : ([28].all fun u => !Tryd.prog.wantsStandIn u) = true := by kernel_rfl
        exact (show Tryd.prog.wantsStandIn t = false by simpa using List.all_eq_true.1 hall t hm)⟩)
    (by kernel_rfl)
end Go.Proofs.YtdeklpmmdakbeaaDoor.fnExactIsValidConsole
namespace Go.Proofs.YtdeklpmmdakbeaaDoor
/-- The row, under a short name, for the claim. -/
theorem fnExactIsValidConsole_holds : Rows.FnExactIsValidConsoleCardSaid := fnExactIsValidConsole.card_holds
end Go.Proofs.YtdeklpmmdakbeaaDoor
