import Derived.Test.YthokeoocdkaffaaRows
import Derived.Test.YthokeoocdkaffaaPureFnExactDoAct
import Derived.WalkKit
import Derived.ProofKit
import Derived.OpenShut
import Derived.ShutString
import Derived.ChangeOld
import Derived.Below
import Derived.SizedLaws
namespace Go.Proofs.Ythokeoocdkaffaa.fnExactDoAct
open Go.ChangeShapes Go.WideShapes Go.ChangeAt Go.RowKit Go.Deep
open Go.ChangeMaps (open_string shut_string)
set_option linter.unusedVariables false
theorem own : ownKnob Try.prog.godebug = none := by kernel_rfl
theorem laidOut : laidOutB Try.prog = true := by kernel_rfl
def cellN (cs : Array Value) (i : Nat) : Int := match cs[i]? with | some (.int _ n) => n | _ => 0
theorem y22_at (p0 p1 p2 : Nat → Int) (cn : Int) (f : Nat → Int) (h0 : ∀ j, p0 j = f j) (h1 : ∀ j, p1 j = f (7 + j)) (h2 : ∀ j, p2 j = f (14 + j)) (h3 : cn = f 21) (i : Nat) (hi : i < 22) : (Xk.arr (Xk.y22 p0 p1 p2 cn))[i]? = some (.int .i64 (f i)) := by
  have : i = 0 ∨ i = 1 ∨ i = 2 ∨ i = 3 ∨ i = 4 ∨ i = 5 ∨ i = 6 ∨ i = 7 ∨ i = 8 ∨ i = 9 ∨ i = 10 ∨ i = 11 ∨ i = 12 ∨ i = 13 ∨ i = 14 ∨ i = 15 ∨ i = 16 ∨ i = 17 ∨ i = 18 ∨ i = 19 ∨ i = 20 ∨ i = 21 := by omega
  subst h3
  obtain rfl : p0 = fun j => f j := funext h0
  obtain rfl : p1 = fun j => f (7 + j) := funext h1
  obtain rfl : p2 = fun j => f (14 + j) := funext h2
  rcases this with rfl | rfl | rfl | rfl | rfl | rfl | rfl | rfl | rfl | rfl | rfl | rfl | rfl | rfl | rfl | rfl | rfl | rfl | rfl | rfl | rfl | rfl <;> rfl
theorem yard_open {W : World} {base : Nat} {v : Value} (h : Value.okWide Try.prog W .any base 32 v) : ∃ (p0 p1 p2 : Nat → Int) (cn : Int), v = .agg (Xk.arr (Xk.y22 p0 p1 p2 cn)) := by
  unfold Value.okWide at h
  rw [Try.underlying32] at h
  obtain ⟨cs, rfl, hsz, ts, hts, _, hcell⟩ := h
  have hs22 : cs.size = 22 := hsz.trans (by kernel_rfl)
  have hts' : Try.prog.cellTypes Try.prog.depth 32 = some [3, 3, 3, 3, 3, 3, 3, 3, 3, 3, 3, 3, 3, 3, 3, 3, 3, 3, 3, 3, 3, 3] := by kernel_rfl
  rw [hts'] at hts
  obtain rfl := Option.some.inj hts
  refine ⟨fun j => cellN cs j, fun j => cellN cs (7 + j), fun j => cellN cs (14 + j), cellN cs 21, ?_⟩
  congr 1
  apply Array.ext_getElem?
  intro i
  rcases Nat.lt_or_ge i 22 with hi | hi
  · rw [y22_at _ _ _ _ (cellN cs) (fun _ => rfl) (fun _ => rfl) (fun _ => rfl) rfl i hi]
    have hlt : i < cs.size := by omega
    have hg : cs[i]? = some cs[i] := Array.getElem?_eq_getElem hlt
    obtain ⟨u, hu, hc⟩ := hcell i cs[i] hg
    have hu3 : u = 3 := by
      have hm : i % ([3, 3, 3, 3, 3, 3, 3, 3, 3, 3, 3, 3, 3, 3, 3, 3, 3, 3, 3, 3, 3, 3] : List TypeId).length < 22 := Nat.mod_lt _ (by decide)
      have : ∀ q, q < 22 → ∀ u, ([3, 3, 3, 3, 3, 3, 3, 3, 3, 3, 3, 3, 3, 3, 3, 3, 3, 3, 3, 3, 3, 3] : List TypeId)[q]? = some u → u = 3 := by decide
      exact this _ hm u hu
    subst hu3
    have hv : Value.okWide Try.prog W .any base 3 cs[i] := by
      unfold Value.okWide
      rw [Try.underlying3]
      exact hc
    obtain ⟨n, hn⟩ := okWide_int Try.underlying3 hv
    rw [hg, hn]
    unfold cellN
    rw [hg, hn]
  · rw [Array.getElem?_eq_none (by omega), Array.getElem?_eq_none (by show 22 ≤ i; exact hi)]
theorem act_open {W : World} {base : Nat} {v : Value} (h : Value.okWide Try.prog W .any base 47 v) : ∃ kd aa bb : Int, v = .agg #[.int .i64 kd, .int .i64 aa, .int .i64 bb] := by
  unfold Value.okWide at h
  rw [Try.underlying47] at h
  obtain ⟨cs, rfl, hsz, ts, hts, _, hcell⟩ := h
  have hs3 : cs.size = 3 := hsz.trans (by kernel_rfl)
  have hts' : Try.prog.cellTypes Try.prog.depth 47 = some [3, 3, 3] := by kernel_rfl
  rw [hts'] at hts
  obtain rfl := Option.some.inj hts
  have hi : ∀ i, i < 3 → cs[i]? = some (.int .i64 (cellN cs i)) := by
    intro i hi
    have hlt : i < cs.size := by omega
    have hg : cs[i]? = some cs[i] := Array.getElem?_eq_getElem hlt
    obtain ⟨u, hu, hc⟩ := hcell i cs[i] hg
    have hu3 : u = 3 := by
      have hm : i % ([3, 3, 3] : List TypeId).length < 3 := Nat.mod_lt _ (by decide)
      have : ∀ q, q < 3 → ∀ u, ([3, 3, 3] : List TypeId)[q]? = some u → u = 3 := by decide
      exact this _ hm u hu
    subst hu3
    have hv : Value.okWide Try.prog W .any base 3 cs[i] := by
      unfold Value.okWide
      rw [Try.underlying3]
      exact hc
    obtain ⟨n, hn⟩ := okWide_int Try.underlying3 hv
    rw [hg, hn]
    unfold cellN
    rw [hg, hn]
  refine ⟨cellN cs 0, cellN cs 1, cellN cs 2, ?_⟩
  congr 1
  apply Array.ext_getElem?
  intro i
  rcases Nat.lt_or_ge i 3 with h3 | h3
  · rw [hi i h3]
    have : i = 0 ∨ i = 1 ∨ i = 2 := by omega
    rcases this with rfl | rfl | rfl <;> rfl
  · rw [Array.getElem?_eq_none (by omega), Array.getElem?_eq_none (by show 3 ≤ i; exact h3)]
set_option maxHeartbeats 4000000 in
set_option maxRecDepth 100000 in
theorem lifted (os : Os) (started : os.Started) (H : Type) (enc : TypeId × Value → H) :
    ReturnsInHanded {} Try.checked os 7 .any (Rows.fnExactDoActSpec.pre6 enc Try.prog Try.f7 Rows.fnExactDoActRow.domain false) (Rows.fnExactDoActSpec.post enc Try.prog Try.f7 false true false false) := by
  refine returnsInHanded_of_change_sized (C := Try.checked) own started (by kernel_rfl) Try.func7
    (ChangeSpec.witness6 (enc := enc) (C := Try.checked) false ⟨#[], #[.agg #[.int .i64 0, .int .i64 0, .int .i64 0, .int .i64 0, .int .i64 0, .int .i64 0, .int .i64 0, .int .i64 0, .int .i64 0, .int .i64 0, .int .i64 0, .int .i64 0, .int .i64 0, .int .i64 0, .int .i64 0, .int .i64 0, .int .i64 0, .int .i64 0, .int .i64 0, .int .i64 0, .int .i64 0, .int .i64 0], .agg #[.int .i64 0, .int .i64 0, .int .i64 0]], []⟩ 8 (by kernel_rfl) (by kernel_rfl) (by kernel_rfl) (by kernel_rfl)) ?_
  intro W base args ds gs before hval0 hW hcnd hsz0 _
  have hval : ∀ (j : Nat) t v, Try.f7.params[j]? = some t → args[j]? = some v → Value.okWide Try.prog W .any base t v := hval0
  have hW' := hW
  obtain ⟨p, q, hA0, hV, rfl, hfz, hnd⟩ := hW
  have hA : DataW.TrodAll enc Try.prog W 0 (fun _ => true) true Try.f7.params.toList args.toList ds p := hA0
  rw [Try.params7] at hA hval
  obtain ⟨v0, vs0, d0, ds0, p0_, q0_, hargs, rfl, rfl, h0, r0⟩ := trodAll_cons hA
  obtain ⟨v1, vs1, d1, ds1, p1_, q1_, rfl, rfl, rfl, h1, r1⟩ := trodAll_cons r0
  obtain ⟨rfl, rfl, rfl⟩ := trodAll_nil r1
  obtain rfl : args = #[v0, v1] := by cases args; simp_all
  obtain ⟨rfl, rfl⟩ := trodVars_none hV
  have k0 := h0
  have k1 := h1
  have lt0 : ∀ x ∈ p0_, x.block < W.heap.size := by obtain ⟨m, hm⟩ := k0; exact DataW.trod_lt m _ _ _ hm
  have lt1 : ∀ x ∈ p1_, x.block < W.heap.size := by obtain ⟨m, hm⟩ := k1; exact DataW.trod_lt m _ _ _ hm
  obtain ⟨p0, p1, p2, cn, rfl⟩ := yard_open (hval 0 32 v0 rfl rfl)
  obtain ⟨kd, aa, bb, rfl⟩ := act_open (hval 1 47 v1 rfl rfl)
  clear hA0 hval0 hsz0
  refine (Pure.law_DoAct p0 p1 p2 cn kd aa bb W).mono fun e W' ⟨he, bel⟩ => ?_
  subst he
  exact ⟨_, rfl, _, _, _, [], _, [], hW', trodAll_mk1 (shut_bool Try.underlying4 _), trodAll_cons_mk (Below.trod laidOut (by kernel_rfl) (of_decide_eq_true (by kernel_rfl)) k0 bel lt0) (trodAll_cons_mk (Below.trod laidOut (by kernel_rfl) (of_decide_eq_true (by kernel_rfl)) k1 bel lt1) trodAll_mk0), rfl, bel.frame _, fun h => by cases h⟩
theorem over : Rows.fnExactDoActRow.holds Try.pinned (OpenSpec.ofChange Rows.fnExactDoActSpec) :=
  OpenClaim.holds_of_wide 7 Try.f7 rfl rfl rfl rfl rfl rfl rfl ⟨rfl, rfl, rfl, rfl, rfl⟩ rfl rfl rfl rfl rfl (by kernel_rfl) Try.func7 (by kernel_rfl)
    (of_decide_eq_true (by kernel_rfl)) (by unfold Func.isWrapper; first | (rw [if_pos (by decide +kernel)]; kernel_rfl) | (rw [if_neg (by decide +kernel)]; exact ⟨rfl, rfl⟩))
    (fun os started H enc _ => lifted os started H enc)
theorem proved : Rows.FnExactDoActSaid := over
end Go.Proofs.Ythokeoocdkaffaa.fnExactDoAct
namespace Go.Proofs.Ythokeoocdkaffaa
/-- The row, under a short name, for the claim. -/
theorem fnExactDoAct_holds : Rows.FnExactDoActSaid := fnExactDoAct.proved
end Go.Proofs.Ythokeoocdkaffaa
