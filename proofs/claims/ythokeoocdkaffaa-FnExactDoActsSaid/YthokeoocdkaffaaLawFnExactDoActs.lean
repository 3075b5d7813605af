import Derived.Test.YthokeoocdkaffaaRows
import Derived.Test.YthokeoocdkaffaaPureFnExactDoActs
import Derived.WalkKit
import Derived.ProofKit
import Derived.OpenShut
import Derived.ShutString
import Derived.ChangeOld
import Derived.Below
import Derived.SizedLaws
import Derived.Deep.Slices
namespace Go.Proofs.Ythokeoocdkaffaa.fnExactDoActs
open Go.ChangeShapes Go.WideShapes Go.ChangeAt Go.RowKit Go.Deep
open Go.ChangeMaps (open_string shut_string)
set_option linter.unusedVariables false
theorem own : ownKnob Try.prog.godebug = none := by kernel_rfl
theorem laidOut : laidOutB Try.prog = true := by kernel_rfl
def cellN (cs : Array Value) (i : Nat) : Int := match cs[i]? with | some (.int _ n) => n | _ => 0
theorem y22_at (p0 p1 p2 : Nat → Int) (cn : Int) (f : Nat → Int) (h0 : ∀ j, p0 j = f j) (h1 : ∀ j, p1 j = f (7 + j)) (h2 : ∀ j, p2 j = f (14 + j)) (h3 : cn = f 21) (i : Nat) (hi : i < 22) : (Xl.arr (Xl.y22 p0 p1 p2 cn))[i]? = some (.int .i64 (f i)) := by
  have : i = 0 ∨ i = 1 ∨ i = 2 ∨ i = 3 ∨ i = 4 ∨ i = 5 ∨ i = 6 ∨ i = 7 ∨ i = 8 ∨ i = 9 ∨ i = 10 ∨ i = 11 ∨ i = 12 ∨ i = 13 ∨ i = 14 ∨ i = 15 ∨ i = 16 ∨ i = 17 ∨ i = 18 ∨ i = 19 ∨ i = 20 ∨ i = 21 := by omega
  subst h3
  obtain rfl : p0 = fun j => f j := funext h0
  obtain rfl : p1 = fun j => f (7 + j) := funext h1
  obtain rfl : p2 = fun j => f (14 + j) := funext h2
  rcases this with rfl | rfl | rfl | rfl | rfl | rfl | rfl | rfl | rfl | rfl | rfl | rfl | rfl | rfl | rfl | rfl | rfl | rfl | rfl | rfl | rfl | rfl <;> rfl
theorem yard_open {W : World} {base : Nat} {v : Value} (h : Value.okWide Try.prog W .any base 32 v) : ∃ (p0 p1 p2 : Nat → Int) (cn : Int), v = .agg (Xl.arr (Xl.y22 p0 p1 p2 cn)) := by
  unfold Value.okWide at h
  rw [Try.underlying32] at h
  obtain ⟨cs, rfl, hsz, ts, hts, _, hcell⟩ := h
  have hs22 : cs.size = 22 := hsz.trans (by kernel_rfl)
  have hts' : Try.prog.cellTypes Try.prog.depth 32 = some [3, 3, 3, 3, 3, 3, 3, 3, 3, 3, 3, 3, 3, 3, 3, 3, 3, 3, 3, 3, 3, 3] := by kernel_rfl
  rw [hts'] at hts
  obtain rfl := Option.some.inj hts
  refine ⟨fun j => cellN cs j, fun j => cellN cs (7 + j), fun j => cellN cs (14 + j), cellN cs 21, ?_⟩
  congr 1
  apply Array.ext_getElem?
  intro i
  rcases Nat.lt_or_ge i 22 with hi | hi
  · rw [y22_at _ _ _ _ (cellN cs) (fun _ => rfl) (fun _ => rfl) (fun _ => rfl) rfl i hi]
    have hlt : i < cs.size := by omega
    have hg : cs[i]? = some cs[i] := Array.getElem?_eq_getElem hlt
    obtain ⟨u, hu, hc⟩ := hcell i cs[i] hg
    have hu3 : u = 3 := by
      have hm : i % ([3, 3, 3, 3, 3, 3, 3, 3, 3, 3, 3, 3, 3, 3, 3, 3, 3, 3, 3, 3, 3, 3] : List TypeId).length < 22 := Nat.mod_lt _ (by decide)
      have : ∀ q, q < 22 → ∀ u, ([3, 3, 3, 3, 3, 3, 3, 3, 3, 3, 3, 3, 3, 3, 3, 3, 3, 3, 3, 3, 3, 3] : List TypeId)[q]? = some u → u = 3 := by decide
      exact this _ hm u hu
    subst hu3
    have hv : Value.okWide Try.prog W .any base 3 cs[i] := by
      unfold Value.okWide
      rw [Try.underlying3]
      exact hc
    obtain ⟨n, hn⟩ := okWide_int Try.underlying3 hv
    rw [hg, hn]
    unfold cellN
    rw [hg, hn]
  · rw [Array.getElem?_eq_none (by omega), Array.getElem?_eq_none (by show 22 ≤ i; exact hi)]
section
variable {H : Type} {enc : TypeId × Value → H} {w : World} {base : Nat} {spare : Nat → Bool} {held : Bool}
theorem open_acts {fuel : Nat} {cs : List Value} {x : DataW H × List MemPlace} (h : DataW.trod enc Try.prog w base spare held fuel 52 cs = some x) :
    cs = [.slice none 0 0] ∨ ∃ (a : Addr) (len cap : Nat) (f0 f1 f2 : Nat → Int), cs = [.slice (some a) len cap] ∧ len ≤ cap ∧ cap ≤ maxLen ∧
      ∀ i, i < len → w.cell? (a.add (i * 3)) = some (.int .i64 (f0 i)) ∧ w.cell? (a.add (i * 3 + 1)) = some (.int .i64 (f1 i)) ∧ w.cell? (a.add (i * 3 + 2)) = some (.int .i64 (f2 i)) := by
  have ce : Try.prog.cellsOf 47 = 3 := by kernel_rfl
  have c3 : Try.prog.cellsOf 3 = 1 := by kernel_rfl
  rcases open_slice Try.underlying52 h with ⟨h0, _⟩ | ⟨a, len, cap, m, n, D, Pl, rfl, hb, hl, hm, hmm, _, hx⟩
  · exact Or.inl h0
  right
  have hlm : len ≤ m := by rw [hmm]; split <;> omega
  have each : ∀ i, i < len → ∃ q : Int × Int × Int, w.cell? (a.add (i * 3)) = some (.int .i64 q.1) ∧ w.cell? (a.add (i * 3 + 1)) = some (.int .i64 q.2.1) ∧ w.cell? (a.add (i * 3 + 2)) = some (.int .i64 q.2.2) := by
    intro i hi
    obtain ⟨cs', h1, h2⟩ := hx i (by omega)
    rw [ce] at h1
    obtain ⟨_, hlen, hcell⟩ := World.cells?_some h1
    obtain ⟨xs, k, hk, hxy, _, hxl, hf⟩ := DataW.trod_struct Try.underlying47 h2
    match xs, hxl, cs', hlen with
    | [y0, y1, y2], _, [v0, v1, v2], _ =>
      have g0 := hf 0 _ rfl
      have g1 := hf 1 _ rfl
      have g2 := hf 2 _ rfl
      simp [c3] at g0 g1 g2
      obtain ⟨n0, e0, _⟩ := DataW.trod_int Try.underlying3 g0
      obtain ⟨n1, e1, _⟩ := DataW.trod_int Try.underlying3 g1
      obtain ⟨n2, e2, _⟩ := DataW.trod_int Try.underlying3 g2
      have d0 := hcell 0 (by omega)
      have d1 := hcell 1 (by omega)
      have d2 := hcell 2 (by omega)
      rw [add_add] at d0 d1 d2
      simp at e0 e1 e2 d0 d1 d2
      subst e0 e1 e2
      exact ⟨(n0, n1, n2), d0, d1, d2⟩
  obtain ⟨q, hq⟩ := choose_lt each
  exact ⟨a, len, cap, fun i => (q i).1, fun i => (q i).2.1, fun i => (q i).2.2, rfl, hl, hm, hq⟩
end
theorem acts_C {W : World} {a : Option Addr} {len cap : Nat} {p : List MemPlace} {H : Type} {enc : TypeId × Value → H} {d : DataW H} {spare : Nat → Bool} {held : Bool} {base : Nat} (h : DataW.Trod enc Try.prog W base spare held 52 (.slice a len cap) d p) :
    ∃ l0 : List Xl.S47, len = l0.length ∧ l0.length ≤ cap ∧ l0.length ≤ maxLen ∧ Go.Proofs.YthokeoocdkaffaaW.PrintWords.Kd.C Xl.k47 W a l0.length l0 := by
  obtain ⟨fuel, hf⟩ := h
  rcases open_acts hf with hcs | ⟨x, l, c, f0, f1, f2, hcs, hl, hm, hcell⟩
  · simp [Value.cells] at hcs
    obtain ⟨rfl, rfl, rfl⟩ := hcs
    exact ⟨[], rfl, Nat.le_refl _, Nat.zero_le _, Go.Proofs.YthokeoocdkaffaaW.PrintWords.Kd.C_nil _ _⟩
  · simp [Value.cells] at hcs
    obtain ⟨rfl, rfl, rfl⟩ := hcs
    refine ⟨(List.range len).map fun i => ⟨f0 i, f1 i, f2 i⟩, by simp, by simpa using hl, by simp; omega, ?_⟩
    refine ⟨rfl, by unfold maxLen at hm; simp; omega, fun _ => ⟨x, rfl, fun j q hj => ?_⟩⟩
    obtain ⟨hjl, hjq⟩ := List.getElem?_eq_some_iff.1 hj
    have hjn : j < len := by simpa using hjl
    obtain ⟨h0, h1, h2⟩ := hcell j hjn
    have hq : q = ⟨f0 j, f1 j, f2 j⟩ := by rw [← hjq]; simp
    subst hq
    refine ⟨_, rfl, Xl.k47_mk W ⟨f0 j, f1 j, f2 j⟩, fun i u hu => ?_⟩
    match i, hu with
    | 0, hu => cases hu; exact h0
    | 1, hu => cases hu; exact h1
    | 2, hu => cases hu; exact h2
    | i + 3, hu => simp at hu
set_option maxHeartbeats 4000000 in
set_option maxRecDepth 100000 in
theorem lifted (os : Os) (started : os.Started) (H : Type) (enc : TypeId × Value → H) :
    ReturnsInHanded {} Try.checked os 8 .any (Rows.fnExactDoActsSpec.pre6 enc Try.prog Try.f8 Rows.fnExactDoActsRow.domain false) (Rows.fnExactDoActsSpec.post enc Try.prog Try.f8 false true false false) := by
  refine returnsInHanded_of_change_sized (C := Try.checked) own started (by kernel_rfl) Try.func8
    (ChangeSpec.witness6 (enc := enc) (C := Try.checked) false ⟨#[], #[.agg #[.int .i64 0, .int .i64 0, .int .i64 0, .int .i64 0, .int .i64 0, .int .i64 0, .int .i64 0, .int .i64 0, .int .i64 0, .int .i64 0, .int .i64 0, .int .i64 0, .int .i64 0, .int .i64 0, .int .i64 0, .int .i64 0, .int .i64 0, .int .i64 0, .int .i64 0, .int .i64 0, .int .i64 0, .int .i64 0], .slice none 0 0], []⟩ 8 (by kernel_rfl) (by kernel_rfl) (by kernel_rfl) (by kernel_rfl)) ?_
  intro W base args ds gs before hval0 hW hcnd hsz0 _
  have hval : ∀ (j : Nat) t v, Try.f8.params[j]? = some t → args[j]? = some v → Value.okWide Try.prog W .any base t v := hval0
  have hW' := hW
  obtain ⟨p, q, hA0, hV, rfl, hfz, hnd⟩ := hW
  have hA : DataW.TrodAll enc Try.prog W 0 (fun _ => true) true Try.f8.params.toList args.toList ds p := hA0
  rw [Try.params8] at hA hval
  obtain ⟨v0, vs0, d0, ds0, p0_, q0_, hargs, rfl, rfl, h0, r0⟩ := trodAll_cons hA
  obtain ⟨v1, vs1, d1, ds1, p1_, q1_, rfl, rfl, rfl, h1, r1⟩ := trodAll_cons r0
  obtain ⟨rfl, rfl, rfl⟩ := trodAll_nil r1
  obtain rfl : args = #[v0, v1] := by cases args; simp_all
  obtain ⟨rfl, rfl⟩ := trodVars_none hV
  have k0 := h0
  have k1 := h1
  have lt0 : ∀ x ∈ p0_, x.block < W.heap.size := by obtain ⟨m, hm⟩ := k0; exact DataW.trod_lt m _ _ _ hm
  have lt1 : ∀ x ∈ p1_, x.block < W.heap.size := by obtain ⟨m, hm⟩ := k1; exact DataW.trod_lt m _ _ _ hm
  obtain ⟨p0, p1, p2, cn, rfl⟩ := yard_open (hval 0 32 v0 rfl rfl)
  obtain ⟨a1, len1, cap1, rfl⟩ := okWide_slice Try.underlying52 (hval 1 52 v1 rfl rfl)
  obtain ⟨l0, rfl, hc, hm, hC⟩ := acts_C k1
  clear hA0 hval0 hsz0
  refine (Pure.law_DoActs p0 p1 p2 cn a1 cap1 l0 W (by unfold maxLen at hm; omega) hc hC).mono fun e W' ⟨he, bel⟩ => ?_
  subst he
  exact ⟨_, rfl, _, _, _, [], _, [], hW', trodAll_mk1 (shut_bool Try.underlying4 _), trodAll_cons_mk (Below.trod laidOut (by kernel_rfl) (of_decide_eq_true (by kernel_rfl)) k0 bel lt0) (trodAll_cons_mk (Below.trod laidOut (by kernel_rfl) (of_decide_eq_true (by kernel_rfl)) k1 bel lt1) trodAll_mk0), rfl, bel.frame _, fun h => by cases h⟩
theorem over : Rows.fnExactDoActsRow.holds Try.pinned (OpenSpec.ofChange Rows.fnExactDoActsSpec) :=
  OpenClaim.holds_of_wide 8 Try.f8 rfl rfl rfl rfl rfl rfl rfl ⟨rfl, rfl, rfl, rfl, rfl⟩ rfl rfl rfl rfl rfl (by kernel_rfl) Try.func8 (by kernel_rfl)
    (of_decide_eq_true (by kernel_rfl)) (by unfold Func.isWrapper; first | (rw [if_pos (by decide +kernel)]; kernel_rfl) | (rw [if_neg (by decide +kernel)]; exact ⟨rfl, rfl⟩))
    (fun os started H enc _ => lifted os started H enc)
theorem proved : Rows.FnExactDoActsSaid := over
end Go.Proofs.Ythokeoocdkaffaa.fnExactDoActs
namespace Go.Proofs.Ythokeoocdkaffaa
/-- The row, under a short name, for the claim. -/
theorem fnExactDoActs_holds : Rows.FnExactDoActsSaid := fnExactDoActs.proved
end Go.Proofs.Ythokeoocdkaffaa
