import Derived.Test.YteccmfcmkghbgaaRows
import Derived.Test.YteccmfcmkghbgaaZpPureFnExactChanceAvoids
import Derived.WalkKit
import Derived.ProofKit
import Derived.OpenShut
import Derived.ShutString
import Derived.ChangeOld
import Derived.Below
import Derived.Carry
import Derived.SizedLaws
import Derived.Deep.Matrix
namespace Go.Proofs.Yteccmfcmkghbgaa.fnExactChanceAvoids
open Go.ChangeShapes Go.WideShapes Go.ChangeAt Go.RowKit Go.Deep
open Go.Proofs.YteccmfcmkghbgaaW.PrintWords
set_option linter.unusedVariables false
theorem own : ownKnob Try.prog.godebug = none := by kernel_rfl
theorem laidOut : laidOutB Try.prog = true := by kernel_rfl
theorem cells3 : Try.prog.cellsOf 3 = 1 := by kernel_rfl
theorem cells36 : Try.prog.cellsOf 36 = 1 := by kernel_rfl
theorem bytes3 : Try.prog.bytesOf 3 = 8 := by kernel_rfl
theorem bytes36 : Try.prog.bytesOf 36 = 24 := by kernel_rfl
theorem mem_all {H : Type} {P : Program} {e : TypeId} {d : DataW H} {n : Nat} (hn : n ∈ d.weights P e) : ∀ {ds : List (DataW H)}, d ∈ ds → n ∈ DataW.weightsAll P e ds
  | x :: r, hd => by
    rcases List.mem_cons.1 hd with rfl | hd
    · simp only [DataW.weightsAll, List.mem_append]
      exact Or.inl hn
    · simp only [DataW.weightsAll, List.mem_append]
      exact Or.inr (mem_all hn hd)
  | [], hd => by cases hd
/-- The argument's rows, told as lists. -/
theorem told {H : Type} {enc : TypeId × Value → H} {W : World} {A : Option Addr} {len cap : Nat} {d : DataW H} {ps : List MemPlace} {ts : List TypeId} {ds : List (DataW H)} {j : Nat}
    (hsz : (DataW.weightsEach Try.prog ts ds).all (· ≤ reachBytes) = true) (ht : ts[j]? = some 27) (hd : ds[j]? = some d)
    (h : DataW.Trod enc Try.prog W 0 (fun _ => true) true 27 (.slice A len cap) d ps) :
    ∃ l : List (List Int), l.length = len ∧ len ≤ cap ∧ Kd.C (Kd.slice 3 (Kd.int .i64)) W A l.length l ∧ l.length ≤ 9000000000000000000 ∧ ∀ r ∈ l, r.length ≤ 9000000000000000000 := by
  obtain ⟨fuel, hf⟩ := h
  rcases open_int_rows Try.underlying27 Try.underlying36 Try.underlying3 cells36 cells3 hf with ⟨hcs, _⟩ | ⟨a, len', cap', AA, L, C, Z, hcs, _, hl, hm, hx, hr⟩
  · simp [Value.cells] at hcs
    obtain ⟨rfl, rfl, rfl⟩ := hcs
    exact ⟨[], rfl, Nat.le_refl _, ⟨rfl, by simp, fun h => absurd h (by simp)⟩, by simp, by simp⟩
  · simp [Value.cells] at hcs
    obtain ⟨rfl, rfl, rfl⟩ := hcs
    obtain ⟨hx, _⟩ := Prod.mk.inj hx
    subst hx
    have hw := List.all_eq_true.1 hsz
    have hl' : len ≤ 9000000000000000000 := by
      have z := sized_slice hsz ht hd Try.underlying27
      rw [bytes36] at z
      simp only [List.length_map, List.length_range] at z
      have : reachBytes = 140737488351232 := rfl
      omega
    have hrow : ∀ r, r < len → L r ≤ 9000000000000000000 := by
      intro r hrl
      obtain ⟨_, hLC, _, hZ, _, hn, _⟩ := hr r (by omega)
      cases hA : AA r with
      | none =>
        have := hn hA
        omega
      | some a' =>
        have hmem : intRow (H := H) .i64 (AA r) (L r) (Z r) ∈ (List.range len).map fun r => intRow (H := H) .i64 (AA r) (L r) (Z r) := List.mem_map.2 ⟨r, List.mem_range.2 hrl, rfl⟩
        have hb := hw ((Z r).length * 8) (DataW.weights_mem_each ht hd _ (by
          simp only [DataW.weights, Try.underlying27]
          refine List.mem_cons_of_mem _ (List.mem_append_left _ (mem_all ?_ hmem))
          simp only [hA, intRow, DataW.weights, Try.underlying36, bytes3]
          refine List.mem_cons.2 (Or.inl ?_)
          simp [lits]
          omega))
        have : reachBytes = 140737488351232 := rfl
        simp only [decide_eq_true_eq] at hb
        omega
    have hlen : ∀ r, r < len → ((Z r).take (L r)).length = L r := by
      intro r hrl
      obtain ⟨_, hLC, _, hZ, _⟩ := hr r (by omega)
      simp
      omega
    refine ⟨(List.range len).map fun r => (Z r).take (L r), by simp, hl, ⟨by simp, by simp; omega, fun _ => ⟨a, rfl, ?_⟩⟩, by simp; omega, ?_⟩
    · intro r p hp
      rw [List.getElem?_map, Option.map_eq_some_iff] at hp
      obtain ⟨r', hr', rfl⟩ := hp
      obtain ⟨hlt, rfl⟩ := List.getElem?_eq_some_iff.1 hr'
      simp only [List.length_range] at hlt
      simp only [List.getElem_range]
      obtain ⟨hc, hLC, hCm, hZ, hwf, hn, hcell⟩ := hr r (by omega)
      refine ⟨[.slice (AA r) (L r) (C r)], rfl, ⟨AA r, C r, by rw [hlen r hlt], by rw [hlen r hlt]; exact hLC, ?_⟩, ?_⟩
      · rw [hlen r hlt]
        refine ⟨hlen r hlt, by have : maxLen = 9223372036854775807 := rfl; omega, fun h0 => ?_⟩
        cases hA : AA r with
        | none =>
          have := hn hA
          omega
        | some a' =>
          refine ⟨a', rfl, fun j x hj => ⟨[.int .i64 x], rfl, rfl, ?_⟩⟩
          intro i u hi
          have hjl : j < L r := by
            have := (List.getElem?_eq_some_iff.1 hj).1
            rw [hlen r hlt] at this
            exact this
          rcases i with _ | i
          · simp at hi
            subst hi
            have := (hcell a' hA).2 j (by omega)
            rw [List.getElem?_take_of_lt hjl] at hj
            have e : j * (Kd.int .i64).sz + 0 = j := by
              show j * 1 + 0 = j
              omega
            rw [e, this, List.getD_eq_getElem?_getD, hj]
            rfl
          · simp at hi
      · intro i u hi
        rcases i with _ | i
        · simp at hi
          subst hi
          have e : r * (Kd.slice 3 (Kd.int .i64)).sz + 0 = r := by
            show r * 1 + 0 = r
            omega
          rw [e, hc]
        · simp at hi
    · intro p hp
      obtain ⟨r, hr', rfl⟩ := List.mem_map.1 hp
      have hlt := List.mem_range.1 hr'
      rw [hlen r hlt]
      exact hrow r hlt
theorem walk (n : Int) (A : Option Addr) (c : Nat) (l : List (List Int)) (w : World) (hC : Kd.C (Kd.slice 3 (Kd.int .i64)) w A l.length l) (hc : l.length ≤ c) (h1 : l.length ≤ 9000000000000000000) (h2 : ∀ r ∈ l, r.length ≤ 9000000000000000000) :
    Calls Try.prog 4 #[.int .i64 n, .slice A l.length c] w fun e w' => e = .returned (.bool true) ∧ Below w.heap.size w w' := by
  obtain ⟨k, h⟩ := Pure.FnExactChanceAvoids n l h1 h2
  refine (Xp.laws_FnExactChanceAvoids.calls k n A c l true w hC hc h).mono ?_
  rintro e w' ⟨rfl, hd⟩
  exact ⟨rfl, hd⟩
set_option maxHeartbeats 4000000 in
set_option maxRecDepth 100000 in
theorem lifted (os : Os) (started : os.Started) (H : Type) (enc : TypeId × Value → H) :
    ReturnsInHanded {} Try.checked os 4 .any (Rows.fnExactChanceAvoidsSpec.pre6 enc Try.prog Try.f4 Rows.fnExactChanceAvoidsRow.domain false) (Rows.fnExactChanceAvoidsSpec.post enc Try.prog Try.f4 false true false false) := by
  refine returnsInHanded_of_change_sized (C := Try.checked) own started (by kernel_rfl) Try.func4
    (ChangeSpec.witness6 (enc := enc) (C := Try.checked) false ⟨#[], #[.int .i64 0, .slice none 0 0], []⟩ 8 (by kernel_rfl) (by kernel_rfl) (by kernel_rfl) (by kernel_rfl)) ?_
  intro W base args ds gs before hval0 hW hcnd hsz0 _
  have hsz : (DataW.weightsEach Try.prog (Try.f4.params.toList ++ Rows.fnExactChanceAvoidsSpec.plain.varTypes Try.prog) (ds ++ gs)).all (· ≤ reachBytes) = true := hsz0
  have hval : ∀ (j : Nat) t v, Try.f4.params[j]? = some t → args[j]? = some v → Value.okWide Try.prog W .any base t v := hval0
  have hW' := hW
  obtain ⟨p, q, hA0, hV, rfl, hfz, hnd⟩ := hW
  have hA : DataW.TrodAll enc Try.prog W 0 (fun _ => true) true Try.f4.params.toList args.toList ds p := hA0
  rw [Try.params4] at hA hval hsz
  obtain ⟨v0, vs0, d0, ds0, p0, q0, hargs, rfl, rfl, h0, r0⟩ := trodAll_cons hA
  obtain ⟨v1, vs1, d1, ds1, p1, q1, rfl, rfl, rfl, h1, r1⟩ := trodAll_cons r0
  obtain ⟨rfl, rfl, rfl⟩ := trodAll_nil r1
  obtain rfl : args = #[v0, v1] := by cases args; simp_all
  obtain ⟨rfl, rfl⟩ := trodVars_none hV
  obtain ⟨a0, rfl, rfl, rfl, w0⟩ := open_int Try.underlying3 (hval 0 3 v0 rfl rfl) h0
  obtain ⟨A, len, cap, rfl⟩ := okWide_slice Try.underlying27 (hval 1 27 v1 rfl rfl)
  have lt1 : ∀ x ∈ p1, x.block < W.heap.size := by obtain ⟨m, hm⟩ := h1; exact DataW.trod_lt m _ _ _ hm
  obtain ⟨l, rfl, hc, hC, b1, b2⟩ := told (j := 1) hsz rfl rfl h1
  clear hA0 hval0 hsz0 hsz
  refine (walk a0 A cap l W hC hc b1 b2).mono fun e W' ⟨he, bel⟩ => ?_
  subst he
  exact ⟨_, rfl, _, _, _, [], _, [], hW', trodAll_mk1 (shut_bool Try.underlying4 _), trodAll_cons_mk (shut_int Try.underlying3 w0) (trodAll_cons_mk (Below.trod laidOut (by kernel_rfl) (of_decide_eq_true (by kernel_rfl)) h1 bel lt1) trodAll_mk0), rfl, bel.frame _, fun h => by cases h⟩
theorem over : Rows.fnExactChanceAvoidsRow.holds Try.pinned (OpenSpec.ofChange Rows.fnExactChanceAvoidsSpec) :=
  OpenClaim.holds_of_wide 4 Try.f4 rfl rfl rfl rfl rfl rfl rfl ⟨rfl, rfl, rfl, rfl, rfl⟩ rfl rfl rfl rfl rfl (by kernel_rfl) Try.func4 (by kernel_rfl)
    (of_decide_eq_true (by kernel_rfl)) (by unfold Func.isWrapper; first | (rw [if_pos (by decide +kernel)]; kernel_rfl) | (rw [if_neg (by decide +kernel)]; exact ⟨rfl, rfl⟩))
    (fun os started H enc _ => lifted os started H enc)
theorem proved : Rows.FnExactChanceAvoidsSaid := over
end Go.Proofs.Yteccmfcmkghbgaa.fnExactChanceAvoids
namespace Go.Proofs.Yteccmfcmkghbgaa
/-- The row, under a short name, for the claim. -/
theorem fnExactChanceAvoids_holds : Rows.FnExactChanceAvoidsSaid := fnExactChanceAvoids.proved
end Go.Proofs.Yteccmfcmkghbgaa
