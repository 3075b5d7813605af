/- The program's pass of the merges: slices.Chunk by twos, slices.Concat, slices.Sort. -/
import Derived.Test.YteccmfcmkghbgaaZqXq0
import Derived.Test.YteccmfcmkghbgaaZqXqHconcat
import Derived.Test.YteccmfcmkghbgaaZqXqHruns
import Derived.Test.YteccmfcmkghbgaaZqXqHsort12
import Derived.OneCell
import Derived.Lib.SliceRun
import Derived.Lib.AppendZeros
import Derived.Laws.AppendOwn
import Derived.Laws.EntriesVeiled
import Derived.RangeFuncNested
import Derived.RangeFuncBound
import Derived.RangeFuncCalls
import Derived.RangeFuncLeaves
import Derived.RangeFuncBox
import Derived.Shelf.Abstract
import Derived.Shelf.RegionOpen
import Derived.OwnWalkIn
import Derived.Maps.OwnIn
import Derived.TacticsInMore
import Derived.LoopNIn
import Derived.LoopIn
import Derived.Sort.BigQuietIn
import Derived.Sort.QuietIn
import Derived.Sort.CutIn
import Derived.Sort.LoopGhostIn
namespace Go.Proofs.Yteccmfcmkghbgaa.Xq
open Go.RowKit Go.Proofs.YteccmfcmkghbgaaW.PrintWords Go.Proofs.YteccmfcmkghbgaaW.PrintLast Go.Proofs.YteccmfcmkghbgaaW.PrintMore
attribute [local go_sem] max2_int min2_int max_two min_two max_three min_three max_four min_four
set_option linter.unusedVariables false
set_option linter.unusedSimpArgs false
attribute [local go_sem] Oper.semAt_some
abbrev ChIx (len : Nat) := { j : Nat // 2 * j < len }
def chN (len j : Nat) : Nat := if 2 * j + 2 ≤ len then 2 else 1
def chV (b off len j : Nat) : Value := .slice (some ⟨b, off + 2 * j, none⟩) (chN len j) (chN len j)
def ChKp (Bs Bn : Nat) (W W' : World) : Prop := W'.heap[Bs]? = W.heap[Bs]? ∧ W'.heap[Bn]? = W.heap[Bn]?
theorem ChKp.trans {Bs Bn : Nat} {A B C : World} (h : ChKp Bs Bn A B) (k : ChKp Bs Bn B C) : ChKp Bs Bn A C := ⟨k.1.trans h.1, k.2.trans h.2⟩
theorem cell_of_heap {A B : World} {b j : Nat} (h : B.heap[b]? = A.heap[b]?) : B.cell? ⟨b, j, none⟩ = A.cell? ⟨b, j, none⟩ := by simp only [World.cell?, h]
set_option maxHeartbeats 1000000 in
/-- slices.Chunk: the slice and the number are boxed; the function value captures the boxes. -/
theorem Chunk_in (n : Nat) (A : Option Addr) (len cap : Nat) (w : World) :
    CallsIn Fence.wide n Try.prog 76 #[.slice A len cap, .int .i64 2] w fun e w' => e = .returned (.func (.func 87) #[] #[.pointer (some ⟨w.heap.size, 0, none⟩), .pointer (some ⟨w.heap.size + 1, 0, none⟩)]) ∧ w' = (w.alloc (.cells #[.slice A len cap] 27)).alloc (.cells #[.int .i64 2] 3) := by
  refine callsIn_of_wp Try.func76 rfl trivial ?_ rfl
  simp only [Try.ntmps76, List.size_toArray, List.length_cons, List.length_nil, Nat.reduceAdd, Nat.reduceSub, Array.replicate_succ, Array.replicate_zero, List.push_toArray, List.append_toArray, List.nil_append, List.cons_append]
  gi_wp2
  go_ret
  exact ⟨by simp, rfl⟩
set_option maxRecDepth 100000 in
set_option maxHeartbeats 4000000 in
/-- Chunk's closure, for every loop body that keeps the two boxes. -/
theorem chunk1_in (n : Nat) (hn : 1 ≤ n) (l Bs Bn b off len cap : Nat) (hlc : len ≤ cap) (hlen : len ≤ 1000) (J Jx : List (ChIx len) → World → Prop)
    (hY : ∀ pre x W, J pre W → pre.length < len → YieldAt Fence.wide (n - 1) Try.prog l #[chV b off len x.1] W fun e W' =>
      (e = .returned (.bool true) ∧ J (pre ++ [x]) W' ∧ ChKp Bs Bn W W') ∨ (e = .returned (.bool false) ∧ Jx (pre ++ [x]) W'))
    (W : World) (hJ : AbidesFrom W.heap.size J) (hs : W.cell? ⟨Bs, 0, none⟩ = some (.slice (some ⟨b, off, none⟩) len cap)) (hnn : W.cell? ⟨Bn, 0, none⟩ = some (.int .i64 2)) (h0 : J [] W) :
    CallsIn Fence.wide n Try.prog 87 #[.func (.yield l) #[] #[], .pointer (some ⟨Bs, 0, none⟩), .pointer (some ⟨Bn, 0, none⟩)] W fun e W' => (∃ v, e = .returned v) ∧
      ((∃ xs : List (ChIx len), (∃ k, len ≤ 2 * k ∧ 2 * k ≤ len + 1 ∧ xs.map (·.1) = List.range k) ∧ J xs W') ∨ (∃ pre : List (ChIx len), True ∧ Jx pre W')) := by
  refine callsIn_of_wp Try.func87 rfl trivial ?_ rfl
  simp only [Try.ntmps87, List.size_toArray, List.length_cons, List.length_nil, Nat.reduceAdd, Nat.reduceSub, Array.replicate_succ, Array.replicate_zero, List.push_toArray, List.append_toArray, List.nil_append, List.cons_append]
  gi_wp2
  gi_loopw [4] (fun i wr => ∃ (k : Nat) (xs : List (ChIx len)), xs.map (·.1) = List.range k ∧ 2 * k ≤ len + 1 ∧ i = .int .i64 ((2 * k : Nat) : Int) ∧ J xs wr ∧ ChKp Bs Bn W wr)
    (fun i _ => len + 2 - (intOf i).toNat)
  case atStart => exact ⟨0, [], rfl, by omega, rfl, h0, ⟨rfl, rfl⟩⟩
  case round =>
    obtain ⟨k, xs, hxs, hk, rfl, hJs, hkp⟩ := hrel
    have hs' := (cell_of_heap (j := 0) hkp.1).trans hs
    have hn' := (cell_of_heap (j := 0) hkp.2).trans hnn
    by_cases hlt : 2 * k < len
    · have hlt1 : decide (((2 * k : Nat) : Int) < (len : Int)) = true := decide_eq_true (by omega)
      have hxl : xs.length = k := by have := congrArg List.length hxs; simpa using this
      have e0 : wrap64 (((2 * k : Nat) : Int) + 2) = ((2 * (k + 1) : Nat) : Int) := by unfold wrap64; omega
      have d0 : decide (0 ≤ ((2 * k : Nat) : Int)) = true := decide_eq_true (by omega)
      have d1 : decide (((2 * k : Nat) : Int) ≤ (cap : Int)) = true := decide_eq_true (by omega)
      have d2 : decide (((2 * k : Nat) : Int) ≤ (len : Int)) = true := decide_eq_true (by omega)
      generalize hi2 : ((2 * k : Nat) : Int) = i2 at *
      gi_upto_region 3 with fail
      gi_quiet (fail)
      have hmin : (if ((len - i2.toNat : Nat) : Int) < 2 then ((len - i2.toNat : Nat) : Int) else 2) = ((chN len k : Nat) : Int) := by
        unfold chN
        split <;> split <;> omega
      simp only [hmin]
      have hJ2 : J xs (wr.drewN nq) := hJ xs wr (wr.drewN nq) none hJs ⟨rfl, rfl, rfl, Nat.le_refl _, fun _ _ _ => rfl⟩ (fun r e => by cases e)
      have hn1 : 1 ≤ chN len k := by unfold chN; split <;> omega
      have hn2 : 2 * k + chN len k ≤ len := by unfold chN; split <;> omega
      obtain ⟨fn, tmps, assign, body, hy, hR⟩ := hY xs ⟨k, hlt⟩ (wr.drewN nq) hJ2 (by rw [hxl]; omega)
      dsimp only [chV] at hy
      have hin : i2.toNat = 2 * k := by omega
      generalize chN len k = c at *
      have e2 : wrap64 (i2 + (c : Int)) = i2 + (c : Int) := by unfold wrap64; omega
      have d3 : decide (i2 ≤ i2 + (c : Int)) = true := decide_eq_true (by omega)
      have d4 : decide (i2 + (c : Int) ≤ (cap : Int)) = true := decide_eq_true (by omega)
      have e3 : (i2 + (c : Int)).toNat - 2 * k = c := by omega
      gi_wp2
      refine hR.mono ?_
      rintro e W3 (⟨rfl, hJ3, hk3⟩ | ⟨rfl, hJx3⟩)
      · have hkp3 : ChKp Bs Bn W W3 := hkp.trans hk3
        have hn3 := (cell_of_heap (j := 0) hkp3.2).trans hnn
        gi_wp2
        go_roundw
        case rel => exact ⟨k + 1, xs ++ [⟨k, hlt⟩], by simp [hxs, List.range_succ], by omega, congrArg (Value.int .i64) (by omega), hJ3, hkp3⟩
        case measure => simp [intOf, e0]; omega
      · gi_wp2
        refine bodyPost_ret (results_none rfl _ _ _) rfl ?_
        exact ⟨⟨_, rfl⟩, .inr ⟨_, trivial, hJx3⟩⟩
    · have hlt1 : decide (((2 * k : Nat) : Int) < (len : Int)) = false := decide_eq_false (by omega)
      generalize hi2 : ((2 * k : Nat) : Int) = i2 at *
      gi_wp2
      go_end0
      exact ⟨⟨_, rfl⟩, .inl ⟨xs, ⟨k, by omega, by omega, hxs⟩, hJs⟩⟩
theorem catU_le (l : Nat → List Int) (i : Nat) : ∀ N, i ≤ N → (catU l i).length ≤ (catU l N).length
  | 0, h => by rw [show i = 0 by omega]; exact Nat.le_refl _
  | N + 1, h => by
    rcases Nat.lt_or_ge i (N + 1) with h2 | h2
    · exact Nat.le_trans (catU_le l i N (by omega)) (catU_mono l N)
    · rw [show i = N + 1 by omega]; exact Nat.le_refl _
set_option maxHeartbeats 8000000 in
set_option maxRecDepth 100000 in
theorem Concat_n (N cc : Nat) (hN : N ≤ 1000) (ad : Addr) (A : Nat → Option Addr) (c : Nat → Nat) (l : Nat → List Int) (hlen : (catU l N).length ≤ 1000) (w : World) (hcell : ∀ i, i < N → w.cell? (ad.add i) = some (.slice (A i) (l i).length (c i))) (hC : ∀ i, i < N → Kd.C (Kd.int .i64) w (A i) (l i).length (l i)) :
    Calls Try.prog 78 #[.slice (some ad) N cc] w fun e w' => ∃ v0_ : Value, e = .returned v0_ ∧ Kd.R (Kd.int .i64) 3 w' w.heap.size (fun _ => True) v0_ (catU l N) ∧ Below w.heap.size w w' := by
  have HCELL := Aside0.mk hcell
  have HC := Aside0.mk hC
  have HLEN := Aside0.mk hlen
  have hbnd : ∀ i, i ≤ N → (catU l i).length ≤ 1000 := fun i hi => Nat.le_trans (catU_le l i N hi) hlen
  have HBND := Aside0.mk hbnd
  clear hcell hC hlen hbnd
  have HNN := Aside0.mk hN
  clear hN
  go_enter Try.func78, Try.ntmps78
  go_wp2
  go_loopg [3, 11] N (fun kq v3 v11 wr => ∃ (i : Nat), v3 = .int .i64 ((catU l i).length : Int) ∧ v11 = .int .i64 (i : Int) ∧ Aside0 (i + kq = N) ∧ Aside0 (wr = w))
  case atStart => exact ⟨0, rfl, rfl, ⟨by omega⟩, ⟨rfl⟩⟩
  case round =>
    obtain ⟨i, rfl, rfl, HK, HW⟩ := hrel
    by_cases hi : i < N
    · obtain ⟨k1, hk1⟩ : ∃ k1, gk = k1 + 1 := ⟨gk - 1, by have := HK.out; omega⟩
      subst hk1
      have hc : wr.cell? (ad.add i) = some (.slice (A i) (l i).length (c i)) := by rw [HW.out]; exact HCELL.out i hi
      have d1 : decide ((i : Int) < (N : Int)) = true := decide_eq_true (by omega)
      have d2 : decide (i < N) = true := decide_eq_true hi
      have d3 : decide (0 ≤ (i : Int)) = true := decide_eq_true (by omega)
      have hb := HBND.out (i + 1) (by omega)
      have es : (catU l (i + 1)).length = (catU l i).length + (l i).length := by simp [catU]
      have E1 := Aside0.mk (show wrap64 ((i : Int) + 1) = ((i + 1 : Nat) : Int) by have := HNN.out; unfold wrap64; omega)
      have e2 : wrap64 (((catU l i).length : Int) + ((l i).length : Int)) = ((catU l i).length : Int) + ((l i).length : Int) := by rw [es] at hb; unfold wrap64; omega
      have d4 : decide (((catU l i).length : Int) + ((l i).length : Int) < 0) = false := decide_eq_false (by omega)
      have ES := Aside0.mk es
      have E2 := Aside0.mk e2
      clear hb es
      generalize (catU l i).length = q at e2 d4 ES E2
      generalize A i = Ai at hc
      generalize c i = ci at hc
      generalize (l i).length = li at hc e2 d4 ES E2
      go_wp2
      go_roundg k1
      case measure => omega
      case rel => exact ⟨i + 1, by rw [ES.out]; first | rfl | (simp; done) | (simp; exact E2.out) | (rw [E2.out]; simp), by first | rw [E1.out] | simp, ⟨by have := HK.out; omega⟩, ⟨HW.out⟩⟩
    · have hiN : N = i := by have := HK.out; omega
      subst hiN
      have hq1 : decide ((N : Int) < (N : Int)) = false := decide_eq_false (by omega)
      have hb := HBND.out N (by omega)
      have HQ := Aside0.mk hb
      generalize hq : (catU l N).length = q at hb HQ
      go_wp2_with (go_at_call 88; (refine (Grow_nil q HQ.out _).mono ?_); rintro e w6 ⟨v6, rfl, ho, hb⟩; rw [HW.out] at ho hb; have HO6 := Aside0.mk ho; have HB6 := Aside0.mk hb; clear ho hb)
      go_loopg [6, 27] N (fun kq v6 v27 w2 => ∃ (i : Nat), v27 = .int .i64 (i : Int) ∧ Aside0 (i + kq = N) ∧ Aside0 (Kd.R (Kd.int .i64) 3 w2 w.heap.size (fun _ => True) v6 (catU l i)) ∧ Aside0 (Below w.heap.size w w2))
      case atStart => exact ⟨0, rfl, ⟨by omega⟩, HO6, HB6⟩
      case round =>
        clear HO6 HB6
        obtain ⟨i, rfl, HK, HO, HB⟩ := hrel
        by_cases hi : i < N
        · obtain ⟨k1, hk1⟩ : ∃ k1, gk = k1 + 1 := ⟨gk - 1, by have := HK.out; omega⟩
          subst hk1
          have hc0 := HCELL.out i hi
          have hc := (HB.out.cell (World.block_lt_of_cell? _ _ hc0)).trans hc0
          have HCI := Aside0.mk (Kd.C_below (HC.out i hi) HB.out)
          have d1 : decide ((i : Int) < (N : Int)) = true := decide_eq_true (by omega)
          have d2 : decide (i < N) = true := decide_eq_true hi
          have d3 : decide (0 ≤ (i : Int)) = true := decide_eq_true (by omega)
          have E1 := Aside0.mk (show wrap64 ((i : Int) + 1) = ((i + 1 : Nat) : Int) by have := HNN.out; unfold wrap64; omega)
          have HL := Aside0.mk (show (catU l i).length + (l i).length ≤ 1000 by have := HBND.out (i + 1) (by omega); simp only [catU, List.length_append] at this; exact this)
          clear hc0
          go_wp2_with (first
            | ((with_reducible refine gate_builtin (b := .append) (xs := #[.tmp 31, .tmp 32]) rfl ?_); at_builtin; refine Kd.R_append_rows (Kd.int .i64) (w0 := w) w.heap.size rfl (.tmp 31) (.tmp 32) 36 3 (.int .i64 0) 8 rfl Try.underlying36 info3 rfl (by decide) (by omega) u6 (catU l i) (l i) _ _ _ (fun _ => True) (fun _ => False) rfl rfl ?aO ?aR (fun _ _ h => h) (fun _ h => h.elim) ?aF ?aB ?aS ?aL ?_; (case aR => exact HCI.out); (case aB => exact HB.out); (case aF => exact fun _ _ => trivial); (case aO => exact HO.out); (case aS => exact HB.out.size); (case aL => have := HL.out; omega); intro v7 w7 ho7 hb7 hg hat; have HO7 := Aside0.mk ho7; have HB7 := Aside0.mk hb7; clear ho7 hb7 hg hat))
          go_roundg k1
          case measure => omega
          case rel => exact ⟨i + 1, by first | rw [E1.out] | simp, ⟨by have := HK.out; omega⟩, HO7, HB7⟩
        · have hiN : N = i := by have := HK.out; omega
          subst hiN
          have hq1 : decide ((N : Int) < (N : Int)) = false := decide_eq_false (by omega)
          go_wp2
          go_ret
          exact ⟨_, rfl, HO.out, HB.out⟩

/-- The iterator, as the law of the loop asks for it; the call keeps what lies from N1 to N2. -/
def MpK (N1 N2 : Nat) (W W' : World) : Prop := ∀ k, N1 ≤ k → k < N2 → W'.heap[k]? = W.heap[k]?
theorem MpK.trans {N1 N2 : Nat} {A B C : World} (h : MpK N1 N2 A B) (k : MpK N1 N2 B C) : MpK N1 N2 A C := fun x h1 h2 => (k x h1 h2).trans (h x h1 h2)
theorem chunk_stops (n : Nat) (hn : 1 ≤ n) (N1 N2 Bs Bn b off len cap : Nat) (hlc : len ≤ cap) (hlen : len ≤ 1000) (w : World) (hB1 : N1 ≤ Bs ∧ Bs < N2) (hB2 : N1 ≤ Bn ∧ Bn < N2) (hw : N2 ≤ w.heap.size)
    (hs : w.cell? ⟨Bs, 0, none⟩ = some (.slice (some ⟨b, off, none⟩) len cap)) (hnn : w.cell? ⟨Bn, 0, none⟩ = some (.int .i64 2)) :
    SeqStopsK Fence.wide n Try.prog 87 #[.pointer (some ⟨Bs, 0, none⟩), .pointer (some ⟨Bn, 0, none⟩)] (fun x : ChIx len => #[chV b off len x.1]) (MpK N1 N2) (fun xs => ∃ k, len ≤ 2 * k ∧ 2 * k ≤ len + 1 ∧ xs.map (·.1) = List.range k) (fun _ => True) len w := fun l J Jx W hW hJ _ hY h0 =>
  chunk1_in n hn l Bs Bn b off len cap hlc hlen J Jx
    (fun pre x W1 hj hl => (hY pre x W1 hj hl).mono fun e W' h => h.imp (fun h => ⟨h.1, h.2.1, h.2.2 Bs hB1.1 hB1.2, h.2.2 Bn hB2.1 hB2.2⟩) id)
    W hJ ((hW.cell (p := ⟨Bs, 0, none⟩) (Nat.lt_of_lt_of_le hB1.2 hw)).trans hs) ((hW.cell (p := ⟨Bn, 0, none⟩) (Nat.lt_of_lt_of_le hB2.2 hw)).trans hnn) h0
/-- Two runs, or the last one, in a row. -/
def chunkL (rs : List (List Int)) (j : Nat) : List Int := catU (fun i => rs.getD (2 * j + i) []) (chN rs.length j)
def srt (k : Nat) (rs : List (List Int)) (j : Nat) : List Int := (slices_Sort_int_int.f k (chunkL rs j)).getD []
def impl_mergePass.f (k : Nat) (l : List Int) : Option (List Int) :=
  if (0 < l.length ∧ l.length ≤ 12) ∧ ∀ j, j < ((runsU l l.length).length + 1) / 2 → srt k (runsU l l.length) j ≠ [] then some ((List.range (((runsU l l.length).length + 1) / 2)).flatMap (srt k (runsU l l.length))) else none
theorem srt_some {k : Nat} {rs : List (List Int)} {j : Nat} (h : srt k rs j ≠ []) : slices_Sort_int_int.f k (chunkL rs j) = some (srt k rs j) := by
  unfold srt at *
  cases hg : slices_Sort_int_int.f k (chunkL rs j) with
  | none => rw [hg] at h; exact absurd rfl h
  | some r => rfl
theorem srt_mono {k : Nat} {rs : List (List Int)} {j : Nat} (h : srt k rs j ≠ []) : srt (k + 1) rs j = srt k rs j := by
  have h1 := slices_Sort_int_int.mono (chunkL rs j) k _ (srt_some h)
  unfold srt at *
  rw [h1]
  rfl
theorem flatMap_same {f g : Nat → List Int} : ∀ L : List Nat, (∀ x ∈ L, f x = g x) → L.flatMap f = L.flatMap g
  | [], _ => rfl
  | x :: L, h => by rw [List.flatMap_cons, List.flatMap_cons, h x List.mem_cons_self, flatMap_same L (fun y hy => h y (List.mem_cons_of_mem _ hy))]
theorem impl_mergePass.mono : ∀ a0 k, LeO (impl_mergePass.f k a0) (impl_mergePass.f (k + 1) a0) := by
  intro l k r h
  unfold impl_mergePass.f at *
  by_cases hc : (0 < l.length ∧ l.length ≤ 12) ∧ ∀ j, j < ((runsU l l.length).length + 1) / 2 → srt k (runsU l l.length) j ≠ []
  · rw [if_pos hc] at h
    have hc2 : (0 < l.length ∧ l.length ≤ 12) ∧ ∀ j, j < ((runsU l l.length).length + 1) / 2 → srt (k + 1) (runsU l l.length) j ≠ [] := ⟨hc.1, fun j hj => by rw [srt_mono (hc.2 j hj)]; exact hc.2 j hj⟩
    rw [if_pos hc2, ← h]
    congr 1
    exact flatMap_same _ fun j hj => srt_mono (hc.2 j (List.mem_range.1 hj))
  · rw [if_neg hc] at h
    cases h

def mpO (k : Nat) (rs : List (List Int)) (pre : List (ChIx rs.length)) : List Int := pre.flatMap fun x => srt k rs x.1
def MpI (k N0 N1 N2 B3 : Nat) (rs : List (List Int)) (w w1 : World) (pre : List (ChIx rs.length)) (W : World) : Prop :=
  (∃ v, Boxed W B3 36 v ∧ W.ownsRow N0 3 1 v (mpO k rs pre).length ((mpO k rs pre).map (Value.int .i64)) ∧ ∀ q, v.ownBlock = some q → q < N1 ∨ N2 ≤ q) ∧ MpK N1 N2 w1 W ∧ Below N0 w W ∧ (mpO k rs pre).length ≤ 12 * pre.length
theorem MpI.own {k N0 N1 N2 B3 : Nat} {rs : List (List Int)} {w w1 : World} (hN0 : N0 ≤ w.heap.size) (hN2 : N2 = w1.heap.size) (h02 : N0 ≤ N2) : OwnFrom w1.heap.size (MpI k N0 N1 N2 B3 rs w w1) := by
  intro s W W' row hs hg hr
  obtain ⟨h1, h2, h3, h4'⟩ := hs
  refine ⟨(Own.from (holdsRow_own N0 B3 36 3 1 (fun pre => (mpO k rs pre).length) (fun pre => (mpO k rs pre).map (Value.int .i64)) (fun _ v => ∀ q, v.ownBlock = some q → q < N1 ∨ N2 ≤ q)) w1.heap.size) s W W' row h1 hg hr, fun x hx1 hx2 => ?_, ownFrom_below (n₀ := N0) (B := w1.heap.size) hN0 (by omega) s W W' row h3 hg hr, h4'⟩
  have hx := h2 x hx1 hx2
  have hlt : x < W.heap.size := by
    have h4 : x < w1.heap.size := by omega
    rw [Array.getElem?_eq_getElem h4] at hx
    exact (Array.getElem?_eq_some_iff.1 hx).1
  refine (hg.block x hlt ?_).trans hx
  intro e
  have := (hr x e.symm).1
  omega
set_option maxRecDepth 100000 in
set_option maxHeartbeats 16000000 in
theorem impl_mergePass.calls (k : Nat) (A0 : Option Addr) (c0 : Nat) (l0 : List Int) (r : List Int) (w : World) (hr0 : Kd.C (Kd.int .i64) w A0 l0.length l0) (hc0 : l0.length ≤ c0) (h : impl_mergePass.f k l0 = some r) :
    Calls Try.prog 60 #[.slice A0 l0.length c0] w fun e w' => ∃ v0_ : Value, e = .returned (v0_) ∧ Kd.R (Kd.int .i64) 3 w' w.heap.size (fun _ => True) v0_ r ∧ Below w.heap.size w w' := by
  unfold impl_mergePass.f at h
  by_cases hc : (0 < l0.length ∧ l0.length ≤ 12) ∧ ∀ j, j < ((runsU l0 l0.length).length + 1) / 2 → srt k (runsU l0 l0.length) j ≠ []
  · rw [if_pos hc] at h
    obtain rfl := Option.some.inj h
    clear h
    obtain ⟨⟨hl0, hl1⟩, hne⟩ := hc
    have hrf : impl_runs.f l0 = some (runsU l0 l0.length) := by
      unfold impl_runs.f
      rw [if_pos (by omega)]
    have hrl := runsU_len l0 l0.length
    have hrp : 0 < (runsU l0 l0.length).length := by
      obtain ⟨m, hm⟩ : ∃ m, l0.length = m + 1 := ⟨l0.length - 1, by omega⟩
      rw [hm]
      simp only [runsU, runStep_len]
      rcases Nat.eq_zero_or_pos m with rfl | hm0
      · simp [runNew, runsU]
      · exact runsU_pos l0 m hm0
    generalize runsU l0 l0.length = rs at *
    refine (callsIn_wide (n := 3)).1 ?_
    refine callsIn_of_wp_marks Try.func60 rfl trivial ?_ rfl
    simp only [Try.ntmps60, List.size_toArray, List.length_cons, List.length_nil, Nat.reduceAdd, Nat.reduceSub, Array.replicate_succ, Array.replicate_zero, List.push_toArray, List.append_toArray, List.nil_append, List.cons_append]
    gi_upto_region 2 with fail
    obtain ⟨wB, hwB⟩ : ∃ wB, wB = (w.alloc (.cells #[] 3)).alloc (.cells #[.slice (some ⟨w.heap.size, 0, none⟩) 0 0] 36) := ⟨_, rfl⟩
    have hszB : wB.heap.size = w.heap.size + 2 := by rw [hwB]; simp
    have hbB : Below w.heap.size w wB := by rw [hwB]; exact ((Below.refl _ w).alloc (Nat.le_refl _) _).alloc (by simp) _
    have hvB : Boxed wB (w.heap.size + 1) 36 (.slice (some ⟨w.heap.size, 0, none⟩) 0 0) := by
      rw [hwB]
      have := Boxed.new (w.alloc (.cells #[] 3)) 36 (.slice (some ⟨w.heap.size, 0, none⟩) 0 0)
      rwa [World.size_alloc] at this
    have hgB : wB.heap[w.heap.size]? = some (.cells #[] 3 (0, 0)) := by
      rw [hwB]
      exact (Below.heap_alloc _ _ _ (by simp)).trans (World.alloc_heap_new w _)
    have hrB : wB.ownsRow w.heap.size 3 1 (.slice (some ⟨w.heap.size, 0, none⟩) 0 0) 0 [] := ⟨rfl, .inr ⟨w.heap.size, 0, #[], rfl, Nat.le_refl _, hgB, Nat.le_refl _, by decide, rfl, rfl⟩⟩
    rw [← hwB]
    clear hwB
    gi_wp2_with (first
      | (refine ⟨trivial, ?_⟩; gi_at_call 77; refine (callsIn_wide.2 (impl_runs.calls A0 c0 l0 rs wB (Kd.C_below hr0 hbB) hc0 hrf)).mono ?_; rintro e wR ⟨vr, rfl, hS, hbR⟩; obtain ⟨go, cr, rfl, hgo, hgl, _⟩ := Kd.S_form hS hrp)
      | (refine ⟨trivial, ?_⟩; gi_at_call 76; refine (Chunk_in (3 - 1) (some ⟨go, 0, none⟩) rs.length cr wR).mono ?_; rintro e w1 ⟨rfl, hw1⟩))
    have hsz1 : w1.heap.size = wR.heap.size + 2 := by rw [hw1]; simp
    have hbR1 : Below wR.heap.size wR w1 := by rw [hw1]; exact ((Below.refl _ wR).alloc (Nat.le_refl _) _).alloc (by simp) _
    have hBs : Boxed w1 wR.heap.size 27 (.slice (some ⟨go, 0, none⟩) rs.length cr) := by rw [hw1]; exact (Boxed.new wR _ _).alloc _
    have hBn : Boxed w1 (wR.heap.size + 1) 3 (.int .i64 2) := by
      rw [hw1]
      have := Boxed.new (wR.alloc (.cells #[.slice (some ⟨go, 0, none⟩) rs.length cr] 27)) 3 (.int .i64 2)
      rwa [World.size_alloc] at this
    rw [← hw1]
    clear hw1
    have hszR := hbR.size
    obtain ⟨_, hlc, _⟩ := Kd.S_reads' hS
    have hS1 : Kd.S (Kd.slice 3 (Kd.int .i64)) 36 w1 wB.heap.size (fun q => wB.heap.size ≤ q ∧ q < w1.heap.size) (.slice (some ⟨go, 0, none⟩) rs.length cr) rs := Kd.S_mono (Kd.S_bound (Kd.S_below hS hbR1)) (fun q hq => ⟨hq.2.1, hq.2.2.1⟩)
    have hbB1 : Below wB.heap.size wB w1 := hbR.trans (hbR1.mono hszR)
    obtain ⟨i0, hi0, hz0, hsz0, hby0⟩ := info_parts info3
    refine wpIn_rangeFunc_ownF rfl (by omega) (gf := 87) (lb := #[.pointer (some ⟨wR.heap.size, 0, none⟩), .pointer (some ⟨wR.heap.size + 1, 0, none⟩)]) rfl trivial (enters_of Try.func87 (by kernel_rfl) rfl)
      (chunk_stops (3 - 1) (by omega) wB.heap.size w1.heap.size wR.heap.size (wR.heap.size + 1) go 0 rs.length cr hlc (by omega) w1 ⟨hszR, by omega⟩ ⟨by omega, by omega⟩ (Nat.le_refl _) hBs.cell hBn.cell) (fun h q => MpK.trans h q) ?hKb (Below.refl _ _) (fun _ => rfl)
      (MpI k w.heap.size wB.heap.size w1.heap.size (w.heap.size + 1) rs w w1) (fun _ _ _ => False) (MpI.own (Nat.le_refl _) rfl (by omega)) (fun _ _ _ _ _ h _ _ => h) ?h0
      (fun x => { tmps := #[.slice A0 l0.length c0, undef, .slice none 0 0, .pointer (some ⟨w.heap.size + 1, 0, none⟩), chV go 0 rs.length x.1, undef, .slice (some ⟨w.heap.size, 0, none⟩) 0 0, .slice A0 l0.length c0, .slice (some ⟨go, 0, none⟩) rs.length cr, .func (.func 87) #[] #[.pointer (some ⟨wR.heap.size, 0, none⟩), .pointer (some ⟨wR.heap.size + 1, 0, none⟩)], chV go 0 rs.length x.1, undef, undef, undef, undef, undef, undef, undef, undef], defers := [] }) ?assign ?body ?done ?stop
    case hKb =>
      intro W l o o' hl ho h1 h2 q hq1 hq2
      exact World.putObj_heap_other (by omega)
    case h0 =>
      refine ⟨⟨.slice (some ⟨w.heap.size, 0, none⟩) 0 0, (hbB1.block _ hvB.lt).trans hvB, ?_, fun q hq => .inl (by simp [Value.ownBlock] at hq; omega)⟩, fun q _ _ => rfl, hbB.trans (hbB1.mono (by omega)), Nat.le_refl _⟩
      exact ⟨rfl, .inr ⟨w.heap.size, 0, #[], rfl, Nat.le_refl _, (hbB1.block _ (by omega)).trans hgB, Nat.le_refl _, by decide, rfl, rfl⟩⟩
    case assign =>
      intro l x W K hK
      gi_wp2
      exact hK
    case stop =>
      rintro D c pre W _ _ h _
      exact h.elim
    case done =>
      rintro D ys W hD ⟨kk, hk1, hk2, hmap⟩ ⟨⟨v, hv, hrow, hvo⟩, hsame, hBW, _⟩ hK
      have hc := hv.cell
      gi_wp2
      refine ⟨by simp, .inl ⟨_, _, rfl, run_takeDeferred hK, ?_⟩⟩
      refine ⟨_, results_tmp rfl _ _ _, ?_⟩
      have hkk : kk = (rs.length + 1) / 2 := by omega
      have hr : mpO k rs ys = (List.range ((rs.length + 1) / 2)).flatMap (srt k rs) := by
        rw [← hkk, ← hmap, List.flatMap_map]
        rfl
      rw [hr] at hrow
      have hpo := grownBy_putObj' W D (.deferred none)
      have hne2 : v.ownBlock = none ∨ v.ownBlock ≠ some D := by
        refine .inr fun e => ?_
        obtain ⟨cells, hcl⟩ := own_typed hrow D e
        rw [hcl] at hK
        cases hK
      refine ⟨v, rfl, Kd.R_of_own (hrow.kept hpo hne2) (fun _ _ => trivial), hBW.grown hpo hBW.size (fun q e => by cases e; omega)⟩
    case body =>
      rintro l pre x W ⟨⟨v, hv, hrow, hvo⟩, hsame, hBW, hol⟩ hlen
      have hszW : w1.heap.size ≤ W.heap.size := by
        have h1 := hsame (w1.heap.size - 1) (by omega) (by omega)
        rw [Array.getElem?_eq_getElem (show w1.heap.size - 1 < w1.heap.size by omega)] at h1
        have := (Array.getElem?_eq_some_iff.1 h1).1
        omega
      have hSW := Kd.S_move hS1 (fun q hq => hsame q hq.1 hq.2)
      have hx := x.2
      have hnx : srt k rs x.1 ≠ [] := hne x.1 (by omega)
      have hso := srt_some hnx
      have hN0 : chN rs.length x.1 ≤ 2 := by unfold chN; split <;> omega
      have hN1 : 2 * x.1 + chN rs.length x.1 ≤ rs.length := by unfold chN; split <;> omega
      have hcl : (chunkL rs x.1).length ≤ 12 := by
        by_cases hcl : (chunkL rs x.1).length ≤ 12
        · exact hcl
        · unfold slices_Sort_int_int.f at hso
          rw [if_neg hcl] at hso
          cases hso
      have hch : chunkL rs x.1 = catU (fun i => rs.getD (2 * x.1 + i) []) (chN rs.length x.1) := rfl
      have each : ∀ i, ∃ p : Option Addr × Nat, i < chN rs.length x.1 → W.cell? ((Addr.mk go (2 * x.1) none).add i) = some (.slice p.1 (rs.getD (2 * x.1 + i) []).length p.2) ∧ Kd.C (Kd.int .i64) W p.1 (rs.getD (2 * x.1 + i) []).length (rs.getD (2 * x.1 + i) []) := by
        intro i
        by_cases hi : i < chN rs.length x.1
        · obtain ⟨ce, hce, ⟨ve, rfl, hR⟩, hcc⟩ := Kd.S_get hSW [] ((2 * x.1 + i : Nat) : Int) (by omega) (by omega)
          rw [Int.toNat_natCast] at hR hcc
          obtain ⟨A, c, rfl, _, hC⟩ := Kd.R_reads hR
          have h0 := hcc 0 _ rfl
          rw [Nat.add_zero, show (Kd.slice 3 (Kd.int .i64)).sz = 1 from rfl, Nat.mul_one] at h0
          refine ⟨(A, c), fun _ => ⟨?_, hC⟩⟩
          have ha : (Addr.mk go (2 * x.1) none).add i = (Addr.mk go 0 none).add (2 * x.1 + i) := by
            have e1 : ∀ n o : Nat, (Addr.mk go o none).add n = Addr.mk go (o + n) none := by
              intro n o
              by_cases hn : n = 0
              · subst hn; simp [Addr.add]
              · simp [Addr.add, hn]
            rw [e1, e1, Nat.zero_add]
          rw [ha]
          exact h0
        · exact ⟨(none, 0), fun h => absurd h hi⟩
      obtain ⟨y, hy⟩ := Classical.axiomOfChoice each
      have hcv : chV go 0 rs.length x.1 = .slice (some ⟨go, 2 * x.1, none⟩) (chN rs.length x.1) (chN rs.length x.1) := by unfold chV; rw [Nat.zero_add]
      rw [hcv]
      clear each hcv hSW
      have HCH := Aside0.mk hch
      clear hch
      generalize hcN : chN rs.length x.1 = N at *
      generalize chunkL rs x.1 = ck at *
      have hgo : mpO k rs (pre ++ [x]) = mpO k rs pre ++ srt k rs x.1 := by simp [mpO]
      generalize mpO k rs pre = o at *
      generalize srt k rs x.1 = s at *
      have hsl : 0 < s.length := List.length_pos_iff.2 hnx
      have hB3 : w.heap.size + 1 < W.heap.size := hv.lt
      gi_upto_region 5 with (first
        | (refine ⟨trivial, ?_⟩; gi_at_call 78; refine (CallsIn.inRound l (callsIn_wide.2 (Concat_n N N (by omega) (Addr.mk go (2 * x.1) none) (fun i => (y i).1) (fun i => (y i).2) (fun i => rs.getD (2 * x.1 + i) []) (by rw [← HCH.out]; omega) W (fun i hi => (hy i hi).1) (fun i hi => (hy i hi).2)))).mono ?_; rintro e wc ⟨vc, rfl, hoc, hbc⟩; rw [← HCH.out] at hoc; obtain ⟨Ac, cc, rfl⟩ := Kd.R_slice hoc))
      gi_upto_region 6 with (first
        | (refine ⟨trivial, ?_⟩; gi_at_call 79; refine (CallsIn.inRound l (callsIn_wide.2 (slices_Sort_int_int.calls k (fun q => some q = (Value.slice Ac ck.length cc).ownBlock) (.slice Ac ck.length cc) ck s W wc hbc (Kd.R_tight rfl hoc) hso))).mono ?_; rintro e w7 ⟨rfl, ho7, hb7, hk7⟩; clear hk7))
      obtain ⟨ad7, c8, e8, hb8, _⟩ := Kd.R_form ho7 hsl
      obtain ⟨_, _, hC7⟩ := Kd.R_reads' ho7
      injection e8 with e81 e82 e83
      subst e81
      have hs12 : s.length ≤ 12 := by omega
      have hnews : ∀ (j : Nat) (u : Value), (s.map (Value.int .i64))[j]? = some u → w7.cell? ((Addr.mk ad7 0 none).add j) = some u := by
        intro j u hu
        rw [List.getElem?_map, Option.map_eq_some_iff] at hu
        obtain ⟨z, hz, rfl⟩ := hu
        obtain ⟨ad9, ea, hcc⟩ := hC7.2.2 hsl
        injection ea with ea
        subst ea
        obtain ⟨cz, hcz, rfl, hc9⟩ := hcc j z hz
        have h9 := hc9 0 _ rfl
        rw [show j * (Kd.int .i64).sz + 0 = j by show j * 1 + 0 = j; omega] at h9
        exact h9
      have hv7 : Boxed w7 (w.heap.size + 1) 36 v := (hb7.block _ hB3).trans hv
      have hc7 := hv7.cell
      have hrow7 := own_move hrow (fun q hq => hb7.block q (own_lt hrow q hq))
      have hsz7 := hb7.size
      have hml : maxLen = 9223372036854775807 := rfl
      have HC7 := Aside0.mk hC7
      clear hC7 ho7 hoc hbc hy
      gi_wp2_with (first
        | (gi_at_builtin; refine wpListIn_append_own_at _ rfl (.tmp 15) (.tmp 16) 36 rfl w.heap.size 3 i0 (.int .i64 0) 1 8 Try.underlying36 hi0 hz0 hsz0 hby0 rfl (by decide) v o.length (o.map (Value.int .i64)) rfl hrow7 ⟨ad7, 0, none⟩ ck.length cc (s.map (Value.int .i64)) rfl (by rw [List.length_map]; omega) hnews (fun u hu => by obtain ⟨z, _, rfl⟩ := List.mem_map.1 hu; rfl) (by omega) (by omega) (by omega) ?_; intro v8 w8 hown8 hgrow8 _ hat8; obtain ⟨g8, cap8, rfl, _⟩ := hown8.form (by omega); have hv8 : Boxed w8 (w.heap.size + 1) 36 v := hv7.kept hgrow8 (hv7.not_row (by decide) hrow7); have hc8 := hv8.cell; have hf8 := hv8.frozen))
      rw [e82] at hown8 hat8
      obtain ⟨v8, hv8e⟩ : ∃ v8, v8 = Value.slice (some ⟨g8, 0, none⟩) (o.length + s.length) cap8 := ⟨_, rfl⟩
      rw [← hv8e] at hown8 hat8 ⊢
      have hK1 : KeepsOthers W w7 := ⟨hb7.size, fun q o' hq _ => (hb7.block q (Array.getElem?_eq_some_iff.1 hq).1).trans hq⟩
      have hK2 : KeepsOthers w7 w8 := KeepsOthers.of_grownBy hgrow8 (fun j o' ej hj => by obtain ⟨cells, hcl⟩ := own_typed hrow7 j ej; rw [hcl] at hj; cases hj; rfl)
      have hM : MpK wB.heap.size w1.heap.size W (w8.setCell ⟨w.heap.size + 1, 0, none⟩ v8) := by
        intro q hq1 hq2
        rw [Below.heap_setCell w8 ⟨w.heap.size + 1, 0, none⟩ v8 q (by show q ≠ w.heap.size + 1; omega), hgrow8.block q (by omega) (fun e => by have := hvo q e.symm; omega)]
        exact hb7.block q (by omega)
      refine ⟨(hK1.trans hK2).trans (KeepsOthers.setCell _ _ _), hM, ⟨v8, hv8.set v8, ?_, ?_⟩, hsame.trans hM, ?_, ?_⟩
      · rw [hgo, List.length_append, List.map_append]
        exact hown8.kept (grownBy_setCell' w8 (w.heap.size + 1) v8) (.inr (hv8.not_row (by decide) hown8).symm)
      · intro q hq
        rcases hat8 with h8 | h8
        · exact hvo q (h8.symm.trans hq)
        · have := Option.some.inj (h8.symm.trans hq)
          omega
      · exact ((hBW.trans (hb7.mono hBW.size)).grown hgrow8 (by have := hBW.size; omega) (fun q e => own_base hrow7 q e)).setCell (p := ⟨w.heap.size + 1, 0, none⟩) (by show w.heap.size ≤ w.heap.size + 1; omega) _
      · rw [hgo]
        simp
        omega
  · rw [if_neg hc] at h
    cases h

end Go.Proofs.Yteccmfcmkghbgaa.Xq
