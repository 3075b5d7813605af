/- slices.Grow of nothing and slices.Concat of three lists, at []int. -/
import Derived.Test.YteccmfcmkghbgaaZqXq0
import Derived.OneCell
import Derived.Lib.SliceRun
import Derived.Lib.AppendZeros
import Derived.Laws.AppendOwn
import Derived.Shelf.Abstract
import Derived.Outline
namespace Go.Proofs.Yteccmfcmkghbgaa.Xq
open Go.RowKit Go.Proofs.YteccmfcmkghbgaaW.PrintWords Go.Proofs.YteccmfcmkghbgaaW.PrintLast Go.Proofs.YteccmfcmkghbgaaW.PrintMore
attribute [local go_sem] max2_int min2_int max_two min_two max_three min_three max_four min_four
set_option linter.unusedVariables false
set_option linter.unusedSimpArgs false
def slices_Concat_int_int.f (L : List (List Int)) : Option (List Int) := some L.flatten
set_option maxHeartbeats 8000000 in
set_option maxRecDepth 100000 in
theorem Grow_nil (n : Nat) (hn : n ≤ 1000) (w : World) :
    Calls Try.prog 88 #[.slice none 0 0, .int .i64 (n : Int)] w fun e w' => ∃ v0_ : Value, e = .returned v0_ ∧ Kd.R (Kd.int .i64) 3 w' w.heap.size (fun _ => True) v0_ [] ∧ Below w.heap.size w w' := by
  have d1 : decide ((n : Int) < 0) = false := decide_eq_false (by omega)
  have e1 : wrap64 ((n : Int) - 0) = (n : Int) := by unfold wrap64; omega
  rcases Nat.eq_zero_or_pos n with h0 | h0
  · subst h0
    clear d1 e1
    go_enter Try.func88, Try.ntmps88
    go_wp2
    go_ret
    exact ⟨_, rfl, Kd.R_nil _ _ _ _ _, Below.refl _ _⟩
  · obtain ⟨i0, hi0, hz0, hsz0, hby0⟩ := info_parts info3
    have hr := fun ty => Lib.run_append_nil_zeros (P := Try.prog) w 36 3 ty 3 i0 (.int .i64 0) .i64 .i64 Try.underlying36 Try.underlying3 hi0 hz0 n h0 (by omega) (by omega) (by rw [hby0]; omega)
    have hge := grownCap_ge w n 0 3
    have hle := grownCap_le_maxLen w n 0 3 (by show n ≤ 9223372036854775807; omega)
    obtain ⟨cap, hcap⟩ : ∃ cap, cap = grownCap w n 0 3 := ⟨_, rfl⟩
    rw [← hcap] at hr hge hle
    obtain ⟨w2, hw2⟩ : ∃ w2, w2 = w.drew.alloc (.cells (Builtin.zeroCells (Value.int .i64 0).cells n ++ Builtin.zeroCells (Value.int .i64 0).cells (cap - n)) 3) := ⟨_, rfl⟩
    rw [← hw2] at hr
    have hblk : w2.heap[w.heap.size]? = some (.cells (Builtin.zeroCells (Value.int .i64 0).cells n ++ Builtin.zeroCells (Value.int .i64 0).cells (cap - n)) 3 (0, 0)) := by rw [hw2]; exact blk_new w.drew _
    have hB : Below w.heap.size w w2 := by rw [hw2]; exact below_alloc (below_drew (Below.refl _ _)) _
    have HBLK := Aside0.mk hblk
    have HB := Aside0.mk hB
    have HR := Aside0.mk hr
    have HGE := Aside0.mk hge
    have HLE := Aside0.mk hle
    have d2 : decide ((0 : Int) < (n : Int)) = true := decide_eq_true (by omega)
    clear hr hge hle hcap hw2 hblk hB hi0 hz0 hsz0 hby0
    go_enter Try.func88, Try.ntmps88
    go_wp2_with (at_builtin; refine Lib.wpList_append_run _ rfl (.tmp 20) (.tmp 21) 36 3 rfl _ _ rfl rfl _ _ (HR.out _) ?_)
    go_ret
    refine ⟨_, rfl, Kd.R_of_own ⟨rfl, .inr ⟨w.heap.size, cap, _, rfl, Nat.le_refl _, HBLK.out, Nat.zero_le _, HLE.out, ?_, ?_⟩⟩ (fun _ _ => trivial), HB.out⟩
    · have hs : (Value.int IntKind.i64 0).cells.size = 1 := rfl
      simp [Builtin.zeroCells, hs]
      have := HGE.out
      omega
    · simp
      rfl
/-- The lists ahead of the i-th, one behind the other. -/
def catU (l : Nat → List Int) : Nat → List Int
  | 0 => []
  | i + 1 => catU l i ++ l i
theorem catU_mono (l : Nat → List Int) (i : Nat) : (catU l i).length ≤ (catU l (i + 1)).length := by simp [catU]
set_option maxHeartbeats 8000000 in
set_option maxRecDepth 100000 in
theorem Concat_three (ad : Addr) (A : Nat → Option Addr) (c : Nat → Nat) (l : Nat → List Int) (hlen : (catU l 3).length ≤ 1000) (w : World) (hcell : ∀ i, i < 3 → w.cell? (ad.add i) = some (.slice (A i) (l i).length (c i))) (hC : ∀ i, i < 3 → Kd.C (Kd.int .i64) w (A i) (l i).length (l i)) :
    Calls Try.prog 78 #[.slice (some ad) 3 3] w fun e w' => ∃ v0_ : Value, e = .returned v0_ ∧ Kd.R (Kd.int .i64) 3 w' w.heap.size (fun _ => True) v0_ (catU l 3) ∧ Below w.heap.size w w' := by
  have HCELL := Aside0.mk hcell
  have HC := Aside0.mk hC
  have HLEN := Aside0.mk hlen
  have hbnd : ∀ i, i ≤ 3 → (catU l i).length ≤ 1000 := by
    intro i hi
    have a : (catU l 0).length ≤ (catU l 1).length := catU_mono l 0
    have b : (catU l 1).length ≤ (catU l 2).length := catU_mono l 1
    have c : (catU l 2).length ≤ (catU l 3).length := catU_mono l 2
    have : i = 0 ∨ i = 1 ∨ i = 2 ∨ i = 3 := by omega
    rcases this with rfl | rfl | rfl | rfl <;> omega
  have HBND := Aside0.mk hbnd
  clear hcell hC hlen hbnd
  go_enter Try.func78, Try.ntmps78
  go_wp2
  go_loopg [3, 11] 3 (fun kq v3 v11 wr => ∃ (i : Nat), v3 = .int .i64 ((catU l i).length : Int) ∧ v11 = .int .i64 (i : Int) ∧ Aside0 (i + kq = 3) ∧ Aside0 (wr = w))
  case atStart => exact ⟨0, rfl, rfl, ⟨rfl⟩, ⟨rfl⟩⟩
  case round =>
    obtain ⟨i, rfl, rfl, HK, HW⟩ := hrel
    by_cases hi : i < 3
    · obtain ⟨k1, hk1⟩ : ∃ k1, gk = k1 + 1 := ⟨gk - 1, by have := HK.out; omega⟩
      subst hk1
      have hc : wr.cell? (ad.add i) = some (.slice (A i) (l i).length (c i)) := by rw [HW.out]; exact HCELL.out i hi
      have d1 : decide ((i : Int) < 3) = true := decide_eq_true (by omega)
      have d2 : decide (i < 3) = true := decide_eq_true hi
      have d3 : decide (0 ≤ (i : Int)) = true := decide_eq_true (by omega)
      have hb := HBND.out (i + 1) (by omega)
      have es : (catU l (i + 1)).length = (catU l i).length + (l i).length := by simp [catU]
      have E1 := Aside0.mk (show wrap64 ((i : Int) + 1) = ((i + 1 : Nat) : Int) by unfold wrap64; omega)
      have e2 : wrap64 (((catU l i).length : Int) + ((l i).length : Int)) = ((catU l i).length : Int) + ((l i).length : Int) := by rw [es] at hb; unfold wrap64; omega
      have d4 : decide (((catU l i).length : Int) + ((l i).length : Int) < 0) = false := decide_eq_false (by omega)
      have ES := Aside0.mk es
      have E2 := Aside0.mk e2
      clear hb es
      generalize (catU l i).length = q at e2 d4 ES E2
      generalize A i = Ai at hc
      generalize c i = ci at hc
      generalize (l i).length = li at hc e2 d4 ES E2
      go_wp2
      go_roundg k1
      case measure => omega
      case rel => exact ⟨i + 1, by rw [ES.out]; first | rfl | (simp; done) | (simp; exact E2.out) | (rw [E2.out]; simp), by first | rw [E1.out] | simp, ⟨by have := HK.out; omega⟩, ⟨HW.out⟩⟩
    · obtain rfl : i = 3 := by have := HK.out; omega
      have hb := HBND.out 3 (by omega)
      have HQ := Aside0.mk hb
      generalize hq : (catU l 3).length = q at hb HQ
      go_wp2_with (go_at_call 88; (refine (Grow_nil q HQ.out _).mono ?_); rintro e w6 ⟨v6, rfl, ho, hb⟩; rw [HW.out] at ho hb; have HO6 := Aside0.mk ho; have HB6 := Aside0.mk hb; clear ho hb)
      go_loopg [6, 27] 3 (fun kq v6 v27 w2 => ∃ (i : Nat), v27 = .int .i64 (i : Int) ∧ Aside0 (i + kq = 3) ∧ Aside0 (Kd.R (Kd.int .i64) 3 w2 w.heap.size (fun _ => True) v6 (catU l i)) ∧ Aside0 (Below w.heap.size w w2))
      case atStart => exact ⟨0, rfl, ⟨rfl⟩, HO6, HB6⟩
      case round =>
        clear HO6 HB6
        obtain ⟨i, rfl, HK, HO, HB⟩ := hrel
        by_cases hi : i < 3
        · obtain ⟨k1, hk1⟩ : ∃ k1, gk = k1 + 1 := ⟨gk - 1, by have := HK.out; omega⟩
          subst hk1
          have hc0 := HCELL.out i hi
          have hc := (HB.out.cell (World.block_lt_of_cell? _ _ hc0)).trans hc0
          have HCI := Aside0.mk (Kd.C_below (HC.out i hi) HB.out)
          have d1 : decide ((i : Int) < 3) = true := decide_eq_true (by omega)
          have d2 : decide (i < 3) = true := decide_eq_true hi
          have d3 : decide (0 ≤ (i : Int)) = true := decide_eq_true (by omega)
          have E1 := Aside0.mk (show wrap64 ((i : Int) + 1) = ((i + 1 : Nat) : Int) by unfold wrap64; omega)
          have HL := Aside0.mk (show (catU l i).length + (l i).length ≤ 1000 by have := HBND.out (i + 1) (by omega); simp only [catU, List.length_append] at this; exact this)
          clear hc0
          go_wp2_with (first
            | ((with_reducible refine gate_builtin (b := .append) (xs := #[.tmp 31, .tmp 32]) rfl ?_); at_builtin; refine Kd.R_append_rows (Kd.int .i64) (w0 := w) w.heap.size rfl (.tmp 31) (.tmp 32) 36 3 (.int .i64 0) 8 rfl Try.underlying36 info3 rfl (by decide) (by omega) u6 (catU l i) (l i) _ _ _ (fun _ => True) (fun _ => False) rfl rfl ?aO ?aR (fun _ _ h => h) (fun _ h => h.elim) ?aF ?aB ?aS ?aL ?_; (case aR => exact HCI.out); (case aB => exact HB.out); (case aF => exact fun _ _ => trivial); (case aO => exact HO.out); (case aS => exact HB.out.size); (case aL => have := HL.out; omega); intro v7 w7 ho7 hb7 hg hat; have HO7 := Aside0.mk ho7; have HB7 := Aside0.mk hb7; clear ho7 hb7 hg hat))
          go_roundg k1
          case measure => omega
          case rel => exact ⟨i + 1, by first | rw [E1.out] | simp, ⟨by have := HK.out; omega⟩, HO7, HB7⟩
        · obtain rfl : i = 3 := by have := HK.out; omega
          go_wp2
          go_ret
          exact ⟨_, rfl, HO.out, HB.out⟩

end Go.Proofs.Yteccmfcmkghbgaa.Xq
