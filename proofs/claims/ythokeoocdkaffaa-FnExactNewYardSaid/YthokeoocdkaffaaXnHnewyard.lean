/- The yard in whose line an order waits: the reference and the program. -/
import Derived.Test.YthokeoocdkaffaaXn0
import Derived.Test.YthokeoocdkaffaaXn1
import Derived.Test.YthokeoocdkaffaaXn2
import Derived.Test.YthokeoocdkaffaaXnHarr7
import Derived.Test.YthokeoocdkaffaaXnHyard
import Derived.OneCell
import Derived.BigQuiet
import Derived.Deep.QuietTactic
import Derived.RegionTactic
import Derived.BigRegion
namespace Go.Proofs.Ythokeoocdkaffaa.Xn
open Go.RowKit Go.Proofs.YthokeoocdkaffaaW.PrintWords Go.Proofs.YthokeoocdkaffaaW.PrintLast Go.Proofs.YthokeoocdkaffaaW.PrintMore
attribute [local go_sem] max2_int min2_int max_two min_two max_three min_three max_four min_four
set_option linter.unusedVariables false
set_option linter.unusedSimpArgs false
def spec_NewYard.f (k : Nat) (l0 : List Int) : Option (Int × Int × Int × Int × Int × Int × Int × Int × Int × Int × Int × Int × Int × Int × Int × Int × Int × Int × Int × Int × Int × Int × Bool) := (spec_l2Order.f k l0).bind fun t => if t = true then some ((rd l0 0), (rd l0 1), (rd l0 2), (rd l0 3), (rd l0 4), (rd l0 5), (rd l0 6), 0, 0, 0, 0, 0, 0, 0, 0, 0, 0, 0, 0, 0, 0, 0, true) else some (0, 0, 0, 0, 0, 0, 0, 0, 0, 0, 0, 0, 0, 0, 0, 0, 0, 0, 0, 0, 0, 0, false)
theorem spec_NewYard.mono : ∀ a0 k, LeO (spec_NewYard.f k a0) (spec_NewYard.f (k + 1) a0) := fun a0 k => LeO.bind (spec_l2Order.mono _ _) fun _ => LeO.refl _
set_option maxHeartbeats 8000000 in
set_option maxRecDepth 100000 in
theorem spec_NewYard.calls (k : Nat) (A0 : Option Addr) (c0 : Nat) (l0 : List Int) (r1 r2 r3 r4 r5 r6 r7 r8 r9 r10 r11 r12 r13 r14 r15 r16 r17 r18 r19 r20 r21 r22 : Int) (r23 : Bool) (w : World) (hr0 : Kd.C (Kd.int .i64) w A0 l0.length l0) (hc0 : l0.length ≤ c0) (h : spec_NewYard.f k l0 = some (r1, r2, r3, r4, r5, r6, r7, r8, r9, r10, r11, r12, r13, r14, r15, r16, r17, r18, r19, r20, r21, r22, r23)) :
    Calls Try.prog 9 #[.slice A0 l0.length c0] w fun e w' => e = .returned (.tuple #[.agg #[.int .i64 r1, .int .i64 r2, .int .i64 r3, .int .i64 r4, .int .i64 r5, .int .i64 r6, .int .i64 r7, .int .i64 r8, .int .i64 r9, .int .i64 r10, .int .i64 r11, .int .i64 r12, .int .i64 r13, .int .i64 r14, .int .i64 r15, .int .i64 r16, .int .i64 r17, .int .i64 r18, .int .i64 r19, .int .i64 r20, .int .i64 r21, .int .i64 r22], .bool r23]) ∧ Below w.heap.size w w' := by
  have hu := Try.underlying25
  have hi : (Try.prog.info? 25).map (·.size) = some 22 := by kernel_rfl
  obtain ⟨t, ht, h⟩ := Option.bind_eq_some_iff.1 h
  have HT := Aside0.mk ht
  have HR0 := Aside0.mk hr0
  have HC0 := Aside0.mk hc0
  have Z1 := Aside0.mk (blk_new w (.cells #[.int .i64 0, .int .i64 0, .int .i64 0, .int .i64 0, .int .i64 0, .int .i64 0, .int .i64 0, .int .i64 0, .int .i64 0, .int .i64 0, .int .i64 0, .int .i64 0, .int .i64 0, .int .i64 0, .int .i64 0, .int .i64 0, .int .i64 0, .int .i64 0, .int .i64 0, .int .i64 0, .int .i64 0, .int .i64 0] 25))
  have HB := Aside0.mk (below_alloc (Below.refl w.heap.size w) (.cells #[.int .i64 0, .int .i64 0, .int .i64 0, .int .i64 0, .int .i64 0, .int .i64 0, .int .i64 0, .int .i64 0, .int .i64 0, .int .i64 0, .int .i64 0, .int .i64 0, .int .i64 0, .int .i64 0, .int .i64 0, .int .i64 0, .int .i64 0, .int .i64 0, .int .i64 0, .int .i64 0, .int .i64 0, .int .i64 0] 25))
  clear ht hr0 hc0
  cases t with
  | true =>
    have h' := Option.some.inj h
    simp only [↓reduceIte, Prod.mk.injEq] at h'
    obtain ⟨rfl, rfl, rfl, rfl, rfl, rfl, rfl, rfl, rfl, rfl, rfl, rfl, rfl, rfl, rfl, rfl, rfl, rfl, rfl, rfl, rfl, rfl, rfl⟩ := h'
    clear h
    go_enter Try.func9, Try.ntmps9
    go_wp2_with (first
      | (go_at_call 32; (with_reducible refine (spec_l2Order.calls k A0 c0 l0 true _ ?_ HC0.out HT.out).mono ?_); (first | exact (Kd.C_below HR0.out HB.out)); rintro e w5 ⟨rfl, ⟨nd, rfl⟩⟩)
      | (go_at_call 33; (refine (spec_l12Array_walk A0 c0 l0 _ ?_ HC0.out).mono ?_); (repeat (first | exact (Kd.C_below HR0.out HB.out) | (with_reducible refine Kd.C_drewN ?_ _) | (with_reducible refine Kd.C_drew ?_))); rintro e w6 ⟨rfl, hb⟩; have Z6 := Aside0.mk ((hb.block _ (lt_of_block Z1.out)).trans Z1.out); have B6 := Aside0.mk (below_step (pw_below_drewN HB.out _) hb); clear hb)
      | ((with_reducible refine gate_store (t := 25) (p := 2) rfl ?_); refine store_row_event rfl rfl 25 (.tmp 2) (.tmp 10) rfl w.heap.size #[.int .i64 (rd l0 0), .int .i64 (rd l0 1), .int .i64 (rd l0 2), .int .i64 (rd l0 3), .int .i64 (rd l0 4), .int .i64 (rd l0 5), .int .i64 (rd l0 6), .int .i64 0, .int .i64 0, .int .i64 0, .int .i64 0, .int .i64 0, .int .i64 0, .int .i64 0, .int .i64 0, .int .i64 0, .int .i64 0, .int .i64 0, .int .i64 0, .int .i64 0, .int .i64 0, .int .i64 0] rfl rfl 25 _ Z6.out hi rfl (by kernel_rfl) ?_; intro w7 hh ho; have Y7 := Aside0.mk hh; have B7 := Aside0.mk (ho.below B6.out (Nat.le_refl _)); clear hh ho))
    refine bodyPost_ret (v := .tuple #[.agg #[.int .i64 (rd l0 0), .int .i64 (rd l0 1), .int .i64 (rd l0 2), .int .i64 (rd l0 3), .int .i64 (rd l0 4), .int .i64 (rd l0 5), .int .i64 (rd l0 6), .int .i64 0, .int .i64 0, .int .i64 0, .int .i64 0, .int .i64 0, .int .i64 0, .int .i64 0, .int .i64 0, .int .i64 0, .int .i64 0, .int .i64 0, .int .i64 0, .int .i64 0, .int .i64 0, .int .i64 0], .bool true]) ?_ rfl ?_
    · exact results_list (rs := [.cell 2 25, .tmp 3]) rfl (by simp) (.cell w.heap.size 25 #[.int .i64 (rd l0 0), .int .i64 (rd l0 1), .int .i64 (rd l0 2), .int .i64 (rd l0 3), .int .i64 (rd l0 4), .int .i64 (rd l0 5), .int .i64 (rd l0 6), .int .i64 0, .int .i64 0, .int .i64 0, .int .i64 0, .int .i64 0, .int .i64 0, .int .i64 0, .int .i64 0, .int .i64 0, .int .i64 0, .int .i64 0, .int .i64 0, .int .i64 0, .int .i64 0, .int .i64 0] (0, 0) _ rfl Y7.out hu rfl (by kernel_rfl) (.tmp .nil))
    · exact ⟨rfl, B7.out⟩
  | false =>
    have h' := Option.some.inj h
    simp only [Bool.false_eq_true, ↓reduceIte, Prod.mk.injEq] at h'
    obtain ⟨rfl, rfl, rfl, rfl, rfl, rfl, rfl, rfl, rfl, rfl, rfl, rfl, rfl, rfl, rfl, rfl, rfl, rfl, rfl, rfl, rfl, rfl, rfl⟩ := h'
    clear h
    go_enter Try.func9, Try.ntmps9
    go_wp2_with (first
      | (go_at_call 32; (with_reducible refine (spec_l2Order.calls k A0 c0 l0 false _ ?_ HC0.out HT.out).mono ?_); (first | exact (Kd.C_below HR0.out HB.out)); rintro e w5 ⟨rfl, ⟨nd, rfl⟩⟩)
      | ((with_reducible refine gate_store (t := 25) (p := 2) rfl ?_); refine store_row_event rfl rfl 25 (.tmp 2) (.tmp 7) rfl w.heap.size #[.int .i64 0, .int .i64 0, .int .i64 0, .int .i64 0, .int .i64 0, .int .i64 0, .int .i64 0, .int .i64 0, .int .i64 0, .int .i64 0, .int .i64 0, .int .i64 0, .int .i64 0, .int .i64 0, .int .i64 0, .int .i64 0, .int .i64 0, .int .i64 0, .int .i64 0, .int .i64 0, .int .i64 0, .int .i64 0] rfl rfl 25 _ Z1.out hi rfl (by kernel_rfl) ?_; intro w7 hh ho; have Y7 := Aside0.mk hh; have B7 := Aside0.mk (ho.below (pw_below_drewN HB.out _) (Nat.le_refl _)); clear hh ho))
    refine bodyPost_ret (v := .tuple #[.agg #[.int .i64 0, .int .i64 0, .int .i64 0, .int .i64 0, .int .i64 0, .int .i64 0, .int .i64 0, .int .i64 0, .int .i64 0, .int .i64 0, .int .i64 0, .int .i64 0, .int .i64 0, .int .i64 0, .int .i64 0, .int .i64 0, .int .i64 0, .int .i64 0, .int .i64 0, .int .i64 0, .int .i64 0, .int .i64 0], .bool false]) ?_ rfl ?_
    · exact results_list (rs := [.cell 2 25, .tmp 3]) rfl (by simp) (.cell w.heap.size 25 #[.int .i64 0, .int .i64 0, .int .i64 0, .int .i64 0, .int .i64 0, .int .i64 0, .int .i64 0, .int .i64 0, .int .i64 0, .int .i64 0, .int .i64 0, .int .i64 0, .int .i64 0, .int .i64 0, .int .i64 0, .int .i64 0, .int .i64 0, .int .i64 0, .int .i64 0, .int .i64 0, .int .i64 0, .int .i64 0] (0, 0) _ rfl Y7.out hu rfl (by kernel_rfl) (.tmp .nil))
    · exact ⟨rfl, B7.out⟩
def impl_NewYard.f (k : Nat) (l0 : List Int) : Option (Int × Int × Int × Int × Int × Int × Int × Int × Int × Int × Int × Int × Int × Int × Int × Int × Int × Int × Int × Int × Int × Int × Bool) := (impl_isOrder.f k l0).bind fun t => if t = true then some ((rd l0 0), (rd l0 1), (rd l0 2), (rd l0 3), (rd l0 4), (rd l0 5), (rd l0 6), (rd ([] : List Int) 0), (rd ([] : List Int) 1), (rd ([] : List Int) 2), (rd ([] : List Int) 3), (rd ([] : List Int) 4), (rd ([] : List Int) 5), (rd ([] : List Int) 6), (rd ([] : List Int) 0), (rd ([] : List Int) 1), (rd ([] : List Int) 2), (rd ([] : List Int) 3), (rd ([] : List Int) 4), (rd ([] : List Int) 5), (rd ([] : List Int) 6), 0, true) else some (0, 0, 0, 0, 0, 0, 0, 0, 0, 0, 0, 0, 0, 0, 0, 0, 0, 0, 0, 0, 0, 0, false)
theorem impl_NewYard.mono : ∀ a0 k, LeO (impl_NewYard.f k a0) (impl_NewYard.f (k + 1) a0) := fun a0 k => LeO.bind (impl_isOrder.mono _ _) fun _ => LeO.refl _
set_option maxHeartbeats 8000000 in
set_option maxRecDepth 100000 in
theorem impl_NewYard.calls (k : Nat) (A0 : Option Addr) (c0 : Nat) (l0 : List Int) (r1 r2 r3 r4 r5 r6 r7 r8 r9 r10 r11 r12 r13 r14 r15 r16 r17 r18 r19 r20 r21 r22 : Int) (r23 : Bool) (w : World) (hr0 : Kd.C (Kd.int .i64) w A0 l0.length l0) (hc0 : l0.length ≤ c0) (h : impl_NewYard.f k l0 = some (r1, r2, r3, r4, r5, r6, r7, r8, r9, r10, r11, r12, r13, r14, r15, r16, r17, r18, r19, r20, r21, r22, r23)) :
    Calls Try.prog 11 #[.slice A0 l0.length c0] w fun e w' => e = .returned (.tuple #[.agg #[.int .i64 r1, .int .i64 r2, .int .i64 r3, .int .i64 r4, .int .i64 r5, .int .i64 r6, .int .i64 r7, .int .i64 r8, .int .i64 r9, .int .i64 r10, .int .i64 r11, .int .i64 r12, .int .i64 r13, .int .i64 r14, .int .i64 r15, .int .i64 r16, .int .i64 r17, .int .i64 r18, .int .i64 r19, .int .i64 r20, .int .i64 r21, .int .i64 r22], .bool r23]) ∧ Below w.heap.size w w' := by
  have hu := Try.underlying25
  have hi : (Try.prog.info? 25).map (·.size) = some 22 := by kernel_rfl
  obtain ⟨t, ht, h⟩ := Option.bind_eq_some_iff.1 h
  have HT := Aside0.mk ht
  have HR0 := Aside0.mk hr0
  have HC0 := Aside0.mk hc0
  have Z1 := Aside0.mk (blk_new w (.cells #[.int .i64 0, .int .i64 0, .int .i64 0, .int .i64 0, .int .i64 0, .int .i64 0, .int .i64 0, .int .i64 0, .int .i64 0, .int .i64 0, .int .i64 0, .int .i64 0, .int .i64 0, .int .i64 0, .int .i64 0, .int .i64 0, .int .i64 0, .int .i64 0, .int .i64 0, .int .i64 0, .int .i64 0, .int .i64 0] 25))
  have HB := Aside0.mk (below_alloc (Below.refl w.heap.size w) (.cells #[.int .i64 0, .int .i64 0, .int .i64 0, .int .i64 0, .int .i64 0, .int .i64 0, .int .i64 0, .int .i64 0, .int .i64 0, .int .i64 0, .int .i64 0, .int .i64 0, .int .i64 0, .int .i64 0, .int .i64 0, .int .i64 0, .int .i64 0, .int .i64 0, .int .i64 0, .int .i64 0, .int .i64 0, .int .i64 0] 25))
  clear ht hr0 hc0
  cases t with
  | true =>
    have h' := Option.some.inj h
    simp only [↓reduceIte, Prod.mk.injEq] at h'
    obtain ⟨rfl, rfl, rfl, rfl, rfl, rfl, rfl, rfl, rfl, rfl, rfl, rfl, rfl, rfl, rfl, rfl, rfl, rfl, rfl, rfl, rfl, rfl, rfl⟩ := h'
    clear h
    go_enter Try.func11, Try.ntmps11
    go_wp2_with (first
      | (go_at_call 34; (with_reducible refine (impl_isOrder.calls k A0 c0 l0 true _ ?_ HC0.out HT.out).mono ?_); (first | exact (Kd.C_below HR0.out HB.out)); rintro e w5 ⟨rfl, ⟨nd, rfl⟩⟩)
      | (go_at_call 35; (refine (impl_parts_yard_walk A0 c0 l0 none 0 [] none 0 [] 0 _ ?_ (Kd.C_nil _ _) (Kd.C_nil _ _)).mono ?_); (repeat (first | exact (Kd.C_below HR0.out HB.out) | (with_reducible refine Kd.C_drewN ?_ _) | (with_reducible refine Kd.C_drew ?_))); rintro e w6 ⟨rfl, hb⟩; have Z6 := Aside0.mk ((hb.block _ (lt_of_block Z1.out)).trans Z1.out); have B6 := Aside0.mk (below_step (pw_below_drewN HB.out _) hb); clear hb)
      | ((with_reducible refine gate_store (t := 25) (p := 2) rfl ?_); refine store_row_event rfl rfl 25 (.tmp 2) (.tmp 10) rfl w.heap.size #[.int .i64 (rd l0 0), .int .i64 (rd l0 1), .int .i64 (rd l0 2), .int .i64 (rd l0 3), .int .i64 (rd l0 4), .int .i64 (rd l0 5), .int .i64 (rd l0 6), .int .i64 (rd ([] : List Int) 0), .int .i64 (rd ([] : List Int) 1), .int .i64 (rd ([] : List Int) 2), .int .i64 (rd ([] : List Int) 3), .int .i64 (rd ([] : List Int) 4), .int .i64 (rd ([] : List Int) 5), .int .i64 (rd ([] : List Int) 6), .int .i64 (rd ([] : List Int) 0), .int .i64 (rd ([] : List Int) 1), .int .i64 (rd ([] : List Int) 2), .int .i64 (rd ([] : List Int) 3), .int .i64 (rd ([] : List Int) 4), .int .i64 (rd ([] : List Int) 5), .int .i64 (rd ([] : List Int) 6), .int .i64 0] rfl rfl 25 _ Z6.out hi rfl (by kernel_rfl) ?_; intro w7 hh ho; have Y7 := Aside0.mk hh; have B7 := Aside0.mk (ho.below B6.out (Nat.le_refl _)); clear hh ho))
    refine bodyPost_ret (v := .tuple #[.agg #[.int .i64 (rd l0 0), .int .i64 (rd l0 1), .int .i64 (rd l0 2), .int .i64 (rd l0 3), .int .i64 (rd l0 4), .int .i64 (rd l0 5), .int .i64 (rd l0 6), .int .i64 (rd ([] : List Int) 0), .int .i64 (rd ([] : List Int) 1), .int .i64 (rd ([] : List Int) 2), .int .i64 (rd ([] : List Int) 3), .int .i64 (rd ([] : List Int) 4), .int .i64 (rd ([] : List Int) 5), .int .i64 (rd ([] : List Int) 6), .int .i64 (rd ([] : List Int) 0), .int .i64 (rd ([] : List Int) 1), .int .i64 (rd ([] : List Int) 2), .int .i64 (rd ([] : List Int) 3), .int .i64 (rd ([] : List Int) 4), .int .i64 (rd ([] : List Int) 5), .int .i64 (rd ([] : List Int) 6), .int .i64 0], .bool true]) ?_ rfl ?_
    · exact results_list (rs := [.cell 2 25, .tmp 3]) rfl (by simp) (.cell w.heap.size 25 #[.int .i64 (rd l0 0), .int .i64 (rd l0 1), .int .i64 (rd l0 2), .int .i64 (rd l0 3), .int .i64 (rd l0 4), .int .i64 (rd l0 5), .int .i64 (rd l0 6), .int .i64 (rd ([] : List Int) 0), .int .i64 (rd ([] : List Int) 1), .int .i64 (rd ([] : List Int) 2), .int .i64 (rd ([] : List Int) 3), .int .i64 (rd ([] : List Int) 4), .int .i64 (rd ([] : List Int) 5), .int .i64 (rd ([] : List Int) 6), .int .i64 (rd ([] : List Int) 0), .int .i64 (rd ([] : List Int) 1), .int .i64 (rd ([] : List Int) 2), .int .i64 (rd ([] : List Int) 3), .int .i64 (rd ([] : List Int) 4), .int .i64 (rd ([] : List Int) 5), .int .i64 (rd ([] : List Int) 6), .int .i64 0] (0, 0) _ rfl Y7.out hu rfl (by kernel_rfl) (.tmp .nil))
    · exact ⟨rfl, B7.out⟩
  | false =>
    have h' := Option.some.inj h
    simp only [Bool.false_eq_true, ↓reduceIte, Prod.mk.injEq] at h'
    obtain ⟨rfl, rfl, rfl, rfl, rfl, rfl, rfl, rfl, rfl, rfl, rfl, rfl, rfl, rfl, rfl, rfl, rfl, rfl, rfl, rfl, rfl, rfl, rfl⟩ := h'
    clear h
    go_enter Try.func11, Try.ntmps11
    go_wp2_with (first
      | (go_at_call 34; (with_reducible refine (impl_isOrder.calls k A0 c0 l0 false _ ?_ HC0.out HT.out).mono ?_); (first | exact (Kd.C_below HR0.out HB.out)); rintro e w5 ⟨rfl, ⟨nd, rfl⟩⟩)
      | ((with_reducible refine gate_store (t := 25) (p := 2) rfl ?_); refine store_row_event rfl rfl 25 (.tmp 2) (.tmp 7) rfl w.heap.size #[.int .i64 0, .int .i64 0, .int .i64 0, .int .i64 0, .int .i64 0, .int .i64 0, .int .i64 0, .int .i64 0, .int .i64 0, .int .i64 0, .int .i64 0, .int .i64 0, .int .i64 0, .int .i64 0, .int .i64 0, .int .i64 0, .int .i64 0, .int .i64 0, .int .i64 0, .int .i64 0, .int .i64 0, .int .i64 0] rfl rfl 25 _ Z1.out hi rfl (by kernel_rfl) ?_; intro w7 hh ho; have Y7 := Aside0.mk hh; have B7 := Aside0.mk (ho.below (pw_below_drewN HB.out _) (Nat.le_refl _)); clear hh ho))
    refine bodyPost_ret (v := .tuple #[.agg #[.int .i64 0, .int .i64 0, .int .i64 0, .int .i64 0, .int .i64 0, .int .i64 0, .int .i64 0, .int .i64 0, .int .i64 0, .int .i64 0, .int .i64 0, .int .i64 0, .int .i64 0, .int .i64 0, .int .i64 0, .int .i64 0, .int .i64 0, .int .i64 0, .int .i64 0, .int .i64 0, .int .i64 0, .int .i64 0], .bool false]) ?_ rfl ?_
    · exact results_list (rs := [.cell 2 25, .tmp 3]) rfl (by simp) (.cell w.heap.size 25 #[.int .i64 0, .int .i64 0, .int .i64 0, .int .i64 0, .int .i64 0, .int .i64 0, .int .i64 0, .int .i64 0, .int .i64 0, .int .i64 0, .int .i64 0, .int .i64 0, .int .i64 0, .int .i64 0, .int .i64 0, .int .i64 0, .int .i64 0, .int .i64 0, .int .i64 0, .int .i64 0, .int .i64 0, .int .i64 0] (0, 0) _ rfl Y7.out hu rfl (by kernel_rfl) (.tmp .nil))
    · exact ⟨rfl, B7.out⟩

end Go.Proofs.Ythokeoocdkaffaa.Xn
