/- How much each player has got by a beginning: the program and the reference. -/
import Derived.Test.YtnoapomobflknaaZwXw0
import Derived.Test.YtnoapomobflknaaZwXw1
import Derived.Test.YtnoapomobflknaaZwXw2
import Derived.Test.YtnoapomobflknaaZwXw3
import Derived.Test.YtnoapomobflknaaZwXw4
import Derived.OneCell
import Derived.BigQuiet
import Derived.Deep.QuietTactic
import Derived.RegionTactic
import Derived.BigRegion
namespace Go.Proofs.Ytnoapomobflknaa.Xw
open Go.RowKit Go.Proofs.YtnoapomobflknaaW.PrintWords Go.Proofs.YtnoapomobflknaaW.PrintLast Go.Proofs.YtnoapomobflknaaW.PrintMore
attribute [local go_sem] max2_int min2_int max_two min_two max_three min_three max_four min_four
set_option linter.unusedVariables false
set_option linter.unusedSimpArgs false
theorem sc_cell_of_two {w : World} {b e : Nat} {v0 v1 : Value} (h : w.heap[b]? = some (.cells #[v0, v1] e (0, 0))) : w.cell? ⟨b, 0, none⟩ = some v0 ∧ w.cell? ⟨b, 1, none⟩ = some v1 := by
  constructor <;> simp [World.cell?, h]
theorem sc_free_of_two {w : World} {b e : Nat} {v0 v1 : Value} (h : w.heap[b]? = some (.cells #[v0, v1] e (0, 0))) : w.frozen? ⟨b, 0, none⟩ = false ∧ w.frozen? ⟨b, 1, none⟩ = false := by
  constructor <;> simp [World.frozen?, h]
def iscore (k : Nat) (l : List Int) (so : ByteArray) : Nat → Nat → Int → Int → Option (Int × Int)
  | 0, _, s0, s1 => some (s0, s1)
  | n + 1, i, s0, s1 => (impl_stackAfter.f k l (so.extract 0 (i + 1))).bind fun t => if i % 2 = 0 then iscore k l so n (i + 1) (wrap64 (s0 + t.2)) s1 else iscore k l so n (i + 1) s0 (wrap64 (s1 + t.2))
theorem iscore_le (k : Nat) (l : List Int) (so : ByteArray) : ∀ n i s0 s1, LeO (iscore k l so n i s0 s1) (iscore (k + 1) l so n i s0 s1)
  | 0, _, _, _ => LeO.refl _
  | n + 1, i, s0, s1 => LeO.bind (impl_stackAfter.mono _ _ _) fun _ => LeO.ite (iscore_le k l so n _ _ _) (iscore_le k l so n _ _ _)
def impl_ScoresOf.f (k : Nat) (l : List Int) (so : ByteArray) : Option (Int × Int × Bool) := (impl_isDuel.f k l so).bind fun b => if b = true then (if so.size ≤ 1048576 then (iscore k l so so.size 0 0 0).bind fun r => some (r.1, r.2, true) else none) else some (0, 0, false)
theorem impl_ScoresOf.mono : ∀ a0 a1 k, LeO (impl_ScoresOf.f k a0 a1) (impl_ScoresOf.f (k + 1) a0 a1) := fun a0 a1 k =>
  LeO.bind (impl_isDuel.mono _ _ _) fun _ => LeO.ite (LeO.ite (LeO.bind (iscore_le _ _ _ _ _ _ _) fun _ => LeO.refl _) (LeO.none _)) (LeO.refl _)
set_option maxHeartbeats 8000000 in
set_option maxRecDepth 100000 in
theorem impl_ScoresOf_good (k : Nat) (A0 : Option Addr) (c0 : Nat) (l0 : List Int) (a1 : ByteArray) (r1 r2 : Int) (w : World) (hr0 : Kd.C (Kd.int .i64) w A0 l0.length l0) (hc0 : l0.length ≤ c0) (hs : a1.size ≤ 1048576) (h : impl_isDuel.f k l0 a1 = some true) (hl : iscore k l0 a1 a1.size 0 0 0 = some (r1, r2)) :
    Calls Try.prog 22 #[.slice A0 l0.length c0, .string a1] w fun e w' => e = .returned (.tuple #[.agg #[.int .i64 r1, .int .i64 r2], .bool true]) ∧ Below w.heap.size w w' := by
  have hu := Try.underlying40
  have p0 : ∀ (w : World) (b : Nat), (Instr.indexAt 40 (.pointer (some ⟨b, 0, none⟩)) (.int .i64 0)).run Try.prog w = .ok (.pointer (some ⟨b, 0, none⟩)) w := fun _ _ => by kernel_rfl
  have p1 : ∀ (w : World) (b : Nat), (Instr.indexAt 40 (.pointer (some ⟨b, 0, none⟩)) (.int .i64 1)).run Try.prog w = .ok (.pointer (some ⟨b, 1, none⟩)) w := fun _ _ => by kernel_rfl
  have HR0 := Aside0.mk hr0
  have HC0 := Aside0.mk hc0
  have HS := Aside0.mk hs
  have H := Aside0.mk h
  have HL := Aside0.mk hl
  clear hr0 hc0 h hl hs
  have HB := Aside0.mk (Below.refl w.heap.size w)
  go_enter Try.func22, Try.ntmps22
  go_wp2_with (go_at_call 83; (with_reducible refine (impl_isDuel.calls k A0 c0 l0 a1 true _ (by repeat (first | exact HR0.out | (with_reducible refine Kd.C_alloc ?_ _) | (with_reducible refine Kd.C_drewN ?_ _) | (with_reducible refine Kd.C_drew ?_))) HC0.out H.out).mono ?_); rintro e w' ⟨rfl, ⟨nd, rfl⟩⟩)
  go_loopg [18] a1.size (fun kq v18 w' => ∃ (i : Nat) (s0 s1 : Int), v18 = .int .i64 (i : Int) ∧ Aside0 (i + kq = a1.size) ∧ Aside0 (iscore k l0 a1 kq i s0 s1 = some (r1, r2)) ∧ Aside0 (Below w.heap.size w w') ∧ Aside0 (w'.heap[w.heap.size]? = some (.cells #[.int .i64 0, .int .i64 0] 40 (0, 0))) ∧ Aside0 (w'.heap[w.heap.size + 1]? = some (.cells #[.int .i64 s0, .int .i64 s1] 40 (0, 0))))
  case atStart =>
    have z1 := blk_new w (.cells #[.int .i64 0, .int .i64 0] 40)
    have z2 := blk_new (w.alloc (.cells #[.int .i64 0, .int .i64 0] 40)) (.cells #[.int .i64 0, .int .i64 0] 40)
    rw [World.size_alloc] at z2
    exact ⟨0, 0, 0, rfl, ⟨by omega⟩, HL, ⟨by repeat (first | exact HB.out | apply below_alloc | apply pw_below_drewN | apply below_drew1)⟩, ⟨blk_alloc z1 _⟩, ⟨z2⟩⟩
  case round =>
    clear HB HL
    obtain ⟨i, s0, s1, rfl, HK, HL, HB, HX, HY⟩ := hrel
    obtain ⟨x0, x1⟩ := sc_cell_of_two HX.out
    obtain ⟨y0, y1⟩ := sc_cell_of_two HY.out
    by_cases hi : i < a1.size
    · obtain ⟨k1, hk1⟩ : ∃ k1, gk = k1 + 1 := ⟨gk - 1, by have := HK.out; omega⟩
      subst hk1
      have hl := HL.out
      simp only [iscore] at hl
      obtain ⟨⟨t1, t2⟩, A5, hl⟩ := Option.bind_eq_some_iff.1 hl
      have HA := Aside0.mk A5
      have HL2 := Aside0.mk hl
      clear A5 hl HL
      have d1 : decide ((i : Int) < (a1.size : Int)) = true := decide_eq_true (by omega)
      have e1 : wrap64 ((i : Int) + 1) = ((i + 1 : Nat) : Int) := by have := HS.out; unfold wrap64; omega
      have E1 := Aside0.mk e1
      have e2 : decide (((i + 1 : Nat) : Int) ≤ (a1.size : Int)) = true := decide_eq_true (by omega)
      have e3 : decide (0 ≤ ((i + 1 : Nat) : Int)) = true := decide_eq_true (by omega)
      by_cases hp : i % 2 = 0
      · have hm : Int.tmod (i : Int) 2 = 0 := by rw [Int.tmod_eq_emod_of_nonneg (by omega)]; omega
        have HL3 := Aside0.mk (show iscore k l0 a1 k1 (i + 1) (wrap64 (s0 + t2)) s1 = some (r1, r2) by have h_ := HL2.out; rw [if_pos hp] at h_; exact h_)
        clear HL2 hp
        go_wp2_with (go_at_call 84; (with_reducible refine (impl_stackAfter.calls k (fun k_ => k_ < w.heap.size) A0 c0 l0 (a1.extract 0 (i + 1)) t1 t2 _ (Kd.V_mk HC0.out (Kd.F_below (Kd.C_F (Kd.heap_int .i64) HR0.out) (by repeat (first | exact HB.out | apply below_alloc | apply pw_below_drewN | apply below_drew1)))) HA.out).mono ?_); rintro e w6 ⟨v166, rfl, ho0, hb⟩; have n1_ := Aside0.mk (below_step (by repeat (first | exact HB.out | apply below_alloc | apply pw_below_drewN | apply below_drew1)) hb); have n2_ := Aside0.mk ((hb.block _ (lt_of_block HX.out)).trans HX.out); have n3_ := Aside0.mk ((hb.block _ (lt_of_block HY.out)).trans HY.out); clear HB HX HY x0 x1 y0 y1; have HB := n1_; have HX := n2_; have HY := n3_; clear n1_ n2_ n3_ hb ho0; have y0 := (sc_cell_of_two HY.out).1; have y1 := (sc_cell_of_two HY.out).2; have f0 := (sc_free_of_two HY.out).1; have f1 := (sc_free_of_two HY.out).2)
        repeat (go_quiet (fail); try go_wp2)
        go_roundg k1
        case measure => omega
        case rel => exact ⟨i + 1, _, _, by rw [E1.out], ⟨by have := HK.out; omega⟩, HL3, ⟨below_set (by repeat (first | exact HB.out | apply below_alloc | apply pw_below_drewN | apply below_drew1)) (by show w.heap.size ≤ w.heap.size + 1; omega)⟩, ⟨blk_far HX.out (p := ⟨w.heap.size + 1, 0, none⟩) (by show w.heap.size ≠ w.heap.size + 1; omega) _⟩, ⟨blk_put HY.out 0 _ rfl⟩⟩
      · have hm : Int.tmod (i : Int) 2 = 1 := by rw [Int.tmod_eq_emod_of_nonneg (by omega)]; omega
        have HL3 := Aside0.mk (show iscore k l0 a1 k1 (i + 1) s0 (wrap64 (s1 + t2)) = some (r1, r2) by have h_ := HL2.out; rw [if_neg hp] at h_; exact h_)
        clear HL2 hp
        go_wp2_with (go_at_call 84; (with_reducible refine (impl_stackAfter.calls k (fun k_ => k_ < w.heap.size) A0 c0 l0 (a1.extract 0 (i + 1)) t1 t2 _ (Kd.V_mk HC0.out (Kd.F_below (Kd.C_F (Kd.heap_int .i64) HR0.out) (by repeat (first | exact HB.out | apply below_alloc | apply pw_below_drewN | apply below_drew1)))) HA.out).mono ?_); rintro e w6 ⟨v166, rfl, ho0, hb⟩; have n1_ := Aside0.mk (below_step (by repeat (first | exact HB.out | apply below_alloc | apply pw_below_drewN | apply below_drew1)) hb); have n2_ := Aside0.mk ((hb.block _ (lt_of_block HX.out)).trans HX.out); have n3_ := Aside0.mk ((hb.block _ (lt_of_block HY.out)).trans HY.out); clear HB HX HY x0 x1 y0 y1; have HB := n1_; have HX := n2_; have HY := n3_; clear n1_ n2_ n3_ hb ho0; have y0 := (sc_cell_of_two HY.out).1; have y1 := (sc_cell_of_two HY.out).2; have f0 := (sc_free_of_two HY.out).1; have f1 := (sc_free_of_two HY.out).2)
        repeat (go_quiet (fail); try go_wp2)
        go_roundg k1
        case measure => omega
        case rel => exact ⟨i + 1, _, _, by rw [E1.out], ⟨by have := HK.out; omega⟩, HL3, ⟨below_set (by repeat (first | exact HB.out | apply below_alloc | apply pw_below_drewN | apply below_drew1)) (by show w.heap.size ≤ w.heap.size + 1; omega)⟩, ⟨blk_far HX.out (p := ⟨w.heap.size + 1, 1, none⟩) (by show w.heap.size ≠ w.heap.size + 1; omega) _⟩, ⟨blk_put HY.out 1 _ rfl⟩⟩
    · obtain rfl : i = a1.size := by have := HK.out; omega
      have hk0 : gk = 0 := by have := HK.out; omega
      subst hk0
      have hl := HL.out
      simp only [iscore, Option.some.injEq, Prod.mk.injEq] at hl
      obtain ⟨rfl, rfl⟩ := hl
      have d1 : decide ((a1.size : Int) < (a1.size : Int)) = false := decide_eq_false (by omega)
      have fx := (sc_free_of_two HX.out).1
      have fx1 := (sc_free_of_two HX.out).2
      go_wp2
      have g0 := blk_put HX.out 0 (.int .i64 s0) rfl
      have g1 := blk_put g0 1 (.int .i64 s1) rfl
      refine bodyPost_ret (v := .tuple #[.agg #[.int .i64 s0, .int .i64 s1], .bool true]) ?_ rfl ?_
      · exact results_list (rs := [.cell 4 40, .tmp 5]) rfl (by simp) (.cell w.heap.size 40 #[.int .i64 s0, .int .i64 s1] (0, 0) _ rfl g1 hu rfl (by kernel_rfl) (.tmp .nil))
      · exact ⟨rfl, below_set (below_set HB.out (Nat.le_refl _)) (Nat.le_refl _)⟩
set_option maxHeartbeats 8000000 in
set_option maxRecDepth 100000 in
theorem impl_ScoresOf.calls (k : Nat) (A0 : Option Addr) (c0 : Nat) (l0 : List Int) (a1 : ByteArray) (r1_0 r1_1 : Int) (r2 : Bool) (w : World) (hr0 : Kd.C (Kd.int .i64) w A0 l0.length l0) (hc0 : l0.length ≤ c0) (h : impl_ScoresOf.f k l0 a1 = some (r1_0, r1_1, r2)) :
    Calls Try.prog 22 #[.slice A0 l0.length c0, .string a1] w fun e w' => e = .returned (.tuple #[.agg #[.int .i64 r1_0, .int .i64 r1_1], .bool r2]) ∧ Below w.heap.size w w' := by
  obtain ⟨b, hb, h⟩ := Option.bind_eq_some_iff.1 h
  cases b with
  | true =>
    rw [if_pos rfl] at h
    by_cases hs : a1.size ≤ 1048576
    · rw [if_pos hs] at h
      obtain ⟨⟨g1, g2⟩, hg, h⟩ := Option.bind_eq_some_iff.1 h
      have h' := Option.some.inj h
      simp only [Prod.mk.injEq] at h'
      obtain ⟨rfl, rfl, rfl⟩ := h'
      exact impl_ScoresOf_good k A0 c0 l0 a1 _ _ w hr0 hc0 hs hb hg
    · rw [if_neg hs] at h
      cases h
  | false =>
    rw [if_neg Bool.false_ne_true] at h
    have h' := Option.some.inj h
    simp only [Prod.mk.injEq] at h'
    obtain ⟨rfl, rfl, rfl⟩ := h'
    have hu := Try.underlying40
    have HR0 := Aside0.mk hr0
    have HC0 := Aside0.mk hc0
    have H := Aside0.mk hb
    have HB := Aside0.mk (Below.refl w.heap.size w)
    clear hr0 hc0 h hb
    have z1 := blk_new w (.cells #[.int .i64 0, .int .i64 0] 40)
    have z2 := blk_new (w.alloc (.cells #[.int .i64 0, .int .i64 0] 40)) (.cells #[.int .i64 0, .int .i64 0] 40)
    rw [World.size_alloc] at z2
    have z1' := blk_alloc z1 (.cells #[.int .i64 0, .int .i64 0] 40)
    have HX := Aside0.mk z1'
    have HY := Aside0.mk z2
    clear z1 z2 z1'
    go_enter Try.func22, Try.ntmps22
    go_wp2_with (go_at_call 83; (with_reducible refine (impl_isDuel.calls k A0 c0 l0 a1 false _ (by repeat (first | exact HR0.out | (with_reducible refine Kd.C_alloc ?_ _) | (with_reducible refine Kd.C_drewN ?_ _) | (with_reducible refine Kd.C_drew ?_))) HC0.out H.out).mono ?_); rintro e w5 ⟨rfl, hd⟩; have hb5 := Drawn0.below hd; have HX5 := Aside0.mk ((hb5.block _ (lt_of_block HX.out)).trans HX.out); have HY5 := Aside0.mk ((hb5.block _ (lt_of_block HY.out)).trans HY.out); have HB5 := Aside0.mk (below_step (below_alloc (below_alloc HB.out _) _) hb5); clear hd hb5; have y0 := (sc_cell_of_two HY5.out).1; have y1 := (sc_cell_of_two HY5.out).2; have f0 := (sc_free_of_two HX5.out).1; have f1 := (sc_free_of_two HX5.out).2; have x0 := (sc_cell_of_two HX5.out).1; have x1 := (sc_cell_of_two HX5.out).2)
    have g0 := blk_put HX5.out 0 (.int .i64 0) rfl
    have g1 := blk_put g0 1 (.int .i64 0) rfl
    refine bodyPost_ret (v := .tuple #[.agg #[.int .i64 0, .int .i64 0], .bool false]) ?_ rfl ?_
    · exact results_list (rs := [.cell 4 40, .tmp 5]) rfl (by simp) (.cell w.heap.size 40 #[.int .i64 0, .int .i64 0] (0, 0) _ rfl g1 hu rfl (by kernel_rfl) (.tmp .nil))
    · exact ⟨rfl, below_set (below_set HB5.out (Nat.le_refl _)) (Nat.le_refl _)⟩
/-! ### the reference -/
def sscore (k : Nat) (l : List Int) (so : ByteArray) : Nat → Nat → Int → Int → Option (Int × Int)
  | 0, _, s0, s1 => some (s0, s1)
  | n + 1, i, s0, s1 => if bt so (i : Int) = 79 then (spec_l11Stack.f k l (so.extract 0 i)).bind fun t => if 0 < t.length ∧ t.length ≤ 1000000 then (if i % 2 = 0 then sscore k l so n (i + 1) (wrap64 (s0 + rd t ((t.length : Int) - 1))) s1 else sscore k l so n (i + 1) s0 (wrap64 (s1 + rd t ((t.length : Int) - 1)))) else none else sscore k l so n (i + 1) s0 s1
theorem sscore_le (k : Nat) (l : List Int) (so : ByteArray) : ∀ n i s0 s1, LeO (sscore k l so n i s0 s1) (sscore (k + 1) l so n i s0 s1)
  | 0, _, _, _ => LeO.refl _
  | n + 1, i, s0, s1 => LeO.ite (LeO.bind (spec_l11Stack.mono _ _ _) fun _ => LeO.ite (LeO.ite (sscore_le k l so n _ _ _) (sscore_le k l so n _ _ _)) (LeO.none _)) (sscore_le k l so n _ _ _)
def spec_ScoresOf.f (k : Nat) (l : List Int) (so : ByteArray) : Option (Int × Int × Bool) := (spec_l11Good.f k l so).bind fun b => if b = true then (if so.size ≤ 1048576 then (sscore k l so so.size 0 0 0).bind fun r => some (r.1, r.2, true) else none) else some (0, 0, false)
theorem spec_ScoresOf.mono : ∀ a0 a1 k, LeO (spec_ScoresOf.f k a0 a1) (spec_ScoresOf.f (k + 1) a0 a1) := fun a0 a1 k =>
  LeO.bind (spec_l11Good.mono _ _ _) fun _ => LeO.ite (LeO.ite (LeO.bind (sscore_le _ _ _ _ _ _ _) fun _ => LeO.refl _) (LeO.none _)) (LeO.refl _)
set_option maxHeartbeats 8000000 in
set_option maxRecDepth 100000 in
theorem spec_ScoresOf_good (k : Nat) (A0 : Option Addr) (c0 : Nat) (l0 : List Int) (a1 : ByteArray) (r1 r2 : Int) (w : World) (hr0 : Kd.C (Kd.int .i64) w A0 l0.length l0) (hc0 : l0.length ≤ c0) (hs : a1.size ≤ 1048576) (h : spec_l11Good.f k l0 a1 = some true) (hl : sscore k l0 a1 a1.size 0 0 0 = some (r1, r2)) :
    Calls Try.prog 23 #[.slice A0 l0.length c0, .string a1] w fun e w' => e = .returned (.tuple #[.agg #[.int .i64 r1, .int .i64 r2], .bool true]) ∧ Below w.heap.size w w' := by
  have hu := Try.underlying40
  have p0 : ∀ (w : World) (b : Nat), (Instr.indexAt 40 (.pointer (some ⟨b, 0, none⟩)) (.int .i64 0)).run Try.prog w = .ok (.pointer (some ⟨b, 0, none⟩)) w := fun _ _ => by kernel_rfl
  have p1 : ∀ (w : World) (b : Nat), (Instr.indexAt 40 (.pointer (some ⟨b, 0, none⟩)) (.int .i64 1)).run Try.prog w = .ok (.pointer (some ⟨b, 1, none⟩)) w := fun _ _ => by kernel_rfl
  have HR0 := Aside0.mk hr0
  have HC0 := Aside0.mk hc0
  have HS := Aside0.mk hs
  have H := Aside0.mk h
  have HL := Aside0.mk hl
  clear hr0 hc0 h hl hs
  have HB := Aside0.mk (Below.refl w.heap.size w)
  go_enter Try.func23, Try.ntmps23
  go_wp2_with (go_at_call 79; (with_reducible refine (spec_l11Good.calls k A0 c0 l0 a1 true _ (by repeat (first | exact HR0.out | (with_reducible refine Kd.C_alloc ?_ _) | (with_reducible refine Kd.C_drewN ?_ _) | (with_reducible refine Kd.C_drew ?_))) HC0.out H.out).mono ?_); rintro e w' ⟨rfl, ⟨nd, rfl⟩⟩)
  go_loopg [7] a1.size (fun kq v7 w' => ∃ (i : Nat) (s0 s1 : Int), v7 = .int .i64 (i : Int) ∧ Aside0 (i + kq = a1.size) ∧ Aside0 (sscore k l0 a1 kq i s0 s1 = some (r1, r2)) ∧ Aside0 (Below w.heap.size w w') ∧ Aside0 (w'.heap[w.heap.size]? = some (.cells #[.int .i64 0, .int .i64 0] 40 (0, 0))) ∧ Aside0 (w'.heap[w.heap.size + 1]? = some (.cells #[.int .i64 s0, .int .i64 s1] 40 (0, 0))))
  case atStart =>
    have z1 := blk_new w (.cells #[.int .i64 0, .int .i64 0] 40)
    have z2 := blk_new (w.alloc (.cells #[.int .i64 0, .int .i64 0] 40)) (.cells #[.int .i64 0, .int .i64 0] 40)
    rw [World.size_alloc] at z2
    exact ⟨0, 0, 0, rfl, ⟨by omega⟩, HL, ⟨by repeat (first | exact HB.out | apply below_alloc | apply pw_below_drewN | apply below_drew1)⟩, ⟨blk_alloc z1 _⟩, ⟨z2⟩⟩
  case round =>
    clear HB HL
    obtain ⟨i, s0, s1, rfl, HK, HL, HB, HX, HY⟩ := hrel
    obtain ⟨x0, x1⟩ := sc_cell_of_two HX.out
    obtain ⟨y0, y1⟩ := sc_cell_of_two HY.out
    by_cases hi : i < a1.size
    · obtain ⟨k1, hk1⟩ : ∃ k1, gk = k1 + 1 := ⟨gk - 1, by have := HK.out; omega⟩
      subst hk1
      have hl := HL.out
      simp only [sscore] at hl
      obtain ⟨x, hix⟩ : ∃ x : Int, (i : Int) = x := ⟨_, rfl⟩
      have hxs : x.toNat = i := by omega
      rw [hix] at hl ⊢
      have d1 : decide (x < (a1.size : Int)) = true := decide_eq_true (by omega)
      have d0 : 0 ≤ x := by omega
      have dq : x < (a1.size : Int) := by omega
      have dr : x ≤ (a1.size : Int) := by omega
      have e1 : wrap64 (x + 1) = ((i + 1 : Nat) : Int) := by have := HS.out; unfold wrap64; omega
      have E1 := Aside0.mk e1
      have HIX := Aside0.mk hix
      have HI := Aside0.mk hi
      have hx7 := bt_at a1 x
      have p7 := eq_true d0
      have q7 := eq_true dq
      have q8 := eq_true dr
      have d2 : decide (x ≤ (a1.size : Int)) = true := decide_eq_true dr
      by_cases hO : bt a1 x = 79
      · rw [if_pos hO] at hl
        have b0 : ((bt a1 x) == 79) = true := beq_iff_eq.2 hO
        obtain ⟨t, ht, hl⟩ := Option.bind_eq_some_iff.1 hl
        by_cases ht0 : 0 < t.length ∧ t.length ≤ 1000000
        · rw [if_pos ht0] at hl
          have HT : Aside0 (spec_l11Stack.f k l0 (a1.extract 0 x.toNat) = some t) := ⟨by rw [hxs]; exact ht⟩
          obtain ⟨ji, hji⟩ : ∃ ji : Int, (t.length : Int) - 1 = ji := ⟨_, rfl⟩
          have ew2 : wrap64 ((t.length : Int) - 1) = ji := by unfold wrap64; omega
          have ew : IntKind.i64.wrap ((t.length : Int) - 1) = ji := (i64_w _).trans ew2
          have HJ0 : 0 ≤ ji := by omega
          have HJ1 : ji < (t.length : Int) := by omega
          rw [hji] at hl
          have HT0 := Aside0.mk ht0
          clear hix hi hO ht ht0 HL hji hxs e1
          by_cases hp : i % 2 = 0
          · have hm : Int.tmod x 2 = 0 := by rw [← HIX.out, Int.tmod_eq_emod_of_nonneg (by omega)]; omega
            have HL3 := Aside0.mk (show sscore k l0 a1 k1 (i + 1) (wrap64 (s0 + rd t ji)) s1 = some (r1, r2) by rw [if_pos hp] at hl; exact hl)
            clear hl hp
            go_wp2_with (go_at_call 85; (with_reducible refine (spec_l11Stack.calls k A0 c0 l0 (a1.extract 0 x.toNat) t _ (Kd.C_below HR0.out HB.out) HC0.out HT.out).mono ?_); rintro e w6 ⟨v6, rfl, ho6, hb⟩; obtain ⟨A6, c6, rfl⟩ := Kd.R_slice ho6; obtain ⟨ad, e_, hx⟩ := Kd.at_int (Kd.R_reads' ho6).2.2 ji HJ0 HJ1; cases e_; have p_ := eq_true HJ0; have q_ := eq_true HJ1; have n1_ := Aside0.mk (below_step HB.out hb); have n2_ := Aside0.mk ((hb.block _ (lt_of_block HX.out)).trans HX.out); have n3_ := Aside0.mk ((hb.block _ (lt_of_block HY.out)).trans HY.out); clear HB HX HY x0 x1 y0 y1; have HB := n1_; have HX := n2_; have HY := n3_; clear n1_ n2_ n3_ hb ho6; have y0 := (sc_cell_of_two HY.out).1; have y1 := (sc_cell_of_two HY.out).2; have f0 := (sc_free_of_two HY.out).1; have f1 := (sc_free_of_two HY.out).2)
            go_region
            go_wp2
            go_roundg k1
            case measure => omega
            case rel => exact ⟨i + 1, _, _, by rw [E1.out], ⟨by have := HK.out; omega⟩, HL3, ⟨below_drew (below_set HB.out (by show w.heap.size ≤ w.heap.size + 1; omega))⟩, ⟨blk_far HX.out (p := ⟨w.heap.size + 1, 0, none⟩) (by show w.heap.size ≠ w.heap.size + 1; omega) _⟩, ⟨blk_put HY.out 0 _ rfl⟩⟩
          · have hm : Int.tmod x 2 = 1 := by rw [← HIX.out, Int.tmod_eq_emod_of_nonneg (by omega)]; omega
            have HL3 := Aside0.mk (show sscore k l0 a1 k1 (i + 1) s0 (wrap64 (s1 + rd t ji)) = some (r1, r2) by rw [if_neg hp] at hl; exact hl)
            clear hl hp
            go_wp2_with (go_at_call 85; (with_reducible refine (spec_l11Stack.calls k A0 c0 l0 (a1.extract 0 x.toNat) t _ (Kd.C_below HR0.out HB.out) HC0.out HT.out).mono ?_); rintro e w6 ⟨v6, rfl, ho6, hb⟩; obtain ⟨A6, c6, rfl⟩ := Kd.R_slice ho6; obtain ⟨ad, e_, hx⟩ := Kd.at_int (Kd.R_reads' ho6).2.2 ji HJ0 HJ1; cases e_; have p_ := eq_true HJ0; have q_ := eq_true HJ1; have n1_ := Aside0.mk (below_step HB.out hb); have n2_ := Aside0.mk ((hb.block _ (lt_of_block HX.out)).trans HX.out); have n3_ := Aside0.mk ((hb.block _ (lt_of_block HY.out)).trans HY.out); clear HB HX HY x0 x1 y0 y1; have HB := n1_; have HX := n2_; have HY := n3_; clear n1_ n2_ n3_ hb ho6; have y0 := (sc_cell_of_two HY.out).1; have y1 := (sc_cell_of_two HY.out).2; have f0 := (sc_free_of_two HY.out).1; have f1 := (sc_free_of_two HY.out).2)
            go_region
            go_wp2
            go_roundg k1
            case measure => omega
            case rel => exact ⟨i + 1, _, _, by rw [E1.out], ⟨by have := HK.out; omega⟩, HL3, ⟨below_drew (below_set HB.out (by show w.heap.size ≤ w.heap.size + 1; omega))⟩, ⟨blk_far HX.out (p := ⟨w.heap.size + 1, 1, none⟩) (by show w.heap.size ≠ w.heap.size + 1; omega) _⟩, ⟨blk_put HY.out 1 _ rfl⟩⟩
        · rw [if_neg ht0] at hl
          cases hl
      · rw [if_neg hO] at hl
        have b0 : ((bt a1 x) == 79) = false := beq_eq_false_iff_ne.2 hO
        have HL3 := Aside0.mk hl
        clear hl HL hO hix hi hxs
        go_wp2
        go_roundg k1
        case measure => omega
        case rel => exact ⟨i + 1, s0, s1, by rw [E1.out], ⟨by have := HK.out; omega⟩, HL3, HB, HX, HY⟩
    · obtain rfl : i = a1.size := by have := HK.out; omega
      have hk0 : gk = 0 := by have := HK.out; omega
      subst hk0
      have hl := HL.out
      simp only [sscore, Option.some.injEq, Prod.mk.injEq] at hl
      obtain ⟨rfl, rfl⟩ := hl
      have d1 : decide ((a1.size : Int) < (a1.size : Int)) = false := decide_eq_false (by omega)
      have fx := (sc_free_of_two HX.out).1
      have fx1 := (sc_free_of_two HX.out).2
      go_wp2
      have g0 := blk_put HX.out 0 (.int .i64 s0) rfl
      have g1 := blk_put g0 1 (.int .i64 s1) rfl
      refine bodyPost_ret (v := .tuple #[.agg #[.int .i64 s0, .int .i64 s1], .bool true]) ?_ rfl ?_
      · exact results_list (rs := [.cell 4 40, .tmp 5]) rfl (by simp) (.cell w.heap.size 40 #[.int .i64 s0, .int .i64 s1] (0, 0) _ rfl g1 hu rfl (by kernel_rfl) (.tmp .nil))
      · exact ⟨rfl, below_set (below_set HB.out (Nat.le_refl _)) (Nat.le_refl _)⟩
set_option maxHeartbeats 8000000 in
set_option maxRecDepth 100000 in
theorem spec_ScoresOf.calls (k : Nat) (A0 : Option Addr) (c0 : Nat) (l0 : List Int) (a1 : ByteArray) (r1_0 r1_1 : Int) (r2 : Bool) (w : World) (hr0 : Kd.C (Kd.int .i64) w A0 l0.length l0) (hc0 : l0.length ≤ c0) (h : spec_ScoresOf.f k l0 a1 = some (r1_0, r1_1, r2)) :
    Calls Try.prog 23 #[.slice A0 l0.length c0, .string a1] w fun e w' => e = .returned (.tuple #[.agg #[.int .i64 r1_0, .int .i64 r1_1], .bool r2]) ∧ Below w.heap.size w w' := by
  obtain ⟨b, hb, h⟩ := Option.bind_eq_some_iff.1 h
  cases b with
  | true =>
    rw [if_pos rfl] at h
    by_cases hs : a1.size ≤ 1048576
    · rw [if_pos hs] at h
      obtain ⟨⟨g1, g2⟩, hg, h⟩ := Option.bind_eq_some_iff.1 h
      have h' := Option.some.inj h
      simp only [Prod.mk.injEq] at h'
      obtain ⟨rfl, rfl, rfl⟩ := h'
      exact spec_ScoresOf_good k A0 c0 l0 a1 _ _ w hr0 hc0 hs hb hg
    · rw [if_neg hs] at h
      cases h
  | false =>
    rw [if_neg Bool.false_ne_true] at h
    have h' := Option.some.inj h
    simp only [Prod.mk.injEq] at h'
    obtain ⟨rfl, rfl, rfl⟩ := h'
    have hu := Try.underlying40
    have HR0 := Aside0.mk hr0
    have HC0 := Aside0.mk hc0
    have H := Aside0.mk hb
    have HB := Aside0.mk (Below.refl w.heap.size w)
    clear hr0 hc0 h hb
    have z1 := blk_new w (.cells #[.int .i64 0, .int .i64 0] 40)
    have z2 := blk_new (w.alloc (.cells #[.int .i64 0, .int .i64 0] 40)) (.cells #[.int .i64 0, .int .i64 0] 40)
    rw [World.size_alloc] at z2
    have z1' := blk_alloc z1 (.cells #[.int .i64 0, .int .i64 0] 40)
    have HX := Aside0.mk z1'
    have HY := Aside0.mk z2
    clear z1 z2 z1'
    go_enter Try.func23, Try.ntmps23
    go_wp2_with (go_at_call 79; (with_reducible refine (spec_l11Good.calls k A0 c0 l0 a1 false _ (by repeat (first | exact HR0.out | (with_reducible refine Kd.C_alloc ?_ _) | (with_reducible refine Kd.C_drewN ?_ _) | (with_reducible refine Kd.C_drew ?_))) HC0.out H.out).mono ?_); rintro e w5 ⟨rfl, hd⟩; have hb5 := Drawn0.below hd; have HX5 := Aside0.mk ((hb5.block _ (lt_of_block HX.out)).trans HX.out); have HY5 := Aside0.mk ((hb5.block _ (lt_of_block HY.out)).trans HY.out); have HB5 := Aside0.mk (below_step (below_alloc (below_alloc HB.out _) _) hb5); clear hd hb5; have y0 := (sc_cell_of_two HY5.out).1; have y1 := (sc_cell_of_two HY5.out).2; have f0 := (sc_free_of_two HX5.out).1; have f1 := (sc_free_of_two HX5.out).2; have x0 := (sc_cell_of_two HX5.out).1; have x1 := (sc_cell_of_two HX5.out).2)
    have g0 := blk_put HX5.out 0 (.int .i64 0) rfl
    have g1 := blk_put g0 1 (.int .i64 0) rfl
    refine bodyPost_ret (v := .tuple #[.agg #[.int .i64 0, .int .i64 0], .bool false]) ?_ rfl ?_
    · exact results_list (rs := [.cell 4 40, .tmp 5]) rfl (by simp) (.cell w.heap.size 40 #[.int .i64 0, .int .i64 0] (0, 0) _ rfl g1 hu rfl (by kernel_rfl) (.tmp .nil))
    · exact ⟨rfl, below_set (below_set HB5.out (Nat.le_refl _)) (Nat.le_refl _)⟩

end Go.Proofs.Ytnoapomobflknaa.Xw
