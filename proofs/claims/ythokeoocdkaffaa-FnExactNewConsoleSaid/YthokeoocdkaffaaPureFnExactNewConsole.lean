/- NewConsole: the program and the reference tell the same of every yard. -/
import Derived.Test.YthokeoocdkaffaaXiHcons
import Derived.Test.YthokeoocdkaffaaXiHtoy
import Derived.Test.YthokeoocdkaffaaXiHgood
import Derived.Test.YthokeoocdkaffaaXiHparts
import Derived.Test.YthokeoocdkaffaaXiHarr7
import Derived.Test.YthokeoocdkaffaaXiHpart
import Derived.Test.YthokeoocdkaffaaXi1
import Derived.Test.YthokeoocdkaffaaXi3
import Derived.Test.YthokeoocdkaffaaPk
import Derived.OneCell
import Derived.Shelf.Abstract
import Derived.Outline
import Derived.BigQuiet
import Derived.Deep.QuietTactic
import Derived.RegionTactic
import Derived.BigRegion
set_option linter.unusedVariables false
set_option linter.unusedSimpArgs false
namespace Go.Proofs.Ythokeoocdkaffaa.Pure
open Go.RowKit Go.Proofs.Ythokeoocdkaffaa.Xi Go.Proofs.YthokeoocdkaffaaW.PrintWords Go.Proofs.YthokeoocdkaffaaW.PrintLast Go.Proofs.Ythokeoocdkaffaa.Pk

theorem ev_l1In' (a b c : Int) : spec_l1In.f a b c = some (decide (b ≤ a) && decide (a ≤ c)) := by
  unfold spec_l1In.f
  by_cases h : b ≤ a
  · rw [if_pos h, decide_eq_true h, Bool.true_and]
  · rw [if_neg h, decide_eq_false h, Bool.false_and]
/-! ### is a list an order? -/
theorem ev_l1Has_l0 (l : List Int) (x : Int) (hl : l.length < 9223372036854775807) (d : Nat) : ∀ j : Nat, j + d = l.length → Ev (fun k => spec_l1Has.l0 k l x (j : Int)) ((l.drop j).contains x) := by
  induction d with
  | zero =>
    intro j hj
    have c : ¬ (j : Int) < (l.length : Int) := by omega
    rw [List.drop_of_length_le (by omega)]
    exact Ev.step (fun k => by simp only [spec_l1Has.l0, c, ↓reduceIte] <;> rfl) (Ev.now _)
  | succ d ih =>
    intro j hj
    have c : (j : Int) < (l.length : Int) := by omega
    have c0 : 0 ≤ (j : Int) := by omega
    have e1 : wrap64 ((j : Int) + 1) = ((j + 1 : Nat) : Int) := wj (by omega)
    rw [rd_drop l j (by omega), List.contains_cons]
    by_cases h : rd l (j : Int) = x
    · have : (x == rd l (j : Int)) = true := by rw [h]; exact beq_self_eq_true x
      rw [this, Bool.true_or]
      exact Ev.step (fun k => by simp only [spec_l1Has.l0, c, c0, h, ↓reduceIte] <;> rfl) (Ev.now _)
    · have : (x == rd l (j : Int)) = false := beq_eq_false_iff_ne.2 (fun e => h e.symm)
      rw [this, Bool.false_or]
      exact Ev.step (fun k => by simp only [spec_l1Has.l0, c, c0, h, e1, ↓reduceIte]) (ih (j + 1) (by omega))
theorem ev_l1Has (l : List Int) (x : Int) (hl : l.length < 9223372036854775807) : Ev (fun k => spec_l1Has.f k l x) (l.contains x) := by
  have := ev_l1Has_l0 l x hl l.length 0 (by omega)
  rw [List.drop_zero] at this
  exact this
theorem ev_l2Order_l0 (l : List Int) (hl : l.length ≤ 7) (d : Nat) : ∀ j : Nat, j + d = l.length → Ev (fun k => spec_l2Order.l0 k l (j : Int)) (chk l.length (l.take j) (l.drop j)) := by
  induction d with
  | zero =>
    intro j hj
    have c : ¬ (j : Int) < (l.length : Int) := by omega
    rw [List.drop_of_length_le (by omega)]
    exact Ev.step (fun k => by simp only [spec_l2Order.l0, c, ↓reduceIte] <;> rfl) (Ev.now _)
  | succ d ih =>
    intro j hj
    have c : (j : Int) < (l.length : Int) := by omega
    have c0 : 0 ≤ (j : Int) := by omega
    have c1 : (j : Int) ≤ (l.length : Int) := by omega
    have e1 : wrap64 ((j : Int) + 1) = ((j + 1 : Nat) : Int) := wj (by omega)
    rw [rd_drop l j (by omega), chk, ← take_succ l j (by omega)]
    by_cases h : (decide (1 ≤ rd l (j : Int)) && decide (rd l (j : Int) ≤ (l.length : Int))) = true
    · rw [h, Bool.true_and]
      refine Ev.step (f := fun k => (spec_l1Has.f k (l.take j) (rd l (j : Int))).bind fun t => if t = true then some false else spec_l2Order.l0 k l ((j + 1 : Nat) : Int)) (fun k => by simp only [spec_l2Order.l0, c, c0, c1, ev_l1In', h, e1, Option.bind_some, Int.toNat_natCast, ↓reduceIte]) ?_
      refine Ev.bind (ev_l1Has (l.take j) _ (by rw [List.length_take]; omega)) ?_
      cases hc : (l.take j).contains (rd l (j : Int)) with
      | true =>
        simp only [↓reduceIte, Bool.not_true, Bool.false_and]
        exact Ev.now _
      | false =>
        simp only [Bool.false_eq_true, ↓reduceIte, Bool.not_false, Bool.true_and]
        exact ih (j + 1) (by omega)
    · have h' := Bool.eq_false_iff.2 h
      rw [h', Bool.false_and, Bool.false_and]
      exact Ev.step (fun k => by simp only [spec_l2Order.l0, c, c0, ev_l1In', h', Option.bind_some, Bool.false_eq_true, ↓reduceIte] <;> rfl) (Ev.now _)
theorem ev_l2Order (l : List Int) : Ev (fun k => spec_l2Order.f k l) (ordB l) := by
  unfold spec_l2Order.f ordB
  simp only [ev_l1In', Option.bind_some]
  by_cases h1 : 1 ≤ l.length
  · have g1 : (1 : Int) ≤ (l.length : Int) := by omega
    by_cases h7 : l.length ≤ 7
    · have g7 : (l.length : Int) ≤ 7 := by omega
      have := ev_l2Order_l0 l h7 l.length 0 (by omega)
      simp only [h1, h7, g1, g7, decide_true, Bool.and_true, Bool.true_and, ↓reduceIte]
      rw [List.take_zero, List.drop_zero] at this
      exact this
    · have g7 : ¬ (l.length : Int) ≤ 7 := by omega
      simp only [h7, g7, decide_false, Bool.and_false, Bool.false_and, Bool.false_eq_true, ↓reduceIte]
      exact Ev.now _
  · have g1 : ¬ (1 : Int) ≤ (l.length : Int) := by omega
    simp only [h1, g1, decide_false, Bool.false_and, Bool.false_eq_true, ↓reduceIte]
    exact Ev.now _
theorem ev_Index_l0 (l : List Int) (x : Int) (hl : l.length < 9223372036854775807) (d : Nat) : ∀ j : Nat, j + d = l.length → ∃ r : Int, Ev (fun k => slices_Index_int_int.l0 k l x (l.length : Int) (j : Int)) r ∧ decide (r ≥ 0) = (l.drop j).contains x := by
  induction d with
  | zero =>
    intro j hj
    have c : ¬ (j : Int) < (l.length : Int) := by omega
    rw [List.drop_of_length_le (by omega)]
    exact ⟨-1, Ev.step (fun k => by simp only [slices_Index_int_int.l0, c, ↓reduceIte] <;> rfl) (Ev.now _), rfl⟩
  | succ d ih =>
    intro j hj
    have c : (j : Int) < (l.length : Int) := by omega
    have c0 : 0 ≤ (j : Int) := by omega
    have e1 : wrap64 ((j : Int) + 1) = ((j + 1 : Nat) : Int) := wj (by omega)
    rw [rd_drop l j (by omega), List.contains_cons]
    by_cases h : x = rd l (j : Int)
    · have : (x == rd l (j : Int)) = true := beq_iff_eq.2 h
      rw [this, Bool.true_or]
      exact ⟨j, Ev.step (fun k => by simp only [slices_Index_int_int.l0, c, c0, ↓reduceIte]; rw [if_pos h]) (Ev.now _), by simp⟩
    · have : (x == rd l (j : Int)) = false := beq_eq_false_iff_ne.2 h
      rw [this, Bool.false_or]
      obtain ⟨r, hr, hd⟩ := ih (j + 1) (by omega)
      exact ⟨r, Ev.step (fun k => by simp only [slices_Index_int_int.l0, c, c0, h, e1, ↓reduceIte]) hr, hd⟩
theorem ev_Contains (l : List Int) (x : Int) (hl : l.length < 9223372036854775807) : Ev (fun k => slices_Contains_int_int.f k l x) (l.contains x) := by
  obtain ⟨r, hr, hd⟩ := ev_Index_l0 l x hl l.length 0 (by omega)
  rw [List.drop_zero] at hd
  unfold slices_Contains_int_int.f slices_Index_int_int.f
  refine Ev.bind hr ?_
  rw [hd]
  exact Ev.now _
theorem ev_isOrder_l0 (l : List Int) (hl : l.length ≤ 7) (d : Nat) : ∀ j : Nat, j + d = l.length → Ev (fun k => impl_isOrder.l0 k l l (l.length : Int) (j : Int)) (chk l.length (l.take j) (l.drop j)) := by
  induction d with
  | zero =>
    intro j hj
    have c : ¬ (j : Int) < (l.length : Int) := by omega
    rw [List.drop_of_length_le (by omega)]
    exact Ev.step (fun k => by simp only [impl_isOrder.l0, c, ↓reduceIte] <;> rfl) (Ev.now _)
  | succ d ih =>
    intro j hj
    have c : (j : Int) < (l.length : Int) := by omega
    have c0 : 0 ≤ (j : Int) := by omega
    have c1 : (j : Int) ≤ (l.length : Int) := by omega
    have e1 : wrap64 ((j : Int) + 1) = ((j + 1 : Nat) : Int) := wj (by omega)
    rw [rd_drop l j (by omega), chk, ← take_succ l j (by omega)]
    by_cases h1 : 1 ≤ rd l (j : Int)
    · have g1 : ¬ rd l (j : Int) < 1 := by omega
      by_cases h2 : rd l (j : Int) ≤ (l.length : Int)
      · have g2 : ¬ rd l (j : Int) > (l.length : Int) := by omega
        simp only [h1, h2, decide_true, Bool.true_and]
        refine Ev.step (f := fun k => (slices_Contains_int_int.f k (l.take j) (rd l (j : Int))).bind fun t => if t = true then some false else impl_isOrder.l0 k l l (l.length : Int) ((j + 1 : Nat) : Int)) (fun k => by simp only [impl_isOrder.l0, c, c0, c1, g1, g2, e1, Int.toNat_natCast, ↓reduceIte]) ?_
        refine Ev.bind (ev_Contains (l.take j) _ (by rw [List.length_take]; omega)) ?_
        cases hc : (l.take j).contains (rd l (j : Int)) with
        | true =>
          simp only [↓reduceIte, Bool.not_true, Bool.false_and]
          exact Ev.now _
        | false =>
          simp only [Bool.false_eq_true, ↓reduceIte, Bool.not_false, Bool.true_and]
          exact ih (j + 1) (by omega)
      · have g2 : rd l (j : Int) > (l.length : Int) := by omega
        simp only [h2, decide_false, Bool.and_false, Bool.false_and]
        exact Ev.step (fun k => by simp only [impl_isOrder.l0, c, c0, g1, g2, ↓reduceIte] <;> rfl) (Ev.now _)
    · have g1 : rd l (j : Int) < 1 := by omega
      simp only [h1, decide_false, Bool.false_and]
      exact Ev.step (fun k => by simp only [impl_isOrder.l0, c, c0, g1, ↓reduceIte] <;> rfl) (Ev.now _)
theorem ev_isOrder (l : List Int) : Ev (fun k => impl_isOrder.f k l) (ordB l) := by
  unfold impl_isOrder.f ordB
  by_cases h1 : 1 ≤ l.length
  · have g1 : ¬ (l.length : Int) < 1 := by omega
    by_cases h7 : l.length ≤ 7
    · have g7 : ¬ (l.length : Int) > 7 := by omega
      have := ev_isOrder_l0 l h7 l.length 0 (by omega)
      simp only [h1, h7, g1, g7, decide_true, decide_false, Bool.true_and, ↓reduceIte]
      refine Ev.step (fun k => by simp only [impl_isOrder.j0, Bool.false_eq_true, ↓reduceIte] <;> rfl) ?_
      rw [List.take_zero, List.drop_zero] at this
      exact this
    · have g7 : (l.length : Int) > 7 := by omega
      simp only [h7, g1, g7, decide_true, decide_false, Bool.and_false, Bool.false_and, ↓reduceIte]
      exact Ev.step (fun k => by simp only [impl_isOrder.j0, ↓reduceIte] <;> rfl) (Ev.now _)
  · have g1 : (l.length : Int) < 1 := by omega
    simp only [h1, g1, decide_false, Bool.false_and, ↓reduceIte]
    exact Ev.step (fun k => by simp only [impl_isOrder.j0, ↓reduceIte] <;> rfl) (Ev.now _)
theorem eqB_zr (p : Nat → Int) : eqB p = zr p := by
  by_cases h0 : p 0 = 0
  · have ht : tw p = [] := by simp [tw, m7, h0]
    have hz : zr p = !([p 0, p 1, p 2, p 3, p 4, p 5, p 6].any (· != 0)) := by simp [zr, m7, h0]
    unfold eqB
    rw [ht, hz, Bool.eq_iff_iff]
    simp only [rd, Int.toNat_natCast, List.getD_cons_zero, List.getD_cons_succ, List.getD_nil, List.any_cons, List.any_nil, decide_eq_true_eq, Bool.not_eq_true', Bool.or_eq_false_iff, bne_eq_false_iff_eq, true_and, and_true]
    try first | omega | (constructor <;> intro h_ <;> simp_all <;> omega) | simp_all
  by_cases h1 : p 1 = 0
  · have ht : tw p = [p 0] := by simp [tw, m7, h0, h1]
    have hz : zr p = !([p 1, p 2, p 3, p 4, p 5, p 6].any (· != 0)) := by simp [zr, m7, h0, h1]
    unfold eqB
    rw [ht, hz, Bool.eq_iff_iff]
    simp only [rd, Int.toNat_natCast, List.getD_cons_zero, List.getD_cons_succ, List.getD_nil, List.any_cons, List.any_nil, decide_eq_true_eq, Bool.not_eq_true', Bool.or_eq_false_iff, bne_eq_false_iff_eq, true_and, and_true]
    try first | omega | (constructor <;> intro h_ <;> simp_all <;> omega) | simp_all
  by_cases h2 : p 2 = 0
  · have ht : tw p = [p 0, p 1] := by simp [tw, m7, h0, h1, h2]
    have hz : zr p = !([p 2, p 3, p 4, p 5, p 6].any (· != 0)) := by simp [zr, m7, h0, h1, h2]
    unfold eqB
    rw [ht, hz, Bool.eq_iff_iff]
    simp only [rd, Int.toNat_natCast, List.getD_cons_zero, List.getD_cons_succ, List.getD_nil, List.any_cons, List.any_nil, decide_eq_true_eq, Bool.not_eq_true', Bool.or_eq_false_iff, bne_eq_false_iff_eq, true_and, and_true]
    try first | omega | (constructor <;> intro h_ <;> simp_all <;> omega) | simp_all
  by_cases h3 : p 3 = 0
  · have ht : tw p = [p 0, p 1, p 2] := by simp [tw, m7, h0, h1, h2, h3]
    have hz : zr p = !([p 3, p 4, p 5, p 6].any (· != 0)) := by simp [zr, m7, h0, h1, h2, h3]
    unfold eqB
    rw [ht, hz, Bool.eq_iff_iff]
    simp only [rd, Int.toNat_natCast, List.getD_cons_zero, List.getD_cons_succ, List.getD_nil, List.any_cons, List.any_nil, decide_eq_true_eq, Bool.not_eq_true', Bool.or_eq_false_iff, bne_eq_false_iff_eq, true_and, and_true]
    try first | omega | (constructor <;> intro h_ <;> simp_all <;> omega) | simp_all
  by_cases h4 : p 4 = 0
  · have ht : tw p = [p 0, p 1, p 2, p 3] := by simp [tw, m7, h0, h1, h2, h3, h4]
    have hz : zr p = !([p 4, p 5, p 6].any (· != 0)) := by simp [zr, m7, h0, h1, h2, h3, h4]
    unfold eqB
    rw [ht, hz, Bool.eq_iff_iff]
    simp only [rd, Int.toNat_natCast, List.getD_cons_zero, List.getD_cons_succ, List.getD_nil, List.any_cons, List.any_nil, decide_eq_true_eq, Bool.not_eq_true', Bool.or_eq_false_iff, bne_eq_false_iff_eq, true_and, and_true]
    try first | omega | (constructor <;> intro h_ <;> simp_all <;> omega) | simp_all
  by_cases h5 : p 5 = 0
  · have ht : tw p = [p 0, p 1, p 2, p 3, p 4] := by simp [tw, m7, h0, h1, h2, h3, h4, h5]
    have hz : zr p = !([p 5, p 6].any (· != 0)) := by simp [zr, m7, h0, h1, h2, h3, h4, h5]
    unfold eqB
    rw [ht, hz, Bool.eq_iff_iff]
    simp only [rd, Int.toNat_natCast, List.getD_cons_zero, List.getD_cons_succ, List.getD_nil, List.any_cons, List.any_nil, decide_eq_true_eq, Bool.not_eq_true', Bool.or_eq_false_iff, bne_eq_false_iff_eq, true_and, and_true]
    try first | omega | (constructor <;> intro h_ <;> simp_all <;> omega) | simp_all
  by_cases h6 : p 6 = 0
  · have ht : tw p = [p 0, p 1, p 2, p 3, p 4, p 5] := by simp [tw, m7, h0, h1, h2, h3, h4, h5, h6]
    have hz : zr p = !([p 6].any (· != 0)) := by simp [zr, m7, h0, h1, h2, h3, h4, h5, h6]
    unfold eqB
    rw [ht, hz, Bool.eq_iff_iff]
    simp only [rd, Int.toNat_natCast, List.getD_cons_zero, List.getD_cons_succ, List.getD_nil, List.any_cons, List.any_nil, decide_eq_true_eq, Bool.not_eq_true', Bool.or_eq_false_iff, bne_eq_false_iff_eq, true_and, and_true]
    try first | omega | (constructor <;> intro h_ <;> simp_all <;> omega) | simp_all
  have ht : tw p = [p 0, p 1, p 2, p 3, p 4, p 5, p 6] := by simp [tw, m7, h0, h1, h2, h3, h4, h5, h6]
  have hz : zr p = true := by simp [zr, m7, h0, h1, h2, h3, h4, h5, h6]
  unfold eqB
  rw [ht, hz, Bool.eq_iff_iff]
  simp only [rd, Int.toNat_natCast, List.getD_cons_zero, List.getD_cons_succ, List.getD_nil, List.any_cons, List.any_nil, decide_eq_true_eq, Bool.not_eq_true', Bool.or_eq_false_iff, bne_eq_false_iff_eq, true_and, and_true]
  try first | omega | (constructor <;> intro h_ <;> simp_all <;> omega) | simp_all
/-- Both tell the same of a yard. -/
theorem both_yard (p0 p1 p2 : Nat → Int) (cn : Int) : ∃ (k1 k2 : Nat) (b : Bool), goodF k1 p0 p1 p2 cn = some b ∧ partsF k2 p0 p1 p2 cn = some b := by
  obtain ⟨K1, h1⟩ := ev_l2Order (allY p0 p1 p2)
  obtain ⟨K2, h2⟩ := ev_isOrder (allY p0 p1 p2)
  dsimp only at h1 h2
  refine ⟨K1, K2, ordB (allY p0 p1 p2) && eqB p0 && eqB p1 && eqB p2 && (decide (0 ≤ cn) && decide (cn ≤ 1000)), ?_, ?_⟩
  · unfold goodF
    rw [h1 K1 (Nat.le_refl _)]
    rfl
  · unfold partsF
    rw [h2 K2 (Nat.le_refl _)]
    simp only [Option.bind_some, eqB_zr]
    congr 1
    cases ordB (allY p0 p1 p2) <;> cases zr p0 <;> cases zr p1 <;> cases zr p2 <;> cases decide (0 ≤ cn) <;> cases decide (cn ≤ 1000) <;> rfl
set_option maxHeartbeats 8000000 in
set_option maxRecDepth 100000 in
theorem law_NewConsole (p0 p1 p2 : Nat → Int) (cn : Int) (w : World) : Calls Try.prog 6 #[.agg (arr (y22 p0 p1 p2 cn))] w fun e w' => e = .returned (.bool true) ∧ Below w.heap.size w w' := by
  obtain ⟨k1, k2, b, hs, hp⟩ := both_yard p0 p1 p2 cn
  have hu := Try.underlying32
  have hi : (Try.prog.info? 32).map (·.size) = some 22 := by kernel_rfl
  have huc := Try.underlying42
  obtain ⟨cs, hcs⟩ : ∃ cs, cs = conC b p0 p1 p2 cn := ⟨_, rfl⟩
  have hsize : cs.size = 25 := by rw [hcs]; cases b <;> rfl
  have hone : cs.all (·.oneCell') = true := by rw [hcs]; cases b <;> kernel_rfl
  have hic : (Try.prog.info? 42).map (·.size) = some cs.size := by rw [hsize]; kernel_rfl
  have hse : ∀ w : World, Calls Try.prog 23 #[.agg cs, .agg cs] w fun e w' => e = .returned (.bool true) ∧ Below w.heap.size w w' := by
    intro w
    rw [hcs]
    cases b
    · exact eqConsole_self _ _ _ _ w
    · exact eqConsole_self _ _ _ _ w
  have hsp : ∀ w : World, Calls Try.prog 21 #[.agg (arr (y22 p0 p1 p2 cn))] w fun e w' => e = .returned (.tuple #[.agg cs, .bool b]) ∧ Below w.heap.size w w' := fun w => by rw [hcs]; exact specNewConsole_walk k1 p0 p1 p2 cn b w hs
  have hip : ∀ w : World, Calls Try.prog 22 #[.agg (arr (y22 p0 p1 p2 cn))] w fun e w' => e = .returned (.tuple #[.agg cs, .bool b]) ∧ Below w.heap.size w w' := fun w => by rw [hcs]; exact implNewConsole_walk k2 p0 p1 p2 cn b w hp
  have HS := Aside0.mk hsp
  have HP := Aside0.mk hip
  have HE := Aside0.mk hse
  have HSZ := Aside0.mk hsize
  have HONE := Aside0.mk hone
  have Z1 := Aside0.mk (blk_new w (.cells (arr (y22 p0 p1 p2 cn)) 32))
  have B1 := Aside0.mk (below_alloc (Below.refl w.heap.size w) (.cells (arr (y22 p0 p1 p2 cn)) 32))
  have S1 := Aside0.mk (rfl : (1 : Nat) = 1)
  have hbb : (b != b) = false := bne_self_eq_false b
  clear hs hp hsp hip hse hsize hone hcs
  go_enter Try.func6, Try.ntmps6
  go_wp2_with (first
    | ((with_reducible refine gate_dst (N := 8) rfl ?_); refine load_row_event rfl 32 (.tmp 1) rfl w.heap.size rfl 32 (arr (y22 p0 p1 p2 cn)) _ Z1.out hu rfl hi ?_)
    | (go_at_call 15; clear S1; (refine (toYard_walk p0 p1 p2 cn _).mono ?_); rintro e w2 ⟨rfl, hb⟩; have B2 := Aside0.mk (below_step B1.out hb); have Z2 := Aside0.mk ((hb.block _ (lt_of_block Z1.out)).trans Z1.out); clear hb)
    | (go_at_call 21; (refine (HS.out _).mono ?_); rintro e w3 ⟨rfl, hb⟩; have B3 := Aside0.mk (below_step B2.out hb); have Z3 := Aside0.mk ((hb.block _ (lt_of_block Z2.out)).trans Z2.out); clear hb)
    | ((with_reducible refine gate_store (t := 42) (p := 3) rfl ?_); refine store_row_event rfl rfl 42 (.tmp 3) (.tmp 11) rfl w3.heap.size cs rfl rfl 42 _ (blk_new w3 _) hic (by rw [HSZ.out]; rfl) HONE.out ?_; intro w4 hh ho; have Y4 := Aside0.mk hh; have Z4 := Aside0.mk (ho.blk (by have := lt_of_block Z3.out; omega) (blk_alloc Z3.out _)); have B4 := Aside0.mk (ho.below (below_alloc B3.out _) B3.out.size); clear hh ho)
    | ((with_reducible refine gate_dst (N := 14) rfl ?_); refine load_row_event rfl 32 (.tmp 1) rfl w.heap.size rfl 32 (arr (y22 p0 p1 p2 cn)) _ Z4.out hu rfl hi ?_)
    | (go_at_call 15; (refine (toYard_walk p0 p1 p2 cn _).mono ?_); rintro e w5 ⟨rfl, hb⟩; have B5 := Aside0.mk (below_step B4.out hb); have Y5 := Aside0.mk ((hb.block _ (lt_of_block Y4.out)).trans Y4.out); clear hb)
    | (go_at_call 22; (refine (HP.out _).mono ?_); rintro e w6 ⟨rfl, hb⟩; have B6 := Aside0.mk (below_step B5.out hb); have Y6 := Aside0.mk ((hb.block _ (lt_of_block Y5.out)).trans Y5.out); clear hb)
    | ((with_reducible refine gate_store (t := 42) (p := 5) rfl ?_); refine store_row_event rfl rfl 42 (.tmp 5) (.tmp 17) rfl w6.heap.size cs rfl rfl 42 _ (blk_new w6 _) hic (by rw [HSZ.out]; rfl) HONE.out ?_; intro w7 hh ho; have X7 := Aside0.mk hh; have Y7 := Aside0.mk (ho.blk (by have := lt_of_block Y6.out; omega) (blk_alloc Y6.out _)); have B7 := Aside0.mk (ho.below (below_alloc B6.out _) B6.out.size); clear hh ho)
    | ((with_reducible refine gate_dst (N := 19) rfl ?_); refine load_row_event rfl 42 (.tmp 5) rfl w6.heap.size rfl 42 cs _ X7.out huc rfl hic ?_)
    | ((with_reducible refine gate_dst (N := 20) rfl ?_); refine load_row_event rfl 42 (.tmp 3) rfl w3.heap.size rfl 42 cs _ Y7.out huc rfl hic ?_)
    | (go_at_call 23; (refine (HE.out _).mono ?_); rintro e w8 ⟨rfl, hb⟩; have B8 := Aside0.mk (below_step B7.out hb); clear hb))
  go_ret
  exact ⟨rfl, B8.out⟩

end Go.Proofs.Ythokeoocdkaffaa.Pure
