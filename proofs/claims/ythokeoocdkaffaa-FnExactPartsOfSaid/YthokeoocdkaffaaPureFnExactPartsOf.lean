/- PartsOf: the program and the reference tell the same of every yard, and what the program tells shares no memory. -/
import Derived.Test.YthokeoocdkaffaaXqHpo
import Derived.Test.YthokeoocdkaffaaXq1
import Derived.Test.YthokeoocdkaffaaXq4
import Derived.Test.YthokeoocdkaffaaXqHtoy
import Derived.Test.YthokeoocdkaffaaXqHgood
import Derived.Test.YthokeoocdkaffaaXqHparts
import Derived.Test.YthokeoocdkaffaaXqHarr7
import Derived.Test.YthokeoocdkaffaaXqHpart
import Derived.Test.YthokeoocdkaffaaXq3
import Derived.Test.YthokeoocdkaffaaPk
import Derived.OneCell
import Derived.Shelf.Abstract
import Derived.Outline
import Derived.BigQuiet
import Derived.Deep.QuietTactic
import Derived.RegionTactic
import Derived.BigRegion
set_option linter.unusedVariables false
set_option linter.unusedSimpArgs false
namespace Go.Proofs.Ythokeoocdkaffaa.Pure
open Go.RowKit Go.Proofs.Ythokeoocdkaffaa.Xq Go.Proofs.YthokeoocdkaffaaW.PrintWords Go.Proofs.YthokeoocdkaffaaW.PrintLast Go.Proofs.Ythokeoocdkaffaa.Pk

theorem ev_l1In' (a b c : Int) : spec_l1In.f a b c = some (decide (b ≤ a) && decide (a ≤ c)) := by
  unfold spec_l1In.f
  by_cases h : b ≤ a
  · rw [if_pos h, decide_eq_true h, Bool.true_and]
  · rw [if_neg h, decide_eq_false h, Bool.false_and]
/-! ### is a list an order? -/
theorem ev_l1Has_l0 (l : List Int) (x : Int) (hl : l.length < 9223372036854775807) (d : Nat) : ∀ j : Nat, j + d = l.length → Ev (fun k => spec_l1Has.l0 k l x (j : Int)) ((l.drop j).contains x) := by
  induction d with
  | zero =>
    intro j hj
    have c : ¬ (j : Int) < (l.length : Int) := by omega
    rw [List.drop_of_length_le (by omega)]
    exact Ev.step (fun k => by simp only [spec_l1Has.l0, c, ↓reduceIte] <;> rfl) (Ev.now _)
  | succ d ih =>
    intro j hj
    have c : (j : Int) < (l.length : Int) := by omega
    have c0 : 0 ≤ (j : Int) := by omega
    have e1 : wrap64 ((j : Int) + 1) = ((j + 1 : Nat) : Int) := wj (by omega)
    rw [rd_drop l j (by omega), List.contains_cons]
    by_cases h : rd l (j : Int) = x
    · have : (x == rd l (j : Int)) = true := by rw [h]; exact beq_self_eq_true x
      rw [this, Bool.true_or]
      exact Ev.step (fun k => by simp only [spec_l1Has.l0, c, c0, h, ↓reduceIte] <;> rfl) (Ev.now _)
    · have : (x == rd l (j : Int)) = false := beq_eq_false_iff_ne.2 (fun e => h e.symm)
      rw [this, Bool.false_or]
      exact Ev.step (fun k => by simp only [spec_l1Has.l0, c, c0, h, e1, ↓reduceIte]) (ih (j + 1) (by omega))
theorem ev_l1Has (l : List Int) (x : Int) (hl : l.length < 9223372036854775807) : Ev (fun k => spec_l1Has.f k l x) (l.contains x) := by
  have := ev_l1Has_l0 l x hl l.length 0 (by omega)
  rw [List.drop_zero] at this
  exact this
theorem ev_l2Order_l0 (l : List Int) (hl : l.length ≤ 7) (d : Nat) : ∀ j : Nat, j + d = l.length → Ev (fun k => spec_l2Order.l0 k l (j : Int)) (chk l.length (l.take j) (l.drop j)) := by
  induction d with
  | zero =>
    intro j hj
    have c : ¬ (j : Int) < (l.length : Int) := by omega
    rw [List.drop_of_length_le (by omega)]
    exact Ev.step (fun k => by simp only [spec_l2Order.l0, c, ↓reduceIte] <;> rfl) (Ev.now _)
  | succ d ih =>
    intro j hj
    have c : (j : Int) < (l.length : Int) := by omega
    have c0 : 0 ≤ (j : Int) := by omega
    have c1 : (j : Int) ≤ (l.length : Int) := by omega
    have e1 : wrap64 ((j : Int) + 1) = ((j + 1 : Nat) : Int) := wj (by omega)
    rw [rd_drop l j (by omega), chk, ← take_succ l j (by omega)]
    by_cases h : (decide (1 ≤ rd l (j : Int)) && decide (rd l (j : Int) ≤ (l.length : Int))) = true
    · rw [h, Bool.true_and]
      refine Ev.step (f := fun k => (spec_l1Has.f k (l.take j) (rd l (j : Int))).bind fun t => if t = true then some false else spec_l2Order.l0 k l ((j + 1 : Nat) : Int)) (fun k => by simp only [spec_l2Order.l0, c, c0, c1, ev_l1In', h, e1, Option.bind_some, Int.toNat_natCast, ↓reduceIte]) ?_
      refine Ev.bind (ev_l1Has (l.take j) _ (by rw [List.length_take]; omega)) ?_
      cases hc : (l.take j).contains (rd l (j : Int)) with
      | true =>
        simp only [↓reduceIte, Bool.not_true, Bool.false_and]
        exact Ev.now _
      | false =>
        simp only [Bool.false_eq_true, ↓reduceIte, Bool.not_false, Bool.true_and]
        exact ih (j + 1) (by omega)
    · have h' := Bool.eq_false_iff.2 h
      rw [h', Bool.false_and, Bool.false_and]
      exact Ev.step (fun k => by simp only [spec_l2Order.l0, c, c0, ev_l1In', h', Option.bind_some, Bool.false_eq_true, ↓reduceIte] <;> rfl) (Ev.now _)
theorem ev_l2Order (l : List Int) : Ev (fun k => spec_l2Order.f k l) (ordB l) := by
  unfold spec_l2Order.f ordB
  simp only [ev_l1In', Option.bind_some]
  by_cases h1 : 1 ≤ l.length
  · have g1 : (1 : Int) ≤ (l.length : Int) := by omega
    by_cases h7 : l.length ≤ 7
    · have g7 : (l.length : Int) ≤ 7 := by omega
      have := ev_l2Order_l0 l h7 l.length 0 (by omega)
      simp only [h1, h7, g1, g7, decide_true, Bool.and_true, Bool.true_and, ↓reduceIte]
      rw [List.take_zero, List.drop_zero] at this
      exact this
    · have g7 : ¬ (l.length : Int) ≤ 7 := by omega
      simp only [h7, g7, decide_false, Bool.and_false, Bool.false_and, Bool.false_eq_true, ↓reduceIte]
      exact Ev.now _
  · have g1 : ¬ (1 : Int) ≤ (l.length : Int) := by omega
    simp only [h1, g1, decide_false, Bool.false_and, Bool.false_eq_true, ↓reduceIte]
    exact Ev.now _
theorem ev_Index_l0 (l : List Int) (x : Int) (hl : l.length < 9223372036854775807) (d : Nat) : ∀ j : Nat, j + d = l.length → ∃ r : Int, Ev (fun k => slices_Index_int_int.l0 k l x (l.length : Int) (j : Int)) r ∧ decide (r ≥ 0) = (l.drop j).contains x := by
  induction d with
  | zero =>
    intro j hj
    have c : ¬ (j : Int) < (l.length : Int) := by omega
    rw [List.drop_of_length_le (by omega)]
    exact ⟨-1, Ev.step (fun k => by simp only [slices_Index_int_int.l0, c, ↓reduceIte] <;> rfl) (Ev.now _), rfl⟩
  | succ d ih =>
    intro j hj
    have c : (j : Int) < (l.length : Int) := by omega
    have c0 : 0 ≤ (j : Int) := by omega
    have e1 : wrap64 ((j : Int) + 1) = ((j + 1 : Nat) : Int) := wj (by omega)
    rw [rd_drop l j (by omega), List.contains_cons]
    by_cases h : x = rd l (j : Int)
    · have : (x == rd l (j : Int)) = true := beq_iff_eq.2 h
      rw [this, Bool.true_or]
      exact ⟨j, Ev.step (fun k => by simp only [slices_Index_int_int.l0, c, c0, ↓reduceIte]; rw [if_pos h]) (Ev.now _), by simp⟩
    · have : (x == rd l (j : Int)) = false := beq_eq_false_iff_ne.2 h
      rw [this, Bool.false_or]
      obtain ⟨r, hr, hd⟩ := ih (j + 1) (by omega)
      exact ⟨r, Ev.step (fun k => by simp only [slices_Index_int_int.l0, c, c0, h, e1, ↓reduceIte]) hr, hd⟩
theorem ev_Contains (l : List Int) (x : Int) (hl : l.length < 9223372036854775807) : Ev (fun k => slices_Contains_int_int.f k l x) (l.contains x) := by
  obtain ⟨r, hr, hd⟩ := ev_Index_l0 l x hl l.length 0 (by omega)
  rw [List.drop_zero] at hd
  unfold slices_Contains_int_int.f slices_Index_int_int.f
  refine Ev.bind hr ?_
  rw [hd]
  exact Ev.now _
theorem ev_isOrder_l0 (l : List Int) (hl : l.length ≤ 7) (d : Nat) : ∀ j : Nat, j + d = l.length → Ev (fun k => impl_isOrder.l0 k l l (l.length : Int) (j : Int)) (chk l.length (l.take j) (l.drop j)) := by
  induction d with
  | zero =>
    intro j hj
    have c : ¬ (j : Int) < (l.length : Int) := by omega
    rw [List.drop_of_length_le (by omega)]
    exact Ev.step (fun k => by simp only [impl_isOrder.l0, c, ↓reduceIte] <;> rfl) (Ev.now _)
  | succ d ih =>
    intro j hj
    have c : (j : Int) < (l.length : Int) := by omega
    have c0 : 0 ≤ (j : Int) := by omega
    have c1 : (j : Int) ≤ (l.length : Int) := by omega
    have e1 : wrap64 ((j : Int) + 1) = ((j + 1 : Nat) : Int) := wj (by omega)
    rw [rd_drop l j (by omega), chk, ← take_succ l j (by omega)]
    by_cases h1 : 1 ≤ rd l (j : Int)
    · have g1 : ¬ rd l (j : Int) < 1 := by omega
      by_cases h2 : rd l (j : Int) ≤ (l.length : Int)
      · have g2 : ¬ rd l (j : Int) > (l.length : Int) := by omega
        simp only [h1, h2, decide_true, Bool.true_and]
        refine Ev.step (f := fun k => (slices_Contains_int_int.f k (l.take j) (rd l (j : Int))).bind fun t => if t = true then some false else impl_isOrder.l0 k l l (l.length : Int) ((j + 1 : Nat) : Int)) (fun k => by simp only [impl_isOrder.l0, c, c0, c1, g1, g2, e1, Int.toNat_natCast, ↓reduceIte]) ?_
        refine Ev.bind (ev_Contains (l.take j) _ (by rw [List.length_take]; omega)) ?_
        cases hc : (l.take j).contains (rd l (j : Int)) with
        | true =>
          simp only [↓reduceIte, Bool.not_true, Bool.false_and]
          exact Ev.now _
        | false =>
          simp only [Bool.false_eq_true, ↓reduceIte, Bool.not_false, Bool.true_and]
          exact ih (j + 1) (by omega)
      · have g2 : rd l (j : Int) > (l.length : Int) := by omega
        simp only [h2, decide_false, Bool.and_false, Bool.false_and]
        exact Ev.step (fun k => by simp only [impl_isOrder.l0, c, c0, g1, g2, ↓reduceIte] <;> rfl) (Ev.now _)
    · have g1 : rd l (j : Int) < 1 := by omega
      simp only [h1, decide_false, Bool.false_and]
      exact Ev.step (fun k => by simp only [impl_isOrder.l0, c, c0, g1, ↓reduceIte] <;> rfl) (Ev.now _)
theorem ev_isOrder (l : List Int) : Ev (fun k => impl_isOrder.f k l) (ordB l) := by
  unfold impl_isOrder.f ordB
  by_cases h1 : 1 ≤ l.length
  · have g1 : ¬ (l.length : Int) < 1 := by omega
    by_cases h7 : l.length ≤ 7
    · have g7 : ¬ (l.length : Int) > 7 := by omega
      have := ev_isOrder_l0 l h7 l.length 0 (by omega)
      simp only [h1, h7, g1, g7, decide_true, decide_false, Bool.true_and, ↓reduceIte]
      refine Ev.step (fun k => by simp only [impl_isOrder.j0, Bool.false_eq_true, ↓reduceIte] <;> rfl) ?_
      rw [List.take_zero, List.drop_zero] at this
      exact this
    · have g7 : (l.length : Int) > 7 := by omega
      simp only [h7, g1, g7, decide_true, decide_false, Bool.and_false, Bool.false_and, ↓reduceIte]
      exact Ev.step (fun k => by simp only [impl_isOrder.j0, ↓reduceIte] <;> rfl) (Ev.now _)
  · have g1 : (l.length : Int) < 1 := by omega
    simp only [h1, g1, decide_false, Bool.false_and, ↓reduceIte]
    exact Ev.step (fun k => by simp only [impl_isOrder.j0, ↓reduceIte] <;> rfl) (Ev.now _)
theorem ev_eqIntS_l0 (l : List Int) (hl : l.length < 9223372036854775807) (d : Nat) : ∀ j : Nat, j + d = l.length → Ev (fun k => laws_eqIntS.l0 k l l (j : Int)) true := by
  induction d with
  | zero =>
    intro j hj
    have c : ¬ (j : Int) < (l.length : Int) := by omega
    exact Ev.step (fun k => by simp only [laws_eqIntS.l0, c, ↓reduceIte] <;> rfl) (Ev.now _)
  | succ d ih =>
    intro j hj
    have c : (j : Int) < (l.length : Int) := by omega
    have c0 : 0 ≤ (j : Int) := by omega
    have e1 : wrap64 ((j : Int) + 1) = ((j + 1 : Nat) : Int) := wj (by omega)
    exact Ev.step (fun k => by simp only [laws_eqIntS.l0, c, c0, e1, ↓reduceIte] <;> rfl) (ih (j + 1) (by omega))
/-- A list is equal to itself. -/
theorem ev_eqIntS (l : List Int) (hl : l.length < 9223372036854775807) : Ev (fun k => laws_eqIntS.f k l l) true := by
  simp only [laws_eqIntS.f, ↓reduceIte]
  exact ev_eqIntS_l0 l hl l.length 0 (by omega)
/-! ### marks are laid, and held -/
theorem ev_markIntS_l0 (l : List Int) (b : Int) (hb0 : 0 ≤ b) (hb : b ≤ 4000000000) (hl : l.length ≤ 4000000000) (d : Nat) : ∀ j : Nat, j + d = l.length → Ev (fun k => laws_markIntS.l0 k (iota b j ++ l.drop j) (b + (j : Int)) (j : Int)) (b + (l.length : Int), iota b l.length) := by
  induction d with
  | zero =>
    intro j hj
    obtain rfl : j = l.length := by omega
    rw [List.drop_of_length_le (Nat.le_refl _), List.append_nil]
    have c : ¬ (l.length : Int) < ((iota b l.length).length : Int) := by rw [iota_length]; omega
    exact Ev.step (f := fun _ => some (b + (l.length : Int), iota b l.length)) (fun k => by simp only [laws_markIntS.l0, c, ↓reduceIte]) (Ev.now _)
  | succ d ih =>
    intro j hj
    have c : (j : Int) < ((iota b j ++ l.drop j).length : Int) := by rw [List.length_append, iota_length, List.length_drop]; omega
    have c0 : 0 ≤ (j : Int) := by omega
    have e1 : wrap64 ((j : Int) + 1) = ((j + 1 : Nat) : Int) := wj (by omega)
    have e2 : wrap64 (b + (j : Int) + 1) = b + ((j + 1 : Nat) : Int) := by rw [wr (by omega) (by omega)]; omega
    refine Ev.step (fun k => ?_) (ih (j + 1) (by omega))
    simp only [laws_markIntS.l0, c, c0, e1, e2, Int.toNat_natCast, ↓reduceIte]
    rw [set_iota b l j (by omega)]
theorem ev_markIntS (l : List Int) (b : Int) (hb0 : 0 ≤ b) (hb : b ≤ 4000000000) (hl : l.length ≤ 4000000000) : Ev (fun k => laws_markIntS.f k l b) (b + (l.length : Int), iota b l.length) := by
  have := ev_markIntS_l0 l b hb0 hb hl l.length 0 (by omega)
  simp only [List.drop_zero, iota, List.range_zero, List.map_nil, List.nil_append, Int.natCast_zero, Int.add_zero] at this
  exact this
theorem ev_heldIntS_l0 (n : Nat) (b : Int) (hb0 : 0 ≤ b) (hb : b ≤ 4000000000) (hl : n ≤ 4000000000) (d : Nat) : ∀ j : Nat, j + d = n → Ev (fun k => laws_heldIntS.l0 k (iota b n) (b + (j : Int)) (j : Int)) (b + (n : Int)) := by
  induction d with
  | zero =>
    intro j hj
    obtain rfl : j = n := by omega
    have c : ¬ (j : Int) < ((iota b j).length : Int) := by rw [iota_length]; omega
    exact Ev.step (f := fun _ => some (b + (j : Int))) (fun k => by simp only [laws_heldIntS.l0, c, ↓reduceIte]) (Ev.now _)
  | succ d ih =>
    intro j hj
    have c : (j : Int) < ((iota b n).length : Int) := by rw [iota_length]; omega
    have c0 : 0 ≤ (j : Int) := by omega
    have e1 : wrap64 ((j : Int) + 1) = ((j + 1 : Nat) : Int) := wj (by omega)
    have e2 : wrap64 (b + (j : Int) + 1) = b + ((j + 1 : Nat) : Int) := by rw [wr (by omega) (by omega)]; omega
    have e3 := rd_iota b n j (by omega)
    refine Ev.step (fun k => ?_) (ih (j + 1) (by omega))
    simp only [laws_heldIntS.l0, c, c0, e3, e1, e2, ↓reduceIte]
theorem ev_heldIntS (n : Nat) (b : Int) (hb0 : 0 ≤ b) (hb : b ≤ 4000000000) (hl : n ≤ 4000000000) : Ev (fun k => laws_heldIntS.f k (iota b n) b) (b + (n : Int)) := by
  have := ev_heldIntS_l0 n b hb0 hb hl n 0 (by omega)
  simp only [Int.natCast_zero, Int.add_zero] at this
  exact this
theorem eqB_zr (p : Nat → Int) : eqB p = zr p := by
  by_cases h0 : p 0 = 0
  · have ht : tw p = [] := by simp [tw, m7, h0]
    have hz : zr p = !([p 0, p 1, p 2, p 3, p 4, p 5, p 6].any (· != 0)) := by simp [zr, m7, h0]
    unfold eqB
    rw [ht, hz, Bool.eq_iff_iff]
    simp only [rd, Int.toNat_natCast, List.getD_cons_zero, List.getD_cons_succ, List.getD_nil, List.any_cons, List.any_nil, decide_eq_true_eq, Bool.not_eq_true', Bool.or_eq_false_iff, bne_eq_false_iff_eq, true_and, and_true]
    try first | omega | (constructor <;> intro h_ <;> simp_all <;> omega) | simp_all
  by_cases h1 : p 1 = 0
  · have ht : tw p = [p 0] := by simp [tw, m7, h0, h1]
    have hz : zr p = !([p 1, p 2, p 3, p 4, p 5, p 6].any (· != 0)) := by simp [zr, m7, h0, h1]
    unfold eqB
    rw [ht, hz, Bool.eq_iff_iff]
    simp only [rd, Int.toNat_natCast, List.getD_cons_zero, List.getD_cons_succ, List.getD_nil, List.any_cons, List.any_nil, decide_eq_true_eq, Bool.not_eq_true', Bool.or_eq_false_iff, bne_eq_false_iff_eq, true_and, and_true]
    try first | omega | (constructor <;> intro h_ <;> simp_all <;> omega) | simp_all
  by_cases h2 : p 2 = 0
  · have ht : tw p = [p 0, p 1] := by simp [tw, m7, h0, h1, h2]
    have hz : zr p = !([p 2, p 3, p 4, p 5, p 6].any (· != 0)) := by simp [zr, m7, h0, h1, h2]
    unfold eqB
    rw [ht, hz, Bool.eq_iff_iff]
    simp only [rd, Int.toNat_natCast, List.getD_cons_zero, List.getD_cons_succ, List.getD_nil, List.any_cons, List.any_nil, decide_eq_true_eq, Bool.not_eq_true', Bool.or_eq_false_iff, bne_eq_false_iff_eq, true_and, and_true]
    try first | omega | (constructor <;> intro h_ <;> simp_all <;> omega) | simp_all
  by_cases h3 : p 3 = 0
  · have ht : tw p = [p 0, p 1, p 2] := by simp [tw, m7, h0, h1, h2, h3]
    have hz : zr p = !([p 3, p 4, p 5, p 6].any (· != 0)) := by simp [zr, m7, h0, h1, h2, h3]
    unfold eqB
    rw [ht, hz, Bool.eq_iff_iff]
    simp only [rd, Int.toNat_natCast, List.getD_cons_zero, List.getD_cons_succ, List.getD_nil, List.any_cons, List.any_nil, decide_eq_true_eq, Bool.not_eq_true', Bool.or_eq_false_iff, bne_eq_false_iff_eq, true_and, and_true]
    try first | omega | (constructor <;> intro h_ <;> simp_all <;> omega) | simp_all
  by_cases h4 : p 4 = 0
  · have ht : tw p = [p 0, p 1, p 2, p 3] := by simp [tw, m7, h0, h1, h2, h3, h4]
    have hz : zr p = !([p 4, p 5, p 6].any (· != 0)) := by simp [zr, m7, h0, h1, h2, h3, h4]
    unfold eqB
    rw [ht, hz, Bool.eq_iff_iff]
    simp only [rd, Int.toNat_natCast, List.getD_cons_zero, List.getD_cons_succ, List.getD_nil, List.any_cons, List.any_nil, decide_eq_true_eq, Bool.not_eq_true', Bool.or_eq_false_iff, bne_eq_false_iff_eq, true_and, and_true]
    try first | omega | (constructor <;> intro h_ <;> simp_all <;> omega) | simp_all
  by_cases h5 : p 5 = 0
  · have ht : tw p = [p 0, p 1, p 2, p 3, p 4] := by simp [tw, m7, h0, h1, h2, h3, h4, h5]
    have hz : zr p = !([p 5, p 6].any (· != 0)) := by simp [zr, m7, h0, h1, h2, h3, h4, h5]
    unfold eqB
    rw [ht, hz, Bool.eq_iff_iff]
    simp only [rd, Int.toNat_natCast, List.getD_cons_zero, List.getD_cons_succ, List.getD_nil, List.any_cons, List.any_nil, decide_eq_true_eq, Bool.not_eq_true', Bool.or_eq_false_iff, bne_eq_false_iff_eq, true_and, and_true]
    try first | omega | (constructor <;> intro h_ <;> simp_all <;> omega) | simp_all
  by_cases h6 : p 6 = 0
  · have ht : tw p = [p 0, p 1, p 2, p 3, p 4, p 5] := by simp [tw, m7, h0, h1, h2, h3, h4, h5, h6]
    have hz : zr p = !([p 6].any (· != 0)) := by simp [zr, m7, h0, h1, h2, h3, h4, h5, h6]
    unfold eqB
    rw [ht, hz, Bool.eq_iff_iff]
    simp only [rd, Int.toNat_natCast, List.getD_cons_zero, List.getD_cons_succ, List.getD_nil, List.any_cons, List.any_nil, decide_eq_true_eq, Bool.not_eq_true', Bool.or_eq_false_iff, bne_eq_false_iff_eq, true_and, and_true]
    try first | omega | (constructor <;> intro h_ <;> simp_all <;> omega) | simp_all
  have ht : tw p = [p 0, p 1, p 2, p 3, p 4, p 5, p 6] := by simp [tw, m7, h0, h1, h2, h3, h4, h5, h6]
  have hz : zr p = true := by simp [zr, m7, h0, h1, h2, h3, h4, h5, h6]
  unfold eqB
  rw [ht, hz, Bool.eq_iff_iff]
  simp only [rd, Int.toNat_natCast, List.getD_cons_zero, List.getD_cons_succ, List.getD_nil, List.any_cons, List.any_nil, decide_eq_true_eq, Bool.not_eq_true', Bool.or_eq_false_iff, bne_eq_false_iff_eq, true_and, and_true]
  try first | omega | (constructor <;> intro h_ <;> simp_all <;> omega) | simp_all
/-- Both tell the same of a yard. -/
theorem both_yard (p0 p1 p2 : Nat → Int) (cn : Int) : ∃ (k1 k2 : Nat) (b : Bool), goodF k1 p0 p1 p2 cn = some b ∧ partsF k2 p0 p1 p2 cn = some b := by
  obtain ⟨K1, h1⟩ := ev_l2Order (allY p0 p1 p2)
  obtain ⟨K2, h2⟩ := ev_isOrder (allY p0 p1 p2)
  dsimp only at h1 h2
  refine ⟨K1, K2, ordB (allY p0 p1 p2) && eqB p0 && eqB p1 && eqB p2 && (decide (0 ≤ cn) && decide (cn ≤ 1000)), ?_, ?_⟩
  · unfold goodF
    rw [h1 K1 (Nat.le_refl _)]
    rfl
  · unfold partsF
    rw [h2 K2 (Nat.le_refl _)]
    simp only [Option.bind_some, eqB_zr]
    congr 1
    cases ordB (allY p0 p1 p2) <;> cases zr p0 <;> cases zr p1 <;> cases zr p2 <;> cases decide (0 ≤ cn) <;> cases decide (cn ≤ 1000) <;> rfl
structure PS (wb W : World) (s1 s2 : Nat) (A0 : Option Addr) (n0 c0 : Nat) (A1 : Option Addr) (n1 c1 : Nat) (A2 : Option Addr) (n2 c2 : Nat) (m0 m1 m2 : List Int) : Prop where
  b : Below wb.heap.size wb W
  r0 : Kd.R (Kd.int .i64) 3 W wb.heap.size (fun k_ => k_ < s1) (.slice A0 n0 c0) m0
  r1 : Kd.R (Kd.int .i64) 3 W wb.heap.size (fun k_ => s1 ≤ k_ ∧ k_ < s2) (.slice A1 n1 c1) m1
  r2 : Kd.R (Kd.int .i64) 3 W wb.heap.size (fun k_ => s2 ≤ k_) (.slice A2 n2 c2) m2
section
variable {wb W W2 : World} {s1 s2 n0 c0 n1 c1 n2 c2 : Nat} {A0 A1 A2 : Option Addr} {m0 m1 m2 m : List Int}
theorem PS.below (h : PS wb W s1 s2 A0 n0 c0 A1 n1 c1 A2 n2 c2 m0 m1 m2) (hb : Below W.heap.size W W2) : PS wb W2 s1 s2 A0 n0 c0 A1 n1 c1 A2 n2 c2 m0 m1 m2 := ⟨below_step h.b hb, Kd.R_below h.r0 hb, Kd.R_below h.r1 hb, Kd.R_below h.r2 hb⟩
theorem PS.mark0 (h : PS wb W s1 s2 A0 n0 c0 A1 n1 c1 A2 n2 c2 m0 m1 m2) (hs : s1 ≤ s2) (hr : Kd.R (Kd.int .i64) 3 W2 wb.heap.size (fun k_ => (k_ < s1 ∨ W.heap.size ≤ k_)) (.slice A0 n0 c0) m) (hb : Below wb.heap.size wb W2) (hk : Kept W W2 (fun k_ => k_ < s1)) : PS wb W2 s1 s2 A0 n0 c0 A1 n1 c1 A2 n2 c2 m m1 m2 :=
  ⟨hb, Kd.R_of_own (Kd.own_of_R hr) h.r0.1, Kd.R_kept h.r1 hk (fun k h1 h2 => by omega), Kd.R_kept h.r2 hk (fun k h1 h2 => by omega)⟩
theorem PS.mark1 (h : PS wb W s1 s2 A0 n0 c0 A1 n1 c1 A2 n2 c2 m0 m1 m2) (hs : s1 ≤ s2) (hr : Kd.R (Kd.int .i64) 3 W2 wb.heap.size (fun k_ => ((s1 ≤ k_ ∧ k_ < s2) ∨ W.heap.size ≤ k_)) (.slice A1 n1 c1) m) (hb : Below wb.heap.size wb W2) (hk : Kept W W2 (fun k_ => s1 ≤ k_ ∧ k_ < s2)) : PS wb W2 s1 s2 A0 n0 c0 A1 n1 c1 A2 n2 c2 m0 m m2 :=
  ⟨hb, Kd.R_kept h.r0 hk (fun k h1 h2 => by omega), Kd.R_of_own (Kd.own_of_R hr) h.r1.1, Kd.R_kept h.r2 hk (fun k h1 h2 => by omega)⟩
theorem PS.mark2 (h : PS wb W s1 s2 A0 n0 c0 A1 n1 c1 A2 n2 c2 m0 m1 m2) (hs : s1 ≤ s2) (hr : Kd.R (Kd.int .i64) 3 W2 wb.heap.size (fun k_ => (s2 ≤ k_ ∨ W.heap.size ≤ k_)) (.slice A2 n2 c2) m) (hb : Below wb.heap.size wb W2) (hk : Kept W W2 (fun k_ => s2 ≤ k_)) : PS wb W2 s1 s2 A0 n0 c0 A1 n1 c1 A2 n2 c2 m0 m1 m :=
  ⟨hb, Kd.R_kept h.r0 hk (fun k h1 h2 => by omega), Kd.R_kept h.r1 hk (fun k h1 h2 => by omega), Kd.R_of_own (Kd.own_of_R hr) h.r2.1⟩
end
theorem rd_row {W : World} {base c n : Nat} {A : Option Addr} {l : List Int} {ok : Nat → Prop} (h : Kd.R (Kd.int .i64) 3 W base ok (.slice A n c) l) : n = l.length ∧ n ≤ c ∧ Kd.C (Kd.int .i64) W A l.length l := Kd.R_reads' h
theorem eqS (k : Nat) (A : Option Addr) (n c : Nat) (A2 : Option Addr) (c2 : Nat) (l : List Int) (W : World) (hA : n = l.length ∧ n ≤ c ∧ Kd.C (Kd.int .i64) W A l.length l) (h2 : Kd.C (Kd.int .i64) W A2 l.length l) (hc2 : l.length ≤ c2) (h : laws_eqIntS.f k l l = some true) : Calls Try.prog 13 #[.slice A n c, .slice A2 l.length c2] W fun e w' => e = .returned (.bool true) ∧ Drawn0 W w' := by
  obtain ⟨rfl, hc, hC⟩ := hA
  exact laws_eqIntS.calls k A c l A2 c2 l true W hC hc h2 hc2 h
theorem heldS (k : Nat) (A : Option Addr) (n c : Nat) (l : List Int) (a r : Int) (W : World) (hA : n = l.length ∧ n ≤ c ∧ Kd.C (Kd.int .i64) W A l.length l) (h : laws_heldIntS.f k l a = some r) : Calls Try.prog 20 #[.slice A n c, .int .i64 a] W fun e w' => e = .returned (.int .i64 r) ∧ Drawn0 W w' := by
  obtain ⟨rfl, hc, hC⟩ := hA
  exact laws_heldIntS.calls k A c l a r W hC hc h
theorem outL_len (b : Bool) (p : Nat → Int) : (outL b p).length ≤ 7 := by
  cases b
  · exact Nat.zero_le _
  · exact tw_len p
set_option maxHeartbeats 16000000 in
set_option maxRecDepth 100000 in
theorem law_PartsOf (p0 p1 p2 : Nat → Int) (cn : Int) (w : World) : Calls Try.prog 5 #[.agg (arr (y22 p0 p1 p2 cn))] w fun e w' => e = .returned (.bool true) ∧ Below w.heap.size w w' := by
  obtain ⟨k1, k2, b, hs, hp⟩ := both_yard p0 p1 p2 cn
  have hu := Try.underlying32
  have hi : (Try.prog.info? 32).map (·.size) = some 22 := by kernel_rfl
  have hsp := fun w => specPartsOf_walk k1 p0 p1 p2 cn b w hs
  have hip := fun w => implPartsOf_walk k2 p0 p1 p2 cn b w hp
  have hl0 := outL_len b p0
  have hl1 := outL_len b p1
  have hl2 := outL_len b p2
  generalize outL b p0 = L0 at hsp hip hl0
  generalize outL b p1 = L1 at hsp hip hl1
  generalize outL b p2 = L2 at hsp hip hl2
  obtain ⟨e1, he1⟩ : ∃ e1, e1 = 1 + (L0.length : Int) := ⟨_, rfl⟩
  obtain ⟨e2, he2⟩ : ∃ e2, e2 = e1 + (L1.length : Int) := ⟨_, rfl⟩
  obtain ⟨e3, he3⟩ : ∃ e3, e3 = e2 + (L2.length : Int) := ⟨_, rfl⟩
  obtain ⟨Q0, q0⟩ := ev_eqIntS L0 (by omega)
  obtain ⟨Q1, q1⟩ := ev_eqIntS L1 (by omega)
  obtain ⟨Q2, q2⟩ := ev_eqIntS L2 (by omega)
  obtain ⟨M0, t0⟩ := ev_markIntS L0 1 (by omega) (by omega) (by omega)
  obtain ⟨M1, t1⟩ := ev_markIntS L1 e1 (by omega) (by omega) (by omega)
  obtain ⟨M2, t2⟩ := ev_markIntS L2 e2 (by omega) (by omega) (by omega)
  obtain ⟨H0, u0⟩ := ev_heldIntS L0.length 1 (by omega) (by omega) (by omega)
  obtain ⟨H1, u1⟩ := ev_heldIntS L1.length e1 (by omega) (by omega) (by omega)
  obtain ⟨H2, u2⟩ := ev_heldIntS L2.length e2 (by omega) (by omega) (by omega)
  dsimp only at q0 q1 q2 t0 t1 t2 u0 u1 u2
  rw [← he1] at t0 u0
  rw [← he2] at t1 u1
  rw [← he3] at t2 u2
  have QQ0 := Aside0.mk (q0 Q0 (Nat.le_refl _))
  have QQ1 := Aside0.mk (q1 Q1 (Nat.le_refl _))
  have QQ2 := Aside0.mk (q2 Q2 (Nat.le_refl _))
  have MM0 := Aside0.mk (t0 M0 (Nat.le_refl _))
  have MM1 := Aside0.mk (t1 M1 (Nat.le_refl _))
  have MM2 := Aside0.mk (t2 M2 (Nat.le_refl _))
  have HH0 := Aside0.mk (u0 H0 (Nat.le_refl _))
  have HH1 := Aside0.mk (u1 H1 (Nat.le_refl _))
  have HH2 := Aside0.mk (u2 H2 (Nat.le_refl _))
  have d1 : decide (e1 < 0) = false := decide_eq_false (by omega)
  have d2 : decide (e2 < 0) = false := decide_eq_false (by omega)
  have d3 : decide (e3 < 0) = false := decide_eq_false (by omega)
  have hee : (e3 != e3) = false := bne_self_eq_false e3
  have hbb : (b != b) = false := bne_self_eq_false b
  have HS := Aside0.mk hsp
  have HP := Aside0.mk hip
  have Z1 := Aside0.mk (blk_new w (.cells (arr (y22 p0 p1 p2 cn)) 32))
  have B1 := Aside0.mk (below_alloc (Below.refl w.heap.size w) (.cells (arr (y22 p0 p1 p2 cn)) 32))
  have SA := Aside0.mk (rfl : (1 : Nat) = 1)
  have SB := Aside0.mk (rfl : (1 : Nat) = 1)
  have SC := Aside0.mk (rfl : (1 : Nat) = 1)
  have SE0 := Aside0.mk (rfl : (1 : Nat) = 1)
  have SE1 := Aside0.mk (rfl : (1 : Nat) = 1)
  have SE2 := Aside0.mk (rfl : (1 : Nat) = 1)
  have SM0 := Aside0.mk (rfl : (1 : Nat) = 1)
  have SM1 := Aside0.mk (rfl : (1 : Nat) = 1)
  have SM2 := Aside0.mk (rfl : (1 : Nat) = 1)
  have SH0 := Aside0.mk (rfl : (1 : Nat) = 1)
  have SH1 := Aside0.mk (rfl : (1 : Nat) = 1)
  have SH2 := Aside0.mk (rfl : (1 : Nat) = 1)
  have SF0 := Aside0.mk (rfl : (1 : Nat) = 1)
  have SF1 := Aside0.mk (rfl : (1 : Nat) = 1)
  have SF2 := Aside0.mk (rfl : (1 : Nat) = 1)
  have SG0 := Aside0.mk (rfl : (1 : Nat) = 1)
  have SG1 := Aside0.mk (rfl : (1 : Nat) = 1)
  have SG2 := Aside0.mk (rfl : (1 : Nat) = 1)
  clear hs hp hsp hip q0 q1 q2 t0 t1 t2 u0 u1 u2 he1 he2 he3 hl0 hl1 hl2
  go_enter Try.func5, Try.ntmps5
  go_wp2_with (first
    | ((with_reducible refine gate_dst (N := 18) rfl ?_); refine load_row_event rfl 32 (.tmp 1) rfl w.heap.size rfl 32 (arr (y22 p0 p1 p2 cn)) _ Z1.out hu rfl hi ?_)
    | (go_at_call 15; clear SA; (refine (toYard_walk p0 p1 p2 cn _).mono ?_); rintro e w2 ⟨rfl, hb⟩; have B2 := Aside0.mk (below_step B1.out hb); have Z2 := Aside0.mk ((hb.block _ (lt_of_block Z1.out)).trans Z1.out); clear hb)
    | (go_at_call 17; (refine (HS.out _).mono ?_); rintro e w3 ⟨X0, x0, X1, x1, X2, x2, rfl, ⟨hx0, hy0⟩, ⟨hx1, hy1⟩, ⟨hx2, hy2⟩, hb⟩; have B3 := Aside0.mk (below_step B2.out hb); have Z3 := Aside0.mk ((hb.block _ (lt_of_block Z2.out)).trans Z2.out); have CX0 := Aside0.mk hx0; have CX1 := Aside0.mk hx1; have CX2 := Aside0.mk hx2; have LX0 := Aside0.mk hy0; have LX1 := Aside0.mk hy1; have LX2 := Aside0.mk hy2; clear hb hx0 hx1 hx2 hy0 hy1 hy2)
    | ((with_reducible refine gate_dst (N := 26) rfl ?_); refine load_row_event rfl 32 (.tmp 1) rfl w.heap.size rfl 32 (arr (y22 p0 p1 p2 cn)) _ Z3.out hu rfl hi ?_)
    | (go_at_call 15; clear SB; (refine (toYard_walk p0 p1 p2 cn _).mono ?_); rintro e w4 ⟨rfl, hb⟩; have B4 := Aside0.mk (below_step B3.out hb); have Z4 := Aside0.mk ((hb.block _ (lt_of_block Z3.out)).trans Z3.out); have CW0 := Aside0.mk (Kd.C_below CX0.out hb); have CW1 := Aside0.mk (Kd.C_below CX1.out hb); have CW2 := Aside0.mk (Kd.C_below CX2.out hb); clear hb)
    | (go_at_call 18; clear SC; (refine (HP.out _).mono ?_); rintro e w6 ⟨A0, c0, A1, c1, A2, c2, s1, s2, rfl, hs12, hr0, hr1, hr2, hb⟩; have HS12 := Aside0.mk hs12; have P6 := Aside0.mk (show PS w4 w6 s1 s2 A0 L0.length c0 A1 L1.length c1 A2 L2.length c2 L0 L1 L2 from ⟨hb, hr0, hr1, hr2⟩); clear hb hr0 hr1 hr2 hs12)
    | (go_at_call 13; clear SE0; (refine (eqS Q0 A0 L0.length c0 X0 x0 L0 _ (rd_row P6.out.r0) (Kd.C_below CW0.out P6.out.b) LX0.out QQ0.out).mono ?_); rintro e w7 ⟨rfl, hd⟩; have hb := Drawn0.below hd; have P7 := Aside0.mk (P6.out.below hb); clear hd hb)
    | (go_at_call 13; clear SE1; (refine (eqS Q1 A1 L1.length c1 X1 x1 L1 _ (rd_row P7.out.r1) (Kd.C_below CW1.out P7.out.b) LX1.out QQ1.out).mono ?_); rintro e w8 ⟨rfl, hd⟩; have hb := Drawn0.below hd; have P8 := Aside0.mk (P7.out.below hb); clear hd hb)
    | (go_at_call 13; clear SE2; (refine (eqS Q2 A2 L2.length c2 X2 x2 L2 _ (rd_row P8.out.r2) (Kd.C_below CW2.out P8.out.b) LX2.out QQ2.out).mono ?_); rintro e w9 ⟨rfl, hd⟩; have hb := Drawn0.below hd; have P9 := Aside0.mk (P8.out.below hb); clear hd hb)
    | (go_at_call 19; clear SM0; (refine (laws_markIntS.calls M0 (fun k_ => k_ < s1) (.slice A0 L0.length c0) L0 1 e1 (iota 1 L0.length) w4 _ P9.out.b P9.out.r0 MM0.out).mono ?_); rintro e w10 ⟨rfl, hr, hb, hk⟩; have P10 := Aside0.mk (P9.out.mark0 HS12.out hr hb hk); clear hr hb hk)
    | (go_at_call 19; clear SM1; (refine (laws_markIntS.calls M1 (fun k_ => s1 ≤ k_ ∧ k_ < s2) (.slice A1 L1.length c1) L1 e1 e2 (iota e1 L1.length) w4 _ P10.out.b P10.out.r1 MM1.out).mono ?_); rintro e w11 ⟨rfl, hr, hb, hk⟩; have P11 := Aside0.mk (P10.out.mark1 HS12.out hr hb hk); clear hr hb hk)
    | (go_at_call 19; clear SM2; (refine (laws_markIntS.calls M2 (fun k_ => s2 ≤ k_) (.slice A2 L2.length c2) L2 e2 e3 (iota e2 L2.length) w4 _ P11.out.b P11.out.r2 MM2.out).mono ?_); rintro e w12 ⟨rfl, hr, hb, hk⟩; have P12 := Aside0.mk (P11.out.mark2 HS12.out hr hb hk); clear hr hb hk)
    | (go_at_call 20; clear SH0; (refine (heldS H0 A0 L0.length c0 (iota 1 L0.length) 1 e1 _ (rd_row P12.out.r0) HH0.out).mono ?_); rintro e w13 ⟨rfl, hd⟩; have hb := Drawn0.below hd; have P13 := Aside0.mk (P12.out.below hb); clear hd hb)
    | (go_at_call 20; clear SH1; (refine (heldS H1 A1 L1.length c1 (iota e1 L1.length) e1 e2 _ (rd_row P13.out.r1) HH1.out).mono ?_); rintro e w14 ⟨rfl, hd⟩; have hb := Drawn0.below hd; have P14 := Aside0.mk (P13.out.below hb); clear hd hb)
    | (go_at_call 20; clear SH2; (refine (heldS H2 A2 L2.length c2 (iota e2 L2.length) e2 e3 _ (rd_row P14.out.r2) HH2.out).mono ?_); rintro e w15 ⟨rfl, hd⟩; have hb := Drawn0.below hd; have P15 := Aside0.mk (P14.out.below hb); clear hd hb)
    | ((with_reducible refine gate_dst (N := 82) rfl ?_); refine load_row_event rfl 32 (.tmp 1) rfl w.heap.size rfl 32 (arr (y22 p0 p1 p2 cn)) _ ((P15.out.b.block _ (lt_of_block Z4.out)).trans Z4.out) hu rfl hi ?_)
    | (go_at_call 15; (refine (toYard_walk p0 p1 p2 cn _).mono ?_); rintro e w16 ⟨rfl, hb⟩; have P16 := Aside0.mk (P15.out.below hb); clear hb)
    | (go_at_call 18; (refine (HP.out _).mono ?_); rintro e w17 ⟨G0, g0, G1, g1, G2, g2, z1, z2, rfl, _, hr0, hr1, hr2, hb⟩; have P17 := Aside0.mk (P16.out.below hb); have RH0 := Aside0.mk hr0; have RH1 := Aside0.mk hr1; have RH2 := Aside0.mk hr2; clear hb hr0 hr1 hr2)
    | (go_at_call 13; clear SF0; (refine (eqS Q0 G0 L0.length g0 X0 x0 L0 _ (rd_row RH0.out) (Kd.C_below CW0.out P17.out.b) LX0.out QQ0.out).mono ?_); rintro e w18 ⟨rfl, hd⟩; have hb := Drawn0.below hd; have P18 := Aside0.mk (P17.out.below hb); have RH0 := Aside0.mk (Kd.R_below RH0.out hb); have RH1 := Aside0.mk (Kd.R_below RH1.out hb); have RH2 := Aside0.mk (Kd.R_below RH2.out hb); clear hd hb)
    | (go_at_call 13; clear SF1; (refine (eqS Q1 G1 L1.length g1 X1 x1 L1 _ (rd_row RH1.out) (Kd.C_below CW1.out P18.out.b) LX1.out QQ1.out).mono ?_); rintro e w19 ⟨rfl, hd⟩; have hb := Drawn0.below hd; have P19 := Aside0.mk (P18.out.below hb); have RH0 := Aside0.mk (Kd.R_below RH0.out hb); have RH1 := Aside0.mk (Kd.R_below RH1.out hb); have RH2 := Aside0.mk (Kd.R_below RH2.out hb); clear hd hb)
    | (go_at_call 13; clear SF2; (refine (eqS Q2 G2 L2.length g2 X2 x2 L2 _ (rd_row RH2.out) (Kd.C_below CW2.out P19.out.b) LX2.out QQ2.out).mono ?_); rintro e w20 ⟨rfl, hd⟩; have hb := Drawn0.below hd; have P20 := Aside0.mk (P19.out.below hb); have RH0 := Aside0.mk (Kd.R_below RH0.out hb); have RH1 := Aside0.mk (Kd.R_below RH1.out hb); have RH2 := Aside0.mk (Kd.R_below RH2.out hb); clear hd hb)
    | (go_at_call 20; clear SG0; (refine (heldS H0 A0 L0.length c0 (iota 1 L0.length) 1 e1 _ (rd_row P20.out.r0) HH0.out).mono ?_); rintro e w21 ⟨rfl, hd⟩; have hb := Drawn0.below hd; have P21 := Aside0.mk (P20.out.below hb); clear hd hb)
    | (go_at_call 20; clear SG1; (refine (heldS H1 A1 L1.length c1 (iota e1 L1.length) e1 e2 _ (rd_row P21.out.r1) HH1.out).mono ?_); rintro e w22 ⟨rfl, hd⟩; have hb := Drawn0.below hd; have P22 := Aside0.mk (P21.out.below hb); clear hd hb)
    | (go_at_call 20; clear SG2; (refine (heldS H2 A2 L2.length c2 (iota e2 L2.length) e2 e3 _ (rd_row P22.out.r2) HH2.out).mono ?_); rintro e w23 ⟨rfl, hd⟩; have hb := Drawn0.below hd; have P23 := Aside0.mk (P22.out.below hb); clear hd hb))
  go_ret
  exact ⟨rfl, below_step B4.out P23.out.b⟩

end Go.Proofs.Ythokeoocdkaffaa.Pure
