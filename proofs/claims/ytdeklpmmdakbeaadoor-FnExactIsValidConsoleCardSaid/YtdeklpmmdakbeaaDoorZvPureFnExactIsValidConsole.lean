/- IsValidConsole: the program and the reference tell the same of every console. -/
import Derived.Test.YtdeklpmmdakbeaaDoorZvXvHvcons
import Derived.Test.YtdeklpmmdakbeaaDoorZvXvHtoy
import Derived.Test.YtdeklpmmdakbeaaDoorZvXvHgood
import Derived.Test.YtdeklpmmdakbeaaDoorZvXvHparts
import Derived.Test.YtdeklpmmdakbeaaDoorZvXvHarr7
import Derived.Test.YtdeklpmmdakbeaaDoorZvXvHpart
import Derived.Test.YtdeklpmmdakbeaaDoorZvXv2
import Derived.Test.YtdeklpmmdakbeaaDoorZvXv7
import Derived.Test.YtdeklpmmdakbeaaDoorZvXv1
import Derived.Test.YtdeklpmmdakbeaaDoorZvXv6
import Derived.Test.YtdeklpmmdakbeaaDoorZvXv11
import Derived.Test.YtdeklpmmdakbeaaDoorZvXvHitoa
import Derived.Test.YtdeklpmmdakbeaaDoorZvXv9
import Derived.Test.YtdeklpmmdakbeaaDoorZvXv10
import Derived.Test.YtdeklpmmdakbeaaDoorZvXv4
import Derived.Test.YtdeklpmmdakbeaaDoorZvXv5
import Derived.Test.YtdeklpmmdakbeaaDoorZvXvHnum
import Derived.Test.YtdeklpmmdakbeaaDoorZvXv3
import Derived.Test.YtdeklpmmdakbeaaDoorZvXvHcontains
import Derived.Test.YtdeklpmmdakbeaaDoorZvXvHcut
import Derived.Test.YtdeklpmmdakbeaaDoorZvPk
import Derived.OneCell
import Derived.Shelf.Abstract
import Derived.Outline
import Derived.BigQuiet
import Derived.Deep.QuietTactic
import Derived.RegionTactic
import Derived.BigRegion
import Derived.Lib.IndexLaws
set_option linter.unusedVariables false
set_option linter.unusedSimpArgs false
namespace Go.Proofs.YtdeklpmmdakbeaaDoor.Pure
open Go.RowKit Go.Proofs.YtdeklpmmdakbeaaDoor.Xv Go.Proofs.YtdeklpmmdakbeaaDoorW.PrintWords Go.Proofs.YtdeklpmmdakbeaaDoorW.PrintLast Go.Proofs.YtdeklpmmdakbeaaDoor.Pk

theorem ev_l1In' (a b c : Int) : spec_l1In.f a b c = some (decide (b ≤ a) && decide (a ≤ c)) := by
  unfold spec_l1In.f
  by_cases h : b ≤ a
  · rw [if_pos h, decide_eq_true h, Bool.true_and]
  · rw [if_neg h, decide_eq_false h, Bool.false_and]
/-! ### is a list an order? -/
theorem ev_l1Has_l0 (l : List Int) (x : Int) (hl : l.length < 9223372036854775807) (d : Nat) : ∀ j : Nat, j + d = l.length → Ev (fun k => spec_l1Has.l0 k l x (j : Int)) ((l.drop j).contains x) := by
  induction d with
  | zero =>
    intro j hj
    have c : ¬ (j : Int) < (l.length : Int) := by omega
    rw [List.drop_of_length_le (by omega)]
    exact Ev.step (fun k => by simp only [spec_l1Has.l0, c, ↓reduceIte] <;> rfl) (Ev.now _)
  | succ d ih =>
    intro j hj
    have c : (j : Int) < (l.length : Int) := by omega
    have c0 : 0 ≤ (j : Int) := by omega
    have e1 : wrap64 ((j : Int) + 1) = ((j + 1 : Nat) : Int) := wj (by omega)
    rw [rd_drop l j (by omega), List.contains_cons]
    by_cases h : rd l (j : Int) = x
    · have : (x == rd l (j : Int)) = true := by rw [h]; exact beq_self_eq_true x
      rw [this, Bool.true_or]
      exact Ev.step (fun k => by simp only [spec_l1Has.l0, c, c0, h, ↓reduceIte] <;> rfl) (Ev.now _)
    · have : (x == rd l (j : Int)) = false := beq_eq_false_iff_ne.2 (fun e => h e.symm)
      rw [this, Bool.false_or]
      exact Ev.step (fun k => by simp only [spec_l1Has.l0, c, c0, h, e1, ↓reduceIte]) (ih (j + 1) (by omega))
theorem ev_l1Has (l : List Int) (x : Int) (hl : l.length < 9223372036854775807) : Ev (fun k => spec_l1Has.f k l x) (l.contains x) := by
  have := ev_l1Has_l0 l x hl l.length 0 (by omega)
  rw [List.drop_zero] at this
  exact this
theorem ev_l2Order_l0 (l : List Int) (hl : l.length ≤ 7) (d : Nat) : ∀ j : Nat, j + d = l.length → Ev (fun k => spec_l2Order.l0 k l (j : Int)) (chk l.length (l.take j) (l.drop j)) := by
  induction d with
  | zero =>
    intro j hj
    have c : ¬ (j : Int) < (l.length : Int) := by omega
    rw [List.drop_of_length_le (by omega)]
    exact Ev.step (fun k => by simp only [spec_l2Order.l0, c, ↓reduceIte] <;> rfl) (Ev.now _)
  | succ d ih =>
    intro j hj
    have c : (j : Int) < (l.length : Int) := by omega
    have c0 : 0 ≤ (j : Int) := by omega
    have c1 : (j : Int) ≤ (l.length : Int) := by omega
    have e1 : wrap64 ((j : Int) + 1) = ((j + 1 : Nat) : Int) := wj (by omega)
    rw [rd_drop l j (by omega), chk, ← take_succ l j (by omega)]
    by_cases h : (decide (1 ≤ rd l (j : Int)) && decide (rd l (j : Int) ≤ (l.length : Int))) = true
    · rw [h, Bool.true_and]
      refine Ev.step (f := fun k => (spec_l1Has.f k (l.take j) (rd l (j : Int))).bind fun t => if t = true then some false else spec_l2Order.l0 k l ((j + 1 : Nat) : Int)) (fun k => by simp only [spec_l2Order.l0, c, c0, c1, ev_l1In', h, e1, Option.bind_some, Int.toNat_natCast, ↓reduceIte]) ?_
      refine Ev.bind (ev_l1Has (l.take j) _ (by rw [List.length_take]; omega)) ?_
      cases hc : (l.take j).contains (rd l (j : Int)) with
      | true =>
        simp only [↓reduceIte, Bool.not_true, Bool.false_and]
        exact Ev.now _
      | false =>
        simp only [Bool.false_eq_true, ↓reduceIte, Bool.not_false, Bool.true_and]
        exact ih (j + 1) (by omega)
    · have h' := Bool.eq_false_iff.2 h
      rw [h', Bool.false_and, Bool.false_and]
      exact Ev.step (fun k => by simp only [spec_l2Order.l0, c, c0, ev_l1In', h', Option.bind_some, Bool.false_eq_true, ↓reduceIte] <;> rfl) (Ev.now _)
theorem ev_l2Order (l : List Int) : Ev (fun k => spec_l2Order.f k l) (ordB l) := by
  unfold spec_l2Order.f ordB
  simp only [ev_l1In', Option.bind_some]
  by_cases h1 : 1 ≤ l.length
  · have g1 : (1 : Int) ≤ (l.length : Int) := by omega
    by_cases h7 : l.length ≤ 7
    · have g7 : (l.length : Int) ≤ 7 := by omega
      have := ev_l2Order_l0 l h7 l.length 0 (by omega)
      simp only [h1, h7, g1, g7, decide_true, Bool.and_true, Bool.true_and, ↓reduceIte]
      rw [List.take_zero, List.drop_zero] at this
      exact this
    · have g7 : ¬ (l.length : Int) ≤ 7 := by omega
      simp only [h7, g7, decide_false, Bool.and_false, Bool.false_and, Bool.false_eq_true, ↓reduceIte]
      exact Ev.now _
  · have g1 : ¬ (1 : Int) ≤ (l.length : Int) := by omega
    simp only [h1, g1, decide_false, Bool.false_and, Bool.false_eq_true, ↓reduceIte]
    exact Ev.now _
theorem ev_Index_l0 (l : List Int) (x : Int) (hl : l.length < 9223372036854775807) (d : Nat) : ∀ j : Nat, j + d = l.length → ∃ r : Int, Ev (fun k => slices_Index_int_int.l0 k l x (l.length : Int) (j : Int)) r ∧ decide (r ≥ 0) = (l.drop j).contains x := by
  induction d with
  | zero =>
    intro j hj
    have c : ¬ (j : Int) < (l.length : Int) := by omega
    rw [List.drop_of_length_le (by omega)]
    exact ⟨-1, Ev.step (fun k => by simp only [slices_Index_int_int.l0, c, ↓reduceIte] <;> rfl) (Ev.now _), rfl⟩
  | succ d ih =>
    intro j hj
    have c : (j : Int) < (l.length : Int) := by omega
    have c0 : 0 ≤ (j : Int) := by omega
    have e1 : wrap64 ((j : Int) + 1) = ((j + 1 : Nat) : Int) := wj (by omega)
    rw [rd_drop l j (by omega), List.contains_cons]
    by_cases h : x = rd l (j : Int)
    · have : (x == rd l (j : Int)) = true := beq_iff_eq.2 h
      rw [this, Bool.true_or]
      exact ⟨j, Ev.step (fun k => by simp only [slices_Index_int_int.l0, c, c0, ↓reduceIte]; rw [if_pos h]) (Ev.now _), by simp⟩
    · have : (x == rd l (j : Int)) = false := beq_eq_false_iff_ne.2 h
      rw [this, Bool.false_or]
      obtain ⟨r, hr, hd⟩ := ih (j + 1) (by omega)
      exact ⟨r, Ev.step (fun k => by simp only [slices_Index_int_int.l0, c, c0, h, e1, ↓reduceIte]) hr, hd⟩
theorem ev_Contains (l : List Int) (x : Int) (hl : l.length < 9223372036854775807) : Ev (fun k => slices_Contains_int_int.f k l x) (l.contains x) := by
  obtain ⟨r, hr, hd⟩ := ev_Index_l0 l x hl l.length 0 (by omega)
  rw [List.drop_zero] at hd
  unfold slices_Contains_int_int.f slices_Index_int_int.f
  refine Ev.bind hr ?_
  rw [hd]
  exact Ev.now _
theorem ev_isOrder_l0 (l : List Int) (hl : l.length ≤ 7) (d : Nat) : ∀ j : Nat, j + d = l.length → Ev (fun k => impl_isOrder.l0 k l l (l.length : Int) (j : Int)) (chk l.length (l.take j) (l.drop j)) := by
  induction d with
  | zero =>
    intro j hj
    have c : ¬ (j : Int) < (l.length : Int) := by omega
    rw [List.drop_of_length_le (by omega)]
    exact Ev.step (fun k => by simp only [impl_isOrder.l0, c, ↓reduceIte] <;> rfl) (Ev.now _)
  | succ d ih =>
    intro j hj
    have c : (j : Int) < (l.length : Int) := by omega
    have c0 : 0 ≤ (j : Int) := by omega
    have c1 : (j : Int) ≤ (l.length : Int) := by omega
    have e1 : wrap64 ((j : Int) + 1) = ((j + 1 : Nat) : Int) := wj (by omega)
    rw [rd_drop l j (by omega), chk, ← take_succ l j (by omega)]
    by_cases h1 : 1 ≤ rd l (j : Int)
    · have g1 : ¬ rd l (j : Int) < 1 := by omega
      by_cases h2 : rd l (j : Int) ≤ (l.length : Int)
      · have g2 : ¬ rd l (j : Int) > (l.length : Int) := by omega
        simp only [h1, h2, decide_true, Bool.true_and]
        refine Ev.step (f := fun k => (slices_Contains_int_int.f k (l.take j) (rd l (j : Int))).bind fun t => if t = true then some false else impl_isOrder.l0 k l l (l.length : Int) ((j + 1 : Nat) : Int)) (fun k => by simp only [impl_isOrder.l0, c, c0, c1, g1, g2, e1, Int.toNat_natCast, ↓reduceIte]) ?_
        refine Ev.bind (ev_Contains (l.take j) _ (by rw [List.length_take]; omega)) ?_
        cases hc : (l.take j).contains (rd l (j : Int)) with
        | true =>
          simp only [↓reduceIte, Bool.not_true, Bool.false_and]
          exact Ev.now _
        | false =>
          simp only [Bool.false_eq_true, ↓reduceIte, Bool.not_false, Bool.true_and]
          exact ih (j + 1) (by omega)
      · have g2 : rd l (j : Int) > (l.length : Int) := by omega
        simp only [h2, decide_false, Bool.and_false, Bool.false_and]
        exact Ev.step (fun k => by simp only [impl_isOrder.l0, c, c0, g1, g2, ↓reduceIte] <;> rfl) (Ev.now _)
    · have g1 : rd l (j : Int) < 1 := by omega
      simp only [h1, decide_false, Bool.false_and]
      exact Ev.step (fun k => by simp only [impl_isOrder.l0, c, c0, g1, ↓reduceIte] <;> rfl) (Ev.now _)
theorem ev_isOrder (l : List Int) : Ev (fun k => impl_isOrder.f k l) (ordB l) := by
  unfold impl_isOrder.f ordB
  by_cases h1 : 1 ≤ l.length
  · have g1 : ¬ (l.length : Int) < 1 := by omega
    by_cases h7 : l.length ≤ 7
    · have g7 : ¬ (l.length : Int) > 7 := by omega
      have := ev_isOrder_l0 l h7 l.length 0 (by omega)
      simp only [h1, h7, g1, g7, decide_true, decide_false, Bool.true_and, ↓reduceIte]
      refine Ev.step (fun k => by simp only [impl_isOrder.j0, Bool.false_eq_true, ↓reduceIte] <;> rfl) ?_
      rw [List.take_zero, List.drop_zero] at this
      exact this
    · have g7 : (l.length : Int) > 7 := by omega
      simp only [h7, g1, g7, decide_true, decide_false, Bool.and_false, Bool.false_and, ↓reduceIte]
      exact Ev.step (fun k => by simp only [impl_isOrder.j0, ↓reduceIte] <;> rfl) (Ev.now _)
  · have g1 : (l.length : Int) < 1 := by omega
    simp only [h1, g1, decide_false, Bool.false_and, ↓reduceIte]
    exact Ev.step (fun k => by simp only [impl_isOrder.j0, ↓reduceIte] <;> rfl) (Ev.now _)
theorem eqB_zr (p : Nat → Int) : eqB p = zr p := by
  by_cases h0 : p 0 = 0
  · have ht : tw p = [] := by simp [tw, m7, h0]
    have hz : zr p = !([p 0, p 1, p 2, p 3, p 4, p 5, p 6].any (· != 0)) := by simp [zr, m7, h0]
    unfold eqB
    rw [ht, hz, Bool.eq_iff_iff]
    simp only [rd, Int.toNat_natCast, List.getD_cons_zero, List.getD_cons_succ, List.getD_nil, List.any_cons, List.any_nil, decide_eq_true_eq, Bool.not_eq_true', Bool.or_eq_false_iff, bne_eq_false_iff_eq, true_and, and_true]
    try first | omega | (constructor <;> intro h_ <;> simp_all <;> omega) | simp_all
  by_cases h1 : p 1 = 0
  · have ht : tw p = [p 0] := by simp [tw, m7, h0, h1]
    have hz : zr p = !([p 1, p 2, p 3, p 4, p 5, p 6].any (· != 0)) := by simp [zr, m7, h0, h1]
    unfold eqB
    rw [ht, hz, Bool.eq_iff_iff]
    simp only [rd, Int.toNat_natCast, List.getD_cons_zero, List.getD_cons_succ, List.getD_nil, List.any_cons, List.any_nil, decide_eq_true_eq, Bool.not_eq_true', Bool.or_eq_false_iff, bne_eq_false_iff_eq, true_and, and_true]
    try first | omega | (constructor <;> intro h_ <;> simp_all <;> omega) | simp_all
  by_cases h2 : p 2 = 0
  · have ht : tw p = [p 0, p 1] := by simp [tw, m7, h0, h1, h2]
    have hz : zr p = !([p 2, p 3, p 4, p 5, p 6].any (· != 0)) := by simp [zr, m7, h0, h1, h2]
    unfold eqB
    rw [ht, hz, Bool.eq_iff_iff]
    simp only [rd, Int.toNat_natCast, List.getD_cons_zero, List.getD_cons_succ, List.getD_nil, List.any_cons, List.any_nil, decide_eq_true_eq, Bool.not_eq_true', Bool.or_eq_false_iff, bne_eq_false_iff_eq, true_and, and_true]
    try first | omega | (constructor <;> intro h_ <;> simp_all <;> omega) | simp_all
  by_cases h3 : p 3 = 0
  · have ht : tw p = [p 0, p 1, p 2] := by simp [tw, m7, h0, h1, h2, h3]
    have hz : zr p = !([p 3, p 4, p 5, p 6].any (· != 0)) := by simp [zr, m7, h0, h1, h2, h3]
    unfold eqB
    rw [ht, hz, Bool.eq_iff_iff]
    simp only [rd, Int.toNat_natCast, List.getD_cons_zero, List.getD_cons_succ, List.getD_nil, List.any_cons, List.any_nil, decide_eq_true_eq, Bool.not_eq_true', Bool.or_eq_false_iff, bne_eq_false_iff_eq, true_and, and_true]
    try first | omega | (constructor <;> intro h_ <;> simp_all <;> omega) | simp_all
  by_cases h4 : p 4 = 0
  · have ht : tw p = [p 0, p 1, p 2, p 3] := by simp [tw, m7, h0, h1, h2, h3, h4]
    have hz : zr p = !([p 4, p 5, p 6].any (· != 0)) := by simp [zr, m7, h0, h1, h2, h3, h4]
    unfold eqB
    rw [ht, hz, Bool.eq_iff_iff]
    simp only [rd, Int.toNat_natCast, List.getD_cons_zero, List.getD_cons_succ, List.getD_nil, List.any_cons, List.any_nil, decide_eq_true_eq, Bool.not_eq_true', Bool.or_eq_false_iff, bne_eq_false_iff_eq, true_and, and_true]
    try first | omega | (constructor <;> intro h_ <;> simp_all <;> omega) | simp_all
  by_cases h5 : p 5 = 0
  · have ht : tw p = [p 0, p 1, p 2, p 3, p 4] := by simp [tw, m7, h0, h1, h2, h3, h4, h5]
    have hz : zr p = !([p 5, p 6].any (· != 0)) := by simp [zr, m7, h0, h1, h2, h3, h4, h5]
    unfold eqB
    rw [ht, hz, Bool.eq_iff_iff]
    simp only [rd, Int.toNat_natCast, List.getD_cons_zero, List.getD_cons_succ, List.getD_nil, List.any_cons, List.any_nil, decide_eq_true_eq, Bool.not_eq_true', Bool.or_eq_false_iff, bne_eq_false_iff_eq, true_and, and_true]
    try first | omega | (constructor <;> intro h_ <;> simp_all <;> omega) | simp_all
  by_cases h6 : p 6 = 0
  · have ht : tw p = [p 0, p 1, p 2, p 3, p 4, p 5] := by simp [tw, m7, h0, h1, h2, h3, h4, h5, h6]
    have hz : zr p = !([p 6].any (· != 0)) := by simp [zr, m7, h0, h1, h2, h3, h4, h5, h6]
    unfold eqB
    rw [ht, hz, Bool.eq_iff_iff]
    simp only [rd, Int.toNat_natCast, List.getD_cons_zero, List.getD_cons_succ, List.getD_nil, List.any_cons, List.any_nil, decide_eq_true_eq, Bool.not_eq_true', Bool.or_eq_false_iff, bne_eq_false_iff_eq, true_and, and_true]
    try first | omega | (constructor <;> intro h_ <;> simp_all <;> omega) | simp_all
  have ht : tw p = [p 0, p 1, p 2, p 3, p 4, p 5, p 6] := by simp [tw, m7, h0, h1, h2, h3, h4, h5, h6]
  have hz : zr p = true := by simp [zr, m7, h0, h1, h2, h3, h4, h5, h6]
  unfold eqB
  rw [ht, hz, Bool.eq_iff_iff]
  simp only [rd, Int.toNat_natCast, List.getD_cons_zero, List.getD_cons_succ, List.getD_nil, List.any_cons, List.any_nil, decide_eq_true_eq, Bool.not_eq_true', Bool.or_eq_false_iff, bne_eq_false_iff_eq, true_and, and_true]
  try first | omega | (constructor <;> intro h_ <;> simp_all <;> omega) | simp_all
/-- Both tell the same of a yard. -/
theorem both_yard (p0 p1 p2 : Nat → Int) (cn : Int) : ∃ (k1 k2 : Nat) (b : Bool), goodF k1 p0 p1 p2 cn = some b ∧ partsF k2 p0 p1 p2 cn = some b := by
  obtain ⟨K1, h1⟩ := ev_l2Order (allY p0 p1 p2)
  obtain ⟨K2, h2⟩ := ev_isOrder (allY p0 p1 p2)
  dsimp only at h1 h2
  refine ⟨K1, K2, ordB (allY p0 p1 p2) && eqB p0 && eqB p1 && eqB p2 && (decide (0 ≤ cn) && decide (cn ≤ 1000)), ?_, ?_⟩
  · unfold goodF
    rw [h1 K1 (Nat.le_refl _)]
    rfl
  · unfold partsF
    rw [h2 K2 (Nat.le_refl _)]
    simp only [Option.bind_some, eqB_zr]
    congr 1
    cases ordB (allY p0 p1 p2) <;> cases zr p0 <;> cases zr p1 <;> cases zr p2 <;> cases decide (0 ≤ cn) <;> cases decide (cn ≤ 1000) <;> rfl
/-! ### records: plain texts, commands -/
def plainB (l : List Int) : Bool := l.all fun c => decide (32 ≤ c) && decide (c ≤ 126) && !decide (c = 35)
theorem plainB_cons (c : Int) (l : List Int) : plainB (c :: l) = ((decide (32 ≤ c) && decide (c ≤ 126) && !decide (c = 35)) && plainB l) := rfl
theorem toList_nil_iff (s : ByteArray) : s.toList = ([] : List UInt8) ↔ s.size = 0 := by
  rw [Go.Lib.toList_data s]
  constructor
  · intro h
    have : s.data.toList.length = 0 := by rw [h]; rfl
    simpa using this
  · intro h
    exact List.length_eq_zero_iff.1 (by simpa using h)
theorem bt_byte (s : ByteArray) (j : Nat) (h : j < s.size) : 0 ≤ bt s (j : Int) ∧ bt s (j : Int) ≤ 255 := by
  rw [← bs_get s j h]
  exact bs_byte s _ (List.getElem_mem _)
theorem wrap_bt (s : ByteArray) (j : Nat) (h : j < s.size) : wrap64 (bt s (j : Int)) = bt s (j : Int) := by
  have := bt_byte s j h
  exact wr (by omega) (by omega)
theorem l1In_some (a b c : Int) : spec_l1In.f a b c = some (decide (b ≤ a) && decide (a ≤ c)) := by
  unfold spec_l1In.f
  by_cases h : b ≤ a
  · rw [if_pos h, decide_eq_true h, Bool.true_and]
  · rw [if_neg h, decide_eq_false h, Bool.false_and]
theorem ev_l12Bytes (s : ByteArray) (m : Int) (hs : s.size ≤ 9223372036854775807) : Ev (fun k => spec_l12Bytes.f k s m) (plainB (bs s) && decide ((s.size : Int) ≤ m)) := by
  have go : ∀ (n j : Nat), j + n = s.size → Ev (fun k => spec_l12Bytes.l0 k s m (j : Int)) (plainB ((bs s).drop j) && decide ((s.size : Int) ≤ m)) := by
    intro n
    induction n with
    | zero =>
      intro j hj
      have c : ¬ (j : Int) < (s.size : Int) := by omega
      rw [bs_end s j (by omega)]
      refine Ev.step (f := fun _ => some (decide ((s.size : Int) ≤ m))) (fun k => by simp only [spec_l12Bytes.l0, c, ↓reduceIte]) ?_
      exact Ev.now _
    | succ n ih =>
      intro j hj
      have c : (j : Int) < (s.size : Int) := by omega
      have c0 : 0 ≤ (j : Int) := by omega
      have e1 := Aside0.mk (show wrap64 ((j : Int) + 1) = ((j + 1 : Nat) : Int) from wj (by omega))
      have eb := Aside0.mk (wrap_bt s j (by omega))
      rw [bs_drop s j (by omega), plainB_cons]
      by_cases h : (decide (32 ≤ bt s (j : Int)) && decide (bt s (j : Int) ≤ 126)) = true
      · by_cases h35 : bt s (j : Int) = 35
        · rw [decide_eq_true h35, Bool.not_true, Bool.and_false, Bool.false_and, Bool.false_and]
          refine Ev.step (f := fun _ => some false) (fun k => ?_) (Ev.now _)
          simp only [spec_l12Bytes.l0, c, c0, l1In_some, eb.out, h, Option.bind_some, ↓reduceIte]
          rw [if_pos h35]
        · rw [h, decide_eq_false h35, Bool.not_false, Bool.and_true, Bool.true_and]
          refine Ev.step (fun k => ?_) (ih (j + 1) (by omega))
          simp only [spec_l12Bytes.l0, c, c0, l1In_some, eb.out, h, Option.bind_some, e1.out, ↓reduceIte]
          rw [if_neg h35]
      · have h' := Bool.eq_false_iff.2 h
        rw [h', Bool.false_and, Bool.false_and, Bool.false_and]
        refine Ev.step (f := fun _ => some false) (fun k => ?_) (Ev.now _)
        simp only [spec_l12Bytes.l0, c, c0, l1In_some, eb.out, h', Option.bind_some, Bool.false_eq_true, ↓reduceIte]
  have := go s.size 0 (by omega)
  rw [List.drop_zero] at this
  exact this
theorem ev_isPlain (s : ByteArray) (hs : s.size ≤ 9223372036854775807) : Ev (fun k => impl_isPlain.f k s) (plainB (bs s)) := by
  have go : ∀ (n j : Nat), j + n = s.size → Ev (fun k => impl_isPlain.l0 k s (s.size : Int) (j : Int)) (plainB ((bs s).drop j)) := by
    intro n
    induction n with
    | zero =>
      intro j hj
      have c : ¬ (j : Int) < (s.size : Int) := by omega
      rw [bs_end s j (by omega)]
      exact Ev.step (f := fun _ => some true) (fun k => by simp only [impl_isPlain.l0, c, ↓reduceIte]) (Ev.now _)
    | succ n ih =>
      intro j hj
      have c : (j : Int) < (s.size : Int) := by omega
      have c0 : 0 ≤ (j : Int) := by omega
      have e1 := Aside0.mk (show wrap64 ((j : Int) + 1) = ((j + 1 : Nat) : Int) from wj (by omega))
      rw [bs_drop s j (by omega), plainB_cons]
      by_cases h1 : bt s (j : Int) < 32
      · rw [decide_eq_false (by omega), Bool.false_and, Bool.false_and, Bool.false_and]
        exact Ev.step (f := fun _ => some false) (fun k => by simp only [impl_isPlain.l0, c, c0, h1, ↓reduceIte]) (Ev.now _)
      · by_cases h2 : bt s (j : Int) > 126
        · rw [decide_eq_false (p := bt s (j : Int) ≤ 126) (by omega), Bool.and_false, Bool.false_and, Bool.false_and]
          exact Ev.step (f := fun _ => some false) (fun k => by simp only [impl_isPlain.l0, c, c0, h1, h2, ↓reduceIte]) (Ev.now _)
        · rw [decide_eq_true (p := 32 ≤ bt s (j : Int)) (by omega), decide_eq_true (p := bt s (j : Int) ≤ 126) (by omega), Bool.true_and]
          by_cases h35 : bt s (j : Int) = 35
          · rw [decide_eq_true h35, Bool.not_true, Bool.and_false, Bool.false_and]
            exact Ev.step (f := fun _ => some false) (fun k => by simp only [impl_isPlain.l0, c, c0, h1, h2, ↓reduceIte]; rw [if_pos h35]) (Ev.now _)
          · rw [decide_eq_false h35, Bool.not_false, Bool.and_true, Bool.true_and]
            exact Ev.step (fun k => by simp only [impl_isPlain.l0, c, c0, h1, h2, e1.out, ↓reduceIte]; rw [if_neg h35]) (ih (j + 1) (by omega))
  have := go s.size 0 (by omega)
  rw [List.drop_zero] at this
  exact this
theorem ev_l1Stands (s : ByteArray) (x : Int) (hs : s.size ≤ 9223372036854775807) : Ev (fun k => spec_l1Stands.f k s x) ((bs s).contains x) := by
  have go : ∀ (n j : Nat), j + n = s.size → Ev (fun k => spec_l1Stands.l0 k s x (j : Int)) (((bs s).drop j).contains x) := by
    intro n
    induction n with
    | zero =>
      intro j hj
      have c : ¬ (j : Int) < (s.size : Int) := by omega
      rw [bs_end s j (by omega)]
      exact Ev.step (f := fun _ => some false) (fun k => by simp only [spec_l1Stands.l0, c, ↓reduceIte]) (Ev.now _)
    | succ n ih =>
      intro j hj
      have c : (j : Int) < (s.size : Int) := by omega
      have c0 : 0 ≤ (j : Int) := by omega
      have e1 := Aside0.mk (show wrap64 ((j : Int) + 1) = ((j + 1 : Nat) : Int) from wj (by omega))
      rw [bs_drop s j (by omega), List.contains_cons]
      by_cases h : bt s (j : Int) = x
      · have hb : (x == bt s (j : Int)) = true := beq_iff_eq.2 h.symm
        rw [hb, Bool.true_or]
        exact Ev.step (f := fun _ => some true) (fun k => by simp only [spec_l1Stands.l0, c, c0, ↓reduceIte]; rw [if_pos h]) (Ev.now _)
      · have hb : (x == bt s (j : Int)) = false := beq_eq_false_iff_ne.2 (fun e => h e.symm)
        rw [hb, Bool.false_or]
        exact Ev.step (fun k => by simp only [spec_l1Stands.l0, c, c0, h, e1.out, ↓reduceIte]) (ih (j + 1) (by omega))
  have := go s.size 0 (by omega)
  rw [List.drop_zero] at this
  exact this
theorem index_contains (l : List UInt8) (c : UInt8) : decide (0 ≤ Go.Lib.indexByte l c) = (l.map fun u => (u.toNat : Int)).contains (c.toNat : Int) := by
  induction l with
  | nil => rfl
  | cons b t ih =>
    rw [List.map_cons, List.contains_cons, ← ih]
    have hge := Go.Lib.indexByte_ge t c
    have e : Go.Lib.indexByte (b :: t) c = if b == c then 0 else if Go.Lib.indexByte t c == -1 then -1 else Go.Lib.indexByte t c + 1 := rfl
    rw [e]
    by_cases h : b = c
    · subst h
      simp
    · have h1 : (b == c) = false := beq_eq_false_iff_ne.2 h
      have h2 : ((c.toNat : Int) == (b.toNat : Int)) = false := beq_eq_false_iff_ne.2 (fun e => h (UInt8.toNat_inj.1 (by omega)))
      simp only [h1, h2, Bool.false_or, Bool.false_eq_true, ↓reduceIte]
      by_cases h3 : Go.Lib.indexByte t c = -1
      · simp [h3]
      · have h4 : (Go.Lib.indexByte t c == -1) = false := beq_eq_false_iff_ne.2 h3
        simp only [h4, Bool.false_eq_true, ↓reduceIte]
        exact decide_eq_decide.2 ⟨fun _ => by omega, fun _ => by omega⟩
theorem contains_64 (s : ByteArray) : strings_Contains.f s (⟨#[64]⟩ : ByteArray) = some ((bs s).contains 64) := by
  have := index_contains s.data.toList 64
  unfold strings_Contains.f
  dsimp only
  rw [this]
  rfl
/-- Is it a record? -/
def recB (a b : ByteArray) : Bool := decide (1 ≤ (a.size : Int)) && (plainB (bs a) && decide ((a.size : Int) ≤ 160)) && !(bs a).contains 64 && (plainB (bs b) && decide ((b.size : Int) ≤ 250))
theorem ev_l12Record (a b : ByteArray) (ha : a.size ≤ 9223372036854775807) (hb : b.size ≤ 9223372036854775807) : Ev (fun k => spec_l12Record.f k a b) (recB a b) := by
  unfold spec_l12Record.f recB
  by_cases h0 : a.size = 0
  · have c := (toList_nil_iff a).2 h0
    simp only [c, ↓reduceIte]
    rw [decide_eq_false (by omega)]
    simp only [Bool.false_and]
    exact Ev.now _
  · have c : ¬ a.toList = ([] : List UInt8) := fun h => h0 ((toList_nil_iff a).1 h)
    simp only [c, ↓reduceIte]
    rw [decide_eq_true (p := 1 ≤ (a.size : Int)) (by omega), Bool.true_and]
    refine Ev.bind (ev_l12Bytes a 160 ha) ?_
    cases hp : (plainB (bs a) && decide ((a.size : Int) ≤ 160)) with
    | false =>
      simp only [Bool.false_eq_true, Bool.false_and, ↓reduceIte]
      exact Ev.now _
    | true =>
      simp only [Bool.true_and, ↓reduceIte]
      refine Ev.bind (ev_l1Stands a 64 ha) ?_
      cases hc : (bs a).contains 64 with
      | true =>
        simp only [Bool.not_true, Bool.false_and, ↓reduceIte]
        exact Ev.now _
      | false =>
        simp only [Bool.false_eq_true, Bool.not_false, Bool.true_and, ↓reduceIte]
        exact Ev.bind (ev_l12Bytes b 250 hb) (Ev.now _)
theorem ev_isCommand (a : ByteArray) (ha : a.size ≤ 9223372036854775807) : Ev (fun k => impl_isCommand.f k a) (decide (1 ≤ (a.size : Int)) && (plainB (bs a) && decide ((a.size : Int) ≤ 160)) && !(bs a).contains 64) := by
  unfold impl_isCommand.f
  by_cases h1 : (a.size : Int) ≥ 1
  · simp only [h1, ↓reduceIte]
    simp only [decide_true, Bool.true_and]
    by_cases h2 : (a.size : Int) ≤ 160
    · simp only [h2, decide_true, Bool.and_true, ↓reduceIte]
      refine Ev.bind (ev_isPlain a ha) ?_
      cases hp : plainB (bs a) with
      | false =>
        simp only [Bool.false_eq_true, Bool.false_and, ↓reduceIte]
        exact Ev.now _
      | true =>
        simp only [contains_64, Option.bind_some, Bool.true_and, ↓reduceIte]
        exact Ev.now _
    · simp only [h2, decide_false, Bool.and_false, Bool.false_and, ↓reduceIte]
      exact Ev.now _
  · simp only [h1, ↓reduceIte]
    simp only [decide_false, Bool.false_and]
    exact Ev.now _
theorem ev_IsValidRecord (a b : ByteArray) (ha : a.size ≤ 9223372036854775807) (hb : b.size ≤ 9223372036854775807) : Ev (fun k => impl_IsValidRecord.f k a b) (recB a b) := by
  unfold impl_IsValidRecord.f recB
  refine Ev.bind (ev_isCommand a ha) ?_
  cases hp : (decide (1 ≤ (a.size : Int)) && (plainB (bs a) && decide ((a.size : Int) ≤ 160)) && !(bs a).contains 64) with
  | false =>
    simp only [Bool.false_eq_true, Bool.false_and, ↓reduceIte]
    exact Ev.now _
  | true =>
    simp only [Bool.true_and, ↓reduceIte]
    by_cases h2 : (b.size : Int) ≤ 250
    · simp only [h2, decide_true, Bool.and_true, ↓reduceIte]
      exact Ev.bind (ev_isPlain b hb) (Ev.now _)
    · simp only [h2, decide_false, Bool.and_false, ↓reduceIte]
      exact Ev.now _
/-! ### numerals and checksums -/
theorem sz1 (c : UInt8) : (⟨#[c]⟩ : ByteArray).size = 1 := rfl
theorem bs1 (c : UInt8) : bs (⟨#[c]⟩ : ByteArray) = [(c.toNat : Int)] := rfl
theorem numT_le : ∀ (d n : Nat), n < 10 ^ (d + 1) → (numT n).size ≤ d + 1
  | 0, n, h => by
    rw [numT_small n (by omega), sz1]
    exact Nat.le_refl _
  | d + 1, n, h => by
    by_cases h10 : n < 10
    · rw [numT_small n h10, sz1]
      omega
    · rw [numT_step n h10, size_append, sz1]
      have := numT_le d (n / 10) (by rw [Nat.pow_succ] at h; omega)
      omega
theorem numT_digit (n : Nat) : ∀ c ∈ bs (numT n), 48 ≤ c ∧ c ≤ 57 := by
  induction n using Nat.strongRecOn with
  | ind n ih =>
    intro c hc
    have key : ∀ d : Nat, d < 10 → ((UInt8.ofNat (48 + d)).toNat : Int) = 48 + (d : Int) := by
      intro d hd
      rw [UInt8.toNat_ofNat', Nat.mod_eq_of_lt (by omega)]
      omega
    by_cases h10 : n < 10
    · rw [numT_small n h10, bs1, List.mem_singleton, key n h10] at hc
      omega
    · rw [numT_step n h10, bs_append, bs1, List.mem_append, List.mem_singleton, key _ (by omega)] at hc
      rcases hc with hc | hc
      · exact ih (n / 10) (by omega) c hc
      · omega
theorem numT_one (n : Nat) : 1 ≤ (numT n).size := by
  by_cases h10 : n < 10
  · rw [numT_small n h10, sz1]
    exact Nat.le_refl _
  · rw [numT_step n h10, size_append, sz1]
    omega
theorem l1Num_eq (a : Int) (h0 : 0 ≤ a) (h1 : a ≤ 9223372036854775807) : spec_l1Num.f a = some (numT a.toNat) := by
  unfold spec_l1Num.f
  rw [if_pos ⟨h0, h1⟩]
theorem itoa_eq (a : Int) (h0 : 0 ≤ a) (h1 : a ≤ 9223372036854775807) : strconv_Itoa.f a = some (numT a.toNat) := by
  unfold strconv_Itoa.f
  rw [if_pos ⟨by omega, h1⟩]
  unfold Go.Lib.itoa
  rw [if_neg (by omega)]
  rfl
/-- The checksum of bytes, from h on. -/
def sumF : List Int → Int → Int
  | [], h => h
  | c :: t, h => sumF t (Int.tmod (41 * h + c + 1) 999979)
theorem sumF_step (c h : Int) (hc : 0 ≤ c ∧ c ≤ 255) (hh : 0 ≤ h ∧ h < 999979) : 0 ≤ Int.tmod (41 * h + c + 1) 999979 ∧ Int.tmod (41 * h + c + 1) 999979 < 999979 := by
  rw [Int.tmod_eq_emod_of_nonneg (by omega)]
  omega
theorem sumF_wrap (c h : Int) (hc : 0 ≤ c ∧ c ≤ 255) (hh : 0 ≤ h ∧ h < 999979) : wrap64 (wrap64 (wrap64 (41 * h) + c) + 1) = 41 * h + c + 1 := by
  rw [wr (i := 41 * h) (by omega) (by omega), wr (i := 41 * h + c) (by omega) (by omega), wr (by omega) (by omega)]
theorem sumF_bound : ∀ (l : List Int) (h : Int), (∀ c ∈ l, 0 ≤ c ∧ c ≤ 255) → 0 ≤ h ∧ h < 999979 → 0 ≤ sumF l h ∧ sumF l h < 999979
  | [], h, _, hh => hh
  | c :: t, h, hl, hh => sumF_bound t _ (fun x hx => hl x (by simp [hx])) (sumF_step c h (hl c (by simp)) hh)
/-- The checksum of a text. -/
def sumT (s : ByteArray) : Int := sumF (bs s) 7
theorem sumT_bound (s : ByteArray) : 0 ≤ sumT s ∧ sumT s < 999979 := sumF_bound _ _ (bs_byte s) (by omega)
theorem ev_l1Sum (s : ByteArray) (hs : s.size ≤ 9223372036854775807) : Ev (fun k => spec_l1Sum.f k s) (sumT s) := by
  have go : ∀ (n j : Nat) (h : Int), 0 ≤ h ∧ h < 999979 → j + n = s.size → Ev (fun k => spec_l1Sum.l0 k s h (j : Int)) (sumF ((bs s).drop j) h) := by
    intro n
    induction n with
    | zero =>
      intro j h hh hj
      have c : ¬ (j : Int) < (s.size : Int) := by omega
      rw [bs_end s j (by omega)]
      exact Ev.step (f := fun _ => some h) (fun k => by simp only [spec_l1Sum.l0, c, ↓reduceIte]) (Ev.now _)
    | succ n ih =>
      intro j h hh hj
      have c : (j : Int) < (s.size : Int) := by omega
      have c0 : 0 ≤ (j : Int) := by omega
      have e1 := Aside0.mk (show wrap64 ((j : Int) + 1) = ((j + 1 : Nat) : Int) from wj (by omega))
      have eb := Aside0.mk (wrap_bt s j (by omega))
      have e2 := Aside0.mk (sumF_wrap (bt s (j : Int)) h (bt_byte s j (by omega)) hh)
      rw [bs_drop s j (by omega)]
      exact Ev.step (fun k => by simp only [spec_l1Sum.l0, c, c0, eb.out, e2.out, e1.out, ↓reduceIte]) (ih (j + 1) _ (sumF_step _ h (bt_byte s j (by omega)) hh) (by omega))
  have := go s.size 0 7 (by omega) (by omega)
  rw [List.drop_zero] at this
  exact this
theorem ev_checksum (s : ByteArray) (hs : s.size ≤ 9223372036854775807) : Ev (fun k => impl_checksum.f k s) (sumT s) := by
  have go : ∀ (n j : Nat) (h : Int), 0 ≤ h ∧ h < 999979 → j + n = s.size → Ev (fun k => impl_checksum.l0 k s h (s.size : Int) (j : Int)) (sumF ((bs s).drop j) h) := by
    intro n
    induction n with
    | zero =>
      intro j h hh hj
      have c : ¬ (j : Int) < (s.size : Int) := by omega
      rw [bs_end s j (by omega)]
      exact Ev.step (f := fun _ => some h) (fun k => by simp only [impl_checksum.l0, c, ↓reduceIte]) (Ev.now _)
    | succ n ih =>
      intro j h hh hj
      have c : (j : Int) < (s.size : Int) := by omega
      have c0 : 0 ≤ (j : Int) := by omega
      have e1 := Aside0.mk (show wrap64 ((j : Int) + 1) = ((j + 1 : Nat) : Int) from wj (by omega))
      have eb := Aside0.mk (wrap_bt s j (by omega))
      have e2 := Aside0.mk (sumF_wrap (bt s (j : Int)) h (bt_byte s j (by omega)) hh)
      rw [bs_drop s j (by omega)]
      exact Ev.step (fun k => by simp only [impl_checksum.l0, c, c0, eb.out, e2.out, e1.out, ↓reduceIte]) (ih (j + 1) _ (sumF_step _ h (bt_byte s j (by omega)) hh) (by omega))
  have := go s.size 0 7 (by omega) (by omega)
  rw [List.drop_zero] at this
  exact this
/-- A text with its checksum behind it. -/
def sealT (s : ByteArray) : ByteArray := (s ++ (⟨#[35]⟩ : ByteArray)) ++ numT (sumT s).toNat
theorem sealT_size (s : ByteArray) : s.size + 2 ≤ (sealT s).size ∧ (sealT s).size ≤ s.size + 7 := by
  unfold sealT
  rw [size_append, size_append, sz1]
  have h1 := sumT_bound s
  have h2 := numT_le 5 (sumT s).toNat (by omega)
  have h3 := numT_one (sumT s).toNat
  omega
theorem ev_l1Seal (s : ByteArray) (hs : s.size ≤ 9223372036854775000) : Ev (fun k => spec_l1Seal.f k s) (sealT s) := by
  have h1 := sumT_bound s
  have h2 := sealT_size s
  have c1 : s.size + 1 ≤ 9223372036854775807 := by omega
  have c2 : (s ++ (⟨#[35]⟩ : ByteArray)).size + (numT (sumT s).toNat).size ≤ 9223372036854775807 := by
    rw [← size_append]
    exact Nat.le_trans h2.2 (by omega)
  unfold spec_l1Seal.f
  simp only [c1, ↓reduceIte]
  refine Ev.bind (ev_l1Sum s (by omega)) ?_
  simp only [l1Num_eq (sumT s) (by omega) (by omega), Option.bind_some, c2, ↓reduceIte]
  exact Ev.now _
theorem contains_35 (s : ByteArray) : strings_Contains.f s (⟨#[35]⟩ : ByteArray) = some ((bs s).contains 35) := by
  have := index_contains s.data.toList 35
  unfold strings_Contains.f
  dsimp only
  rw [this]
  rfl
theorem ev_AppendChecksum (s : ByteArray) (hs : s.size ≤ 3990) (h35 : (bs s).contains 35 = false) : Ev (fun k => impl_AppendChecksum.f k s) (sealT s, true) := by
  have h1 := sumT_bound s
  have h2 := sealT_size s
  have c1 : s.size + 1 ≤ 9223372036854775807 := by omega
  have c2 : (s ++ (⟨#[35]⟩ : ByteArray)).size + (numT (sumT s).toNat).size ≤ 9223372036854775807 := by
    rw [← size_append]
    exact Nat.le_trans h2.2 (by omega)
  have c3 : ¬ ((((s ++ (⟨#[35]⟩ : ByteArray)) ++ numT (sumT s).toNat).size : Int) > 4000) := by
    have : ((s ++ (⟨#[35]⟩ : ByteArray)) ++ numT (sumT s).toNat).size ≤ s.size + 7 := h2.2
    omega
  have c4 : ¬ ((s.size : Int) > 4000) := by omega
  have hl : Ev (fun k => impl_AppendChecksum.j0 k s false) (sealT s, true) := by
    refine Ev.step (f := fun k => impl_AppendChecksum.j0 (k + 1) s false) (fun k => rfl) ?_
    simp only [impl_AppendChecksum.j0, Bool.false_eq_true, ↓reduceIte, c1]
    refine Ev.bind (ev_checksum s (by omega)) ?_
    simp only [itoa_eq (sumT s) (by omega) (by omega), Option.bind_some, c2, c3, ↓reduceIte]
    exact Ev.now _
  unfold impl_AppendChecksum.f
  simp only [c4, ↓reduceIte, contains_35, h35, Option.bind_some]
  exact hl
/-- A record's line without checksum. -/
def bodyT (k : Int) (a b : ByteArray) : ByteArray := (((numT k.toNat ++ (⟨#[32]⟩ : ByteArray)) ++ a) ++ (⟨#[64]⟩ : ByteArray)) ++ b
/-- A record's line. -/
def lineT (k : Int) (a b : ByteArray) : ByteArray := sealT (bodyT k a b) ++ (⟨#[10]⟩ : ByteArray)
theorem recB_sizes {a b : ByteArray} (h : recB a b = true) : 1 ≤ a.size ∧ a.size ≤ 160 ∧ b.size ≤ 250 ∧ plainB (bs a) = true ∧ plainB (bs b) = true ∧ (bs a).contains 64 = false := by
  unfold recB at h
  simp only [Bool.and_eq_true, decide_eq_true_eq, Bool.not_eq_true'] at h
  exact ⟨by omega, by omega, by omega, h.1.1.2.1, h.2.1, h.1.2⟩
theorem plainB_mem : ∀ {l : List Int}, plainB l = true → ∀ c ∈ l, 32 ≤ c ∧ c ≤ 126 ∧ c ≠ 35
  | l, h, c, hc => by
    have := List.all_eq_true.1 h c hc
    simp only [Bool.and_eq_true, decide_eq_true_eq, Bool.not_eq_true', decide_eq_false_iff_not] at this
    exact ⟨this.1.1, this.1.2, this.2⟩
theorem bodyT_size (k : Int) (a b : ByteArray) (hk : 0 ≤ k ∧ k ≤ 59) (h : recB a b = true) : (bodyT k a b).size ≤ a.size + b.size + 4 ∧ (numT k.toNat).size ≤ 2 := by
  have h1 := numT_le 1 k.toNat (by omega)
  unfold bodyT
  simp only [size_append, sz1]
  omega
theorem bodyT_bytes (k : Int) (a b : ByteArray) (h : recB a b = true) : ∀ c ∈ bs (bodyT k a b), 32 ≤ c ∧ c ≤ 126 ∧ c ≠ 35 := by
  obtain ⟨_, _, _, pa, pb, _⟩ := recB_sizes h
  intro c hc
  unfold bodyT at hc
  simp only [bs_append, List.mem_append, bs1, List.mem_singleton] at hc
  rcases hc with (((hc | hc) | hc) | hc) | hc
  · have := numT_digit _ c hc
    omega
  · rw [hc]
    decide
  · exact plainB_mem pa c hc
  · rw [hc]
    decide
  · exact plainB_mem pb c hc
theorem ev_l12Line (k : Int) (a b : ByteArray) (hk : 0 ≤ k ∧ k ≤ 59) (h : recB a b = true) : Ev (fun n => spec_l12Line.f n k a b) (lineT k a b) := by
  obtain ⟨s1, s2⟩ := bodyT_size k a b hk h
  obtain ⟨_, ha, hb, _⟩ := recB_sizes h
  unfold spec_l12Line.f
  have c1 : (numT k.toNat).size + 1 ≤ 9223372036854775807 := by omega
  have c2 : (numT k.toNat ++ (⟨#[32]⟩ : ByteArray)).size + a.size ≤ 9223372036854775807 := by simp only [size_append, sz1]; omega
  have c3 : ((numT k.toNat ++ (⟨#[32]⟩ : ByteArray)) ++ a).size + 1 ≤ 9223372036854775807 := by simp only [size_append, sz1]; omega
  have c4 : (((numT k.toNat ++ (⟨#[32]⟩ : ByteArray)) ++ a) ++ (⟨#[64]⟩ : ByteArray)).size + b.size ≤ 9223372036854775807 := by simp only [size_append, sz1]; omega
  have c5 : (sealT (bodyT k a b)).size + 1 ≤ 9223372036854775807 := by
    have := (sealT_size (bodyT k a b)).2
    omega
  simp only [l1Num_eq k hk.1 (by omega), Option.bind_some, c1, c2, c3, c4, ↓reduceIte]
  refine Ev.bind (ev_l1Seal (bodyT k a b) (by omega)) ?_
  simp only [c5, ↓reduceIte]
  exact Ev.now _
/-- What encoding a record gives. -/
def encT (k : Int) (a b : ByteArray) : ByteArray × Bool := if (decide (0 ≤ k) && decide (k ≤ 59) && recB a b) = true then (lineT k a b, true) else ((⟨#[]⟩ : ByteArray), false)
theorem ev_implEnc (k : Int) (a b : ByteArray) (ha : a.size ≤ 9223372036854775807) (hb : b.size ≤ 9223372036854775807) : Ev (fun n => impl_EncodeRecord.f n k a b) (encT k a b) := by
  have bad : Ev (fun n => impl_EncodeRecord.j0 n k true a b) ((⟨#[]⟩ : ByteArray), false) :=
    Ev.step (f := fun _ => some ((⟨#[]⟩ : ByteArray), false)) (fun n => by simp only [impl_EncodeRecord.j0, ↓reduceIte]) (Ev.now _)
  unfold impl_EncodeRecord.f encT
  by_cases k0 : k < 0
  · simp only [k0, ↓reduceIte]
    rw [decide_eq_false (by omega), Bool.false_and, Bool.false_and, if_neg Bool.false_ne_true]
    exact bad
  · by_cases k1 : k ≥ 60
    · simp only [k0, k1, ↓reduceIte]
      rw [decide_eq_false (p := k ≤ 59) (by omega), Bool.and_false, Bool.false_and, if_neg Bool.false_ne_true]
      exact bad
    · simp only [k0, k1, ↓reduceIte]
      rw [decide_eq_true (p := k ≤ 59) (by omega), decide_eq_true (p := 0 ≤ k) (by omega), Bool.true_and, Bool.true_and]
      refine Ev.bind (ev_IsValidRecord a b ha hb) ?_
      cases hr : recB a b with
      | false =>
        rw [if_neg Bool.false_ne_true]
        exact bad
      | true =>
        rw [if_pos rfl]
        obtain ⟨s1, s2⟩ := bodyT_size k a b (by omega) hr
        obtain ⟨_, za, zb, _⟩ := recB_sizes hr
        have c1 : (numT k.toNat).size + 1 ≤ 9223372036854775807 := by omega
        have c2 : (numT k.toNat ++ (⟨#[32]⟩ : ByteArray)).size + a.size ≤ 9223372036854775807 := by simp only [size_append, sz1]; omega
        have c3 : ((numT k.toNat ++ (⟨#[32]⟩ : ByteArray)) ++ a).size + 1 ≤ 9223372036854775807 := by simp only [size_append, sz1]; omega
        have c4 : (((numT k.toNat ++ (⟨#[32]⟩ : ByteArray)) ++ a) ++ (⟨#[64]⟩ : ByteArray)).size + b.size ≤ 9223372036854775807 := by simp only [size_append, sz1]; omega
        have c5 : (sealT (bodyT k a b)).size + 1 ≤ 9223372036854775807 := by
          have := (sealT_size (bodyT k a b)).2
          omega
        refine Ev.step (f := fun n => impl_EncodeRecord.j0 (n + 1) k false a b) (fun n => rfl) ?_
        simp only [impl_EncodeRecord.j0, Bool.false_eq_true, itoa_eq k (by omega) (by omega), Option.bind_some, c1, c2, c3, c4, ↓reduceIte]
        refine Ev.bind (ev_AppendChecksum (bodyT k a b) (by omega) ?_) ?_
        · rw [Bool.eq_false_iff]
          intro h
          exact (bodyT_bytes k a b hr 35 (by simpa using h)).2.2 rfl
        · simp only [c5, ↓reduceIte]
          exact Ev.now _
/-! ### cuts of a text -/
theorem bs_extract (s : ByteArray) (i j : Nat) : bs (s.extract i j) = ((bs s).drop i).take (j - i) := by
  unfold bs
  rw [ByteArray.data_extract, Array.toList_extract, List.extract_eq_take_drop, List.map_take, List.map_drop]
theorem bs_from (s : ByteArray) (i : Nat) : bs (s.extract i s.size) = (bs s).drop i := by
  rw [bs_extract, List.take_of_length_le]
  rw [List.length_drop, bs_length]
  exact Nat.le_refl _
theorem bs_to (s : ByteArray) (i : Nat) : bs (s.extract 0 i) = (bs s).take i := by
  rw [bs_extract, List.drop_zero, Nat.sub_zero]
theorem bs_nil : bs (⟨#[]⟩ : ByteArray) = [] := rfl
theorem toList_iff (s t : ByteArray) : s.toList = t.toList ↔ bs s = bs t := by
  constructor
  · intro h
    have : s = t := by
      rw [Go.Lib.toList_data, Go.Lib.toList_data] at h
      exact ByteArray.ext (Array.toList_inj.1 h)
    rw [this]
  · intro h
    rw [bs_inj h]
/-- What stands ahead of the first c. -/
def tw (c : Int) (l : List Int) : List Int := l.takeWhile fun x => x != c
theorem tw_cons (c x : Int) (l : List Int) : tw c (x :: l) = if x = c then [] else x :: tw c l := by
  unfold tw
  rw [List.takeWhile_cons]
  by_cases h : x = c
  · rw [if_pos h, h, bne_self_eq_false, if_neg Bool.false_ne_true]
  · rw [if_neg h, if_pos (by simpa using h)]
theorem tw_of (c : Int) : ∀ (x y : List Int), c ∉ x → tw c (x ++ c :: y) = x
  | [], y, _ => by rw [List.nil_append, tw_cons, if_pos rfl]
  | a :: t, y, h => by
    rw [List.cons_append, tw_cons, if_neg (fun e => h (by simp [e])), tw_of c t y (fun e => h (by simp [e]))]
theorem tw_all (c : Int) : ∀ (x : List Int), c ∉ x → tw c x = x
  | [], _ => rfl
  | a :: t, h => by
    rw [tw_cons, if_neg (fun e => h (by simp [e])), tw_all c t (fun e => h (by simp [e]))]
theorem tw_take (c : Int) : ∀ (l : List Int), tw c l = l.take (tw c l).length
  | [] => rfl
  | a :: t => by
    rw [tw_cons]
    by_cases h : a = c
    · rw [if_pos h]
      rfl
    · rw [if_neg h, List.length_cons, List.take_succ_cons, ← tw_take c t]
theorem tw_le (c : Int) (l : List Int) : (tw c l).length ≤ l.length := by
  have := congrArg List.length (tw_take c l)
  rw [List.length_take] at this
  omega
theorem tw_split (c : Int) : ∀ (l : List Int), c ∈ l → l = tw c l ++ c :: l.drop ((tw c l).length + 1)
  | a :: t, h => by
    rw [tw_cons]
    by_cases e : a = c
    · rw [if_pos e, e]
      rfl
    · rw [if_neg e]
      have ht : c ∈ t := by
        rcases List.mem_cons.1 h with h | h
        · exact absurd h.symm e
        · exact h
      rw [List.length_cons, List.drop_succ_cons, List.cons_append, ← tw_split c t ht]
theorem tw_lt (c : Int) (l : List Int) (h : c ∈ l) : (tw c l).length < l.length := by
  have := congrArg List.length (tw_split c l h)
  rw [List.length_append, List.length_cons] at this
  omega
theorem index_tw (l : List UInt8) (c : UInt8) : Go.Lib.indexByte l c = if (l.map fun u => (u.toNat : Int)).contains (c.toNat : Int) = true then ((tw (c.toNat : Int) (l.map fun u => (u.toNat : Int))).length : Int) else -1 := by
  induction l with
  | nil => rfl
  | cons b t ih =>
    rw [List.map_cons, List.contains_cons, tw_cons]
    have e : Go.Lib.indexByte (b :: t) c = if b == c then 0 else if Go.Lib.indexByte t c == -1 then -1 else Go.Lib.indexByte t c + 1 := rfl
    rw [e]
    by_cases h : b = c
    · subst h
      simp
    · have h1 : (b == c) = false := beq_eq_false_iff_ne.2 h
      have hn : ¬ ((b.toNat : Int) = (c.toNat : Int)) := fun e => h (UInt8.toNat_inj.1 (by omega))
      have h2 : ((c.toNat : Int) == (b.toNat : Int)) = false := beq_eq_false_iff_ne.2 (fun e => hn e.symm)
      rw [h1, h2, Bool.false_or, if_neg Bool.false_ne_true, if_neg hn, ih]
      by_cases hc : (t.map fun u => (u.toNat : Int)).contains (c.toNat : Int) = true
      · rw [if_pos hc, if_pos hc, List.length_cons]
        have : (((tw (c.toNat : Int) (t.map fun u => (u.toNat : Int))).length : Int) == -1) = false := beq_eq_false_iff_ne.2 (by omega)
        rw [this, if_neg Bool.false_ne_true]
        omega
      · rw [if_neg hc, if_neg hc]
        rfl
theorem cut_eq (s : ByteArray) (c : UInt8) (hs : s.size ≤ 9223372036854775806) : ∃ x y, strings_Cut.f s (⟨#[c]⟩ : ByteArray) = some (x, y, (bs s).contains (c.toNat : Int)) ∧ bs x = tw (c.toNat : Int) (bs s) ∧ bs y = (bs s).drop ((tw (c.toNat : Int) (bs s)).length + 1) := by
  have hi := index_tw s.data.toList c
  have hb : (s.data.toList.map fun u => (u.toNat : Int)) = bs s := rfl
  rw [hb] at hi
  unfold strings_Cut.f
  dsimp only
  rw [if_pos hs, hi]
  by_cases hc : (bs s).contains (c.toNat : Int) = true
  · rw [if_pos hc, if_pos (by omega), Int.toNat_natCast]
    refine ⟨_, _, by rw [hc], ?_, ?_⟩
    · rw [bs_to, ← tw_take]
    · rw [bs_from]
  · rw [if_neg hc, if_neg (by omega), Bool.eq_false_iff.2 hc]
    have hm : (c.toNat : Int) ∉ bs s := fun h => hc (by simpa using h)
    refine ⟨_, _, rfl, (tw_all _ _ hm).symm, ?_⟩
    rw [tw_all _ _ hm, List.drop_of_length_le (by omega)]
    rfl
theorem hasPrefix_eq (s p : ByteArray) : ∃ b, strings_HasPrefix.f s p = some b ∧ (b = true ↔ ∃ t, bs s = bs p ++ t) := by
  unfold strings_HasPrefix.f stringslite_HasPrefix.f
  by_cases h : (s.size : Int) ≥ (p.size : Int)
  · have h' : (p.size : Int) ≤ (s.size : Int) := h
    have h0 : 0 ≤ (p.size : Int) := by omega
    simp only [h, h', h0, ↓reduceIte, Option.bind_some, Int.toNat_natCast]
    refine ⟨_, rfl, ?_⟩
    rw [beq_iff_eq, toList_iff, bs_to]
    constructor
    · intro e
      exact ⟨(bs s).drop p.size, by rw [← e, List.take_append_drop]⟩
    · rintro ⟨t, e⟩
      rw [e, ← bs_length p, List.take_left]
  · simp only [h, ↓reduceIte, Option.bind_some]
    refine ⟨false, rfl, fun e => absurd e (by simp), ?_⟩
    rintro ⟨t, e⟩
    have := congrArg List.length e
    rw [List.length_append, bs_length, bs_length] at this
    exact absurd (show (s.size : Int) ≥ (p.size : Int) by omega) h
/-- The reference's split: the first part, and whether there is a second. -/
theorem ev_split (s : ByteArray) (c : Int) (hs : s.size ≤ 1000000) : ∃ r, Ev (fun k => spec_l1Split.f k s c) r ∧ 0 < r.length ∧ bs (rdOf ByteArray.empty r 0) = tw c (bs s) ∧ (2 ≤ r.length ↔ c ∈ bs s) := by
  have go : ∀ (n j st : Nat) (acc : List ByteArray), j + n = s.size → acc.length ≤ j → st ≤ j → ∃ r, Ev (fun k => spec_l1Split.l0 k s c acc (st : Int) (j : Int)) (acc ++ r) ∧ ∃ x t, r = x :: t ∧ bs x = ((bs s).drop st).take (j - st + (tw c ((bs s).drop j)).length) ∧ (1 ≤ t.length ↔ c ∈ (bs s).drop j) := by
    intro n
    induction n with
    | zero =>
      intro j st acc hj ha hst
      have c0 : ¬ (j : Int) < (s.size : Int) := by omega
      have c1 : 0 ≤ (st : Int) := by omega
      have c2 : (st : Int) ≤ (s.size : Int) := by omega
      have c3 : acc.length < 8796093022208 := by omega
      refine ⟨[s.extract st s.size], Ev.step (f := fun _ => some (acc ++ [s.extract st s.size])) (fun k => by simp only [spec_l1Split.l0, c0, c1, c2, c3, ↓reduceIte, Int.toNat_natCast]) (Ev.now _), _, [], rfl, ?_, ?_⟩
      · rw [bs_end s j (by omega), bs_from, List.take_of_length_le]
        rw [List.length_drop, bs_length]
        omega
      · rw [bs_end s j (by omega)]
        simp
    | succ n ih =>
      intro j st acc hj ha hst
      have c0 : (j : Int) < (s.size : Int) := by omega
      have c1 : 0 ≤ (j : Int) := by omega
      have e1 := Aside0.mk (show wrap64 ((j : Int) + 1) = ((j + 1 : Nat) : Int) from wj (by omega))
      have ed := bs_drop s j (by omega)
      by_cases hb : bt s (j : Int) = c
      · have c2 : 0 ≤ (st : Int) := by omega
        have c3 : (st : Int) ≤ (j : Int) := by omega
        have c4 : (j : Int) ≤ (s.size : Int) := by omega
        have c5 : acc.length < 8796093022208 := by omega
        obtain ⟨r, hr, x, t, rfl, _, _⟩ := ih (j + 1) (j + 1) (acc ++ [s.extract st j]) (by omega) (by rw [List.length_append, List.length_singleton]; omega) (Nat.le_refl _)
        refine ⟨s.extract st j :: x :: t, ?_, _, _, rfl, ?_, ?_⟩
        · rw [show acc ++ s.extract st j :: x :: t = (acc ++ [s.extract st j]) ++ x :: t by simp]
          exact Ev.step (fun k => by simp only [spec_l1Split.l0, c0, c1, c2, c3, c4, c5, hb, e1.out, ↓reduceIte, Int.toNat_natCast]) hr
        · rw [bs_extract, ed, tw_cons, if_pos hb, List.length_nil, Nat.add_zero]
        · rw [ed]
          simp [hb]
      · obtain ⟨r, hr, x, t, rfl, hx, ht⟩ := ih (j + 1) st acc (by omega) (by omega) (by omega)
        refine ⟨x :: t, Ev.step (fun k => by simp only [spec_l1Split.l0, c0, c1, hb, e1.out, ↓reduceIte]) hr, _, _, rfl, ?_, ?_⟩
        · rw [hx, ed, tw_cons, if_neg hb, List.length_cons]
          congr 1
          omega
        · rw [ht, ed, List.mem_cons]
          exact ⟨.inr, fun h => h.resolve_left fun e => hb e.symm⟩
  obtain ⟨r, hr, x, t, rfl, hx, ht⟩ := go s.size 0 0 [] (by omega) (by simp) (Nat.le_refl _)
  refine ⟨x :: t, hr, by simp, ?_, ?_⟩
  · have e : rdOf ByteArray.empty (x :: t) 0 = x := rfl
    rw [e, hx, List.drop_zero, Nat.sub_zero, Nat.zero_add, ← tw_take]
  · rw [List.drop_zero] at ht
    rw [← ht, List.length_cons]
    omega
/-! ### one record of a log -/
/-- A text starts with record (a, b)'s line as its k-th. -/
def ST (s : ByteArray) (k : Nat) (a b : ByteArray) : Prop := recB a b = true ∧ k ≤ 59 ∧ ∃ t, bs s = bs (lineT (k : Int) a b) ++ t
theorem bs_sealT (s : ByteArray) : bs (sealT s) = bs s ++ 35 :: bs (numT (sumT s).toNat) := by
  unfold sealT
  rw [bs_append, bs_append, bs1, List.append_assoc]
  rfl
theorem bs_bodyT (k : Int) (a b : ByteArray) : bs (bodyT k a b) = bs (numT k.toNat) ++ 32 :: (bs a ++ 64 :: bs b) := by
  unfold bodyT
  simp only [bs_append, bs1, List.append_assoc]
  rfl
theorem bs_lineT (k : Int) (a b : ByteArray) : bs (lineT k a b) = bs (sealT (bodyT k a b)) ++ [10] := by
  unfold lineT
  rw [bs_append, bs1]
  rfl
theorem seal_bytes (k : Int) (a b : ByteArray) (h : recB a b = true) : ∀ c ∈ bs (sealT (bodyT k a b)), 32 ≤ c ∧ c ≤ 126 := by
  intro c hc
  rw [bs_sealT, List.mem_append, List.mem_cons] at hc
  rcases hc with hc | hc | hc
  · have := bodyT_bytes k a b h c hc
    omega
  · omega
  · have := numT_digit _ c hc
    omega
theorem ST_first {s : ByteArray} {k : Nat} {a b : ByteArray} (h : ST s k a b) : tw 10 (bs s) = bs (sealT (bodyT (k : Int) a b)) ∧ 10 ∈ bs s := by
  obtain ⟨hr, _, t, e⟩ := h
  rw [e, bs_lineT, List.append_assoc]
  refine ⟨tw_of 10 _ _ (fun h => ?_), by simp⟩
  have := seal_bytes _ a b hr 10 h
  omega
theorem body_35 (k : Int) (a b : ByteArray) (h : recB a b = true) : 35 ∉ bs (bodyT k a b) := fun hc => (bodyT_bytes k a b h 35 hc).2.2 rfl
theorem rest_eq (k : Int) (a b : ByteArray) (h : recB a b = true) : tw 64 (bs a ++ 64 :: bs b) = bs a := tw_of 64 _ _ (fun hc => by
  have := (recB_sizes h).2.2.2.2.2
  simp [hc] at this)
theorem num_32 (n : Nat) : 32 ∉ bs (numT n) := fun h => by
  have := numT_digit n 32 h
  omega
theorem ST_unique {s : ByteArray} {k : Nat} {a b a' b' : ByteArray} (h : ST s k a b) (h' : ST s k a' b') : a = a' ∧ b = b' := by
  have e := (ST_first h).1.symm.trans (ST_first h').1
  have e1 := congrArg (tw 35) e
  rw [bs_sealT, bs_sealT, tw_of 35 _ _ (body_35 _ a b h.1), tw_of 35 _ _ (body_35 _ a' b' h'.1), bs_bodyT, bs_bodyT] at e1
  have e2 := List.append_cancel_left e1
  simp only [List.cons.injEq, true_and] at e2
  have e3 := congrArg (tw 64) e2
  rw [rest_eq (k : Int) a b h.1, rest_eq (k : Int) a' b' h'.1] at e3
  rw [e3] at e2
  have e4 := List.append_cancel_left e2
  simp only [List.cons.injEq, true_and] at e4
  exact ⟨bs_inj e3, bs_inj e4⟩
theorem line_size (k : Int) (a b : ByteArray) (hk : 0 ≤ k ∧ k ≤ 59) (h : recB a b = true) : (sealT (bodyT k a b)).size ≤ 421 ∧ 1 ≤ (sealT (bodyT k a b)).size := by
  have h1 := bodyT_size k a b hk h
  have h2 := sealT_size (bodyT k a b)
  have h3 := recB_sizes h
  omega
theorem app_total (s : ByteArray) (hs : s.size ≤ 9223372036854775000) : ∃ r, Ev (fun k => impl_AppendChecksum.f k s) r := by
  have h1 := sumT_bound s
  have h2 := sealT_size s
  have c1 : s.size + 1 ≤ 9223372036854775807 := by omega
  have c2 : (s ++ (⟨#[35]⟩ : ByteArray)).size + (numT (sumT s).toNat).size ≤ 9223372036854775807 := by
    rw [← size_append]
    exact Nat.le_trans h2.2 (by omega)
  have hl : ∀ b, ∃ r, Ev (fun k => impl_AppendChecksum.j0 k s b) r := by
    intro b
    cases b with
    | true => exact ⟨_, Ev.step (f := fun _ => some ((⟨#[]⟩ : ByteArray), false)) (fun k => by simp only [impl_AppendChecksum.j0, ↓reduceIte]) (Ev.now _)⟩
    | false =>
      by_cases c3 : ((((s ++ (⟨#[35]⟩ : ByteArray)) ++ numT (sumT s).toNat).size : Int) > 4000)
      · refine ⟨((⟨#[]⟩ : ByteArray), false), Ev.step (f := fun k => impl_AppendChecksum.j0 (k + 1) s false) (fun k => rfl) ?_⟩
        simp only [impl_AppendChecksum.j0, Bool.false_eq_true, ↓reduceIte, c1]
        refine Ev.bind (ev_checksum s (by omega)) ?_
        simp only [itoa_eq (sumT s) (by omega) (by omega), Option.bind_some, c2, c3, ↓reduceIte]
        exact Ev.now _
      · refine ⟨(sealT s, true), Ev.step (f := fun k => impl_AppendChecksum.j0 (k + 1) s false) (fun k => rfl) ?_⟩
        simp only [impl_AppendChecksum.j0, Bool.false_eq_true, ↓reduceIte, c1]
        refine Ev.bind (ev_checksum s (by omega)) ?_
        simp only [itoa_eq (sumT s) (by omega) (by omega), Option.bind_some, c2, c3, ↓reduceIte]
        exact Ev.now _
  unfold impl_AppendChecksum.f
  by_cases c4 : (s.size : Int) > 4000
  · simp only [c4, ↓reduceIte]
    exact hl true
  · simp only [c4, ↓reduceIte, contains_35, Option.bind_some]
    exact hl _
theorem size_tw {x s : ByteArray} {c : Int} (h : bs x = tw c (bs s)) : x.size ≤ s.size := by
  have := tw_le c (bs s)
  rw [← h, bs_length, bs_length] at this
  exact this
theorem size_drop {x s : ByteArray} {n : Nat} (h : bs x = (bs s).drop n) : x.size ≤ s.size := by
  have := congrArg List.length h
  rw [List.length_drop, bs_length, bs_length] at this
  omega
theorem verify_total (s : ByteArray) (hs : s.size ≤ 9223372036854775000) : ∃ r, Ev (fun k => impl_VerifyChecksum.f k s) r ∧ r.1.size ≤ s.size := by
  obtain ⟨x, y, h, hx, hy⟩ := cut_eq s 35 (by omega)
  have zx := size_tw hx
  obtain ⟨r, hr⟩ := app_total x (by omega)
  unfold impl_VerifyChecksum.f
  simp only [h, Option.bind_some]
  cases h2 : r.2 with
  | false => exact ⟨((⟨#[]⟩ : ByteArray), false), Ev.bind hr (by simp only [h2, Bool.false_eq_true, ↓reduceIte]; exact Ev.now _), Nat.zero_le _⟩
  | true =>
    by_cases h3 : r.1.toList = s.toList
    · exact ⟨(x, true), Ev.bind hr (by simp only [h2, h3, ↓reduceIte]; exact Ev.now _), zx⟩
    · exact ⟨((⟨#[]⟩ : ByteArray), false), Ev.bind hr (by simp only [h2, h3, ↓reduceIte]; exact Ev.now _), Nat.zero_le _⟩
theorem verify_yes (s : ByteArray) (k : Int) (a b : ByteArray) (hk : 0 ≤ k ∧ k ≤ 59) (hr : recB a b = true) (he : bs s = bs (sealT (bodyT k a b))) : Ev (fun n => impl_VerifyChecksum.f n s) (bodyT k a b, true) := by
  have hz := line_size k a b hk hr
  have hsz : s = sealT (bodyT k a b) := bs_inj he
  obtain ⟨x, y, h, hx, hy⟩ := cut_eq s 35 (by rw [hsz]; omega)
  have ex : x = bodyT k a b := by
    apply bs_inj
    rw [hx, he, bs_sealT]
    exact tw_of 35 _ _ (body_35 k a b hr)
  subst ex
  have hb := bodyT_size k a b hk hr
  have hb2 := recB_sizes hr
  unfold impl_VerifyChecksum.f
  simp only [h, Option.bind_some]
  refine Ev.bind (ev_AppendChecksum (bodyT k a b) (by omega) (Bool.eq_false_iff.2 fun hc => body_35 k a b hr (by simpa using hc))) ?_
  have e2 : (sealT (bodyT k a b)).toList = s.toList := by rw [hsz]
  simp only [e2, ↓reduceIte]
  exact Ev.now _
theorem next_yes (s : ByteArray) (k : Nat) (a b : ByteArray) (hs : s.size ≤ 9223372036854775000) (h : ST s k a b) : Ev (fun n => impl_nextRecord.f n s (k : Int)) (a, b, lineT (k : Int) a b, true) := by
  obtain ⟨f1, f2⟩ := ST_first h
  have hr := h.1
  have hk : 0 ≤ (k : Int) ∧ (k : Int) ≤ 59 := by have := h.2.1; omega
  obtain ⟨x, y, hc, hx, hy⟩ := cut_eq s 10 (by omega)
  have hc' : (bs s).contains ((10 : UInt8).toNat : Int) = true := by simpa using f2
  rw [hc'] at hc
  have hj : Ev (fun n => impl_nextRecord.j0 n s (k : Int) (bodyT (k : Int) a b) false) (a, b, lineT (k : Int) a b, true) := by
    have hb := bodyT_size (k : Int) a b hk hr
    have hb2 := recB_sizes hr
    obtain ⟨x1, y1, h1, hx1, hy1⟩ := cut_eq (bodyT (k : Int) a b) 32 (by omega)
    have ey1 : bs y1 = bs a ++ 64 :: bs b := by
      have e32 : tw ((32 : UInt8).toNat : Int) (bs (bodyT (k : Int) a b)) = bs (numT (k : Int).toNat) := by
        rw [bs_bodyT]
        exact tw_of 32 _ _ (num_32 _)
      rw [hy1, e32, bs_bodyT, List.drop_append, List.drop_of_length_le (by omega), Nat.add_sub_cancel_left, List.nil_append]
      rfl
    have z1 := size_drop hy1
    obtain ⟨x2, y2, h2, hx2, hy2⟩ := cut_eq y1 64 (by omega)
    have e64 : tw ((64 : UInt8).toNat : Int) (bs y1) = bs a := by
      rw [ey1]
      exact rest_eq (k : Int) a b hr
    have ex2 : x2 = a := bs_inj (hx2.trans e64)
    have ey2 : y2 = b := by
      apply bs_inj
      rw [hy2, e64, ey1, List.drop_append, List.drop_of_length_le (by omega), Nat.add_sub_cancel_left, List.nil_append]
      rfl
    subst ex2 ey2
    obtain ⟨p, hp, hpi⟩ := hasPrefix_eq s (lineT (k : Int) x2 y2)
    have hpt : p = true := hpi.2 h.2.2
    subst hpt
    have enc := ev_implEnc (k : Int) x2 y2 (by omega) (by omega)
    rw [show encT (k : Int) x2 y2 = (lineT (k : Int) x2 y2, true) by unfold encT; rw [hr, decide_eq_true hk.1, decide_eq_true hk.2]; rfl] at enc
    refine Ev.step (f := fun n => impl_nextRecord.j0 (n + 1) s (k : Int) (bodyT (k : Int) x2 y2) false) (fun n => rfl) ?_
    simp only [impl_nextRecord.j0, Bool.false_eq_true, ↓reduceIte, h1, h2, Option.bind_some]
    refine Ev.bind enc ?_
    simp only [↓reduceIte, hp, Option.bind_some]
    exact Ev.now _
  unfold impl_nextRecord.f
  simp only [hc, Option.bind_some]
  refine Ev.bind (verify_yes x (k : Int) a b hk hr (hx.trans f1)) ?_
  simp only [↓reduceIte, Bool.not_true]
  exact hj
theorem next_no (s : ByteArray) (k : Nat) (hs : s.size ≤ 9223372036854775000) (hk : k ≤ 1000) (hn : ¬ ∃ a b, ST s k a b) : ∃ r, Ev (fun n => impl_nextRecord.f n s (k : Int)) r ∧ r.2.2.2 = false := by
  obtain ⟨x, y, hc, hx, hy⟩ := cut_eq s 10 (by omega)
  have zx := size_tw hx
  obtain ⟨⟨body, ok⟩, hv, zb⟩ := verify_total x (by omega)
  dsimp only at zb
  have bad : ∃ r, Ev (fun n => impl_nextRecord.j0 n s (k : Int) body true) r ∧ r.2.2.2 = false :=
    ⟨_, Ev.step (f := fun _ => some ((⟨#[]⟩ : ByteArray), (⟨#[]⟩ : ByteArray), (⟨#[]⟩ : ByteArray), false)) (fun n => by simp only [impl_nextRecord.j0, ↓reduceIte]) (Ev.now _), rfl⟩
  have good : ∃ r, Ev (fun n => impl_nextRecord.j0 n s (k : Int) body false) r ∧ r.2.2.2 = false := by
    obtain ⟨x1, y1, h1, hx1, hy1⟩ := cut_eq body 32 (by omega)
    have z1 := size_drop hy1
    obtain ⟨x2, y2, h2, hx2, hy2⟩ := cut_eq y1 64 (by omega)
    have zx2 := size_tw hx2
    have zy2 := size_drop hy2
    have enc := ev_implEnc (k : Int) x2 y2 (by omega) (by omega)
    by_cases he : (decide (0 ≤ (k : Int)) && decide ((k : Int) ≤ 59) && recB x2 y2) = true
    · rw [show encT (k : Int) x2 y2 = (lineT (k : Int) x2 y2, true) by unfold encT; rw [if_pos he]] at enc
      simp only [Bool.and_eq_true, decide_eq_true_eq] at he
      obtain ⟨p, hp, hpi⟩ := hasPrefix_eq s (lineT (k : Int) x2 y2)
      have hpf : p = false := by
        rw [Bool.eq_false_iff]
        intro hpt
        exact hn ⟨x2, y2, he.2, by omega, hpi.1 hpt⟩
      subst hpf
      refine ⟨(x2, y2, lineT (k : Int) x2 y2, false), Ev.step (f := fun n => impl_nextRecord.j0 (n + 1) s (k : Int) body false) (fun n => rfl) ?_, rfl⟩
      simp only [impl_nextRecord.j0, Bool.false_eq_true, ↓reduceIte, h1, h2, Option.bind_some]
      refine Ev.bind enc ?_
      simp only [↓reduceIte, hp, Option.bind_some]
      exact Ev.now _
    · rw [show encT (k : Int) x2 y2 = ((⟨#[]⟩ : ByteArray), false) by unfold encT; rw [if_neg he]] at enc
      refine ⟨(x2, y2, (⟨#[]⟩ : ByteArray), false), Ev.step (f := fun n => impl_nextRecord.j0 (n + 1) s (k : Int) body false) (fun n => rfl) ?_, rfl⟩
      simp only [impl_nextRecord.j0, Bool.false_eq_true, ↓reduceIte, h1, h2, Option.bind_some]
      refine Ev.bind enc ?_
      simp only [Bool.false_eq_true, ↓reduceIte]
      exact Ev.now _
  have pick : ∀ c : Bool, ∃ r, Ev (fun n => impl_nextRecord.j0 n s (k : Int) body c) r ∧ r.2.2.2 = false := by
    intro c
    cases c with
    | true => exact bad
    | false => exact good
  unfold impl_nextRecord.f
  simp only [hc, Option.bind_some]
  by_cases hf : (bs s).contains ((10 : UInt8).toNat : Int) = true
  · obtain ⟨r, h, e⟩ := pick (!ok)
    refine ⟨r, Ev.bind hv ?_, e⟩
    simp only [hf, ↓reduceIte]
    exact h
  · obtain ⟨r, h, e⟩ := pick true
    refine ⟨r, Ev.bind hv ?_, e⟩
    simp only [hf, ↓reduceIte]
    exact h
/-! ### the reference's decoding; whole logs -/
theorem toList_beq (s t : ByteArray) : (s.toList == t.toList) = true ↔ bs s = bs t := by rw [beq_iff_eq, toList_iff]
theorem dec_yes (s : ByteArray) (k : Nat) (a b : ByteArray) (hk : k ≤ 59) (hr : recB a b = true) (he : bs s = bs (sealT (bodyT (k : Int) a b))) : Ev (fun n => spec_l12Decode.f n s (k : Int)) (a, b, true) := by
  have hk' : 0 ≤ (k : Int) ∧ (k : Int) ≤ 59 := by omega
  have hz := line_size (k : Int) a b hk' hr
  have hsz : s = sealT (bodyT (k : Int) a b) := bs_inj he
  have hb := bodyT_size (k : Int) a b hk' hr
  rw [Int.toNat_natCast] at hb
  have l1 : spec_l1Num.f (k : Int) = some (numT k) := by rw [l1Num_eq (k : Int) hk'.1 (by omega), Int.toNat_natCast]
  obtain ⟨r, hsp, hl, h0, _⟩ := ev_split s 35 (by rw [hsz]; omega)
  have e0 : rdOf ByteArray.empty r 0 = bodyT (k : Int) a b := by
    apply bs_inj
    rw [h0, he, bs_sealT]
    exact tw_of 35 _ _ (body_35 _ a b hr)
  have hhead : bs (numT k ++ (⟨#[32]⟩ : ByteArray)) = bs (numT k) ++ [32] := by rw [bs_append, bs1]; rfl
  have hbody : bs (bodyT (k : Int) a b) = bs (numT k ++ (⟨#[32]⟩ : ByteArray)) ++ (bs a ++ 64 :: bs b) := by
    rw [hhead, bs_bodyT, Int.toNat_natCast, List.append_assoc]
    rfl
  have hlen : (numT k ++ (⟨#[32]⟩ : ByteArray)).size ≤ (bodyT (k : Int) a b).size := by
    have := congrArg List.length hbody
    rw [List.length_append, bs_length, bs_length] at this
    omega
  have c1 : (numT k).size + 1 ≤ 9223372036854775807 := by omega
  have c2 : 0 < (r.length : Int) := by omega
  have c3 : ¬ ((bodyT (k : Int) a b).size : Int) < ((numT k ++ (⟨#[32]⟩ : ByteArray)).size : Int) := by omega
  have c4 : 0 ≤ ((numT k ++ (⟨#[32]⟩ : ByteArray)).size : Int) := by omega
  have c5 : ((numT k ++ (⟨#[32]⟩ : ByteArray)).size : Int) ≤ ((bodyT (k : Int) a b).size : Int) := by omega
  have hpre : (((bodyT (k : Int) a b).extract 0 (numT k ++ (⟨#[32]⟩ : ByteArray)).size).toList != (numT k ++ (⟨#[32]⟩ : ByteArray)).toList) = false := by
    rw [bne_eq_false_iff_eq, toList_iff, bs_to, hbody, ← bs_length (numT k ++ (⟨#[32]⟩ : ByteArray)), List.take_left]
  have hrest : bs ((bodyT (k : Int) a b).extract (numT k ++ (⟨#[32]⟩ : ByteArray)).size (bodyT (k : Int) a b).size) = bs a ++ 64 :: bs b := by
    rw [bs_from, hbody, ← bs_length (numT k ++ (⟨#[32]⟩ : ByteArray)), List.drop_left]
  unfold spec_l12Decode.f
  simp only [l1, Option.bind_some, c1, ↓reduceIte]
  refine Ev.bind hsp ?_
  simp only [c2, e0, c3, c4, c5, hpre, ↓reduceIte, Int.toNat_natCast]
  generalize hR : (bodyT (k : Int) a b).extract (numT k ++ (⟨#[32]⟩ : ByteArray)).size (bodyT (k : Int) a b).size = R at hrest
  have zR : R.size = a.size + 1 + b.size := by
    have := congrArg List.length hrest
    rw [List.length_append, List.length_cons, bs_length, bs_length, bs_length] at this
    omega
  have hsiz := recB_sizes hr
  obtain ⟨q, hq, hql, hq0, _⟩ := ev_split R 64 (by omega)
  have eq0 : rdOf ByteArray.empty q 0 = a := by
    apply bs_inj
    rw [hq0, hrest]
    exact rest_eq (k : Int) a b hr
  have d1 : 0 < (q.length : Int) := by omega
  have d2 : ¬ (a.size : Int) = (R.size : Int) := by omega
  have d3 := Aside0.mk (show wrap64 ((a.size : Int) + 1) = ((a.size + 1 : Nat) : Int) from wj (by omega))
  have d4 : 0 ≤ ((a.size + 1 : Nat) : Int) := by omega
  have d5 : ((a.size + 1 : Nat) : Int) ≤ (R.size : Int) := by omega
  have eb : R.extract (a.size + 1) R.size = b := by
    apply bs_inj
    rw [bs_from, hrest, ← bs_length a, List.drop_append, List.drop_of_length_le (by omega), Nat.add_sub_cancel_left, List.nil_append]
    rfl
  have d6 : s.size + 1 ≤ 9223372036854775807 := by rw [hsz]; omega
  have heq : ((lineT (k : Int) a b).toList == (s ++ (⟨#[10]⟩ : ByteArray)).toList) = true := by
    rw [toList_beq, bs_lineT, bs_append, he, bs1]
    rfl
  refine Ev.step (f := fun n => spec_l12Decode.j0 (n + 1) s (k : Int) (numT k ++ (⟨#[32]⟩ : ByteArray)) (bodyT (k : Int) a b) false) (fun n => rfl) ?_
  simp only [spec_l12Decode.j0, Bool.false_eq_true, ↓reduceIte, c4, c5, Int.toNat_natCast, hR]
  refine Ev.bind hq ?_
  simp only [eq0, d1, d2, d3.out, d4, d5, ↓reduceIte, Int.toNat_natCast, eb]
  refine Ev.bind (ev_l12Record a b (by omega) (by omega)) ?_
  simp only [hr, ↓reduceIte]
  refine Ev.bind (ev_l12Line (k : Int) a b hk' hr) ?_
  simp only [d6, ↓reduceIte, heq]
  exact Ev.now _
theorem dec_any (s : ByteArray) (k : Nat) (hk : k ≤ 59) (hs : s.size ≤ 1000000) : ∃ r, Ev (fun n => spec_l12Decode.f n s (k : Int)) r ∧ (r.2.2 = true → recB r.1 r.2.1 = true ∧ bs (lineT (k : Int) r.1 r.2.1) = bs s ++ [10]) := by
  have hk' : 0 ≤ (k : Int) ∧ (k : Int) ≤ 59 := by omega
  obtain ⟨r, hsp, hl, h0, _⟩ := ev_split s 35 hs
  have z0 := size_tw h0
  have hnum := numT_le 1 k (by omega)
  have l1 : spec_l1Num.f (k : Int) = some (numT k) := by rw [l1Num_eq (k : Int) hk'.1 (by omega), Int.toNat_natCast]
  have c1 : (numT k).size + 1 ≤ 9223372036854775807 := by omega
  have c2 : 0 < (r.length : Int) := by omega
  have c4 : 0 ≤ ((numT k ++ (⟨#[32]⟩ : ByteArray)).size : Int) := by omega
  unfold spec_l12Decode.f
  simp only [l1, Option.bind_some, c1, ↓reduceIte]
  generalize hB : rdOf ByteArray.empty r 0 = B at z0 h0
  generalize hH : numT k ++ (⟨#[32]⟩ : ByteArray) = H at c4
  have bad : Ev (fun n => spec_l12Decode.j0 n s (k : Int) H B true) ((⟨#[]⟩ : ByteArray), (⟨#[]⟩ : ByteArray), false) :=
    Ev.step (f := fun _ => some ((⟨#[]⟩ : ByteArray), (⟨#[]⟩ : ByteArray), false)) (fun n => by simp only [spec_l12Decode.j0, ↓reduceIte]) (Ev.now _)
  have fin : ∀ r', Ev (fun n => if (B.size : Int) < (H.size : Int) then (spec_l12Decode.j0 n s (k : Int) H B true) else (if 0 ≤ (H.size : Int) then (if (H.size : Int) ≤ (B.size : Int) then (spec_l12Decode.j0 n s (k : Int) H B ((B.extract 0 ((H.size : Int)).toNat).toList != H.toList)) else (none)) else (none))) r' → Ev (fun n => (spec_l1Split.f n s 35).bind fun t153 => (if 0 < (t153.length : Int) then (if ((rdOf ByteArray.empty t153 0).size : Int) < (H.size : Int) then (spec_l12Decode.j0 n s (k : Int) H (rdOf ByteArray.empty t153 0) true) else (if 0 ≤ (H.size : Int) then (if (H.size : Int) ≤ ((rdOf ByteArray.empty t153 0).size : Int) then (spec_l12Decode.j0 n s (k : Int) H (rdOf ByteArray.empty t153 0) (((rdOf ByteArray.empty t153 0).extract 0 ((H.size : Int)).toNat).toList != H.toList)) else (none)) else (none))) else (none))) r' := by
    intro r' h
    refine Ev.bind hsp ?_
    simp only [c2, hB, ↓reduceIte]
    exact h
  by_cases c3 : (B.size : Int) < (H.size : Int)
  · refine ⟨((⟨#[]⟩ : ByteArray), (⟨#[]⟩ : ByteArray), false), fin _ ?_, fun h => absurd h Bool.false_ne_true⟩
    simp only [c3, ↓reduceIte]
    exact bad
  · have c5 : (H.size : Int) ≤ (B.size : Int) := by omega
    cases hp : ((B.extract 0 H.size).toList != H.toList) with
    | true =>
      refine ⟨((⟨#[]⟩ : ByteArray), (⟨#[]⟩ : ByteArray), false), fin _ ?_, fun h => absurd h Bool.false_ne_true⟩
      simp only [c3, c4, c5, hp, ↓reduceIte, Int.toNat_natCast]
      exact bad
    | false =>
      have zR : (B.extract H.size B.size).size ≤ B.size := size_drop (bs_from B H.size)
      generalize hR : B.extract H.size B.size = R at zR
      obtain ⟨q, hq, hql, hq0, _⟩ := ev_split R 64 (by omega)
      have zA := size_tw hq0
      generalize hA : rdOf ByteArray.empty q 0 = A at zA hq0
      have d1 : 0 < (q.length : Int) := by omega
      have d3 := Aside0.mk (show wrap64 ((A.size : Int) + 1) = ((A.size + 1 : Nat) : Int) from wj (by omega))
      have d4 : 0 ≤ ((A.size + 1 : Nat) : Int) := by omega
      have d6 : s.size + 1 ≤ 9223372036854775807 := by omega
      have start : ∀ r', Ev (fun n => spec_l12Decode.j0 (n + 1) s (k : Int) H B false) r' → ∃ r, Ev (fun n => if (B.size : Int) < (H.size : Int) then (spec_l12Decode.j0 n s (k : Int) H B true) else (if 0 ≤ (H.size : Int) then (if (H.size : Int) ≤ (B.size : Int) then (spec_l12Decode.j0 n s (k : Int) H B ((B.extract 0 ((H.size : Int)).toNat).toList != H.toList)) else (none)) else (none))) r ∧ r = r' := by
        intro r' h
        refine ⟨r', ?_, rfl⟩
        simp only [c3, c4, c5, hp, ↓reduceIte, Int.toNat_natCast]
        exact Ev.step (f := fun n => spec_l12Decode.j0 (n + 1) s (k : Int) H B false) (fun n => rfl) h
      by_cases d2 : (A.size : Int) = (R.size : Int)
      · obtain ⟨r, hr, rfl⟩ := start ((⟨#[]⟩ : ByteArray), (⟨#[]⟩ : ByteArray), false) (by
          simp only [spec_l12Decode.j0, Bool.false_eq_true, ↓reduceIte, c4, c5, Int.toNat_natCast, hR]
          refine Ev.bind hq ?_
          simp only [hA, d1, d2, ↓reduceIte]
          exact Ev.now _)
        exact ⟨_, fin _ hr, fun h => absurd h Bool.false_ne_true⟩
      · have d5 : ((A.size + 1 : Nat) : Int) ≤ (R.size : Int) := by omega
        have zO : (R.extract (A.size + 1) R.size).size ≤ R.size := size_drop (bs_from R (A.size + 1))
        generalize hO : R.extract (A.size + 1) R.size = O at zO
        cases hrec : recB A O with
        | false =>
          obtain ⟨r, hr, rfl⟩ := start (A, O, false) (by
            simp only [spec_l12Decode.j0, Bool.false_eq_true, ↓reduceIte, c4, c5, Int.toNat_natCast, hR]
            refine Ev.bind hq ?_
            simp only [hA, d1, d2, d3.out, d4, d5, ↓reduceIte, Int.toNat_natCast, hO]
            refine Ev.bind (ev_l12Record A O (by omega) (by omega)) ?_
            simp only [hrec, Bool.false_eq_true, ↓reduceIte]
            exact Ev.now _)
          exact ⟨_, fin _ hr, fun h => absurd h Bool.false_ne_true⟩
        | true =>
          obtain ⟨r, hr, rfl⟩ := start (A, O, ((lineT (k : Int) A O).toList == (s ++ (⟨#[10]⟩ : ByteArray)).toList)) (by
            simp only [spec_l12Decode.j0, Bool.false_eq_true, ↓reduceIte, c4, c5, Int.toNat_natCast, hR]
            refine Ev.bind hq ?_
            simp only [hA, d1, d2, d3.out, d4, d5, ↓reduceIte, Int.toNat_natCast, hO]
            refine Ev.bind (ev_l12Record A O (by omega) (by omega)) ?_
            simp only [hrec, ↓reduceIte]
            refine Ev.bind (ev_l12Line (k : Int) A O hk' hrec) ?_
            simp only [d6, ↓reduceIte]
            exact Ev.now _)
          refine ⟨_, fin _ hr, fun h => ⟨hrec, ?_⟩⟩
          have h2 : ((lineT (k : Int) A O).toList == (s ++ (⟨#[10]⟩ : ByteArray)).toList) = true := h
          rw [toList_beq, bs_append, bs1] at h2
          exact h2
/-! ### whole logs -/
/-- Records one behind the other, from place p on, the first as the k-th. -/
def Run (s : ByteArray) : Nat → Nat → List S62 → Prop
  | _, _, [] => True
  | k, p, x :: t => ST (s.extract p s.size) k x.f0 x.f1 ∧ Run s (k + 1) (p + (lineT (k : Int) x.f0 x.f1).size) t
def endsR : Nat → Nat → List S62 → List Nat
  | _, _, [] => []
  | k, p, x :: t => (p + (lineT (k : Int) x.f0 x.f1).size) :: endsR (k + 1) (p + (lineT (k : Int) x.f0 x.f1).size) t
def lastR : Nat → Nat → List S62 → Nat
  | _, p, [] => p
  | k, p, x :: t => lastR (k + 1) (p + (lineT (k : Int) x.f0 x.f1).size) t
def Stops (s : ByteArray) (k p : Nat) : Prop := ¬ ∃ a b, ST (s.extract p s.size) k a b
theorem lineT_size (k : Int) (a b : ByteArray) : (lineT k a b).size = (sealT (bodyT k a b)).size + 1 := by
  unfold lineT
  rw [size_append, sz1]
theorem ST_pos {s : ByteArray} {k p : Nat} {a b : ByteArray} (h : ST (s.extract p s.size) k a b) : p + (lineT (k : Int) a b).size ≤ s.size ∧ 1 ≤ (lineT (k : Int) a b).size := by
  obtain ⟨_, _, t, e⟩ := h
  have := congrArg List.length e
  rw [bs_from, List.length_drop, List.length_append, bs_length, bs_length] at this
  have h1 := lineT_size (k : Int) a b
  omega
theorem endsR_length : ∀ (l : List S62) (k p : Nat), (endsR k p l).length = l.length
  | [], _, _ => rfl
  | x :: t, k, p => by rw [endsR, List.length_cons, List.length_cons, endsR_length t]
theorem loops (s : ByteArray) (hs : s.size ≤ 30000) : ∀ (n k p : Nat) (acc : List S62) (es : List Int), k + n = 60 → p ≤ s.size → acc.length = k → es.length = k + 1 →
    ∃ recs, Run s k p recs ∧ Stops s (k + recs.length) (lastR k p recs) ∧ lastR k p recs ≤ s.size ∧ k + recs.length ≤ 60 ∧
      Ev (fun f => spec_l12Open.l0 f s acc (p : Int)) (acc ++ recs, (lastR k p recs : Int)) ∧
      Ev (fun f => impl_recordsOf.l0 f s acc es (p : Int)) (acc ++ recs, es ++ (endsR k p recs).map fun m : Nat => (m : Int)) := by
  intro n
  induction n with
  | zero =>
    intro k p acc es hk hp ha he
    have hst : Stops s k p := fun ⟨a, b, h⟩ => by have := h.2.1; omega
    have z : (s.extract p s.size).size ≤ s.size := size_drop (bs_from s p)
    obtain ⟨r, hr, er⟩ := next_no (s.extract p s.size) k (by omega) (by omega) hst
    have c0 : 0 ≤ (p : Int) := by omega
    have c1 : (p : Int) ≤ (s.size : Int) := by omega
    have el : decide ((acc.length : Int) < 60) = false := decide_eq_false (by omega)
    have stop : Ev (fun f => spec_l12Open.j1 f s acc (p : Int) false) (acc ++ [], (p : Int)) := by
      rw [List.append_nil]
      exact Ev.step (f := fun _ => some (acc, (p : Int))) (fun f => by simp only [spec_l12Open.j1, Bool.false_eq_true, ↓reduceIte]) (Ev.now _)
    refine ⟨[], trivial, hst, hp, by simp; omega, ?_, ?_⟩
    · by_cases c : (p : Int) < (s.size : Int)
      · exact Ev.step (fun f => by simp only [spec_l12Open.l0, c, el, ↓reduceIte]) stop
      · exact Ev.step (fun f => by simp only [spec_l12Open.l0, c, ↓reduceIte]) stop
    · refine Ev.step (f := fun f => impl_recordsOf.l0 (f + 1) s acc es (p : Int)) (fun f => rfl) ?_
      simp only [impl_recordsOf.l0, c0, c1, ↓reduceIte, Int.toNat_natCast, ha]
      refine Ev.bind hr ?_
      simp only [er, Bool.false_eq_true, ↓reduceIte, List.append_nil, endsR, List.map_nil]
      exact Ev.now _
  | succ n ih =>
    intro k p acc es hk hp ha he
    have z : (s.extract p s.size).size ≤ s.size := size_drop (bs_from s p)
    have c0 : 0 ≤ (p : Int) := by omega
    have c1 : (p : Int) ≤ (s.size : Int) := by omega
    have el : decide ((acc.length : Int) < 60) = true := decide_eq_true (by omega)
    obtain ⟨q, hq, hql, hq0, hq2⟩ := ev_split (s.extract p s.size) 10 (by omega)
    have zq := size_tw hq0
    have d1 : 0 < (q.length : Int) := by omega
    by_cases hx : ∃ a b, ST (s.extract p s.size) k a b
    · obtain ⟨a, b, h⟩ := hx
      obtain ⟨f1, f2⟩ := ST_first h
      obtain ⟨g1, g2⟩ := ST_pos h
      have g3 := lineT_size (k : Int) a b
      obtain ⟨recs, h1, h2, h3, h4, h5, h6⟩ := ih (k + 1) (p + (lineT (k : Int) a b).size) (acc ++ [⟨a, b⟩]) (es ++ [((p + (lineT (k : Int) a b).size : Nat) : Int)]) (by omega) g1 (by rw [List.length_append, List.length_singleton]; omega) (by rw [List.length_append, List.length_singleton]; omega)
      have esz : ((rdOf ByteArray.empty q 0).size : Int) = ((sealT (bodyT (k : Int) a b)).size : Int) := by
        rw [← bs_length, hq0, f1, bs_length]
      have ew := Aside0.mk (show wrap64 (wrap64 ((p : Int) + ((sealT (bodyT (k : Int) a b)).size : Int)) + 1) = ((p + (lineT (k : Int) a b).size : Nat) : Int) from by
        rw [wr (i := (p : Int) + ((sealT (bodyT (k : Int) a b)).size : Int)) (by omega) (by omega), wr (by omega) (by omega)]
        omega)
      have ew2 := Aside0.mk (show wrap64 ((p : Int) + ((lineT (k : Int) a b).size : Int)) = ((p + (lineT (k : Int) a b).size : Nat) : Int) from by
        rw [wr (by omega) (by omega)]
        omega)
      have c : (p : Int) < (s.size : Int) := by omega
      have d2 : ¬ (q.length : Int) < 2 := by have := hq2.2 f2; omega
      have d3 : acc.length < 4398046511104 := by omega
      have d4 : es.length < 17592186044416 := by omega
      refine ⟨⟨a, b⟩ :: recs, ⟨h, h1⟩, ?_, h3, by rw [List.length_cons]; omega, ?_, ?_⟩
      · rw [List.length_cons, show k + (recs.length + 1) = k + 1 + recs.length by omega]
        exact h2
      · rw [show acc ++ (⟨a, b⟩ : S62) :: recs = (acc ++ [(⟨a, b⟩ : S62)]) ++ recs by simp]
        refine Ev.step (f := fun f => spec_l12Open.j1 f s acc (p : Int) true) (fun f => by simp only [spec_l12Open.l0, c, el, ↓reduceIte]) ?_
        refine Ev.step (f := fun f => spec_l12Open.j1 (f + 1) s acc (p : Int) true) (fun f => rfl) ?_
        simp only [spec_l12Open.j1, c0, c1, ↓reduceIte, Int.toNat_natCast]
        refine Ev.bind hq ?_
        simp only [d1, ha, ↓reduceIte]
        refine Ev.bind (dec_yes (rdOf ByteArray.empty q 0) k a b h.2.1 h.1 (hq0.trans f1)) ?_
        simp only [d2, ↓reduceIte, esz, ew.out]
        rw [ha] at d3
        simp only [d3, ↓reduceIte]
        exact h5
      · rw [show acc ++ (⟨a, b⟩ : S62) :: recs = (acc ++ [(⟨a, b⟩ : S62)]) ++ recs by simp, endsR, List.map_cons, show ∀ x : Int, ∀ l : List Int, es ++ x :: l = (es ++ [x]) ++ l by simp]
        refine Ev.step (f := fun f => impl_recordsOf.l0 (f + 1) s acc es (p : Int)) (fun f => rfl) ?_
        simp only [impl_recordsOf.l0, c0, c1, ↓reduceIte, Int.toNat_natCast, ha]
        refine Ev.bind (next_yes (s.extract p s.size) k a b (by omega) h) ?_
        rw [ha] at d3
        simp only [↓reduceIte, d3, d4, ew2.out]
        exact h6
    · have hst : Stops s k p := hx
      obtain ⟨r, hr, er⟩ := next_no (s.extract p s.size) k (by omega) (by omega) hst
      have stop : Ev (fun f => spec_l12Open.j1 f s acc (p : Int) false) (acc ++ [], (p : Int)) := by
        rw [List.append_nil]
        exact Ev.step (f := fun _ => some (acc, (p : Int))) (fun f => by simp only [spec_l12Open.j1, Bool.false_eq_true, ↓reduceIte]) (Ev.now _)
      refine ⟨[], trivial, hst, hp, by simp; omega, ?_, ?_⟩
      · by_cases c : (p : Int) < (s.size : Int)
        · refine Ev.step (f := fun f => spec_l12Open.j1 f s acc (p : Int) true) (fun f => by simp only [spec_l12Open.l0, c, el, ↓reduceIte]) ?_
          refine Ev.step (f := fun f => spec_l12Open.j1 (f + 1) s acc (p : Int) true) (fun f => rfl) ?_
          obtain ⟨⟨a, b, ok⟩, hd, hdk⟩ := dec_any (rdOf ByteArray.empty q 0) k (by omega) (by omega)
          simp only [spec_l12Open.j1, c0, c1, ↓reduceIte, Int.toNat_natCast, List.append_nil]
          refine Ev.bind hq ?_
          simp only [d1, ha, ↓reduceIte]
          refine Ev.bind hd ?_
          by_cases d2 : (q.length : Int) < 2
          · simp only [d2, ↓reduceIte]
            exact Ev.now _
          · have hok : ok = false := by
              rw [Bool.eq_false_iff]
              intro e
              obtain ⟨e1, e2⟩ := hdk e
              refine hx ⟨a, b, e1, by omega, (bs (s.extract p s.size)).drop ((tw 10 (bs (s.extract p s.size))).length + 1), ?_⟩
              rw [e2, hq0, List.append_assoc]
              exact tw_split 10 _ (hq2.1 (by omega))
            simp only [d2, hok, Bool.false_eq_true, ↓reduceIte]
            exact Ev.now _
        · exact Ev.step (fun f => by simp only [spec_l12Open.l0, c, ↓reduceIte]) stop
      · refine Ev.step (f := fun f => impl_recordsOf.l0 (f + 1) s acc es (p : Int)) (fun f => rfl) ?_
        simp only [impl_recordsOf.l0, c0, c1, ↓reduceIte, Int.toNat_natCast, ha]
        refine Ev.bind hr ?_
        simp only [er, Bool.false_eq_true, ↓reduceIte, List.append_nil, endsR, List.map_nil]
        exact Ev.now _
/-- Both sides find the same records in a text. -/
theorem both_open (s : ByteArray) (hs : s.size ≤ 30000) : ∃ recs, Run s 0 0 recs ∧ Stops s recs.length (lastR 0 0 recs) ∧ lastR 0 0 recs ≤ s.size ∧ recs.length ≤ 60 ∧
      Ev (fun f => spec_l12Open.f f s) (recs, (lastR 0 0 recs : Int)) ∧
      Ev (fun f => impl_recordsOf.f f s) (recs, 0 :: (endsR 0 0 recs).map fun m : Nat => (m : Int)) := by
  obtain ⟨recs, h1, h2, h3, h4, h5, h6⟩ := loops s hs 60 0 0 [] [0] rfl (Nat.zero_le _) rfl rfl
  rw [Nat.zero_add] at h2 h4
  exact ⟨recs, h1, h2, h3, h4, h5, h6⟩
theorem ends_last : ∀ (l : List S62) (k p : Nat), (p :: endsR k p l).getD l.length 0 = lastR k p l
  | [], _, _ => rfl
  | x :: t, k, p => by
    rw [endsR, lastR, List.length_cons, List.getD_cons_succ]
    exact ends_last t _ _
theorem rd_ends (l : List S62) : rd (0 :: (endsR 0 0 l).map fun m : Nat => (m : Int)) (l.length : Int) = (lastR 0 0 l : Int) := by
  rw [rd_nat, show (0 : Int) :: (endsR 0 0 l).map (fun m : Nat => (m : Int)) = (0 :: endsR 0 0 l).map (fun m : Nat => (m : Int)) from rfl]
  have := ends_last l 0 0
  rw [List.getD_eq_getElem?_getD] at this ⊢
  rw [List.getElem?_map]
  have hl : l.length < (0 :: endsR 0 0 l).length := by rw [List.length_cons, endsR_length]; omega
  rw [List.getElem?_eq_getElem hl] at this ⊢
  simp only [Option.getD_some, Option.map_some] at this ⊢
  rw [this]
/-! ### what is synced of a log -/
theorem Run_grow {s u : ByteArray} (hu : ∃ t, bs u = bs s ++ t) : ∀ (l : List S62) (k p : Nat), Run s k p l → Run u k p l
  | [], _, _, _ => trivial
  | x :: t, k, p, h => by
    obtain ⟨h1, h2⟩ := h
    refine ⟨?_, Run_grow hu t _ _ h2⟩
    obtain ⟨e, hu⟩ := hu
    have hp := ST_pos h1
    obtain ⟨r1, r2, y, r3⟩ := h1
    refine ⟨r1, r2, y ++ e, ?_⟩
    rw [bs_from] at r3 ⊢
    rw [hu, List.drop_append_of_le_length (by rw [bs_length]; omega), r3, List.append_assoc]
theorem Run_shrink {s u : ByteArray} (hu : ∃ t, bs u = bs s ++ t) : ∀ (l : List S62) (k p : Nat), p ≤ s.size → Run u k p l → lastR k p l ≤ s.size → Run s k p l
  | [], _, _, _, _, _ => trivial
  | x :: t, k, p, hp, h, hl => by
    obtain ⟨h1, h2⟩ := h
    have hq : ∀ (l : List S62) (k p : Nat), p ≤ lastR k p l := by
      intro l
      induction l with
      | nil => intro k p; exact Nat.le_refl _
      | cons x t ih =>
        intro k p
        exact Nat.le_trans (Nat.le_add_right _ _) (ih (k + 1) (p + (lineT (k : Int) x.f0 x.f1).size))
    have hp2 := hq t (k + 1) (p + (lineT (k : Int) x.f0 x.f1).size)
    rw [lastR] at hl
    have hle : p + (lineT (k : Int) x.f0 x.f1).size ≤ s.size := Nat.le_trans hp2 hl
    refine ⟨?_, Run_shrink hu t _ _ hle h2 hl⟩
    obtain ⟨e, hu⟩ := hu
    obtain ⟨r1, r2, y, r3⟩ := h1
    refine ⟨r1, r2, (bs s).drop (p + (lineT (k : Int) x.f0 x.f1).size), ?_⟩
    rw [bs_from] at r3 ⊢
    rw [hu, List.drop_append_of_le_length (by rw [bs_length]; exact hp)] at r3
    have ht : (bs s).drop p = ((bs s).drop p).take (lineT (k : Int) x.f0 x.f1).size ++ ((bs s).drop p).drop (lineT (k : Int) x.f0 x.f1).size := (List.take_append_drop _ _).symm
    rw [List.drop_drop] at ht
    have htk := congrArg (List.take (lineT (k : Int) x.f0 x.f1).size) r3
    rw [List.take_append_of_le_length (by rw [List.length_drop, bs_length]; omega), ← bs_length (lineT (k : Int) x.f0 x.f1), List.take_left] at htk
    rw [bs_length] at htk
    rw [htk] at ht
    exact ht
theorem Run_prefix (s : ByteArray) : ∀ (l m : List S62) (k p : Nat), Run s k p l → Run s k p m → Stops s (k + m.length) (lastR k p m) → ∃ t, m = l ++ t
  | [], m, _, _, _, _, _ => ⟨m, rfl⟩
  | x :: l, [], k, p, h, _, hs => absurd ⟨_, _, h.1⟩ hs
  | x :: l, y :: m, k, p, h, h', hs => by
    obtain ⟨e0, e1⟩ := ST_unique h.1 h'.1
    have e : x = y := by
      cases x
      cases y
      simp only at e0 e1
      rw [e0, e1]
    subst e
    rw [List.length_cons, show k + (m.length + 1) = k + 1 + m.length by omega] at hs
    obtain ⟨t, ht⟩ := Run_prefix s l m _ _ h.2 h'.2 hs
    exact ⟨t, by rw [ht]; rfl⟩
theorem lastR_mem : ∀ (l t : List S62) (k p : Nat), lastR k p l ∈ p :: endsR k p (l ++ t)
  | [], t, k, p => by simp [lastR]
  | x :: l, t, k, p => by
    rw [lastR, List.cons_append, endsR]
    exact List.mem_cons_of_mem _ (lastR_mem l t _ _)
theorem mem_lastR : ∀ (m : List S62) (k p d : Nat), d ∈ p :: endsR k p m → ∃ l t, m = l ++ t ∧ lastR k p l = d
  | m, k, p, d, h => by
    rcases List.mem_cons.1 h with h | h
    · exact ⟨[], m, rfl, h.symm⟩
    · match m, h with
      | x :: m, h =>
        rw [endsR] at h
        obtain ⟨l, t, e, hl⟩ := mem_lastR m _ _ d h
        exact ⟨x :: l, t, by rw [e]; rfl, by rw [lastR]; exact hl⟩
theorem Run_left (s : ByteArray) : ∀ (l t : List S62) (k p : Nat), Run s k p (l ++ t) → Run s k p l
  | [], _, _, _, _ => trivial
  | x :: l, t, k, p, h => ⟨h.1, Run_left s l t _ _ h.2⟩
theorem Stops_end (s : ByteArray) (k : Nat) : Stops s k s.size := by
  rintro ⟨a, b, h⟩
  have := ST_pos h
  omega
theorem kept_iff {d u : ByteArray} (hu : ∃ t, bs u = bs d ++ t) (m l : List S62) (hm : Run u 0 0 m) (hms : Stops u m.length (lastR 0 0 m)) (hl : Run d 0 0 l) (hls : Stops d l.length (lastR 0 0 l)) :
    lastR 0 0 l = d.size ↔ d.size ∈ 0 :: endsR 0 0 m := by
  constructor
  · intro e
    obtain ⟨t, ht⟩ := Run_prefix u l m 0 0 (Run_grow hu l _ _ hl) hm (by rw [Nat.zero_add]; exact hms)
    rw [ht, ← e]
    exact lastR_mem l t 0 0
  · intro h
    obtain ⟨l', t, e, hl'⟩ := mem_lastR m 0 0 d.size h
    rw [e] at hm
    have r := Run_shrink hu l' 0 0 (Nat.zero_le _) (Run_left u l' t _ _ hm) (by omega)
    have hst : Stops d (0 + l'.length) (lastR 0 0 l') := by
      rw [hl']
      exact Stops_end d _
    obtain ⟨t1, e1⟩ := Run_prefix d l l' 0 0 hl r hst
    obtain ⟨t2, e2⟩ := Run_prefix d l' l 0 0 r hl (by rw [Nat.zero_add]; exact hls)
    have : l = l' := by
      have h1 := congrArg List.length e1
      have h2 := congrArg List.length e2
      rw [List.length_append] at h1 h2
      have : t2 = [] := List.length_eq_zero_iff.1 (by omega)
      rw [e2, this, List.append_nil]
    rw [this, hl']
/-- Is it a log: what is synced, what is pending, so many records? -/
theorem ev_index (x : Int) (l : List Int) (hl : l.length ≤ 1000000) : Ev (fun k => slices_Contains_int_int.f k l x) (l.contains x) := by
  have go : ∀ (n j : Nat), j + n = l.length → ∃ r : Int, Ev (fun k => slices_Index_int_int.l0 k l x (l.length : Int) (j : Int)) r ∧ (0 ≤ r ↔ x ∈ l.drop j) := by
    intro n
    induction n with
    | zero =>
      intro j hj
      have c : ¬ (j : Int) < (l.length : Int) := by omega
      refine ⟨-1, Ev.step (f := fun _ => some (-1)) (fun k => by simp only [slices_Index_int_int.l0, c, ↓reduceIte]) (Ev.now _), ?_⟩
      rw [List.drop_of_length_le (by omega)]
      simp
    | succ n ih =>
      intro j hj
      have c : (j : Int) < (l.length : Int) := by omega
      have c0 : 0 ≤ (j : Int) := by omega
      have e1 := Aside0.mk (show wrap64 ((j : Int) + 1) = ((j + 1 : Nat) : Int) from wj (by omega))
      rw [rd_drop l j (by omega)]
      by_cases h : x = rd l (j : Int)
      · refine ⟨(j : Int), Ev.step (f := fun _ => some (j : Int)) (fun k => by simp only [slices_Index_int_int.l0, c, c0, ↓reduceIte]; rw [if_pos h]) (Ev.now _), ?_⟩
        rw [h]
        simp
      · obtain ⟨r, hr, e⟩ := ih (j + 1) (by omega)
        refine ⟨r, Ev.step (fun k => by simp only [slices_Index_int_int.l0, c, c0, h, e1.out, ↓reduceIte]) hr, ?_⟩
        rw [e, List.mem_cons]
        exact ⟨.inr, fun h' => h'.resolve_left h⟩
  obtain ⟨r, hr, e⟩ := go l.length 0 (by omega)
  rw [List.drop_zero] at e
  unfold slices_Contains_int_int.f slices_Index_int_int.f
  have : l.contains x = decide (r ≥ 0) := by
    rw [Bool.eq_iff_iff, decide_eq_true_iff]
    show _ ↔ 0 ≤ r
    rw [e]
    simp
  rw [this]
  exact Ev.bind hr (Ev.now _)
/-- Both sides tell the same of a log; a good one has its records. -/
theorem both_valid (d p : ByteArray) (n : Int) (hd : d.size + p.size ≤ 4611686018427387904) : ∃ v, Ev (fun f => spec_l12Valid.f f d p n) v ∧ Ev (fun f => impl_IsValidLog.f f d p n) v ∧
    (v = true → (d ++ p).size ≤ 30000 ∧ ∃ recs : List S62, n = (recs.length : Int) ∧ recs.length ≤ 60 ∧ Ev (fun f => spec_l12Open.f f (d ++ p)) (recs, (lastR 0 0 recs : Int)) ∧ Ev (fun f => impl_recordsOf.f f (d ++ p)) (recs, 0 :: (endsR 0 0 recs).map fun m : Nat => (m : Int))) := by
  have ew := Aside0.mk (show wrap64 ((d.size : Int) + (p.size : Int)) = ((d.size + p.size : Nat) : Int) from by rw [wr (by omega) (by omega)]; omega)
  unfold spec_l12Valid.f impl_IsValidLog.f
  simp only [ew.out]
  by_cases h3 : ((d.size + p.size : Nat) : Int) > 30000
  · simp only [h3, ↓reduceIte]
    exact ⟨false, Ev.now _, Ev.now _, fun h => absurd h Bool.false_ne_true⟩
  · simp only [h3, ↓reduceIte]
    have hz : (d ++ p).size = d.size + p.size := size_append d p
    obtain ⟨m, hm, hms, hml, hm60, hm1, hm2⟩ := both_open (d ++ p) (by omega)
    obtain ⟨l, hl, hls, hll, hl60, hl1, hl2⟩ := both_open d (by omega)
    have hk := kept_iff ⟨bs p, bs_append d p⟩ m l hm hms hl hls
    have c1 : d.size + p.size ≤ 9223372036854775807 := by omega
    have c3 : 0 ≤ (m.length : Int) := by omega
    have c4 : (m.length : Int) < ((0 :: (endsR 0 0 m).map fun m : Nat => (m : Int)).length : Int) := by
      rw [List.length_cons, List.length_map, endsR_length]
      omega
    have c5 : (0 :: (endsR 0 0 m).map fun m : Nat => (m : Int)).length ≤ 1000000 := by
      rw [List.length_cons, List.length_map, endsR_length]
      omega
    have e := rd_ends m
    have hc : (0 :: (endsR 0 0 m).map fun m : Nat => (m : Int)).contains (d.size : Int) = decide ((lastR 0 0 l : Int) = (d.size : Int)) := by
      rw [Bool.eq_iff_iff, decide_eq_true_iff, show ((lastR 0 0 l : Int) = (d.size : Int)) ↔ lastR 0 0 l = d.size from by omega, hk]
      rw [show (0 : Int) :: (endsR 0 0 m).map (fun m : Nat => (m : Int)) = (0 :: endsR 0 0 m).map (fun m : Nat => (m : Int)) from rfl]
      simp only [List.contains_eq_mem, decide_eq_true_eq, List.mem_map]
      constructor
      · rintro ⟨x, hx, e⟩
        have : x = d.size := by omega
        rw [← this]
        exact hx
      · intro h
        exact ⟨_, h, rfl⟩
    simp only [c1, ↓reduceIte]
    have ec := ev_index (d.size : Int) _ c5
    rw [hc] at ec
    by_cases h1 : (lastR 0 0 m : Int) = ((d.size + p.size : Nat) : Int)
    · by_cases h2 : (lastR 0 0 l : Int) = (d.size : Int)
      · refine ⟨((m.length : Int) == n), ?_, ?_, ?_⟩
        · refine Ev.bind hm1 (Ev.bind hl1 ?_)
          simp only [h1, h2, ↓reduceIte]
          exact Ev.now _
        · refine Ev.bind hm2 ?_
          simp only [c3, c4, e, h1, ↓reduceIte]
          refine Ev.bind ec ?_
          simp only [h2, decide_true, ↓reduceIte]
          rw [show (n == (m.length : Int)) = ((m.length : Int) == n) from by rw [Bool.eq_iff_iff, beq_iff_eq, beq_iff_eq]; exact eq_comm]
          exact Ev.now _
        · intro h
          exact ⟨by omega, m, (beq_iff_eq.1 h).symm, hm60, hm1, hm2⟩
      · refine ⟨false, ?_, ?_, fun h => absurd h Bool.false_ne_true⟩
        · refine Ev.bind hm1 (Ev.bind hl1 ?_)
          simp only [h1, h2, ↓reduceIte]
          exact Ev.now _
        · refine Ev.bind hm2 ?_
          simp only [c3, c4, e, h1, ↓reduceIte]
          refine Ev.bind ec ?_
          simp only [h2, decide_false, Bool.false_eq_true, ↓reduceIte]
          exact Ev.now _
    · refine ⟨false, ?_, ?_, fun h => absurd h Bool.false_ne_true⟩
      · refine Ev.bind hm1 (Ev.bind hl1 ?_)
        simp only [h1, ↓reduceIte]
        exact Ev.now _
      · refine Ev.bind hm2 ?_
        simp only [c3, c4, e, h1, ↓reduceIte]
        exact Ev.now _
theorem szLog_ok (d p : ByteArray) (n : Int) (hd : d.size ≤ 9223372036854775807) (hp : p.size ≤ 9223372036854775807) : ∃ z, laws_szLog.f d p n 1048576 = some z ∧ (¬ z < 0 → d.size + p.size ≤ 4611686018427387904) := by
  unfold laws_szLog.f
  have e1 := Aside0.mk (show wrap64 (1048576 - (d.size : Int)) = 1048576 - (d.size : Int) from wr (by omega) (by omega))
  rw [e1.out]
  by_cases h1 : 1048576 - (d.size : Int) < 0
  · rw [if_pos h1]
    exact ⟨-1, rfl, fun h => absurd (by decide) h⟩
  · rw [if_neg h1]
    have e2 := Aside0.mk (show wrap64 (1048576 - (d.size : Int) - (p.size : Int)) = 1048576 - (d.size : Int) - (p.size : Int) from wr (by omega) (by omega))
    rw [e2.out]
    by_cases h2 : 1048576 - (d.size : Int) - (p.size : Int) < 0
    · rw [if_pos h2]
      exact ⟨-1, rfl, fun h => absurd (by decide) h⟩
    · rw [if_neg h2]
      exact ⟨_, rfl, fun _ => by omega⟩
set_option maxHeartbeats 8000000 in
set_option maxRecDepth 100000 in
theorem law_IsValidConsole (p0 p1 p2 : Nat → Int) (cn : Int) (d p : ByteArray) (n : Int) (hd : d.size ≤ 9223372036854775807) (hp : p.size ≤ 9223372036854775807) (w : World) (hT : XTab w) : Calls Tryd.prog 3 #[.agg (con p0 p1 p2 cn d p n)] w fun e w' => e = .returned (.bool true) ∧ Below w.heap.size w w' := by
  obtain ⟨z, hz, hzz⟩ := szLog_ok d p n hd hp
  have hu := Tryd.underlying28
  have hi : (Tryd.prog.info? 28).map (·.size) = some 25 := by kernel_rfl
  have HZ := Aside0.mk hz
  have HT := Aside0.mk hT
  have Z1 := Aside0.mk (blk_new w (.cells (con p0 p1 p2 cn d p n) 28))
  have B1 := Aside0.mk (below_alloc (Below.refl w.heap.size w) (.cells (con p0 p1 p2 cn d p n) 28))
  clear hz hT
  by_cases h0 : z < 0
  · clear hzz
    go_enter Tryd.func3, Tryd.ntmps3
    go_wp2_with (first
      | ((with_reducible refine gate_dst (N := 6) rfl ?_); refine load_row_event rfl 28 (.tmp 1) rfl w.heap.size rfl 28 (con p0 p1 p2 cn d p n) _ Z1.out hu rfl hi ?_)
      | (go_at_call 4; (refine (szConsole_walk p0 p1 p2 cn d p n 1048576 z _ HZ.out).mono ?_); rw [if_pos h0]; rintro e w2 ⟨rfl, hb⟩; have B2 := Aside0.mk (below_step B1.out hb); clear hb))
    go_ret
    exact ⟨rfl, B2.out⟩
  · obtain ⟨v, ⟨j1, h1⟩, ⟨j2, h2⟩, _⟩ := both_valid d p n (hzz h0)
    obtain ⟨k1, k2, b, hs, hq⟩ := both_yard p0 p1 p2 cn
    have HV1 := Aside0.mk (h1 j1 (Nat.le_refl _))
    have HV2 := Aside0.mk (h2 j2 (Nat.le_refl _))
    have HS := Aside0.mk hs
    have HP := Aside0.mk hq
    have S1 := Aside0.mk (rfl : (1 : Nat) = 1)
    have hbb : ((b && v) != (b && v)) = false := bne_self_eq_false (b && v)
    have hz0 : decide (z < 0) = false := decide_eq_false h0
    obtain ⟨bv, hbv⟩ : ∃ bv, bv = (b && v) := ⟨_, rfl⟩
    rw [← hbv] at hbb
    have HBV := Aside0.mk hbv
    clear hs hq h1 h2 hzz hbv
    go_enter Tryd.func3, Tryd.ntmps3
    go_wp2_with (first
      | ((with_reducible refine gate_dst (N := 6) rfl ?_); refine load_row_event rfl 28 (.tmp 1) rfl w.heap.size rfl 28 (con p0 p1 p2 cn d p n) _ Z1.out hu rfl hi ?_)
      | (go_at_call 4; (refine (szConsole_walk p0 p1 p2 cn d p n 1048576 z _ HZ.out).mono ?_); rw [if_neg h0]; rintro e w2 ⟨rfl, hb⟩; have B2 := Aside0.mk (below_step B1.out hb); have Z2 := Aside0.mk ((hb.block _ (lt_of_block Z1.out)).trans Z1.out); clear hb)
      | ((with_reducible refine gate_dst (N := 11) rfl ?_); refine load_row_event rfl 28 (.tmp 1) rfl w.heap.size rfl 28 (con p0 p1 p2 cn d p n) _ Z2.out hu rfl hi ?_)
      | (go_at_call 6; clear S1; (refine (toConsole_walk p0 p1 p2 cn d p n _).mono ?_); rintro e w3 ⟨rfl, hb⟩; have B3 := Aside0.mk (below_step B2.out hb); have Z3 := Aside0.mk ((hb.block _ (lt_of_block Z2.out)).trans Z2.out); clear hb)
      | (go_at_call 5; (refine (specValid_walk k1 j1 p0 p1 p2 cn d p n b v _ HS.out HV1.out).mono ?_); rw [← HBV.out]; rintro e w4 ⟨rfl, hb⟩; have B4 := Aside0.mk (below_step B3.out hb); have Z4 := Aside0.mk ((hb.block _ (lt_of_block Z3.out)).trans Z3.out); clear hb)
      | ((with_reducible refine gate_dst (N := 14) rfl ?_); refine load_row_event rfl 28 (.tmp 1) rfl w.heap.size rfl 28 (con p0 p1 p2 cn d p n) _ Z4.out hu rfl hi ?_)
      | (go_at_call 6; (refine (toConsole_walk p0 p1 p2 cn d p n _).mono ?_); rintro e w5 ⟨rfl, hb⟩; have B5 := Aside0.mk (below_step B4.out hb); clear hb)
      | (go_at_call 7; (refine (implValid_walk k2 j2 p0 p1 p2 cn d p n b v _ (XTab.below HT.out B5.out) HP.out HV2.out).mono ?_); rw [← HBV.out]; rintro e w6 ⟨rfl, hb⟩; have B6 := Aside0.mk (below_step B5.out hb); clear hb))
    go_ret
    exact ⟨rfl, B6.out⟩

end Go.Proofs.YtdeklpmmdakbeaaDoor.Pure
