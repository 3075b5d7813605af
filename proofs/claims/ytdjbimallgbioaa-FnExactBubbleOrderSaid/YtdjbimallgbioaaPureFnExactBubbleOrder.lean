/- BubbleOrder: the program and the reference tell the same of every list (of at most 1048576 numbers: of longer ones the law says nothing), what came in stays as it was, and the result shares no memory. -/
import Derived.Test.YtdjbimallgbioaaXa13
import Derived.Test.YtdjbimallgbioaaPk
set_option linter.unusedVariables false
set_option linter.unusedSimpArgs false
namespace Go.Proofs.Ytdjbimallgbioaa.Pure
open Go.RowKit Go.Proofs.Ytdjbimallgbioaa.Xa Go.Proofs.YtdjbimallgbioaaW.PrintWords Go.Proofs.YtdjbimallgbioaaW.PrintLast Go.Proofs.Ytdjbimallgbioaa.Pk

theorem ev_l1In' (a b c : Int) : spec_l1In.f a b c = some (decide (b ≤ a) && decide (a ≤ c)) := by
  unfold spec_l1In.f
  by_cases h : b ≤ a
  · rw [if_pos h, decide_eq_true h, Bool.true_and]
  · rw [if_neg h, decide_eq_false h, Bool.false_and]
theorem ev_isSize (a : Int) : impl_isSize.f a = some (decide (1 ≤ a) && decide (a ≤ 7)) := by
  unfold impl_isSize.f
  by_cases h : 1 ≤ a
  · rw [if_pos h, decide_eq_true h, Bool.true_and]
  · rw [if_neg h, decide_eq_false h, Bool.false_and]
/-! ### is a list an order? -/
theorem ev_l1Has_l0 (l : List Int) (x : Int) (hl : l.length < 9223372036854775807) (d : Nat) : ∀ j : Nat, j + d = l.length → Ev (fun k => spec_l1Has.l0 k l x (j : Int)) ((l.drop j).contains x) := by
  induction d with
  | zero =>
    intro j hj
    have c : ¬ (j : Int) < (l.length : Int) := by omega
    rw [List.drop_of_length_le (by omega)]
    exact Ev.step (fun k => by simp only [spec_l1Has.l0, c, ↓reduceIte] <;> rfl) (Ev.now _)
  | succ d ih =>
    intro j hj
    have c : (j : Int) < (l.length : Int) := by omega
    have c0 : 0 ≤ (j : Int) := by omega
    have e1 : wrap64 ((j : Int) + 1) = ((j + 1 : Nat) : Int) := wj (by omega)
    rw [rd_drop l j (by omega), List.contains_cons]
    by_cases h : rd l (j : Int) = x
    · have : (x == rd l (j : Int)) = true := by rw [h]; exact beq_self_eq_true x
      rw [this, Bool.true_or]
      exact Ev.step (fun k => by simp only [spec_l1Has.l0, c, c0, h, ↓reduceIte] <;> rfl) (Ev.now _)
    · have : (x == rd l (j : Int)) = false := beq_eq_false_iff_ne.2 (fun e => h e.symm)
      rw [this, Bool.false_or]
      exact Ev.step (fun k => by simp only [spec_l1Has.l0, c, c0, h, e1, ↓reduceIte]) (ih (j + 1) (by omega))
theorem ev_l1Has (l : List Int) (x : Int) (hl : l.length < 9223372036854775807) : Ev (fun k => spec_l1Has.f k l x) (l.contains x) := by
  have := ev_l1Has_l0 l x hl l.length 0 (by omega)
  rw [List.drop_zero] at this
  exact this
theorem ev_Index_l0 (l : List Int) (x : Int) (hl : l.length < 9223372036854775807) (d : Nat) : ∀ j : Nat, j + d = l.length → ∃ r : Int, Ev (fun k => slices_Index_int_int.l0 k l x (l.length : Int) (j : Int)) r ∧ decide (r ≥ 0) = (l.drop j).contains x := by
  induction d with
  | zero =>
    intro j hj
    have c : ¬ (j : Int) < (l.length : Int) := by omega
    rw [List.drop_of_length_le (by omega)]
    exact ⟨-1, Ev.step (fun k => by simp only [slices_Index_int_int.l0, c, ↓reduceIte] <;> rfl) (Ev.now _), rfl⟩
  | succ d ih =>
    intro j hj
    have c : (j : Int) < (l.length : Int) := by omega
    have c0 : 0 ≤ (j : Int) := by omega
    have e1 : wrap64 ((j : Int) + 1) = ((j + 1 : Nat) : Int) := wj (by omega)
    rw [rd_drop l j (by omega), List.contains_cons]
    by_cases h : x = rd l (j : Int)
    · have : (x == rd l (j : Int)) = true := beq_iff_eq.2 h
      rw [this, Bool.true_or]
      exact ⟨j, Ev.step (fun k => by simp only [slices_Index_int_int.l0, c, c0, ↓reduceIte]; rw [if_pos h]) (Ev.now _), by simp⟩
    · have : (x == rd l (j : Int)) = false := beq_eq_false_iff_ne.2 h
      rw [this, Bool.false_or]
      obtain ⟨r, hr, hd⟩ := ih (j + 1) (by omega)
      exact ⟨r, Ev.step (fun k => by simp only [slices_Index_int_int.l0, c, c0, h, e1, ↓reduceIte]) hr, hd⟩
theorem ev_Contains (l : List Int) (x : Int) (hl : l.length < 9223372036854775807) : Ev (fun k => slices_Contains_int_int.f k l x) (l.contains x) := by
  obtain ⟨r, hr, hd⟩ := ev_Index_l0 l x hl l.length 0 (by omega)
  rw [List.drop_zero] at hd
  unfold slices_Contains_int_int.f slices_Index_int_int.f
  refine Ev.bind hr ?_
  rw [hd]
  exact Ev.now _
theorem ev_l2Order_l0 (l : List Int) (hl : l.length ≤ 7) (d : Nat) : ∀ j : Nat, j + d = l.length → Ev (fun k => spec_l2Order.l0 k l (j : Int)) (chk l.length (l.take j) (l.drop j)) := by
  induction d with
  | zero =>
    intro j hj
    have c : ¬ (j : Int) < (l.length : Int) := by omega
    rw [List.drop_of_length_le (by omega)]
    exact Ev.step (fun k => by simp only [spec_l2Order.l0, c, ↓reduceIte] <;> rfl) (Ev.now _)
  | succ d ih =>
    intro j hj
    have c : (j : Int) < (l.length : Int) := by omega
    have c0 : 0 ≤ (j : Int) := by omega
    have c1 : (j : Int) ≤ (l.length : Int) := by omega
    have e1 : wrap64 ((j : Int) + 1) = ((j + 1 : Nat) : Int) := wj (by omega)
    rw [rd_drop l j (by omega), chk, ← take_succ l j (by omega)]
    by_cases h : (decide (1 ≤ rd l (j : Int)) && decide (rd l (j : Int) ≤ (l.length : Int))) = true
    · rw [h, Bool.true_and]
      refine Ev.step (f := fun k => (spec_l1Has.f k (l.take j) (rd l (j : Int))).bind fun t => if t = true then some false else spec_l2Order.l0 k l ((j + 1 : Nat) : Int)) (fun k => by simp only [spec_l2Order.l0, c, c0, c1, ev_l1In', h, e1, Option.bind_some, Int.toNat_natCast, ↓reduceIte]) ?_
      refine Ev.bind (ev_l1Has (l.take j) _ (by rw [List.length_take]; omega)) ?_
      cases hc : (l.take j).contains (rd l (j : Int)) with
      | true =>
        simp only [↓reduceIte, Bool.not_true, Bool.false_and]
        exact Ev.now _
      | false =>
        simp only [Bool.false_eq_true, ↓reduceIte, Bool.not_false, Bool.true_and]
        exact ih (j + 1) (by omega)
    · have h' := Bool.eq_false_iff.2 h
      rw [h', Bool.false_and, Bool.false_and]
      exact Ev.step (fun k => by simp only [spec_l2Order.l0, c, c0, ev_l1In', h', Option.bind_some, Bool.false_eq_true, ↓reduceIte] <;> rfl) (Ev.now _)
theorem ev_l2Order (l : List Int) : Ev (fun k => spec_l2Order.f k l) (ordB l) := by
  unfold spec_l2Order.f ordB
  simp only [ev_l1In', Option.bind_some]
  by_cases h1 : 1 ≤ l.length
  · have g1 : (1 : Int) ≤ (l.length : Int) := by omega
    by_cases h7 : l.length ≤ 7
    · have g7 : (l.length : Int) ≤ 7 := by omega
      have := ev_l2Order_l0 l h7 l.length 0 (by omega)
      simp only [h1, h7, g1, g7, decide_true, Bool.and_true, Bool.true_and, ↓reduceIte]
      rw [List.take_zero, List.drop_zero] at this
      exact this
    · have g7 : ¬ (l.length : Int) ≤ 7 := by omega
      simp only [h7, g7, decide_false, Bool.and_false, Bool.false_and, Bool.false_eq_true, ↓reduceIte]
      exact Ev.now _
  · have g1 : ¬ (1 : Int) ≤ (l.length : Int) := by omega
    simp only [h1, g1, decide_false, Bool.false_and, Bool.false_eq_true, ↓reduceIte]
    exact Ev.now _
theorem ev_isOrder_l0 (l : List Int) (hl : l.length ≤ 7) (d : Nat) : ∀ j : Nat, j + d = l.length → Ev (fun k => impl_isOrder.l0 k l l (l.length : Int) (j : Int)) (chk l.length (l.take j) (l.drop j)) := by
  induction d with
  | zero =>
    intro j hj
    have c : ¬ (j : Int) < (l.length : Int) := by omega
    rw [List.drop_of_length_le (by omega)]
    exact Ev.step (fun k => by simp only [impl_isOrder.l0, c, ↓reduceIte] <;> rfl) (Ev.now _)
  | succ d ih =>
    intro j hj
    have c : (j : Int) < (l.length : Int) := by omega
    have c0 : 0 ≤ (j : Int) := by omega
    have c1 : (j : Int) ≤ (l.length : Int) := by omega
    have e1 : wrap64 ((j : Int) + 1) = ((j + 1 : Nat) : Int) := wj (by omega)
    rw [rd_drop l j (by omega), chk, ← take_succ l j (by omega)]
    by_cases h1 : 1 ≤ rd l (j : Int)
    · have g1 : ¬ rd l (j : Int) < 1 := by omega
      by_cases h2 : rd l (j : Int) ≤ (l.length : Int)
      · have g2 : ¬ rd l (j : Int) > (l.length : Int) := by omega
        simp only [h1, h2, decide_true, Bool.true_and]
        refine Ev.step (f := fun k => (slices_Contains_int_int.f k (l.take j) (rd l (j : Int))).bind fun t => if t = true then some false else impl_isOrder.l0 k l l (l.length : Int) ((j + 1 : Nat) : Int)) (fun k => by simp only [impl_isOrder.l0, c, c0, c1, g1, g2, e1, Int.toNat_natCast, ↓reduceIte]) ?_
        refine Ev.bind (ev_Contains (l.take j) _ (by rw [List.length_take]; omega)) ?_
        cases hc : (l.take j).contains (rd l (j : Int)) with
        | true =>
          simp only [↓reduceIte, Bool.not_true, Bool.false_and]
          exact Ev.now _
        | false =>
          simp only [Bool.false_eq_true, ↓reduceIte, Bool.not_false, Bool.true_and]
          exact ih (j + 1) (by omega)
      · have g2 : rd l (j : Int) > (l.length : Int) := by omega
        simp only [h2, decide_false, Bool.and_false, Bool.false_and]
        exact Ev.step (fun k => by simp only [impl_isOrder.l0, c, c0, g1, g2, ↓reduceIte] <;> rfl) (Ev.now _)
    · have g1 : rd l (j : Int) < 1 := by omega
      simp only [h1, decide_false, Bool.false_and]
      exact Ev.step (fun k => by simp only [impl_isOrder.l0, c, c0, g1, ↓reduceIte] <;> rfl) (Ev.now _)
theorem ev_isOrder (l : List Int) : Ev (fun k => impl_isOrder.f k l) (ordB l) := by
  unfold impl_isOrder.f ordB
  by_cases h1 : 1 ≤ l.length
  · have g1 : ¬ (l.length : Int) < 1 := by omega
    by_cases h7 : l.length ≤ 7
    · have g7 : ¬ (l.length : Int) > 7 := by omega
      have := ev_isOrder_l0 l h7 l.length 0 (by omega)
      simp only [h1, h7, g1, g7, decide_true, decide_false, Bool.true_and, ↓reduceIte]
      refine Ev.step (fun k => by simp only [impl_isOrder.j0, Bool.false_eq_true, ↓reduceIte] <;> rfl) ?_
      rw [List.take_zero, List.drop_zero] at this
      exact this
    · have g7 : (l.length : Int) > 7 := by omega
      simp only [h7, g1, g7, decide_true, decide_false, Bool.and_false, Bool.false_and, ↓reduceIte]
      exact Ev.step (fun k => by simp only [impl_isOrder.j0, ↓reduceIte] <;> rfl) (Ev.now _)
  · have g1 : (l.length : Int) < 1 := by omega
    simp only [h1, g1, decide_false, Bool.false_and, ↓reduceIte]
    exact Ev.step (fun k => by simp only [impl_isOrder.j0, ↓reduceIte] <;> rfl) (Ev.now _)
/-! ### copies of lists, lists compared -/
theorem ev_toIntS_l0 (l : List Int) (hl : l.length ≤ 1048576) (d : Nat) : ∀ j : Nat, j + d = l.length → Ev (fun k => laws_toIntS.l0 k l (l.take j ++ List.replicate (l.length - j) 0) (j : Int)) l := by
  induction d with
  | zero =>
    intro j hj
    have c : ¬ (j : Int) < (l.length : Int) := by omega
    have e : l.take j ++ List.replicate (l.length - j) 0 = l := by rw [List.take_of_length_le (by omega), show l.length - j = 0 by omega]; simp
    rw [e]
    exact Ev.step (fun k => by simp only [laws_toIntS.l0, c, ↓reduceIte] <;> rfl) (Ev.now _)
  | succ d ih =>
    intro j hj
    have c : (j : Int) < (l.length : Int) := by omega
    have c0 : 0 ≤ (j : Int) := by omega
    have c1 : (j : Int) < (((l.take j ++ List.replicate (l.length - j) 0).length : Nat) : Int) := by simp; omega
    have e1 : wrap64 ((j : Int) + 1) = ((j + 1 : Nat) : Int) := wj (by omega)
    exact Ev.step (fun k => by simp only [laws_toIntS.l0, c, c0, c1, ↓reduceIte]; rw [e1, Int.toNat_natCast, set_copy l j (by omega)]) (ih (j + 1) (by omega))
theorem ev_toIntS (l : List Int) (hl : l.length ≤ 1048576) : Ev (fun k => laws_toIntS.f k l) l := by
  have c0 : 0 ≤ (l.length : Int) := by omega
  have c1 : l.length ≤ 35184372088832 := by omega
  have := ev_toIntS_l0 l hl l.length 0 (by omega)
  simp only [List.take_zero, List.nil_append, Nat.sub_zero] at this
  simp only [laws_toIntS.f, c0, c1, Int.toNat_natCast, ↓reduceIte]
  exact this
theorem ev_eqIntS_l0 (l : List Int) (hl : l.length < 9223372036854775807) (d : Nat) : ∀ j : Nat, j + d = l.length → Ev (fun k => laws_eqIntS.l0 k l l (j : Int)) true := by
  induction d with
  | zero =>
    intro j hj
    have c : ¬ (j : Int) < (l.length : Int) := by omega
    exact Ev.step (fun k => by simp only [laws_eqIntS.l0, c, ↓reduceIte] <;> rfl) (Ev.now _)
  | succ d ih =>
    intro j hj
    have c : (j : Int) < (l.length : Int) := by omega
    have c0 : 0 ≤ (j : Int) := by omega
    have e1 : wrap64 ((j : Int) + 1) = ((j + 1 : Nat) : Int) := wj (by omega)
    exact Ev.step (fun k => by simp only [laws_eqIntS.l0, c, c0, e1, ↓reduceIte] <;> rfl) (ih (j + 1) (by omega))
/-- A list is equal to itself. -/
theorem ev_eqIntS (l : List Int) (hl : l.length < 9223372036854775807) : Ev (fun k => laws_eqIntS.f k l l) true := by
  simp only [laws_eqIntS.f, ↓reduceIte]
  exact ev_eqIntS_l0 l hl l.length 0 (by omega)
/-! ### marks are laid, and held -/
theorem ev_markIntS_l0 (l : List Int) (b : Int) (hb0 : 0 ≤ b) (hb : b ≤ 4000000000) (hl : l.length ≤ 4000000000) (d : Nat) : ∀ j : Nat, j + d = l.length → Ev (fun k => laws_markIntS.l0 k (iota b j ++ l.drop j) (b + (j : Int)) (j : Int)) (b + (l.length : Int), iota b l.length) := by
  induction d with
  | zero =>
    intro j hj
    obtain rfl : j = l.length := by omega
    rw [List.drop_of_length_le (Nat.le_refl _), List.append_nil]
    have c : ¬ (l.length : Int) < ((iota b l.length).length : Int) := by rw [iota_length]; omega
    exact Ev.step (f := fun _ => some (b + (l.length : Int), iota b l.length)) (fun k => by simp only [laws_markIntS.l0, c, ↓reduceIte]) (Ev.now _)
  | succ d ih =>
    intro j hj
    have c : (j : Int) < ((iota b j ++ l.drop j).length : Int) := by rw [List.length_append, iota_length, List.length_drop]; omega
    have c0 : 0 ≤ (j : Int) := by omega
    have e1 : wrap64 ((j : Int) + 1) = ((j + 1 : Nat) : Int) := wj (by omega)
    have e2 : wrap64 (b + (j : Int) + 1) = b + ((j + 1 : Nat) : Int) := by rw [wr (by omega) (by omega)]; omega
    refine Ev.step (fun k => ?_) (ih (j + 1) (by omega))
    simp only [laws_markIntS.l0, c, c0, e1, e2, Int.toNat_natCast, ↓reduceIte]
    rw [set_iota b l j (by omega)]
theorem ev_markIntS (l : List Int) (b : Int) (hb0 : 0 ≤ b) (hb : b ≤ 4000000000) (hl : l.length ≤ 4000000000) : Ev (fun k => laws_markIntS.f k l b) (b + (l.length : Int), iota b l.length) := by
  have := ev_markIntS_l0 l b hb0 hb hl l.length 0 (by omega)
  simp only [List.drop_zero, iota, List.range_zero, List.map_nil, List.nil_append, Int.natCast_zero, Int.add_zero] at this
  exact this
theorem ev_heldIntS_l0 (n : Nat) (b : Int) (hb0 : 0 ≤ b) (hb : b ≤ 4000000000) (hl : n ≤ 4000000000) (d : Nat) : ∀ j : Nat, j + d = n → Ev (fun k => laws_heldIntS.l0 k (iota b n) (b + (j : Int)) (j : Int)) (b + (n : Int)) := by
  induction d with
  | zero =>
    intro j hj
    obtain rfl : j = n := by omega
    have c : ¬ (j : Int) < ((iota b j).length : Int) := by rw [iota_length]; omega
    exact Ev.step (f := fun _ => some (b + (j : Int))) (fun k => by simp only [laws_heldIntS.l0, c, ↓reduceIte]) (Ev.now _)
  | succ d ih =>
    intro j hj
    have c : (j : Int) < ((iota b n).length : Int) := by rw [iota_length]; omega
    have c0 : 0 ≤ (j : Int) := by omega
    have e1 : wrap64 ((j : Int) + 1) = ((j + 1 : Nat) : Int) := wj (by omega)
    have e2 : wrap64 (b + (j : Int) + 1) = b + ((j + 1 : Nat) : Int) := by rw [wr (by omega) (by omega)]; omega
    have e3 := rd_iota b n j (by omega)
    refine Ev.step (fun k => ?_) (ih (j + 1) (by omega))
    simp only [laws_heldIntS.l0, c, c0, e3, e1, e2, ↓reduceIte]
theorem ev_heldIntS (n : Nat) (b : Int) (hb0 : 0 ≤ b) (hb : b ≤ 4000000000) (hl : n ≤ 4000000000) : Ev (fun k => laws_heldIntS.f k (iota b n) b) (b + (n : Int)) := by
  have := ev_heldIntS_l0 n b hb0 hb hl n 0 (by omega)
  simp only [Int.natCast_zero, Int.add_zero] at this
  exact this
theorem both_Bubble (n : Nat) (hn : n ≤ 7) (d : Nat) : ∀ (j : Nat) (l : List Int), l.length = n → j + d + 1 = n →
    ∃ r : List Int, r.length = n ∧ Ev (fun k => spec_BubbleOrder.l0 k l (j : Int)) (r, true) ∧ Ev (fun k => impl_BubbleOrder.l0 k l (j : Int)) (r, true) := by
  induction d with
  | zero =>
    intro j l hl hj
    have e1 := Aside0.mk (show wrap64 ((j : Int) + 1) = ((j + 1 : Nat) : Int) from wj (by omega))
    have c : ¬ ((j + 1 : Nat) : Int) < (l.length : Int) := by omega
    refine ⟨l, hl, ?_, ?_⟩
    · exact Ev.step (f := fun _ => some (l, true)) (fun k => by simp only [spec_BubbleOrder.l0, e1.out, c, ↓reduceIte]) (Ev.now _)
    · exact Ev.step (f := fun _ => some (l, true)) (fun k => by simp only [impl_BubbleOrder.l0, e1.out, c, ↓reduceIte]) (Ev.now _)
  | succ d ih =>
    intro j l hl hj
    have e1 := Aside0.mk (show wrap64 ((j : Int) + 1) = ((j + 1 : Nat) : Int) from wj (by omega))
    have c : ((j + 1 : Nat) : Int) < (l.length : Int) := by omega
    have c0 : 0 ≤ (j : Int) := by omega
    have c1 : (j : Int) < (l.length : Int) := by omega
    have c2 : 0 ≤ ((j + 1 : Nat) : Int) := by omega
    obtain ⟨a, ha⟩ : ∃ a, a = rd l (j : Int) := ⟨_, rfl⟩
    obtain ⟨b, hb⟩ : ∃ b, b = rd l ((j + 1 : Nat) : Int) := ⟨_, rfl⟩
    by_cases h : a > b
    · obtain ⟨r, hr, h1, h2⟩ := ih (j + 1) ((l.set j b).set (j + 1) a) (by simp [hl]) (by omega)
      refine ⟨r, hr, ?_, ?_⟩
      · refine Ev.step (fun k => ?_) h1
        have g : ¬ a < b := by omega
        simp only [spec_BubbleOrder.l0, e1.out, c, c0, c1, c2, ↓reduceIte, spec_l1Least.f, spec_l1Most.f, ← ha, ← hb, h, g, Option.bind_some, Int.toNat_natCast]
      · refine Ev.step (fun k => ?_) h2
        simp only [impl_BubbleOrder.l0, e1.out, c, c0, c1, c2, ↓reduceIte, ← ha, ← hb, h, Int.toNat_natCast]
    · obtain ⟨r, hr, h1, h2⟩ := ih (j + 1) l hl (by omega)
      refine ⟨r, hr, ?_, ?_⟩
      · refine Ev.step (fun k => ?_) h1
        have least : spec_l1Least.f a b = some a := by
          unfold spec_l1Least.f
          by_cases g : a < b
          · rw [if_pos g]
          · rw [if_neg g, show a = b by omega]
        have most : spec_l1Most.f a b = some b := by unfold spec_l1Most.f; rw [if_neg h]
        simp only [spec_BubbleOrder.l0, e1.out, c, c0, c1, c2, ↓reduceIte, ← ha, ← hb, least, most, Option.bind_some, Int.toNat_natCast]
        rw [ha, hb, set_self l j (by omega), set_self l (j + 1) (by omega)]
      · refine Ev.step (fun k => ?_) h2
        simp only [impl_BubbleOrder.l0, e1.out, c, c0, c1, c2, ↓reduceIte, ← ha, ← hb, h]
theorem both_BubbleOrder (l : List Int) : ∃ (r : List Int) (b : Bool), r.length ≤ 7 ∧ Ev (fun k => spec_BubbleOrder.f k l) (r, b) ∧ Ev (fun k => impl_BubbleOrder.f k l) (r, b) := by
  obtain ⟨K1, h1⟩ := ev_l2Order l
  obtain ⟨K2, h2⟩ := ev_isOrder l
  cases ho : ordB l with
  | false =>
    refine ⟨[], false, by decide, ⟨K1, fun k hk => ?_⟩, ⟨K2, fun k hk => ?_⟩⟩
    · simp only [spec_BubbleOrder.f, h1 k hk, ho, Option.bind_some, Bool.false_eq_true, ↓reduceIte]
    · simp only [impl_BubbleOrder.f, h2 k hk, ho, Option.bind_some, Bool.false_eq_true, ↓reduceIte]
  | true =>
    obtain ⟨g1, g7⟩ := ordB_len ho
    obtain ⟨r, hr, ⟨K3, h3⟩, ⟨K4, h4⟩⟩ := both_Bubble l.length g7 (l.length - 1) 0 l rfl (by omega)
    have lim : l.length < 17592186044416 := by omega
    have lim' : ([] : List Int).length + l.length < 17592186044416 := by simp; omega
    refine ⟨r, true, by omega, ⟨K1 + K3, fun k hk => ?_⟩, ⟨K2 + K4, fun k hk => ?_⟩⟩
    · simp only [spec_BubbleOrder.f, h1 k (by omega), ho, Option.bind_some, spec_l1Own.f, lim', ↓reduceIte, List.nil_append]
      exact h3 k (by omega)
    · simp only [impl_BubbleOrder.f, h2 k (by omega), ho, Option.bind_some, slices_Clone_int_int.f, lim, ↓reduceIte]
      exact h4 k (by omega)
theorem FnExactBubbleOrder : laws_FnExactBubbleOrder.Pure := by
  intro l _ _ _
  by_cases hl : (l.length : Int) > 1048576
  · exact ⟨0, by simp only [laws_FnExactBubbleOrder.f, hl, ↓reduceIte]⟩
  · have hl' : l.length ≤ 1048576 := by omega
    obtain ⟨r, b, hr, ⟨K1, h1⟩, ⟨K2, h2⟩⟩ := both_BubbleOrder l
    obtain ⟨K3, h3⟩ := ev_toIntS l hl'
    obtain ⟨K4, h4⟩ := ev_eqIntS r (by omega)
    obtain ⟨K5, h5⟩ := ev_eqIntS l (by omega)
    obtain ⟨K6, h6⟩ := ev_markIntS l 1 (by omega) (by omega) (by omega)
    obtain ⟨K7, h7⟩ := ev_markIntS r 1 (by omega) (by omega) (by omega)
    obtain ⟨K8, h8⟩ := ev_heldIntS r.length 1 (by omega) (by omega) (by omega)
    have n1 : ¬ (1 + (l.length : Int)) < 0 := by omega
    have n2 : ¬ (1 + (r.length : Int)) < 0 := by omega
    dsimp only at h1 h2 h3 h4 h5 h6 h7 h8
    refine ⟨K1 + K2 + K3 + K4 + K5 + K6 + K7 + K8 + 10, ?_⟩
    simp only [laws_FnExactBubbleOrder.f]
    repeat first
      | with_reducible rfl
      | (with_reducible refine bind_of (h1 _ (by omega)) ?_; try dsimp only)
      | (with_reducible refine bind_of (h2 _ (by omega)) ?_; try dsimp only)
      | (with_reducible refine bind_of (h3 _ (by omega)) ?_; try dsimp only)
      | (with_reducible refine bind_of (h4 _ (by omega)) ?_; try dsimp only)
      | (with_reducible refine bind_of (h5 _ (by omega)) ?_; try dsimp only)
      | (with_reducible refine bind_of (h6 _ (by omega)) ?_; try dsimp only)
      | (with_reducible refine bind_of (h7 _ (by omega)) ?_; try dsimp only)
      | (with_reducible refine bind_of (h8 _ (by omega)) ?_; try dsimp only)
      | rw [if_pos rfl]
      | rw [bne_self_eq_false]
      | rw [if_neg Bool.false_ne_true]
      | rw [if_neg hl]
      | rw [if_neg n1]
      | rw [if_neg n2]
      | simp only [laws_FnExactBubbleOrder.j0]
      | simp only [laws_FnExactBubbleOrder.j1]
      | simp only [laws_FnExactBubbleOrder.j2]

end Go.Proofs.Ytdjbimallgbioaa.Pure
