/- MostWithin: the program and the reference tell the same of every list (of at most 1048576 numbers: of longer ones the law says nothing) and every limit, and the list stays as it was. -/
import Derived.Test.YtdjbimallgbioaaXa6
import Derived.Test.YtdjbimallgbioaaPk
set_option linter.unusedVariables false
set_option linter.unusedSimpArgs false
namespace Go.Proofs.Ytdjbimallgbioaa.Pure
open Go.RowKit Go.Proofs.Ytdjbimallgbioaa.Xa Go.Proofs.YtdjbimallgbioaaW.PrintWords Go.Proofs.YtdjbimallgbioaaW.PrintLast Go.Proofs.Ytdjbimallgbioaa.Pk

theorem ev_l1In' (a b c : Int) : spec_l1In.f a b c = some (decide (b ≤ a) && decide (a ≤ c)) := by
  unfold spec_l1In.f
  by_cases h : b ≤ a
  · rw [if_pos h, decide_eq_true h, Bool.true_and]
  · rw [if_neg h, decide_eq_false h, Bool.false_and]
theorem ev_isSize (a : Int) : impl_isSize.f a = some (decide (1 ≤ a) && decide (a ≤ 7)) := by
  unfold impl_isSize.f
  by_cases h : 1 ≤ a
  · rw [if_pos h, decide_eq_true h, Bool.true_and]
  · rw [if_neg h, decide_eq_false h, Bool.false_and]
/-! ### is a list an order? -/
theorem ev_l1Has_l0 (l : List Int) (x : Int) (hl : l.length < 9223372036854775807) (d : Nat) : ∀ j : Nat, j + d = l.length → Ev (fun k => spec_l1Has.l0 k l x (j : Int)) ((l.drop j).contains x) := by
  induction d with
  | zero =>
    intro j hj
    have c : ¬ (j : Int) < (l.length : Int) := by omega
    rw [List.drop_of_length_le (by omega)]
    exact Ev.step (fun k => by simp only [spec_l1Has.l0, c, ↓reduceIte] <;> rfl) (Ev.now _)
  | succ d ih =>
    intro j hj
    have c : (j : Int) < (l.length : Int) := by omega
    have c0 : 0 ≤ (j : Int) := by omega
    have e1 : wrap64 ((j : Int) + 1) = ((j + 1 : Nat) : Int) := wj (by omega)
    rw [rd_drop l j (by omega), List.contains_cons]
    by_cases h : rd l (j : Int) = x
    · have : (x == rd l (j : Int)) = true := by rw [h]; exact beq_self_eq_true x
      rw [this, Bool.true_or]
      exact Ev.step (fun k => by simp only [spec_l1Has.l0, c, c0, h, ↓reduceIte] <;> rfl) (Ev.now _)
    · have : (x == rd l (j : Int)) = false := beq_eq_false_iff_ne.2 (fun e => h e.symm)
      rw [this, Bool.false_or]
      exact Ev.step (fun k => by simp only [spec_l1Has.l0, c, c0, h, e1, ↓reduceIte]) (ih (j + 1) (by omega))
theorem ev_l1Has (l : List Int) (x : Int) (hl : l.length < 9223372036854775807) : Ev (fun k => spec_l1Has.f k l x) (l.contains x) := by
  have := ev_l1Has_l0 l x hl l.length 0 (by omega)
  rw [List.drop_zero] at this
  exact this
theorem ev_Index_l0 (l : List Int) (x : Int) (hl : l.length < 9223372036854775807) (d : Nat) : ∀ j : Nat, j + d = l.length → ∃ r : Int, Ev (fun k => slices_Index_int_int.l0 k l x (l.length : Int) (j : Int)) r ∧ decide (r ≥ 0) = (l.drop j).contains x := by
  induction d with
  | zero =>
    intro j hj
    have c : ¬ (j : Int) < (l.length : Int) := by omega
    rw [List.drop_of_length_le (by omega)]
    exact ⟨-1, Ev.step (fun k => by simp only [slices_Index_int_int.l0, c, ↓reduceIte] <;> rfl) (Ev.now _), rfl⟩
  | succ d ih =>
    intro j hj
    have c : (j : Int) < (l.length : Int) := by omega
    have c0 : 0 ≤ (j : Int) := by omega
    have e1 : wrap64 ((j : Int) + 1) = ((j + 1 : Nat) : Int) := wj (by omega)
    rw [rd_drop l j (by omega), List.contains_cons]
    by_cases h : x = rd l (j : Int)
    · have : (x == rd l (j : Int)) = true := beq_iff_eq.2 h
      rw [this, Bool.true_or]
      exact ⟨j, Ev.step (fun k => by simp only [slices_Index_int_int.l0, c, c0, ↓reduceIte]; rw [if_pos h]) (Ev.now _), by simp⟩
    · have : (x == rd l (j : Int)) = false := beq_eq_false_iff_ne.2 h
      rw [this, Bool.false_or]
      obtain ⟨r, hr, hd⟩ := ih (j + 1) (by omega)
      exact ⟨r, Ev.step (fun k => by simp only [slices_Index_int_int.l0, c, c0, h, e1, ↓reduceIte]) hr, hd⟩
theorem ev_Contains (l : List Int) (x : Int) (hl : l.length < 9223372036854775807) : Ev (fun k => slices_Contains_int_int.f k l x) (l.contains x) := by
  obtain ⟨r, hr, hd⟩ := ev_Index_l0 l x hl l.length 0 (by omega)
  rw [List.drop_zero] at hd
  unfold slices_Contains_int_int.f slices_Index_int_int.f
  refine Ev.bind hr ?_
  rw [hd]
  exact Ev.now _
theorem ev_l2Order_l0 (l : List Int) (hl : l.length ≤ 7) (d : Nat) : ∀ j : Nat, j + d = l.length → Ev (fun k => spec_l2Order.l0 k l (j : Int)) (chk l.length (l.take j) (l.drop j)) := by
  induction d with
  | zero =>
    intro j hj
    have c : ¬ (j : Int) < (l.length : Int) := by omega
    rw [List.drop_of_length_le (by omega)]
    exact Ev.step (fun k => by simp only [spec_l2Order.l0, c, ↓reduceIte] <;> rfl) (Ev.now _)
  | succ d ih =>
    intro j hj
    have c : (j : Int) < (l.length : Int) := by omega
    have c0 : 0 ≤ (j : Int) := by omega
    have c1 : (j : Int) ≤ (l.length : Int) := by omega
    have e1 : wrap64 ((j : Int) + 1) = ((j + 1 : Nat) : Int) := wj (by omega)
    rw [rd_drop l j (by omega), chk, ← take_succ l j (by omega)]
    by_cases h : (decide (1 ≤ rd l (j : Int)) && decide (rd l (j : Int) ≤ (l.length : Int))) = true
    · rw [h, Bool.true_and]
      refine Ev.step (f := fun k => (spec_l1Has.f k (l.take j) (rd l (j : Int))).bind fun t => if t = true then some false else spec_l2Order.l0 k l ((j + 1 : Nat) : Int)) (fun k => by simp only [spec_l2Order.l0, c, c0, c1, ev_l1In', h, e1, Option.bind_some, Int.toNat_natCast, ↓reduceIte]) ?_
      refine Ev.bind (ev_l1Has (l.take j) _ (by rw [List.length_take]; omega)) ?_
      cases hc : (l.take j).contains (rd l (j : Int)) with
      | true =>
        simp only [↓reduceIte, Bool.not_true, Bool.false_and]
        exact Ev.now _
      | false =>
        simp only [Bool.false_eq_true, ↓reduceIte, Bool.not_false, Bool.true_and]
        exact ih (j + 1) (by omega)
    · have h' := Bool.eq_false_iff.2 h
      rw [h', Bool.false_and, Bool.false_and]
      exact Ev.step (fun k => by simp only [spec_l2Order.l0, c, c0, ev_l1In', h', Option.bind_some, Bool.false_eq_true, ↓reduceIte] <;> rfl) (Ev.now _)
theorem ev_l2Order (l : List Int) : Ev (fun k => spec_l2Order.f k l) (ordB l) := by
  unfold spec_l2Order.f ordB
  simp only [ev_l1In', Option.bind_some]
  by_cases h1 : 1 ≤ l.length
  · have g1 : (1 : Int) ≤ (l.length : Int) := by omega
    by_cases h7 : l.length ≤ 7
    · have g7 : (l.length : Int) ≤ 7 := by omega
      have := ev_l2Order_l0 l h7 l.length 0 (by omega)
      simp only [h1, h7, g1, g7, decide_true, Bool.and_true, Bool.true_and, ↓reduceIte]
      rw [List.take_zero, List.drop_zero] at this
      exact this
    · have g7 : ¬ (l.length : Int) ≤ 7 := by omega
      simp only [h7, g7, decide_false, Bool.and_false, Bool.false_and, Bool.false_eq_true, ↓reduceIte]
      exact Ev.now _
  · have g1 : ¬ (1 : Int) ≤ (l.length : Int) := by omega
    simp only [h1, g1, decide_false, Bool.false_and, Bool.false_eq_true, ↓reduceIte]
    exact Ev.now _
theorem ev_isOrder_l0 (l : List Int) (hl : l.length ≤ 7) (d : Nat) : ∀ j : Nat, j + d = l.length → Ev (fun k => impl_isOrder.l0 k l l (l.length : Int) (j : Int)) (chk l.length (l.take j) (l.drop j)) := by
  induction d with
  | zero =>
    intro j hj
    have c : ¬ (j : Int) < (l.length : Int) := by omega
    rw [List.drop_of_length_le (by omega)]
    exact Ev.step (fun k => by simp only [impl_isOrder.l0, c, ↓reduceIte] <;> rfl) (Ev.now _)
  | succ d ih =>
    intro j hj
    have c : (j : Int) < (l.length : Int) := by omega
    have c0 : 0 ≤ (j : Int) := by omega
    have c1 : (j : Int) ≤ (l.length : Int) := by omega
    have e1 : wrap64 ((j : Int) + 1) = ((j + 1 : Nat) : Int) := wj (by omega)
    rw [rd_drop l j (by omega), chk, ← take_succ l j (by omega)]
    by_cases h1 : 1 ≤ rd l (j : Int)
    · have g1 : ¬ rd l (j : Int) < 1 := by omega
      by_cases h2 : rd l (j : Int) ≤ (l.length : Int)
      · have g2 : ¬ rd l (j : Int) > (l.length : Int) := by omega
        simp only [h1, h2, decide_true, Bool.true_and]
        refine Ev.step (f := fun k => (slices_Contains_int_int.f k (l.take j) (rd l (j : Int))).bind fun t => if t = true then some false else impl_isOrder.l0 k l l (l.length : Int) ((j + 1 : Nat) : Int)) (fun k => by simp only [impl_isOrder.l0, c, c0, c1, g1, g2, e1, Int.toNat_natCast, ↓reduceIte]) ?_
        refine Ev.bind (ev_Contains (l.take j) _ (by rw [List.length_take]; omega)) ?_
        cases hc : (l.take j).contains (rd l (j : Int)) with
        | true =>
          simp only [↓reduceIte, Bool.not_true, Bool.false_and]
          exact Ev.now _
        | false =>
          simp only [Bool.false_eq_true, ↓reduceIte, Bool.not_false, Bool.true_and]
          exact ih (j + 1) (by omega)
      · have g2 : rd l (j : Int) > (l.length : Int) := by omega
        simp only [h2, decide_false, Bool.and_false, Bool.false_and]
        exact Ev.step (fun k => by simp only [impl_isOrder.l0, c, c0, g1, g2, ↓reduceIte] <;> rfl) (Ev.now _)
    · have g1 : rd l (j : Int) < 1 := by omega
      simp only [h1, decide_false, Bool.false_and]
      exact Ev.step (fun k => by simp only [impl_isOrder.l0, c, c0, g1, ↓reduceIte] <;> rfl) (Ev.now _)
theorem ev_isOrder (l : List Int) : Ev (fun k => impl_isOrder.f k l) (ordB l) := by
  unfold impl_isOrder.f ordB
  by_cases h1 : 1 ≤ l.length
  · have g1 : ¬ (l.length : Int) < 1 := by omega
    by_cases h7 : l.length ≤ 7
    · have g7 : ¬ (l.length : Int) > 7 := by omega
      have := ev_isOrder_l0 l h7 l.length 0 (by omega)
      simp only [h1, h7, g1, g7, decide_true, decide_false, Bool.true_and, ↓reduceIte]
      refine Ev.step (fun k => by simp only [impl_isOrder.j0, Bool.false_eq_true, ↓reduceIte] <;> rfl) ?_
      rw [List.take_zero, List.drop_zero] at this
      exact this
    · have g7 : (l.length : Int) > 7 := by omega
      simp only [h7, g1, g7, decide_true, decide_false, Bool.and_false, Bool.false_and, ↓reduceIte]
      exact Ev.step (fun k => by simp only [impl_isOrder.j0, ↓reduceIte] <;> rfl) (Ev.now _)
  · have g1 : (l.length : Int) < 1 := by omega
    simp only [h1, g1, decide_false, Bool.false_and, ↓reduceIte]
    exact Ev.step (fun k => by simp only [impl_isOrder.j0, ↓reduceIte] <;> rfl) (Ev.now _)
/-! ### copies of lists, lists compared -/
theorem ev_toIntS_l0 (l : List Int) (hl : l.length ≤ 1048576) (d : Nat) : ∀ j : Nat, j + d = l.length → Ev (fun k => laws_toIntS.l0 k l (l.take j ++ List.replicate (l.length - j) 0) (j : Int)) l := by
  induction d with
  | zero =>
    intro j hj
    have c : ¬ (j : Int) < (l.length : Int) := by omega
    have e : l.take j ++ List.replicate (l.length - j) 0 = l := by rw [List.take_of_length_le (by omega), show l.length - j = 0 by omega]; simp
    rw [e]
    exact Ev.step (fun k => by simp only [laws_toIntS.l0, c, ↓reduceIte] <;> rfl) (Ev.now _)
  | succ d ih =>
    intro j hj
    have c : (j : Int) < (l.length : Int) := by omega
    have c0 : 0 ≤ (j : Int) := by omega
    have c1 : (j : Int) < (((l.take j ++ List.replicate (l.length - j) 0).length : Nat) : Int) := by simp; omega
    have e1 : wrap64 ((j : Int) + 1) = ((j + 1 : Nat) : Int) := wj (by omega)
    exact Ev.step (fun k => by simp only [laws_toIntS.l0, c, c0, c1, ↓reduceIte]; rw [e1, Int.toNat_natCast, set_copy l j (by omega)]) (ih (j + 1) (by omega))
theorem ev_toIntS (l : List Int) (hl : l.length ≤ 1048576) : Ev (fun k => laws_toIntS.f k l) l := by
  have c0 : 0 ≤ (l.length : Int) := by omega
  have c1 : l.length ≤ 35184372088832 := by omega
  have := ev_toIntS_l0 l hl l.length 0 (by omega)
  simp only [List.take_zero, List.nil_append, Nat.sub_zero] at this
  simp only [laws_toIntS.f, c0, c1, Int.toNat_natCast, ↓reduceIte]
  exact this
theorem ev_eqIntS_l0 (l : List Int) (hl : l.length < 9223372036854775807) (d : Nat) : ∀ j : Nat, j + d = l.length → Ev (fun k => laws_eqIntS.l0 k l l (j : Int)) true := by
  induction d with
  | zero =>
    intro j hj
    have c : ¬ (j : Int) < (l.length : Int) := by omega
    exact Ev.step (fun k => by simp only [laws_eqIntS.l0, c, ↓reduceIte] <;> rfl) (Ev.now _)
  | succ d ih =>
    intro j hj
    have c : (j : Int) < (l.length : Int) := by omega
    have c0 : 0 ≤ (j : Int) := by omega
    have e1 : wrap64 ((j : Int) + 1) = ((j + 1 : Nat) : Int) := wj (by omega)
    exact Ev.step (fun k => by simp only [laws_eqIntS.l0, c, c0, e1, ↓reduceIte] <;> rfl) (ih (j + 1) (by omega))
/-- A list is equal to itself. -/
theorem ev_eqIntS (l : List Int) (hl : l.length < 9223372036854775807) : Ev (fun k => laws_eqIntS.f k l l) true := by
  simp only [laws_eqIntS.f, ↓reduceIte]
  exact ev_eqIntS_l0 l hl l.length 0 (by omega)
theorem ev_limits (d : Int) : spec_l10Limit.f d = some (decide (1 ≤ d) && decide (d ≤ 7)) ∧ impl_isLimit.f d = some (decide (1 ≤ d) && decide (d ≤ 7)) := by
  unfold spec_l10Limit.f impl_isLimit.f
  rw [ev_l1In', ev_isSize]
  exact ⟨rfl, rfl⟩
theorem take_last {α : Type} (st : List α) (x : α) : (st ++ [x]).take st.length = st := by simp
/-- Both stand at one state: so many have come out (m), so many been pushed (i), the same stack. -/
theorem both_loops (l : List Int) (d : Int) (hl : l.length ≤ 7) (hd1 : 1 ≤ d) (n : Nat) : ∀ (i m : Nat) (st : List Int), 2 * (l.length - i) + st.length < n → st.length + m = i → i ≤ l.length → (st.length : Int) ≤ d →
    ∃ r : Int, (m < l.length → Ev (fun k => spec_MostWithin.l1 k l d st (i : Int) (m : Int)) (r, true)) ∧ (m = l.length → r = m) ∧ Ev (fun k => impl_MostWithin.l1 k (l.drop i) d st ((m : Int) + 1)) (r, true) := by
  induction n with
  | zero => intro i m st h; omega
  | succ n ih =>
    intro i m st hn hm hi hst
    have em := Aside0.mk (show wrap64 ((m : Int) + 1) = (m : Int) + 1 from wr (by omega) (by omega))
    have em2 := Aside0.mk (show wrap64 ((m : Int) + 1 + 1) = ((m + 1 : Nat) : Int) + 1 from by rw [wr (by omega) (by omega)]; omega)
    have em0 := Aside0.mk (show wrap64 ((m : Int) + 1 - 1) = (m : Int) from by rw [wr (by omega) (by omega)]; omega)
    have ei := Aside0.mk (show wrap64 ((i : Int) + 1) = ((i + 1 : Nat) : Int) from wj (by omega))
    have ld : ((l.drop i).length : Int) = (l.length : Int) - i := by rw [List.length_drop]; omega
    have c0i : 0 ≤ (i : Int) := by omega
    have lim : st.length < 17592186044416 := by omega
    rcases snoc_cases st with rfl | ⟨st, x, rfl⟩
    · -- nothing is on the stack
      simp only [List.length_nil, Int.natCast_zero] at hn hm hst
      by_cases hlt : i < l.length
      · have ci : (i : Int) < (l.length : Int) := by omega
        obtain ⟨r, h1, h2, h3⟩ := ih (i + 1) m [rd l (i : Int)] (by simp only [List.length_singleton]; omega) (by simp; omega) (by omega) (by simp; omega)
        refine ⟨r, fun hml => ?_, h2, ?_⟩
        · refine Ev.step (fun k => ?_) (h1 hml)
          have cd : (0 : Int) < d := by omega
          have cn : (([] : List Int).length : Int) = 0 := rfl
          simp only [spec_MostWithin.l1, ci, cn, cd, c0i, lim, ei.out, ↓reduceIte, List.nil_append]
        · have g0 : ¬ (([] : List Int).length : Int) > 0 := by simp
          have g1 : ¬ ((l.drop i).length : Int) = 0 := by omega
          have g2 : ¬ (([] : List Int).length : Int) = d := by simp; omega
          have g3 : 0 < ((l.drop i).length : Int) := by omega
          have g4 : 1 ≤ ((l.drop i).length : Int) := by omega
          refine Ev.step (f := fun k => impl_MostWithin.l0 k ((l.drop i).drop 1) d ([] ++ [rd (l.drop i) 0]) ((m : Int) + 1)) (fun k => by simp only [impl_MostWithin.l1, g0, g1, g2, g3, g4, lim, ↓reduceIte]) (Ev.step (f := fun k => impl_MostWithin.l1 k ((l.drop i).drop 1) d ([] ++ [rd (l.drop i) 0]) ((m : Int) + 1)) (fun k => by simp only [impl_MostWithin.l0]) ?_)
          have e0 : rd (l.drop i) 0 = rd l (i : Int) := by
            rw [rd_drop l i hlt]; rfl
          rw [List.drop_drop, e0]
          exact h3
      · refine ⟨m, fun hml => by omega, fun _ => rfl, ?_⟩
        have g0 : ¬ (([] : List Int).length : Int) > 0 := by simp
        have g1 : ((l.drop i).length : Int) = 0 := by omega
        refine Ev.step (f := fun _ => some ((m : Int), true)) (fun k => ?_) (Ev.now _)
        simp only [impl_MostWithin.l1, g0, g1, em0.out, ↓reduceIte]
    · have hlen : (st ++ [x]).length = st.length + 1 := by simp
      rw [hlen] at hn hm hst lim
      have et := Aside0.mk (show wrap64 (((st ++ [x]).length : Int) - 1) = (st.length : Int) from by rw [hlen, wr (by omega) (by omega)]; omega)
      have etop : rd (st ++ [x]) (st.length : Int) = x := by rw [rd_nat]; simp
      have t0 : 0 ≤ (st.length : Int) := by omega
      have t1 : (st.length : Int) < ((st ++ [x]).length : Int) := by rw [hlen]; omega
      have t2 : (st.length : Int) ≤ ((st ++ [x]).length : Int) := by rw [hlen]; omega
      have tp : ((st ++ [x]).length : Int) > 0 := by rw [hlen]; omega
      have tz : ¬ ((st ++ [x]).length : Int) = 0 := by rw [hlen]; omega
      have etake : (st ++ [x]).take ((st.length : Int)).toNat = st := by rw [Int.toNat_natCast]; exact take_last st x
      by_cases hx : x = (m : Int) + 1
      · -- the next one is on top: it comes out
        obtain ⟨r, h1, h2, h3⟩ := ih i (m + 1) st (by omega) (by omega) hi (by omega)
        refine ⟨r, fun hml => ?_, fun e => by omega, ?_⟩
        · have stop : Ev (fun k => spec_MostWithin.l0 k l d st (i : Int) ((m + 1 : Nat) : Int)) (r, true) := by
            by_cases hml' : m + 1 < l.length
            · have c : ((m + 1 : Nat) : Int) < (l.length : Int) := by omega
              exact Ev.step (fun k => by simp only [spec_MostWithin.l0, c, ↓reduceIte]) (h1 hml')
            · have c : ¬ ((m + 1 : Nat) : Int) < (l.length : Int) := by omega
              rw [h2 (by omega)]
              exact Ev.step (f := fun _ => some (((m + 1 : Nat) : Int), true)) (fun k => by simp only [spec_MostWithin.l0, c, ↓reduceIte]) (Ev.now _)
          have em' := Aside0.mk (show wrap64 ((m : Int) + 1) = ((m + 1 : Nat) : Int) from wj (by omega))
          by_cases a1 : (i : Int) < (l.length : Int)
          · by_cases a2 : ((st ++ [x]).length : Int) < d
            · refine Ev.step (fun k => ?_) stop
              simp only [spec_MostWithin.l1, a1, a2, tz, et.out, t0, t1, t2, etop, em'.out, ↓reduceIte]
              rw [if_pos (by omega), etake]
            · refine Ev.step (fun k => ?_) stop
              simp only [spec_MostWithin.l1, a1, a2, et.out, t0, t1, t2, etop, em'.out, ↓reduceIte]
              rw [if_pos (by omega), etake]
          · refine Ev.step (fun k => ?_) stop
            simp only [spec_MostWithin.l1, a1, et.out, t0, t1, t2, etop, em'.out, ↓reduceIte]
            rw [if_pos (by omega), etake]
        · refine Ev.step (fun k => ?_) h3
          simp only [impl_MostWithin.l1, tp, et.out, t0, t1, t2, etop, em2.out, ↓reduceIte]
          rw [if_pos hx, etake]
      · by_cases a1 : i < l.length
        · have b1 : (i : Int) < (l.length : Int) := by omega
          by_cases a2 : ((st ++ [x]).length : Int) < d
          · -- one more is pushed
            obtain ⟨r, h1, h2, h3⟩ := ih (i + 1) m (st ++ [x] ++ [rd l (i : Int)]) (by simp; omega) (by simp; omega) (by omega) (by rw [List.length_append, hlen]; rw [hlen] at a2; simp; omega)
            refine ⟨r, fun hml => ?_, h2, ?_⟩
            · refine Ev.step (fun k => ?_) (h1 hml)
              have lim' : (st ++ [x]).length < 17592186044416 := by rw [hlen]; exact lim
              simp only [spec_MostWithin.l1, b1, a2, tz, et.out, t0, t1, etop, em.out, hx, c0i, ei.out, lim', ↓reduceIte]
            · have g1 : ¬ ((l.drop i).length : Int) = 0 := by omega
              have g2 : ¬ ((st ++ [x]).length : Int) = d := by omega
              have g3 : 0 < ((l.drop i).length : Int) := by omega
              have g4 : 1 ≤ ((l.drop i).length : Int) := by omega
              have lim' : (st ++ [x]).length < 17592186044416 := by rw [hlen]; exact lim
              refine Ev.step (f := fun k => impl_MostWithin.l0 k ((l.drop i).drop 1) d (st ++ [x] ++ [rd (l.drop i) 0]) ((m : Int) + 1)) (fun k => by simp only [impl_MostWithin.l1, tp, et.out, t0, t1, etop, hx, g1, g2, g3, g4, lim', ↓reduceIte]) (Ev.step (f := fun k => impl_MostWithin.l1 k ((l.drop i).drop 1) d (st ++ [x] ++ [rd (l.drop i) 0]) ((m : Int) + 1)) (fun k => by simp only [impl_MostWithin.l0]) ?_)
              have e0 : rd (l.drop i) 0 = rd l (i : Int) := by
                rw [rd_drop l i a1]; rfl
              rw [List.drop_drop, e0]
              exact h3
          · refine ⟨m, fun hml => ?_, fun _ => rfl, ?_⟩
            · refine Ev.step (f := fun _ => some ((m : Int), true)) (fun k => ?_) (Ev.now _)
              simp only [spec_MostWithin.l1, b1, a2, et.out, t0, t1, etop, em.out, hx, ↓reduceIte]
            · have g1 : ¬ ((l.drop i).length : Int) = 0 := by omega
              have g2 : ((st ++ [x]).length : Int) = d := by rw [hlen] at a2 ⊢; omega
              refine Ev.step (f := fun _ => some ((m : Int), true)) (fun k => ?_) (Ev.now _)
              simp only [impl_MostWithin.l1, tp, et.out, t0, t1, etop, hx, g1, em0.out, ↓reduceIte]
              rw [if_pos g2]
        · have b1 : ¬ (i : Int) < (l.length : Int) := by omega
          refine ⟨m, fun hml => ?_, fun _ => rfl, ?_⟩
          · refine Ev.step (f := fun _ => some ((m : Int), true)) (fun k => ?_) (Ev.now _)
            simp only [spec_MostWithin.l1, b1, et.out, t0, t1, etop, em.out, hx, ↓reduceIte]
          · have g1 : ((l.drop i).length : Int) = 0 := by omega
            refine Ev.step (f := fun _ => some ((m : Int), true)) (fun k => ?_) (Ev.now _)
            simp only [impl_MostWithin.l1, tp, et.out, t0, t1, etop, hx, g1, em0.out, ↓reduceIte]
theorem both_MostWithin (l : List Int) (d : Int) : ∃ r, Ev (fun k => spec_MostWithin.f k l d) r ∧ Ev (fun k => impl_MostWithin.f k l d) r := by
  obtain ⟨e1, e2⟩ := ev_limits d
  cases ho : ordB l with
  | false =>
    refine ⟨(0, false), ?_, ?_⟩
    · unfold spec_MostWithin.f
      refine Ev.bind (ev_l2Order l) ?_
      rw [ho]
      simp only [Bool.false_eq_true, ↓reduceIte]
      exact Ev.step (f := fun _ => some (0, false)) (fun k => by simp only [spec_MostWithin.j0, ↓reduceIte]) (Ev.now _)
    · unfold impl_MostWithin.f
      refine Ev.bind (ev_isOrder l) ?_
      rw [ho]
      simp only [Bool.false_eq_true, ↓reduceIte]
      exact Ev.step (f := fun _ => some (0, false)) (fun k => by simp only [impl_MostWithin.j0, ↓reduceIte]) (Ev.now _)
  | true =>
    cases hd : (decide (1 ≤ d) && decide (d ≤ 7)) with
    | false =>
      refine ⟨(0, false), ?_, ?_⟩
      · unfold spec_MostWithin.f
        refine Ev.bind (ev_l2Order l) ?_
        rw [ho]
        simp only [e1, hd, Option.bind_some, Bool.not_false, ↓reduceIte]
        exact Ev.step (f := fun _ => some (0, false)) (fun k => by simp only [spec_MostWithin.j0, ↓reduceIte]) (Ev.now _)
      · unfold impl_MostWithin.f
        refine Ev.bind (ev_isOrder l) ?_
        rw [ho]
        simp only [e2, hd, Option.bind_some, Bool.not_false, ↓reduceIte]
        exact Ev.step (f := fun _ => some (0, false)) (fun k => by simp only [impl_MostWithin.j0, ↓reduceIte]) (Ev.now _)
    | true =>
      obtain ⟨h1, h7⟩ := ordB_len ho
      have hd' := hd
      simp only [Bool.and_eq_true, decide_eq_true_eq] at hd'
      obtain ⟨r, a, _, b⟩ := both_loops l d h7 hd'.1 (2 * l.length + 1) 0 0 [] (by simp) rfl (by omega) (by simp; omega)
      refine ⟨(r, true), ?_, ?_⟩
      · unfold spec_MostWithin.f
        refine Ev.bind (ev_l2Order l) ?_
        rw [ho]
        simp only [e1, hd, Option.bind_some, Bool.not_true, ↓reduceIte]
        have c : (0 : Int) < (l.length : Int) := by omega
        exact Ev.step (f := fun k => spec_MostWithin.l0 k l d [] 0 0) (fun k => by simp only [spec_MostWithin.j0, Bool.false_eq_true, ↓reduceIte]) (Ev.step (fun k => by simp only [spec_MostWithin.l0, c, ↓reduceIte] <;> rfl) (a (by omega)))
      · unfold impl_MostWithin.f
        refine Ev.bind (ev_isOrder l) ?_
        rw [ho]
        simp only [e2, hd, Option.bind_some, Bool.not_true, ↓reduceIte]
        exact Ev.step (f := fun k => impl_MostWithin.l0 k l d [] 1) (fun k => by simp only [impl_MostWithin.j0, Bool.false_eq_true, ↓reduceIte]) (Ev.step (fun k => by simp only [impl_MostWithin.l0]; rfl) b)
theorem FnExactMostWithin : laws_FnExactMostWithin.Pure := by
  intro l d _ _ _ _
  by_cases hl : (l.length : Int) > 1048576
  · exact ⟨0, by simp only [laws_FnExactMostWithin.f, hl, ↓reduceIte]⟩
  · refine Ev.rounds (g := fun k => laws_FnExactMostWithin.f k l d) ?_
    simp only [laws_FnExactMostWithin.f, hl, ↓reduceIte]
    have hl' : l.length ≤ 1048576 := by omega
    obtain ⟨r, a, b⟩ := both_MostWithin l d
    have t := ev_toIntS l hl'
    refine Ev.bind t (Ev.bind a (Ev.bind t (Ev.bind b ?_)))
    simp only [bne_self_eq_false, ↓reduceIte]
    refine Ev.step (f := fun k => (laws_toIntS.f k l).bind fun t185 => ((laws_eqIntS.f k l t185).bind fun t188 => (if t188 = true then (some true) else (some false)))) (fun k => by simp only [laws_FnExactMostWithin.j0, Bool.false_eq_true, ↓reduceIte]) ?_
    refine Ev.bind t (Ev.bind (ev_eqIntS l (by omega)) ?_)
    simp only [↓reduceIte]
    exact Ev.now _

end Go.Proofs.Ytdjbimallgbioaa.Pure
