/- ScoresOf: the program and the reference tell the same of every list and every text (of longer ones than 1048576 the law says nothing), and what came in stays as it was. -/
import Derived.Test.YtgilgogjffnodaaXe4
import Derived.Test.YtgilgogjffnodaaXeHscores
import Derived.Test.YtgilgogjffnodaaXeHeq2
import Derived.Test.YtgilgogjffnodaaXe2
import Derived.Test.YtgilgogjffnodaaXe3
import Derived.Test.YtgilgogjffnodaaXe1
import Derived.Test.YtgilgogjffnodaaPk
set_option linter.unusedVariables false
set_option linter.unusedSimpArgs false
namespace Go.Proofs.Ytgilgogjffnodaa.Pure
open Go.RowKit Go.Proofs.Ytgilgogjffnodaa.Xe Go.Proofs.YtgilgogjffnodaaW.PrintWords Go.Proofs.YtgilgogjffnodaaW.PrintLast Go.Proofs.Ytgilgogjffnodaa.Pk

theorem ev_l1In' (a b c : Int) : spec_l1In.f a b c = some (decide (b ≤ a) && decide (a ≤ c)) := by
  unfold spec_l1In.f
  by_cases h : b ≤ a
  · rw [if_pos h, decide_eq_true h, Bool.true_and]
  · rw [if_neg h, decide_eq_false h, Bool.false_and]
/-! ### is a list an order? -/
theorem ev_l1Has_l0 (l : List Int) (x : Int) (hl : l.length < 9223372036854775807) (d : Nat) : ∀ j : Nat, j + d = l.length → Ev (fun k => spec_l1Has.l0 k l x (j : Int)) ((l.drop j).contains x) := by
  induction d with
  | zero =>
    intro j hj
    have c : ¬ (j : Int) < (l.length : Int) := by omega
    rw [List.drop_of_length_le (by omega)]
    exact Ev.step (fun k => by simp only [spec_l1Has.l0, c, ↓reduceIte] <;> rfl) (Ev.now _)
  | succ d ih =>
    intro j hj
    have c : (j : Int) < (l.length : Int) := by omega
    have c0 : 0 ≤ (j : Int) := by omega
    have e1 : wrap64 ((j : Int) + 1) = ((j + 1 : Nat) : Int) := wj (by omega)
    rw [rd_drop l j (by omega), List.contains_cons]
    by_cases h : rd l (j : Int) = x
    · have : (x == rd l (j : Int)) = true := by rw [h]; exact beq_self_eq_true x
      rw [this, Bool.true_or]
      exact Ev.step (fun k => by simp only [spec_l1Has.l0, c, c0, h, ↓reduceIte] <;> rfl) (Ev.now _)
    · have : (x == rd l (j : Int)) = false := beq_eq_false_iff_ne.2 (fun e => h e.symm)
      rw [this, Bool.false_or]
      exact Ev.step (fun k => by simp only [spec_l1Has.l0, c, c0, h, e1, ↓reduceIte]) (ih (j + 1) (by omega))
theorem ev_l1Has (l : List Int) (x : Int) (hl : l.length < 9223372036854775807) : Ev (fun k => spec_l1Has.f k l x) (l.contains x) := by
  have := ev_l1Has_l0 l x hl l.length 0 (by omega)
  rw [List.drop_zero] at this
  exact this
theorem ev_l2Order_l0 (l : List Int) (hl : l.length ≤ 7) (d : Nat) : ∀ j : Nat, j + d = l.length → Ev (fun k => spec_l2Order.l0 k l (j : Int)) (chk l.length (l.take j) (l.drop j)) := by
  induction d with
  | zero =>
    intro j hj
    have c : ¬ (j : Int) < (l.length : Int) := by omega
    rw [List.drop_of_length_le (by omega)]
    exact Ev.step (fun k => by simp only [spec_l2Order.l0, c, ↓reduceIte] <;> rfl) (Ev.now _)
  | succ d ih =>
    intro j hj
    have c : (j : Int) < (l.length : Int) := by omega
    have c0 : 0 ≤ (j : Int) := by omega
    have c1 : (j : Int) ≤ (l.length : Int) := by omega
    have e1 : wrap64 ((j : Int) + 1) = ((j + 1 : Nat) : Int) := wj (by omega)
    rw [rd_drop l j (by omega), chk, ← take_succ l j (by omega)]
    by_cases h : (decide (1 ≤ rd l (j : Int)) && decide (rd l (j : Int) ≤ (l.length : Int))) = true
    · rw [h, Bool.true_and]
      refine Ev.step (f := fun k => (spec_l1Has.f k (l.take j) (rd l (j : Int))).bind fun t => if t = true then some false else spec_l2Order.l0 k l ((j + 1 : Nat) : Int)) (fun k => by simp only [spec_l2Order.l0, c, c0, c1, ev_l1In', h, e1, Option.bind_some, Int.toNat_natCast, ↓reduceIte]) ?_
      refine Ev.bind (ev_l1Has (l.take j) _ (by rw [List.length_take]; omega)) ?_
      cases hc : (l.take j).contains (rd l (j : Int)) with
      | true =>
        simp only [↓reduceIte, Bool.not_true, Bool.false_and]
        exact Ev.now _
      | false =>
        simp only [Bool.false_eq_true, ↓reduceIte, Bool.not_false, Bool.true_and]
        exact ih (j + 1) (by omega)
    · have h' := Bool.eq_false_iff.2 h
      rw [h', Bool.false_and, Bool.false_and]
      exact Ev.step (fun k => by simp only [spec_l2Order.l0, c, c0, ev_l1In', h', Option.bind_some, Bool.false_eq_true, ↓reduceIte] <;> rfl) (Ev.now _)
theorem ev_l2Order (l : List Int) : Ev (fun k => spec_l2Order.f k l) (ordB l) := by
  unfold spec_l2Order.f ordB
  simp only [ev_l1In', Option.bind_some]
  by_cases h1 : 1 ≤ l.length
  · have g1 : (1 : Int) ≤ (l.length : Int) := by omega
    by_cases h7 : l.length ≤ 7
    · have g7 : (l.length : Int) ≤ 7 := by omega
      have := ev_l2Order_l0 l h7 l.length 0 (by omega)
      simp only [h1, h7, g1, g7, decide_true, Bool.and_true, Bool.true_and, ↓reduceIte]
      rw [List.take_zero, List.drop_zero] at this
      exact this
    · have g7 : ¬ (l.length : Int) ≤ 7 := by omega
      simp only [h7, g7, decide_false, Bool.and_false, Bool.false_and, Bool.false_eq_true, ↓reduceIte]
      exact Ev.now _
  · have g1 : ¬ (1 : Int) ≤ (l.length : Int) := by omega
    simp only [h1, g1, decide_false, Bool.false_and, Bool.false_eq_true, ↓reduceIte]
    exact Ev.now _
theorem ev_Index_l0 (l : List Int) (x : Int) (hl : l.length < 9223372036854775807) (d : Nat) : ∀ j : Nat, j + d = l.length → ∃ r : Int, Ev (fun k => slices_Index_int_int.l0 k l x (l.length : Int) (j : Int)) r ∧ decide (r ≥ 0) = (l.drop j).contains x := by
  induction d with
  | zero =>
    intro j hj
    have c : ¬ (j : Int) < (l.length : Int) := by omega
    rw [List.drop_of_length_le (by omega)]
    exact ⟨-1, Ev.step (fun k => by simp only [slices_Index_int_int.l0, c, ↓reduceIte] <;> rfl) (Ev.now _), rfl⟩
  | succ d ih =>
    intro j hj
    have c : (j : Int) < (l.length : Int) := by omega
    have c0 : 0 ≤ (j : Int) := by omega
    have e1 : wrap64 ((j : Int) + 1) = ((j + 1 : Nat) : Int) := wj (by omega)
    rw [rd_drop l j (by omega), List.contains_cons]
    by_cases h : x = rd l (j : Int)
    · have : (x == rd l (j : Int)) = true := beq_iff_eq.2 h
      rw [this, Bool.true_or]
      exact ⟨j, Ev.step (fun k => by simp only [slices_Index_int_int.l0, c, c0, ↓reduceIte]; rw [if_pos h]) (Ev.now _), by simp⟩
    · have : (x == rd l (j : Int)) = false := beq_eq_false_iff_ne.2 h
      rw [this, Bool.false_or]
      obtain ⟨r, hr, hd⟩ := ih (j + 1) (by omega)
      exact ⟨r, Ev.step (fun k => by simp only [slices_Index_int_int.l0, c, c0, h, e1, ↓reduceIte]) hr, hd⟩
theorem ev_Contains (l : List Int) (x : Int) (hl : l.length < 9223372036854775807) : Ev (fun k => slices_Contains_int_int.f k l x) (l.contains x) := by
  obtain ⟨r, hr, hd⟩ := ev_Index_l0 l x hl l.length 0 (by omega)
  rw [List.drop_zero] at hd
  unfold slices_Contains_int_int.f slices_Index_int_int.f
  refine Ev.bind hr ?_
  rw [hd]
  exact Ev.now _
theorem ev_isOrder_l0 (l : List Int) (hl : l.length ≤ 7) (d : Nat) : ∀ j : Nat, j + d = l.length → Ev (fun k => impl_isOrder.l0 k l l (l.length : Int) (j : Int)) (chk l.length (l.take j) (l.drop j)) := by
  induction d with
  | zero =>
    intro j hj
    have c : ¬ (j : Int) < (l.length : Int) := by omega
    rw [List.drop_of_length_le (by omega)]
    exact Ev.step (fun k => by simp only [impl_isOrder.l0, c, ↓reduceIte] <;> rfl) (Ev.now _)
  | succ d ih =>
    intro j hj
    have c : (j : Int) < (l.length : Int) := by omega
    have c0 : 0 ≤ (j : Int) := by omega
    have c1 : (j : Int) ≤ (l.length : Int) := by omega
    have e1 : wrap64 ((j : Int) + 1) = ((j + 1 : Nat) : Int) := wj (by omega)
    rw [rd_drop l j (by omega), chk, ← take_succ l j (by omega)]
    by_cases h1 : 1 ≤ rd l (j : Int)
    · have g1 : ¬ rd l (j : Int) < 1 := by omega
      by_cases h2 : rd l (j : Int) ≤ (l.length : Int)
      · have g2 : ¬ rd l (j : Int) > (l.length : Int) := by omega
        simp only [h1, h2, decide_true, Bool.true_and]
        refine Ev.step (f := fun k => (slices_Contains_int_int.f k (l.take j) (rd l (j : Int))).bind fun t => if t = true then some false else impl_isOrder.l0 k l l (l.length : Int) ((j + 1 : Nat) : Int)) (fun k => by simp only [impl_isOrder.l0, c, c0, c1, g1, g2, e1, Int.toNat_natCast, ↓reduceIte]) ?_
        refine Ev.bind (ev_Contains (l.take j) _ (by rw [List.length_take]; omega)) ?_
        cases hc : (l.take j).contains (rd l (j : Int)) with
        | true =>
          simp only [↓reduceIte, Bool.not_true, Bool.false_and]
          exact Ev.now _
        | false =>
          simp only [Bool.false_eq_true, ↓reduceIte, Bool.not_false, Bool.true_and]
          exact ih (j + 1) (by omega)
      · have g2 : rd l (j : Int) > (l.length : Int) := by omega
        simp only [h2, decide_false, Bool.and_false, Bool.false_and]
        exact Ev.step (fun k => by simp only [impl_isOrder.l0, c, c0, g1, g2, ↓reduceIte] <;> rfl) (Ev.now _)
    · have g1 : rd l (j : Int) < 1 := by omega
      simp only [h1, decide_false, Bool.false_and]
      exact Ev.step (fun k => by simp only [impl_isOrder.l0, c, c0, g1, ↓reduceIte] <;> rfl) (Ev.now _)
theorem ev_isOrder (l : List Int) : Ev (fun k => impl_isOrder.f k l) (ordB l) := by
  unfold impl_isOrder.f ordB
  by_cases h1 : 1 ≤ l.length
  · have g1 : ¬ (l.length : Int) < 1 := by omega
    by_cases h7 : l.length ≤ 7
    · have g7 : ¬ (l.length : Int) > 7 := by omega
      have := ev_isOrder_l0 l h7 l.length 0 (by omega)
      simp only [h1, h7, g1, g7, decide_true, decide_false, Bool.true_and, ↓reduceIte]
      refine Ev.step (fun k => by simp only [impl_isOrder.j0, Bool.false_eq_true, ↓reduceIte] <;> rfl) ?_
      rw [List.take_zero, List.drop_zero] at this
      exact this
    · have g7 : (l.length : Int) > 7 := by omega
      simp only [h7, g1, g7, decide_true, decide_false, Bool.and_false, Bool.false_and, ↓reduceIte]
      exact Ev.step (fun k => by simp only [impl_isOrder.j0, ↓reduceIte] <;> rfl) (Ev.now _)
  · have g1 : (l.length : Int) < 1 := by omega
    simp only [h1, g1, decide_false, Bool.false_and, ↓reduceIte]
    exact Ev.step (fun k => by simp only [impl_isOrder.j0, ↓reduceIte] <;> rfl) (Ev.now _)
/-! ### what the reference and the program tell of beginnings -/
def begR : Option (Int × Int) → Int
  | some (p, q) => p - q
  | none => -1
theorem ev_l1In (a b c : Int) : spec_l1In.f a b c = some (decide (b ≤ a) && decide (a ≤ c)) := by
  unfold spec_l1In.f
  by_cases h : b ≤ a
  · rw [if_pos h, decide_eq_true h, Bool.true_and]
  · rw [if_neg h, decide_eq_false h, Bool.false_and]
theorem ev_l11In_l0 (n : Int) (s : ByteArray) (hn0 : 1 ≤ n) (hn6 : n ≤ 6) (hs : s.size ≤ 1048576) (d : Nat) : ∀ (j : Nat) (p q : Int), j + d = s.size → 0 ≤ q → q ≤ p → p ≤ n →
    Ev (fun k => spec_l11In.l0 k n s (p - q) p (j : Int)) (begR (beg n ((bs s).drop j) p q)) := by
  induction d with
  | zero =>
    intro j p q hj h0 h1 h2
    rw [bs_end s j (by omega)]
    have c : ¬ (j : Int) < (s.size : Int) := by omega
    exact Ev.step (fun k => by simp only [spec_l11In.l0, c, ↓reduceIte] <;> rfl) (Ev.now _)
  | succ d ih =>
    intro j p q hj h0 h1 h2
    rw [bs_drop s j (by omega)]
    have c : (j : Int) < (s.size : Int) := by omega
    have c0 : 0 ≤ (j : Int) := by omega
    have e1 : wrap64 ((j : Int) + 1) = ((j + 1 : Nat) : Int) := wj (by omega)
    simp only [beg]
    by_cases hI : bt s (j : Int) = 73
    · simp only [hI, ↓reduceIte]
      by_cases hp : p < n
      · simp only [hp, ↓reduceIte]
        have ih' := ih (j + 1) (p + 1) q (by omega) h0 (by omega) (by omega)
        rw [show p + 1 - q = p - q + 1 by omega] at ih'
        refine Ev.step (fun k => by simp only [spec_l11In.l0, c, c0, hI, hp, decide_true, ↓reduceIte] <;> rfl) (Ev.step (f := fun k => spec_l11In.l0 k n s (p - q + 1) (p + 1) ((j + 1 : Nat) : Int)) (fun k => ?_) ih')
        simp only [spec_l11In.j1, ↓reduceIte]
        rw [wr (i := p - q + 1) (by omega) (by omega), wr (i := p + 1) (by omega) (by omega), e1]
      · simp only [hp, ↓reduceIte]
        refine Ev.step (fun k => by simp only [spec_l11In.l0, c, c0, hI, hp, decide_false, ↓reduceIte] <;> rfl) (Ev.step (f := fun _ => some (-1)) (fun k => ?_) (Ev.now _))
        simp only [spec_l11In.j1, c, c0, hI, ↓reduceIte]
        rfl
    · simp only [hI, ↓reduceIte]
      by_cases hO : bt s (j : Int) = 79
      · simp only [hO, ↓reduceIte]
        by_cases hq : q < p
        · simp only [hq, ↓reduceIte]
          have ih' := ih (j + 1) p (q + 1) (by omega) (by omega) (by omega) (by omega)
          rw [show p - (q + 1) = p - q - 1 by omega] at ih'
          have g : p - q > 0 := by omega
          refine Ev.step (fun k => by simp only [spec_l11In.l0, c, c0, hI, ↓reduceIte] <;> rfl) (Ev.step (f := fun k => spec_l11In.l0 k n s (p - q - 1) p ((j + 1 : Nat) : Int)) (fun k => ?_) ih')
          simp only [spec_l11In.j1, c, c0, hO, g, Bool.false_eq_true, ↓reduceIte]
          rw [wr (i := p - q - 1) (by omega) (by omega), e1]
        · simp only [hq, ↓reduceIte]
          have g : ¬ p - q > 0 := by omega
          refine Ev.step (fun k => by simp only [spec_l11In.l0, c, c0, hI, ↓reduceIte] <;> rfl) (Ev.step (f := fun _ => some (-1)) (fun k => ?_) (Ev.now _))
          simp only [spec_l11In.j1, c, c0, hO, g, Bool.false_eq_true, ↓reduceIte]
      · simp only [hO, ↓reduceIte]
        refine Ev.step (fun k => by simp only [spec_l11In.l0, c, c0, hI, ↓reduceIte] <;> rfl) (Ev.step (f := fun _ => some (-1)) (fun k => ?_) (Ev.now _))
        simp only [spec_l11In.j1, c, c0, hO, Bool.false_eq_true, ↓reduceIte]
theorem ev_isBeginning_l0 (n : Int) (s : ByteArray) (hn0 : 1 ≤ n) (hn6 : n ≤ 6) (hs : s.size ≤ 1048576) (d : Nat) : ∀ (j : Nat) (p q : Int), j + d = s.size → 0 ≤ q → q ≤ p → p ≤ n →
    Ev (fun k => impl_isBeginning.l0 k n s p q (s.size : Int) (j : Int)) (beg n ((bs s).drop j) p q).isSome := by
  induction d with
  | zero =>
    intro j p q hj h0 h1 h2
    rw [bs_end s j (by omega)]
    have c : ¬ (j : Int) < (s.size : Int) := by omega
    exact Ev.step (fun k => by simp only [impl_isBeginning.l0, c, ↓reduceIte] <;> rfl) (Ev.now _)
  | succ d ih =>
    intro j p q hj h0 h1 h2
    rw [bs_drop s j (by omega)]
    have c : (j : Int) < (s.size : Int) := by omega
    have c0 : 0 ≤ (j : Int) := by omega
    have e1 : wrap64 ((j : Int) + 1) = ((j + 1 : Nat) : Int) := wj (by omega)
    have e2 : wrap64 (p + 1) = p + 1 := wr (by omega) (by omega)
    have e3 : wrap64 (q + 1) = q + 1 := wr (by omega) (by omega)
    simp only [beg]
    by_cases hI : bt s (j : Int) = 73
    · simp only [hI, ↓reduceIte]
      have g1 : ¬ q > p + 1 := by omega
      by_cases hp : p < n
      · have g2 : ¬ p + 1 > n := by omega
        simp only [hp, ↓reduceIte]
        exact Ev.step (fun k => by simp only [impl_isBeginning.l0, c, c0, hI, e1, e2, g1, g2, ↓reduceIte]) (ih (j + 1) (p + 1) q (by omega) h0 (by omega) (by omega))
      · have g2 : p + 1 > n := by omega
        simp only [hp, ↓reduceIte]
        exact Ev.step (fun k => by simp only [impl_isBeginning.l0, c, c0, hI, e2, g1, g2, ↓reduceIte] <;> rfl) (Ev.now _)
    · simp only [hI, ↓reduceIte]
      by_cases hO : bt s (j : Int) = 79
      · simp only [hO, ↓reduceIte]
        have g2 : ¬ p > n := by omega
        by_cases hq : q < p
        · have g1 : ¬ q + 1 > p := by omega
          simp only [hq, ↓reduceIte]
          exact Ev.step (fun k => by simp only [impl_isBeginning.l0, c, c0, hI, hO, e1, e3, g1, g2, ↓reduceIte] <;> rfl) (ih (j + 1) p (q + 1) (by omega) (by omega) (by omega) (by omega))
        · have g1 : q + 1 > p := by omega
          simp only [hq, ↓reduceIte]
          exact Ev.step (fun k => by simp only [impl_isBeginning.l0, c, c0, hI, hO, e3, g1, g2, ↓reduceIte] <;> rfl) (Ev.now _)
      · simp only [hO, ↓reduceIte]
        exact Ev.step (fun k => by simp only [impl_isBeginning.l0, c, c0, hI, hO, ↓reduceIte] <;> rfl) (Ev.now _)
/-- Is a text a beginning for n numbers? -/
def isBeg (n : Int) (s : ByteArray) : Bool := decide (1 ≤ n) && decide (n ≤ 6) && decide ((s.size : Int) ≤ 2 * n) && (beg n (bs s) 0 0).isSome
theorem begR_some (n : Int) (l : List Int) (h : 0 ≤ n) : decide (begR (beg n l 0 0) ≥ 0) = (beg n l 0 0).isSome := by
  cases e : beg n l 0 0 with
  | none => rfl
  | some r =>
    obtain ⟨p, q⟩ := r
    have := beg_bounds n l 0 0 p q (by omega) h e
    show decide (p - q ≥ 0) = true
    exact decide_eq_true (by omega)
theorem ev_l11In (n : Int) (s : ByteArray) (hn0 : 1 ≤ n) (hn6 : n ≤ 6) (hs : s.size ≤ 1048576) : Ev (fun k => spec_l11In.f k n s) (if (s.size : Int) ≤ 2 * n then begR (beg n (bs s) 0 0) else -1) := by
  have e : wrap64 (2 * n) = 2 * n := wr (by omega) (by omega)
  by_cases h : (s.size : Int) ≤ 2 * n
  · have h' : ¬ (s.size : Int) > 2 * n := by omega
    have := ev_l11In_l0 n s hn0 hn6 hs s.size 0 0 0 (by omega) (by omega) (by omega) (by omega)
    simp only [List.drop_zero] at this
    simp only [spec_l11In.f, e, h, h', ↓reduceIte]
    exact this
  · have h' : (s.size : Int) > 2 * n := by omega
    simp only [spec_l11In.f, e, h, h', ↓reduceIte]
    exact Ev.now _
theorem ev_isBeginning (n : Int) (s : ByteArray) (hs : s.size ≤ 1048576) : Ev (fun k => impl_isBeginning.f k n s) (isBeg n s) := by
  unfold isBeg
  by_cases h1 : 1 ≤ n
  · by_cases h6 : n ≤ 6
    · have e : wrap64 (2 * n) = 2 * n := wr (by omega) (by omega)
      have g1 : ¬ n < 1 := by omega
      have g6 : ¬ n > 6 := by omega
      simp only [impl_isBeginning.f, g1, g6, e, h1, h6, decide_true, Bool.true_and, ↓reduceIte]
      by_cases hl : (s.size : Int) ≤ 2 * n
      · have hl' : ¬ (s.size : Int) > 2 * n := by omega
        simp only [hl, hl', decide_true, decide_false, Bool.true_and]
        have := ev_isBeginning_l0 n s h1 h6 hs s.size 0 0 0 (by omega) (by omega) (by omega) (by omega)
        simp only [List.drop_zero] at this
        exact Ev.step (fun k => by simp only [impl_isBeginning.j0, Bool.false_eq_true, ↓reduceIte] <;> rfl) this
      · have hl' : (s.size : Int) > 2 * n := by omega
        simp only [hl, hl', decide_true, decide_false, Bool.false_and]
        exact Ev.step (fun k => by simp only [impl_isBeginning.j0, ↓reduceIte] <;> rfl) (Ev.now _)
    · have g1 : ¬ n < 1 := by omega
      have g6 : n > 6 := by omega
      simp only [impl_isBeginning.f, g1, g6, h6, decide_false, Bool.and_false, Bool.false_and, ↓reduceIte]
      exact Ev.step (fun k => by simp only [impl_isBeginning.j0, ↓reduceIte] <;> rfl) (Ev.now _)
  · have g1 : n < 1 := by omega
    simp only [impl_isBeginning.f, g1, h1, decide_false, Bool.false_and, ↓reduceIte]
    exact Ev.step (fun k => by simp only [impl_isBeginning.j0, ↓reduceIte] <;> rfl) (Ev.now _)
/-! ### an order and a beginning; the stack behind it -/
def duelB (l : List Int) (s : ByteArray) : Bool := ordB l && isBeg (l.length : Int) s
theorem duelB_facts {l : List Int} {s : ByteArray} (h : duelB l s = true) : ordB l = true ∧ 1 ≤ l.length ∧ l.length ≤ 6 ∧ (s.size : Int) ≤ 2 * (l.length : Int) ∧ ∃ p q, beg (l.length : Int) (bs s) 0 0 = some (p, q) := by
  unfold duelB isBeg at h
  simp only [Bool.and_eq_true, decide_eq_true_eq] at h
  obtain ⟨h0, ⟨⟨h1, h6⟩, hl⟩, hb⟩ := h
  obtain ⟨⟨p, q⟩, hp⟩ := Option.isSome_iff_exists.1 hb
  exact ⟨h0, by omega, by omega, hl, p, q, hp⟩
theorem ev_isDuel (l : List Int) (s : ByteArray) (hs : s.size ≤ 1048576) : Ev (fun k => impl_isDuel.f k l s) (duelB l s) := by
  unfold impl_isDuel.f duelB
  refine Ev.bind (ev_isOrder l) ?_
  cases ho : ordB l with
  | false =>
    simp only [Bool.false_eq_true, ↓reduceIte, Bool.false_and]
    exact Ev.now _
  | true =>
    simp only [↓reduceIte, Bool.true_and]
    exact Ev.bind (ev_isBeginning (l.length : Int) s hs) (Ev.now _)
theorem ev_stackAfter_l0 (l : List Int) (s : ByteArray) (hn : l.length ≤ 6) (hs : s.size ≤ 1048576) (d : Nat) : ∀ (j p : Nat) (q : Int) (st : List Int) (pd : Int), j + d = s.size → p ≤ l.length → (st.length : Int) = (p : Int) - q → 0 ≤ q → (beg (l.length : Int) ((bs s).drop j) p q).isSome = true →
    Ev (fun k => impl_stackAfter.l0 k (l.drop p) s st pd (s.size : Int) (j : Int)) (stk ((bs s).drop j) (l.drop p) st pd) := by
  induction d with
  | zero =>
    intro j p q st pd hj hp hst hq hb
    rw [bs_end s j (by omega)]
    have c : ¬ (j : Int) < (s.size : Int) := by omega
    exact Ev.step (f := fun _ => some (st, pd)) (fun k => by simp only [impl_stackAfter.l0, c, ↓reduceIte]) (Ev.now _)
  | succ d ih =>
    intro j p q st pd hj hp hst hq hb
    rw [bs_drop s j (by omega)] at hb ⊢
    have c : (j : Int) < (s.size : Int) := by omega
    have c0 : 0 ≤ (j : Int) := by omega
    have e1 := Aside0.mk (show wrap64 ((j : Int) + 1) = ((j + 1 : Nat) : Int) from wj (by omega))
    simp only [beg] at hb
    simp only [stk]
    by_cases hI : bt s (j : Int) = 73
    · simp only [hI, ↓reduceIte] at hb ⊢
      by_cases hpn : (p : Int) < (l.length : Int)
      · simp only [hpn, ↓reduceIte] at hb
        have g0 : 0 < ((l.drop p).length : Int) := by rw [List.length_drop]; omega
        have g1 : 1 ≤ ((l.drop p).length : Int) := by omega
        have lim : st.length < 17592186044416 := by omega
        have ih' := ih (j + 1) (p + 1) q (st ++ [rd (l.drop p) 0]) 0 (by omega) (by omega) (by rw [List.length_append, List.length_singleton]; omega) hq hb
        rw [← List.drop_drop] at ih'
        rw [show (l.drop p).headD 0 = rd (l.drop p) 0 by unfold rd; simp [List.headD_eq_head?_getD, List.head?_drop], show (l.drop p).tail = (l.drop p).drop 1 by simp]
        refine Ev.step (fun k => ?_) ih'
        simp only [impl_stackAfter.l0, c, c0, hI, g0, g1, lim, e1.out, ↓reduceIte]
      · simp only [hpn, ↓reduceIte] at hb
        cases hb
    · simp only [hI, ↓reduceIte] at hb ⊢
      by_cases hO : bt s (j : Int) = 79
      · simp only [hO, ↓reduceIte] at hb
        by_cases hqp : q < (p : Int)
        · simp only [hqp, ↓reduceIte] at hb
          rcases snoc_cases st with rfl | ⟨st, x, rfl⟩
          · simp only [List.length_nil, Int.natCast_zero] at hst
            omega
          · have hlen : (st ++ [x]).length = st.length + 1 := by simp
            rw [hlen] at hst
            have et := Aside0.mk (show wrap64 (((st ++ [x]).length : Int) - 1) = (st.length : Int) from by rw [hlen, wr (by omega) (by omega)]; omega)
            have etop : rd (st ++ [x]) (st.length : Int) = x := by rw [rd_nat]; simp
            have t0 : 0 ≤ (st.length : Int) := by omega
            have t1 : (st.length : Int) < ((st ++ [x]).length : Int) := by rw [hlen]; omega
            have t2 : (st.length : Int) ≤ ((st ++ [x]).length : Int) := by rw [hlen]; omega
            have ih' := ih (j + 1) p (q + 1) st x (by omega) hp (by omega) (by omega) hb
            rw [show (st ++ [x]).dropLast = st by simp, show (st ++ [x]).getLastD 0 = x by simp]
            refine Ev.step (fun k => ?_) ih'
            simp only [impl_stackAfter.l0, c, c0, hI, et.out, t0, t1, t2, etop, e1.out, Int.toNat_natCast, ↓reduceIte]
            rw [show (st ++ [x]).take st.length = st by simp]
        · simp only [hqp, ↓reduceIte] at hb
          cases hb
      · simp only [hO, ↓reduceIte] at hb
        cases hb
theorem ev_stackAfter (l : List Int) (s : ByteArray) (h : duelB l s = true) (hs : s.size ≤ 1048576) : Ev (fun k => impl_stackAfter.f k l s) (stk (bs s) l [] 0) := by
  obtain ⟨h0, h1, h6, hl, p, q, hb⟩ := duelB_facts h
  have := ev_stackAfter_l0 l s h6 hs s.size 0 0 0 [] 0 (by omega) (by omega) (by simp) (by omega) (by rw [List.drop_zero]; exact Option.isSome_iff_exists.2 ⟨_, hb⟩)
  simp only [List.drop_zero] at this
  exact this
theorem ev_l11Stack_l0 (l : List Int) (s : ByteArray) (hn : l.length ≤ 6) (hs : s.size ≤ 1048576) (d : Nat) : ∀ (j p : Nat) (q : Int) (st : List Int) (pd : Int), j + d = s.size → p ≤ l.length → (st.length : Int) = (p : Int) - q → 0 ≤ q → (beg (l.length : Int) ((bs s).drop j) p q).isSome = true →
    Ev (fun k => spec_l11Stack.l0 k l s st (p : Int) (j : Int)) (stk ((bs s).drop j) (l.drop p) st pd).1 := by
  induction d with
  | zero =>
    intro j p q st pd hj hp hst hq hb
    rw [bs_end s j (by omega)]
    have c : ¬ (j : Int) < (s.size : Int) := by omega
    have lim : ([] : List Int).length + st.length < 17592186044416 := by simp; omega
    refine Ev.step (f := fun _ => some st) (fun k => ?_) (Ev.now _)
    simp only [spec_l11Stack.l0, c, ↓reduceIte, spec_l1Own.f, Option.bind_some, lim, List.nil_append]
  | succ d ih =>
    intro j p q st pd hj hp hst hq hb
    rw [bs_drop s j (by omega)] at hb ⊢
    have c : (j : Int) < (s.size : Int) := by omega
    have c0 : 0 ≤ (j : Int) := by omega
    have e1 := Aside0.mk (show wrap64 ((j : Int) + 1) = ((j + 1 : Nat) : Int) from wj (by omega))
    have e2 := Aside0.mk (show wrap64 ((p : Int) + 1) = ((p + 1 : Nat) : Int) from wj (by omega))
    simp only [beg] at hb
    simp only [stk]
    by_cases hI : bt s (j : Int) = 73
    · simp only [hI, ↓reduceIte] at hb ⊢
      by_cases hpn : (p : Int) < (l.length : Int)
      · simp only [hpn, ↓reduceIte] at hb
        have c0p : 0 ≤ (p : Int) := by omega
        have lim : st.length < 17592186044416 := by omega
        have ih' := ih (j + 1) (p + 1) q (st ++ [rd l (p : Int)]) 0 (by omega) (by omega) (by rw [List.length_append, List.length_singleton]; omega) hq hb
        rw [show (l.drop p).headD 0 = rd l (p : Int) by rw [rd_drop l p (by omega)]; rfl, show (l.drop p).tail = l.drop (p + 1) by simp]
        refine Ev.step (fun k => ?_) ih'
        simp only [spec_l11Stack.l0, c, c0, hI, c0p, hpn, lim, e1.out, e2.out, ↓reduceIte]
      · simp only [hpn, ↓reduceIte] at hb
        cases hb
    · simp only [hI, ↓reduceIte] at hb ⊢
      by_cases hO : bt s (j : Int) = 79
      · simp only [hO, ↓reduceIte] at hb
        by_cases hqp : q < (p : Int)
        · simp only [hqp, ↓reduceIte] at hb
          rcases snoc_cases st with rfl | ⟨st, x, rfl⟩
          · simp only [List.length_nil, Int.natCast_zero] at hst
            omega
          · have hlen : (st ++ [x]).length = st.length + 1 := by simp
            rw [hlen] at hst
            have et := Aside0.mk (show wrap64 (((st ++ [x]).length : Int) - 1) = (st.length : Int) from by rw [hlen, wr (by omega) (by omega)]; omega)
            have t0 : 0 ≤ (st.length : Int) := by omega
            have t2 : (st.length : Int) ≤ ((st ++ [x]).length : Int) := by rw [hlen]; omega
            have ih' := ih (j + 1) p (q + 1) st x (by omega) hp (by omega) (by omega) hb
            rw [show (st ++ [x]).dropLast = st by simp, show (st ++ [x]).getLastD 0 = x by simp]
            refine Ev.step (fun k => ?_) ih'
            simp only [spec_l11Stack.l0, c, c0, hI, et.out, t0, t2, e1.out, Int.toNat_natCast, ↓reduceIte]
            rw [show (st ++ [x]).take st.length = st by simp]
        · simp only [hqp, ↓reduceIte] at hb
          cases hb
      · simp only [hO, ↓reduceIte] at hb
        cases hb
theorem ev_l11Stack (l : List Int) (s : ByteArray) (h : duelB l s = true) (hs : s.size ≤ 1048576) : Ev (fun k => spec_l11Stack.f k l s) (stk (bs s) l [] 0).1 := by
  obtain ⟨h0, h1, h6, hl, p, q, hb⟩ := duelB_facts h
  have := ev_l11Stack_l0 l s h6 hs s.size 0 0 0 [] 0 (by omega) (by omega) (by simp) (by omega) (by rw [List.drop_zero]; exact Option.isSome_iff_exists.2 ⟨_, hb⟩)
  simp only [List.drop_zero] at this
  exact this
theorem ev_l11Good (l : List Int) (s : ByteArray) (hs : s.size ≤ 1048576) : Ev (fun k => spec_l11Good.f k l s) (duelB l s) := by
  unfold spec_l11Good.f duelB
  refine Ev.bind (ev_l2Order l) ?_
  cases ho : ordB l with
  | false =>
    simp only [Bool.false_eq_true, ↓reduceIte, Bool.false_and]
    exact Ev.now _
  | true =>
    obtain ⟨g1, g7⟩ := ordB_len ho
    simp only [↓reduceIte, Bool.true_and]
    by_cases h6 : (l.length : Int) ≤ 6
    · simp only [h6, ↓reduceIte]
      refine Ev.bind (ev_l11In (l.length : Int) s (by omega) h6 hs) ?_
      unfold isBeg
      have h1 : (1 : Int) ≤ (l.length : Int) := by omega
      by_cases hl : (s.size : Int) ≤ 2 * (l.length : Int)
      · simp only [hl, h1, h6, decide_true, Bool.true_and, ↓reduceIte]
        rw [begR_some _ _ (by omega)]
        exact Ev.now _
      · simp only [hl, h1, h6, decide_true, decide_false, Bool.true_and, Bool.false_and, ↓reduceIte]
        exact Ev.now _
    · simp only [h6, ↓reduceIte]
      unfold isBeg
      simp only [h6, decide_false, Bool.and_false, Bool.false_and]
      exact Ev.now _
/-! ### more of the stack behind a beginning -/
theorem stk_snoc : ∀ (a rest st : List Int) (pd c : Int), (stk (a ++ [c]) rest st pd).2 = if c = 73 then 0 else (stk a rest st pd).1.getLastD 0
  | [], rest, st, pd, c => by simp only [stk, List.nil_append]; split <;> rfl
  | d :: t, rest, st, pd, c => by
    simp only [stk, List.cons_append]
    split
    · exact stk_snoc t _ _ _ c
    · exact stk_snoc t _ _ _ c
theorem stk_high (n : Int) : ∀ (a rest st : List Int) (pd p q p' q' : Int), beg n a p q = some (p', q') → (st.length : Int) = p - q → ((stk a rest st pd).1.length : Int) = p' - q'
  | [], rest, st, pd, p, q, p', q', h, hl => by
    simp only [beg, Option.some.injEq, Prod.mk.injEq] at h
    obtain ⟨rfl, rfl⟩ := h
    exact hl
  | c :: t, rest, st, pd, p, q, p', q', h, hl => by
    simp only [beg] at h
    simp only [stk]
    by_cases h73 : c = 73
    · simp only [h73, ↓reduceIte] at h ⊢
      by_cases hp : p < n
      · simp only [hp, ↓reduceIte] at h
        exact stk_high n t _ _ _ _ _ _ _ h (by rw [List.length_append, List.length_singleton]; omega)
      · simp only [hp, ↓reduceIte] at h
        cases h
    · simp only [h73, ↓reduceIte] at h ⊢
      by_cases h79 : c = 79
      · simp only [h79, ↓reduceIte] at h
        by_cases hq : q < p
        · simp only [hq, ↓reduceIte] at h
          exact stk_high n t _ _ _ _ _ _ _ h (by rw [List.length_dropLast]; omega)
        · simp only [hq, ↓reduceIte] at h
          cases h
      · simp only [h79, ↓reduceIte] at h
        cases h
theorem stk_bound : ∀ (a rest st : List Int) (pd : Int), (∀ x ∈ rest, 0 ≤ x ∧ x ≤ 7) → (∀ x ∈ st, 0 ≤ x ∧ x ≤ 7) → ∀ x ∈ (stk a rest st pd).1, 0 ≤ x ∧ x ≤ 7
  | [], rest, st, pd, _, h => h
  | c :: t, rest, st, pd, hr, hs => by
    simp only [stk]
    split
    · refine stk_bound t _ _ _ (fun x hx => hr x (List.mem_of_mem_tail hx)) ?_
      intro x hx
      rcases List.mem_append.1 hx with hx | hx
      · exact hs x hx
      · rw [List.mem_singleton] at hx
        subst hx
        cases rest with
        | nil => exact ⟨by decide, by decide⟩
        | cons y ys => exact hr y List.mem_cons_self
    · exact stk_bound t _ _ _ hr (fun x hx => hs x ((List.dropLast_sublist st).subset hx))
theorem last_bound {t : List Int} (h : ∀ x ∈ t, 0 ≤ x ∧ x ≤ 7) : 0 ≤ t.getLastD 0 ∧ t.getLastD 0 ≤ 7 := by
  rcases snoc_cases t with rfl | ⟨m, x, rfl⟩
  · exact ⟨by decide, by decide⟩
  · have := h x (by simp)
    rw [show (m ++ [x]).getLastD 0 = x by simp]
    exact this
/-! ### copies of lists, lists compared -/
theorem ev_toIntS_l0 (l : List Int) (hl : l.length ≤ 1048576) (d : Nat) : ∀ j : Nat, j + d = l.length → Ev (fun k => laws_toIntS.l0 k l (l.take j ++ List.replicate (l.length - j) 0) (j : Int)) l := by
  induction d with
  | zero =>
    intro j hj
    have c : ¬ (j : Int) < (l.length : Int) := by omega
    have e : l.take j ++ List.replicate (l.length - j) 0 = l := by rw [List.take_of_length_le (by omega), show l.length - j = 0 by omega]; simp
    rw [e]
    exact Ev.step (fun k => by simp only [laws_toIntS.l0, c, ↓reduceIte] <;> rfl) (Ev.now _)
  | succ d ih =>
    intro j hj
    have c : (j : Int) < (l.length : Int) := by omega
    have c0 : 0 ≤ (j : Int) := by omega
    have c1 : (j : Int) < (((l.take j ++ List.replicate (l.length - j) 0).length : Nat) : Int) := by simp; omega
    have e1 : wrap64 ((j : Int) + 1) = ((j + 1 : Nat) : Int) := wj (by omega)
    exact Ev.step (fun k => by simp only [laws_toIntS.l0, c, c0, c1, ↓reduceIte]; rw [e1, Int.toNat_natCast, set_copy l j (by omega)]) (ih (j + 1) (by omega))
theorem ev_toIntS (l : List Int) (hl : l.length ≤ 1048576) : Ev (fun k => laws_toIntS.f k l) l := by
  have c0 : 0 ≤ (l.length : Int) := by omega
  have c1 : l.length ≤ 35184372088832 := by omega
  have := ev_toIntS_l0 l hl l.length 0 (by omega)
  simp only [List.take_zero, List.nil_append, Nat.sub_zero] at this
  simp only [laws_toIntS.f, c0, c1, Int.toNat_natCast, ↓reduceIte]
  exact this
theorem ev_eqIntS_l0 (l : List Int) (hl : l.length < 9223372036854775807) (d : Nat) : ∀ j : Nat, j + d = l.length → Ev (fun k => laws_eqIntS.l0 k l l (j : Int)) true := by
  induction d with
  | zero =>
    intro j hj
    have c : ¬ (j : Int) < (l.length : Int) := by omega
    exact Ev.step (fun k => by simp only [laws_eqIntS.l0, c, ↓reduceIte] <;> rfl) (Ev.now _)
  | succ d ih =>
    intro j hj
    have c : (j : Int) < (l.length : Int) := by omega
    have c0 : 0 ≤ (j : Int) := by omega
    have e1 : wrap64 ((j : Int) + 1) = ((j + 1 : Nat) : Int) := wj (by omega)
    exact Ev.step (fun k => by simp only [laws_eqIntS.l0, c, c0, e1, ↓reduceIte] <;> rfl) (ih (j + 1) (by omega))
/-- A list is equal to itself. -/
theorem ev_eqIntS (l : List Int) (hl : l.length < 9223372036854775807) : Ev (fun k => laws_eqIntS.f k l l) true := by
  simp only [laws_eqIntS.f, ↓reduceIte]
  exact ev_eqIntS_l0 l hl l.length 0 (by omega)
theorem bs_prefix (s : ByteArray) (i : Nat) : bs (s.extract 0 i) = (bs s).take i := by
  unfold bs
  rw [ByteArray.data_extract, Array.toList_extract, List.extract_eq_take_drop, List.drop_zero, Nat.sub_zero, List.map_take]
theorem prefix_duel {l : List Int} {s : ByteArray} (h : duelB l s = true) (i : Nat) : duelB l (s.extract 0 i) = true := by
  obtain ⟨h0, h1, h6, hl, p, q, hb⟩ := duelB_facts h
  have e : bs s = (bs s).take i ++ (bs s).drop i := (List.take_append_drop _ _).symm
  rw [e, beg_append] at hb
  obtain ⟨r, hr, _⟩ := Option.bind_eq_some_iff.1 hb
  have hsz : (s.extract 0 i).size ≤ s.size := by rw [← bs_length, bs_prefix, List.length_take, bs_length]; omega
  unfold duelB isBeg
  rw [h0, bs_prefix, hr]
  simp only [Bool.true_and, Bool.and_eq_true, decide_eq_true_eq, Option.isSome_some, and_true]
  omega
def popd (l : List Int) (s : ByteArray) (i : Nat) : Int := (stk ((bs s).take (i + 1)) l [] 0).2
def scr (l : List Int) (s : ByteArray) : Nat → Nat → Int → Int → Int × Int
  | 0, _, s0, s1 => (s0, s1)
  | d + 1, i, s0, s1 => if i % 2 = 0 then scr l s d (i + 1) (wrap64 (s0 + popd l s i)) s1 else scr l s d (i + 1) s0 (wrap64 (s1 + popd l s i))
theorem popd_eq (l : List Int) (s : ByteArray) (i : Nat) (hi : i < s.size) : popd l s i = if bt s (i : Int) = 73 then 0 else (stk ((bs s).take i) l [] 0).1.getLastD 0 := by
  unfold popd
  rw [show (bs s).take (i + 1) = (bs s).take i ++ [bt s (i : Int)] by rw [← bs_get s i hi]; exact (List.take_append_getElem (by rw [bs_length]; exact hi)).symm]
  exact stk_snoc _ _ _ _ _
theorem popd_bound {l : List Int} {s : ByteArray} (h : duelB l s = true) (i : Nat) (hi : i < s.size) : 0 ≤ popd l s i ∧ popd l s i ≤ 7 := by
  rw [popd_eq l s i hi]
  split
  · exact ⟨by decide, by decide⟩
  · refine last_bound (stk_bound _ _ _ _ (fun x hx => ?_) (fun x hx => absurd hx (by simp)))
    obtain ⟨h0, _⟩ := duelB_facts h
    have h7 := (ordB_len h0).2
    have := ordB_range h0 x hx
    omega
theorem ev_iscore (l : List Int) (s : ByteArray) (h : duelB l s = true) : ∀ (d i : Nat) (s0 s1 : Int), i + d = s.size → Ev (fun k => iscore k l s d i s0 s1) (scr l s d i s0 s1)
  | 0, _, _, _, _ => Ev.now _
  | d + 1, i, s0, s1, hi => by
    obtain ⟨h0, h1, h6, hl, _⟩ := duelB_facts h
    simp only [iscore, scr]
    have hp := prefix_duel h (i + 1)
    have hsz : (s.extract 0 (i + 1)).size ≤ s.size := by rw [← bs_length, bs_prefix, List.length_take, bs_length]; omega
    refine Ev.bind (ev_stackAfter l (s.extract 0 (i + 1)) hp (by omega)) ?_
    rw [show (stk (bs (s.extract 0 (i + 1))) l [] 0).2 = popd l s i by rw [bs_prefix]; rfl]
    split
    · exact ev_iscore l s h d (i + 1) _ _ (by omega)
    · exact ev_iscore l s h d (i + 1) _ _ (by omega)
theorem ev_sscore (l : List Int) (s : ByteArray) (h : duelB l s = true) : ∀ (d i : Nat) (s0 s1 : Int), i + d = s.size → 0 ≤ s0 → s0 ≤ 7 * (i : Int) → 0 ≤ s1 → s1 ≤ 7 * (i : Int) → Ev (fun k => sscore k l s d i s0 s1) (scr l s d i s0 s1)
  | 0, _, _, _, _, _, _, _, _ => Ev.now _
  | d + 1, i, s0, s1, hi, a0, a1, b0, b1 => by
    obtain ⟨h0, h1, h6, hl, p, q, hb⟩ := duelB_facts h
    have hlt : i < s.size := by omega
    have hpb := popd_bound h i hlt
    have hpe := popd_eq l s i hlt
    have hp := prefix_duel h i
    have hsz : (s.extract 0 i).size ≤ s.size := by rw [← bs_length, bs_prefix, List.length_take, bs_length]; omega
    have e : bs s = (bs s).take i ++ (bs s).drop i := (List.take_append_drop _ _).symm
    have hb2 := hb
    rw [e, beg_append] at hb2
    obtain ⟨⟨p', q'⟩, hr, hb3⟩ := Option.bind_eq_some_iff.1 hb2
    rw [bs_drop s i hlt] at hb3
    simp only [beg] at hb3
    simp only [sscore, scr]
    by_cases hO : bt s (i : Int) = 79
    · have hq : q' < p' := by
        rw [hO, if_neg (by decide), if_pos rfl] at hb3
        by_cases hq : q' < p'
        · exact hq
        · rw [if_neg hq] at hb3
          cases hb3
      have hh := stk_high (l.length : Int) ((bs s).take i) l [] 0 0 0 p' q' hr (by simp)
      have hst := ev_l11Stack l (s.extract 0 i) hp (by omega)
      rw [bs_prefix] at hst
      have hlen := stk_len ((bs s).take i) l [] 0
      rw [List.length_take, bs_length, List.length_nil] at hlen
      rw [hO, if_neg (show ¬ ((79 : Int) = 73) by decide)] at hpe
      simp only [hO, ↓reduceIte]
      refine Ev.bind hst ?_
      generalize (stk ((bs s).take i) l [] 0).1 = t at hh hpe hlen ⊢
      simp only [show (0 < t.length ∧ t.length ≤ 1000000) = True from eq_true ⟨by omega, by omega⟩, ↓reduceIte]
      rw [show rd t ((t.length : Int) - 1) = popd l s i by
        rw [hpe]
        rcases snoc_cases t with rfl | ⟨m, x, rfl⟩
        · simp at hh; omega
        · rw [show (((m ++ [x]).length : Int) - 1) = (m.length : Int) by simp, rd_nat]; simp]
      split
      · exact ev_sscore l s h d (i + 1) _ _ (by omega) (by rw [wr (by omega) (by omega)]; omega) (by rw [wr (by omega) (by omega)]; omega) b0 (by omega)
      · exact ev_sscore l s h d (i + 1) _ _ (by omega) a0 (by omega) (by rw [wr (by omega) (by omega)]; omega) (by rw [wr (by omega) (by omega)]; omega)
    · have hI : bt s (i : Int) = 73 := by
        by_cases hI : bt s (i : Int) = 73
        · exact hI
        · rw [if_neg hI, if_neg hO] at hb3
          cases hb3
      rw [if_pos hI] at hpe
      simp only [hO, ↓reduceIte, hpe, Int.add_zero]
      rw [wr (i := s0) (by omega) (by omega), wr (i := s1) (by omega) (by omega)]
      split
      · exact ev_sscore l s h d (i + 1) _ _ (by omega) a0 (by omega) b0 (by omega)
      · exact ev_sscore l s h d (i + 1) _ _ (by omega) a0 (by omega) b0 (by omega)
theorem both_ScoresOf (l : List Int) (s : ByteArray) (hs : s.size ≤ 1048576) : ∃ r, Ev (fun k => spec_ScoresOf.f k l s) r ∧ Ev (fun k => impl_ScoresOf.f k l s) r := by
  unfold spec_ScoresOf.f impl_ScoresOf.f
  by_cases h : duelB l s = true
  · refine ⟨((scr l s s.size 0 0 0).1, (scr l s s.size 0 0 0).2, true), ?_, ?_⟩
    · refine Ev.bind (ev_l11Good l s hs) ?_
      simp only [h, hs, ↓reduceIte]
      exact Ev.bind (ev_sscore l s h s.size 0 0 0 (by omega) (by omega) (by omega) (by omega) (by omega)) (Ev.now _)
    · refine Ev.bind (ev_isDuel l s hs) ?_
      simp only [h, hs, ↓reduceIte]
      exact Ev.bind (ev_iscore l s h s.size 0 0 0 (by omega)) (Ev.now _)
  · refine ⟨(0, 0, false), ?_, ?_⟩
    · refine Ev.bind (ev_l11Good l s hs) ?_
      simp only [h, Bool.false_eq_true, ↓reduceIte]
      exact Ev.now _
    · refine Ev.bind (ev_isDuel l s hs) ?_
      simp only [h, Bool.false_eq_true, ↓reduceIte]
      exact Ev.now _
theorem FnExactScoresOf : laws_FnExactScoresOf.Pure := by
  intro l s _ _ _ _
  by_cases hl : (l.length : Int) > 1048576
  · exact ⟨0, by simp only [laws_FnExactScoresOf.f, hl, ↓reduceIte]⟩
  · by_cases hs : (s.size : Int) > 1048576
    · exact ⟨0, by simp only [laws_FnExactScoresOf.f, hl, hs, ↓reduceIte]⟩
    · refine Ev.rounds (g := fun k => laws_FnExactScoresOf.f k l s) ?_
      simp only [laws_FnExactScoresOf.f, hl, hs, ↓reduceIte]
      have t := ev_toIntS l (by omega)
      obtain ⟨⟨r1, r2, r3⟩, a, b⟩ := both_ScoresOf l s (by omega)
      have e : ∀ a b : Int, laws_eqIntA2.f a b a b = some true := fun a b => by unfold laws_eqIntA2.f; simp
      refine Ev.bind t (Ev.bind a (Ev.bind t (Ev.bind b ?_)))
      simp only [bne_self_eq_false, e, Option.bind_some, ↓reduceIte]
      refine Ev.step (f := fun k => (laws_toIntS.f k l).bind fun t185 => ((laws_eqIntS.f k l t185).bind fun t188 => (if t188 = true then (some true) else (some false)))) (fun k => by simp only [laws_FnExactScoresOf.j0, Bool.false_eq_true, ↓reduceIte]) ?_
      refine Ev.bind t (Ev.bind (ev_eqIntS l (by omega)) ?_)
      simp only [↓reduceIte]
      exact Ev.now _

end Go.Proofs.Ytgilgogjffnodaa.Pure
